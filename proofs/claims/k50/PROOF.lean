import PyProof.Rows.All
import Wide.All
import OpenK.AllK
import Wide.FinOn
import HandS.ForMost
import HandS.IsInst
import HandS.TupAny
import HandS.Deep
import HandS.Wide
import HandS.Zip
import KE.DataCmp
import HandS.Iter
import HandS.More
import KE.DatumOrd
import HandS.OwnEq
import HandS.SlotsOwn
import HandS.Defaults
import HandS.MakeKw
import HandS.Style
import KE.DataMinMax
import PyProof.Rows.RowBridgeK
import HandS.Zip0
import HandS.ListItems
import KE.KDictZip
import KE.KItemsList
import KE.KDictPairs
import PySem.Challenge.RW_folderkin_k50_reasons_of_winners
import KE.KxText
import HandS.Codes
set_option Elab.async false
set_option linter.all false
set_option maxRecDepth 100000
set_option maxHeartbeats 4000000
/-! Dz: programs over plain data. A: data and how heaps bear it. -/
namespace Dz
open PySem L2
abbrev D := PyData
abbrev Frag := PySem.W.Frag

/-- the heap without the addresses that B hides -/
def hide (B : Addr → Bool) (H : Hp) : Hp := fun a => if B a = true then none else H a
def Sub (H H' : Hp) : Prop := ∀ a o, H a = some o → H' a = some o
theorem Sub.refl (H : Hp) : Sub H H := fun _ _ h => h
theorem Sub.trans {H H1 H2 : Hp} (a : Sub H H1) (b : Sub H1 H2) : Sub H H2 := fun x o h => b x o (a x o h)
theorem hide_some {B : Addr → Bool} {H : Hp} {a : Addr} {o : HO} (h : hide B H a = some o) : B a = false ∧ H a = some o := by
  unfold hide at h
  split at h
  · cases h
  · rename_i q
    exact ⟨by simpa using q, h⟩
theorem hide_of {B : Addr → Bool} {H : Hp} {a : Addr} {o : HO} (b : B a = false) (h : H a = some o) : hide B H a = some o := by
  unfold hide
  rw [b]
  exact h
theorem hide_sub (B : Addr → Bool) (H : Hp) : Sub (hide B H) H := fun a o h => (hide_some h).2
theorem Sub.new {H : Hp} {p : Addr} {o : HO} (h : H p = none) : Sub H (upd H p o) := fun a u e => by
  rw [upd_ne (ne_of_none e h)]
  exact e

def kD : Key → D
  | .inl i => .int i
  | .inr x => .str x
/-- a tuple that begins with a pair of a whole number and something: its object is known -/
def needX : List D → Bool
  | .tuple [.int _, _] :: _ => true
  | _ => false
def noXd : D → Bool
  | .tuple ds => !needX ds
  | _ => true
def ExT (o : Obj) : Prop := o.cls = .type "tuple" ∧ o.dict = none
def XT (H : Hp) (a : Addr) : Prop := ∃ (o : Obj) (u : HO), H a = some (.frz o u) ∧ ExT o
theorem XT.mono {H H' : Hp} {a : Addr} (e : Sub H H') (h : XT H a) : XT H' a := let ⟨o, u, h1, h2⟩ := h; ⟨o, u, e _ _ h1, h2⟩
mutual
/-- v, in H, is the datum d -/
inductive Rp (K : Frag) (H : Hp) : V → D → Prop
  | non : Rp K H .non .none
  | bl (b : Bool) : Rp K H (.bl b) (.bool b)
  | int (i : Int) : Rp K H (.int i) (.int i)
  | str (x : Str) : Rp K H (.str x) (.str x)
  | lst {a : Addr} {xs : List V} {ds : List D} : SqL K H a xs → RpL K H xs ds → Rp K H (.ref a) (.list ds)
  | tup {a : Addr} {xs : List V} {ds : List D} : SqT K H a xs → RpL K H xs ds → (needX ds = true → XT H a) → Rp K H (.ref a) (.tuple ds)
  | dct {a : Addr} {kvs : List (Key × V)} {ds : List (D × D)} : Rd H a (.dK kvs) → RpK K H kvs ds → Rp K H (.ref a) (.dict ds)
  | obj {a C dx : Addr} {fs : List (Str × V)} {ds : List (D × D)} : H a = some (.ins C dx fs) → RpF K H fs ds → Rp K H (.ref a) (.dict ((.none, .int (Int.ofNat C)) :: ds))
inductive RpL (K : Frag) (H : Hp) : List V → List D → Prop
  | nil : RpL K H [] []
  | cons {v : V} {vs : List V} {d : D} {ds : List D} : Rp K H v d → RpL K H vs ds → RpL K H (v :: vs) (d :: ds)
inductive RpK (K : Frag) (H : Hp) : List (Key × V) → List (D × D) → Prop
  | nil : RpK K H [] []
  | cons {k : Key} {v : V} {vs : List (Key × V)} {d : D} {ds : List (D × D)} : Rp K H v d → RpK K H vs ds → RpK K H ((k, v) :: vs) ((kD k, d) :: ds)
inductive RpF (K : Frag) (H : Hp) : List (Str × V) → List (D × D) → Prop
  | nil : RpF K H [] []
  | cons {f : Str} {v : V} {vs : List (Str × V)} {d : D} {ds : List (D × D)} : Rp K H v d → RpF K H vs ds → RpF K H ((f, v) :: vs) ((.str f, d) :: ds)
end
theorem sub_rd {H H' : Hp} {a : Addr} {u : HO} (e : Sub H H') (h : Rd H a u) : Rd H' a u := by
  rcases h with h | ⟨o, h⟩
  · exact Or.inl (e a _ h)
  · exact Or.inr ⟨o, e a _ h⟩
theorem sub_l {K : Frag} {H H' : Hp} {a : Addr} {xs : List V} (e : Sub H H') (h : SqL K H a xs) : SqL K H' a xs := by
  rcases h with h | h
  · exact Or.inl (sub_rd e h)
  · exact Or.inr h
theorem sub_t {K : Frag} {H H' : Hp} {a : Addr} {xs : List V} (e : Sub H H') (h : SqT K H a xs) : SqT K H' a xs := by
  rcases h with h | h
  · exact Or.inl (sub_rd e h)
  · exact Or.inr h
mutual
theorem Rp.mono {K : Frag} {H H' : Hp} (e : Sub H H') : ∀ {v : V} {d : D}, Rp K H v d → Rp K H' v d
  | _, _, .non => .non
  | _, _, .bl b => .bl b
  | _, _, .int i => .int i
  | _, _, .str x => .str x
  | _, _, .lst h r => .lst (sub_l e h) (RpL.mono e r)
  | _, _, .tup h r x => .tup (sub_t e h) (RpL.mono e r) fun n => (x n).mono e
  | _, _, .dct h r => .dct (sub_rd e h) (RpK.mono e r)
  | _, _, .obj h r => .obj (e _ _ h) (RpF.mono e r)
theorem RpL.mono {K : Frag} {H H' : Hp} (e : Sub H H') : ∀ {v : List V} {d : List D}, RpL K H v d → RpL K H' v d
  | _, _, .nil => .nil
  | _, _, .cons h r => .cons (Rp.mono e h) (RpL.mono e r)
theorem RpK.mono {K : Frag} {H H' : Hp} (e : Sub H H') : ∀ {v : List (Key × V)} {d : List (D × D)}, RpK K H v d → RpK K H' v d
  | _, _, .nil => .nil
  | _, _, .cons h r => .cons (Rp.mono e h) (RpK.mono e r)
theorem RpF.mono {K : Frag} {H H' : Hp} (e : Sub H H') : ∀ {v : List (Str × V)} {d : List (D × D)}, RpF K H v d → RpF K H' v d
  | _, _, .nil => .nil
  | _, _, .cons h r => .cons (Rp.mono e h) (RpF.mono e r)
end
theorem RpL.length {K : Frag} {H : Hp} : ∀ {vs : List V} {ds : List D}, RpL K H vs ds → vs.length = ds.length
  | _, _, .nil => rfl
  | _, _, .cons _ r => by rw [List.length_cons, List.length_cons, RpL.length r]
theorem RpL.get {K : Frag} {H : Hp} : ∀ {vs : List V} {ds : List D} {i : Nat} {v : V}, RpL K H vs ds → vs[i]? = some v → ∃ d, ds[i]? = some d ∧ Rp K H v d
  | _, _, _, _, .nil, e => by simp at e
  | _, _, 0, _, .cons h r, e => by
    simp at e
    subst e
    exact ⟨_, rfl, h⟩
  | _, _, i + 1, v, .cons h r, e => by
    obtain ⟨d, h1, h2⟩ := RpL.get (i := i) (v := v) r (by simpa using e)
    exact ⟨d, by simpa using h1, h2⟩
theorem RpL.get' {K : Frag} {H : Hp} : ∀ {vs : List V} {ds : List D} {i : Nat} {d : D}, RpL K H vs ds → ds[i]? = some d → ∃ v, vs[i]? = some v ∧ Rp K H v d
  | _, _, _, _, .nil, e => by simp at e
  | _, _, 0, _, .cons h r, e => by
    simp at e
    subst e
    exact ⟨_, rfl, h⟩
  | _, _, i + 1, v, .cons h r, e => by
    obtain ⟨d, h1, h2⟩ := RpL.get' (i := i) (d := v) r (by simpa using e)
    exact ⟨d, by simpa using h1, h2⟩
theorem RpL.append {K : Frag} {H : Hp} : ∀ {vs us : List V} {ds es : List D}, RpL K H vs ds → RpL K H us es → RpL K H (vs ++ us) (ds ++ es)
  | _, _, _, _, .nil, s => s
  | _, _, _, _, .cons h r, s => .cons h (RpL.append r s)
theorem RpL.set {K : Frag} {H : Hp} {v : V} {d : D} (q : Rp K H v d) : ∀ {vs : List V} {ds : List D} (i : Nat), RpL K H vs ds → RpL K H (vs.set i v) (ds.set i d)
  | _, _, _, .nil => .nil
  | _, _, 0, .cons _ r => .cons q r
  | _, _, i + 1, .cons h r => .cons h (RpL.set q i r)
theorem RpL.take {K : Frag} {H : Hp} : ∀ {vs : List V} {ds : List D} (n : Nat), RpL K H vs ds → RpL K H (vs.take n) (ds.take n)
  | _, _, 0, _ => .nil
  | _, _, _ + 1, .nil => .nil
  | _, _, n + 1, .cons h r => .cons h (RpL.take n r)
theorem RpL.drop {K : Frag} {H : Hp} : ∀ {vs : List V} {ds : List D} (n : Nat), RpL K H vs ds → RpL K H (vs.drop n) (ds.drop n)
  | _, _, 0, r => r
  | _, _, _ + 1, .nil => .nil
  | _, _, n + 1, .cons _ r => RpL.drop n r
theorem RpL.rev {K : Frag} {H : Hp} : ∀ {vs : List V} {ds : List D}, RpL K H vs ds → RpL K H vs.reverse ds.reverse
  | _, _, .nil => .nil
  | _, _, .cons h r => by
    rw [List.reverse_cons, List.reverse_cons]
    exact RpL.append (RpL.rev r) (.cons h .nil)
theorem RpL.ints {K : Frag} {H : Hp} : ∀ ns : List Int, RpL K H (ns.map V.int) (ns.map PyData.int)
  | [] => .nil
  | n :: ns => .cons (.int n) (RpL.ints ns)
theorem RpL.of_ints {K : Frag} {H : Hp} : ∀ {ns : List Int} {vs : List V}, RpL K H vs (ns.map PyData.int) → vs = ns.map V.int
  | [], _, h => by cases h; rfl
  | n :: ns, _, h => by
    cases h with
    | cons a b =>
      cases a
      rw [RpL.of_ints b]
      rfl
theorem RpL.of_bools {K : Frag} {H : Hp} : ∀ {ns : List Bool} {vs : List V}, RpL K H vs (ns.map PyData.bool) → vs = ns.map V.bl
  | [], _, h => by cases h; rfl
  | n :: ns, _, h => by
    cases h with
    | cons a b =>
      cases a
      rw [RpL.of_bools b]
      rfl
theorem RpL.of_strs {K : Frag} {H : Hp} : ∀ {ns : List Str} {vs : List V}, RpL K H vs (ns.map PyData.str) → vs = ns.map V.str
  | [], _, h => by cases h; rfl
  | n :: ns, _, h => by
    cases h with
    | cons a b =>
      cases a
      rw [RpL.of_strs b]
      rfl
theorem RpL.strs {K : Frag} {H : Hp} : ∀ ns : List Str, RpL K H (ns.map V.str) (ns.map PyData.str)
  | [] => .nil
  | n :: ns => .cons (.str n) (RpL.strs ns)
/-- a value that may be read: its own node may be hidden, its parts are not -/
inductive Rs (K : Frag) (B : Addr → Bool) (H : Hp) : V → D → Prop
  | vis {v : V} {d : D} : Rp K (hide B H) v d → Rs K B H v d
  | lst {a : Addr} {xs : List V} {ds : List D} : SqL K H a xs → RpL K (hide B H) xs ds → Rs K B H (.ref a) (.list ds)
  | dct {a : Addr} {kvs : List (Key × V)} {ds : List (D × D)} : Rd H a (.dK kvs) → RpK K (hide B H) kvs ds → Rs K B H (.ref a) (.dict ds)
theorem Rs.rp {K : Frag} {B : Addr → Bool} {H : Hp} {v : V} {d : D} (h : Rs K B H v d) : Rp K H v d := by
  cases h with
  | vis h => exact h.mono (hide_sub B H)
  | lst h r => exact .lst h (r.mono (hide_sub B H))
  | dct h r => exact .dct h (r.mono (hide_sub B H))
theorem Rs.list {K : Frag} {B : Addr → Bool} {H : Hp} {v : V} {ds : List D} (h : Rs K B H v (.list ds)) : ∃ a xs, v = .ref a ∧ SqL K H a xs ∧ RpL K (hide B H) xs ds := by
  cases h with
  | vis h =>
    cases h with
    | lst h r => exact ⟨_, _, rfl, sub_l (hide_sub B H) h, r⟩
  | lst h r => exact ⟨_, _, rfl, h, r⟩
theorem Rs.tuple {K : Frag} {B : Addr → Bool} {H : Hp} {v : V} {ds : List D} (h : Rs K B H v (.tuple ds)) : ∃ a xs, v = .ref a ∧ SqT K H a xs ∧ RpL K (hide B H) xs ds := by
  cases h with
  | vis h =>
    cases h with
    | tup h r x => exact ⟨_, _, rfl, sub_t (hide_sub B H) h, r⟩
theorem Rs.int {K : Frag} {B : Addr → Bool} {H : Hp} {v : V} {i : Int} (h : Rs K B H v (.int i)) : v = .int i := by
  cases h with
  | vis h => cases h; rfl
theorem Rs.bool {K : Frag} {B : Addr → Bool} {H : Hp} {v : V} {i : Bool} (h : Rs K B H v (.bool i)) : v = .bl i := by
  cases h with
  | vis h => cases h; rfl
theorem Rs.str {K : Frag} {B : Addr → Bool} {H : Hp} {v : V} {i : Str} (h : Rs K B H v (.str i)) : v = .str i := by
  cases h with
  | vis h => cases h; rfl
theorem Rs.none {K : Frag} {B : Addr → Bool} {H : Hp} {v : V} (h : Rs K B H v .none) : v = .non := by
  cases h with
  | vis h => cases h; rfl
theorem Rp.inti {K : Frag} {H : Hp} {v : V} {i : Int} (h : Rp K H v (.int i)) : v = .int i := by cases h; rfl
theorem Rp.booli {K : Frag} {H : Hp} {v : V} {i : Bool} (h : Rp K H v (.bool i)) : v = .bl i := by cases h; rfl
theorem Rp.stri {K : Frag} {H : Hp} {v : V} {i : Str} (h : Rp K H v (.str i)) : v = .str i := by cases h; rfl
theorem Rp.nonei {K : Frag} {H : Hp} {v : V} (h : Rp K H v .none) : v = .non := by cases h; rfl
/- data without dicts and objects -/
mutual
def plain : D → Bool
  | .dict _ => false
  | .list ds => plains ds
  | .tuple ds => plains ds
  | _ => true
def plains : List D → Bool
  | [] => true
  | d :: ds => plain d && plains ds
end
mutual
theorem Rp.dp {K : Frag} {H : Hp} : ∀ {v : V} {d : D}, Rp K H v d → plain d = true → Dp K H v d
  | _, _, .non, _ => .non
  | _, _, .bl b, _ => .bl b
  | _, _, .int i, _ => .int i
  | _, _, .str x, _ => .str x
  | _, _, .lst h r, p => .lst h (RpL.dp r (by simpa [plain] using p))
  | _, _, .tup h r _, p => .tup h (RpL.dp r (by simpa [plain] using p))
  | _, _, .dct h r, p => by simp [plain] at p
  | _, _, .obj h r, p => by simp [plain] at p
theorem RpL.dp {K : Frag} {H : Hp} : ∀ {v : List V} {d : List D}, RpL K H v d → plains d = true → DpAll K H v d
  | _, _, .nil, _ => .nil
  | _, _, .cons (d := d) (ds := ds) h r, p => by
    have q : plain d = true ∧ plains ds = true := by simpa [plains] using p
    exact .cons (Rp.dp h q.1) (RpL.dp r q.2)
end
end Dz

/-! Dz. B: slots, states, judgements. -/
namespace Dz
open PySem L2

/-- what a slot holds: a datum; a list or dict of the def's own; one that the caller lent -/
inductive Sl where
  | val (d : D)
  | own (d : D)
  | bor (d : D)
def Sl.d : Sl → D
  | .val d => d
  | .own d => d
  | .bor d => d
def Sl.mu : Sl → Bool
  | .val _ => false
  | _ => true
/-- another content, the same kind -/
def Sl.wi : Sl → D → Sl
  | .val _, d => .val d
  | .own _, d => .own d
  | .bor _, d => .bor d
abbrev En := List (Option Sl)

def OwnAt (K : Frag) (Hh : Hp) (o : Option HO) : D → Prop
  | .list ds => ∃ vs, o = some (.lst vs) ∧ RpL K Hh vs ds
  | .dict ds => ∃ kvs, o = some (.dK kvs) ∧ RpK K Hh kvs ds
  | _ => False
theorem OwnAt.mono {K : Frag} {H H' : Hp} {o : Option HO} {d : D} (e : Sub H H') (h : OwnAt K H o d) : OwnAt K H' o d := by
  cases d with
  | list ds => obtain ⟨vs, a, b⟩ := h; exact ⟨vs, a, b.mono e⟩
  | dict ds => obtain ⟨vs, a, b⟩ := h; exact ⟨vs, a, b.mono e⟩
  | _ => exact h.elim
theorem OwnAt.ne {K : Frag} {H : Hp} {o : Option HO} {d : D} (h : OwnAt K H o d) : ∃ u, o = some u := by
  cases d with
  | list ds => obtain ⟨vs, a, b⟩ := h; exact ⟨_, a⟩
  | dict ds => obtain ⟨vs, a, b⟩ := h; exact ⟨_, a⟩
  | _ => exact h.elim
theorem OwnAt.rp {K : Frag} {H : Hp} {l : Addr} {d : D} (h : OwnAt K H (H l) d) : Rp K H (.ref l) d := by
  cases d with
  | list ds => obtain ⟨vs, a, b⟩ := h; exact .lst (.inl (.inl a)) b
  | dict ds => obtain ⟨vs, a, b⟩ := h; exact .dct (.inl a) b
  | _ => exact h.elim
theorem OwnAt.rs {K : Frag} {B : Addr → Bool} {H : Hp} {l : Addr} {d : D} (h : OwnAt K (hide B H) (H l) d) : Rs K B H (.ref l) d := by
  cases d with
  | list ds => obtain ⟨vs, a, b⟩ := h; exact .lst (.inl (.inl a)) b
  | dict ds => obtain ⟨vs, a, b⟩ := h; exact .dct (.inl a) b
  | _ => exact h.elim

/-- slots, heap and names' values agree; B hides all that may change -/
structure SR (K : Frag) (B : Addr → Bool) (σ : St) (H : Hp) (ρ : En) : Prop where
  len : σ.length = ρ.length
  val : ∀ (i : Nat) d, ρ[i]? = some (some (.val d)) → ∃ v, σ[i]? = some (some v) ∧ Rp K (hide B H) v d
  mu_ : ∀ (i : Nat) s, ρ[i]? = some (some s) → s.mu = true → ∃ l, σ[i]? = some (some (.ref l)) ∧ B l = true ∧ OwnAt K (hide B H) (H l) s.d
  inj : ∀ (i j : Nat) s t l, ρ[i]? = some (some s) → s.mu = true → ρ[j]? = some (some t) → t.mu = true → σ[i]? = some (some (.ref l)) → σ[j]? = some (some (.ref l)) → i = j
  bk : ∀ a, B a = true → ∃ o, H a = some o
def Mine (σ : St) (ρ : En) (a : Addr) : Prop := ∃ (i : Nat) (s : Sl), ρ[i]? = some (some s) ∧ s.mu = true ∧ σ[i]? = some (some (.ref a))
theorem SR.mine {K : Frag} {B : Addr → Bool} {σ : St} {H : Hp} {ρ : En} {a : Addr} (S : SR K B σ H ρ) (h : Mine σ ρ a) : B a = true := by
  obtain ⟨i, s, h1, h2, h3⟩ := h
  obtain ⟨l, g1, g2, _⟩ := S.mu_ i s h1 h2
  rw [g1] at h3
  cases h3
  exact g2

/-- slots of one kind -/
def Ks : Option (Option Sl) → Option (Option Sl) → Prop
  | none, none => True
  | some none, some none => True
  | some (some (.val d)), some (some (.val e)) => d = e
  | some (some (.own _)), some (some (.own _)) => True
  | some (some (.bor _)), some (some (.bor _)) => True
  | _, _ => False
theorem Ks.refl : ∀ o, Ks o o
  | none => trivial
  | some none => trivial
  | some (some (.val _)) => rfl
  | some (some (.own _)) => trivial
  | some (some (.bor _)) => trivial
theorem Ks.trans : ∀ {a b c}, Ks a b → Ks b c → Ks a c
  | none, none, none, _, _ => trivial
  | some none, some none, some none, _, _ => trivial
  | some (some (.val _)), some (some (.val _)), some (some (.val _)), h, k => Eq.trans h k
  | some (some (.own _)), some (some (.own _)), some (some (.own _)), _, _ => trivial
  | some (some (.bor _)), some (some (.bor _)), some (some (.bor _)), _, _ => trivial
theorem Ks.mu {a : Option (Option Sl)} {s : Sl} (h : Ks (some (some s)) a) : ∃ t, a = some (some t) ∧ t.mu = s.mu := by
  match s, a, h with
  | .val _, some (some (.val e)), _ => exact ⟨_, rfl, rfl⟩
  | .own _, some (some (.own e)), _ => exact ⟨_, rfl, rfl⟩
  | .bor _, some (some (.bor e)), _ => exact ⟨_, rfl, rfl⟩
theorem Ks.mu' {a : Option (Option Sl)} {s : Sl} (h : Ks a (some (some s))) : ∃ t, a = some (some t) ∧ t.mu = s.mu := by
  match s, a, h with
  | .val _, some (some (.val e)), _ => exact ⟨_, rfl, rfl⟩
  | .own _, some (some (.own e)), _ => exact ⟨_, rfl, rfl⟩
  | .bor _, some (some (.bor e)), _ => exact ⟨_, rfl, rfl⟩
theorem Ks.bor {a : Option (Option Sl)} {d : D} (h : Ks (some (some (.bor d))) a) : ∃ e, a = some (some (.bor e)) := by
  match a, h with
  | some (some (.bor e)), _ => exact ⟨_, rfl⟩
def Kin (ρ ρ' : En) : Prop := ∀ i : Nat, Ks ρ[i]? ρ'[i]?
theorem Kin.refl (ρ : En) : Kin ρ ρ := fun i => Ks.refl _
theorem Kin.trans {a b c : En} (h : Kin a b) (k : Kin b c) : Kin a c := fun i => (h i).trans (k i)
theorem Kin.mine {ρ ρ' : En} {σ : St} {a : Addr} (h : Kin ρ ρ') : Mine σ ρ' a ↔ Mine σ ρ a := by
  constructor
  · rintro ⟨i, s, h1, h2, h3⟩
    have q := h i
    rw [h1] at q
    obtain ⟨t, e, m⟩ := q.mu'
    exact ⟨i, t, e, m.trans h2, h3⟩
  · rintro ⟨i, s, h1, h2, h3⟩
    have q := h i
    rw [h1] at q
    obtain ⟨t, e, m⟩ := q.mu
    exact ⟨i, t, e, m.trans h2, h3⟩

/-- behind an expression -/
structure Af (K : Frag) (B : Addr → Bool) (σ : St) (H : Hp) (ρ : En) (H' : Hp) (ρ' : En) : Prop where
  sr : SR K B σ H' ρ'
  keep : ∀ b o, H b = some o → ¬ Mine σ ρ b → H' b = some o
  grow : ∀ b o, H b = some o → ∃ o', H' b = some o'
  kin : Kin ρ ρ'
section
variable {K : Frag} {B B' : Addr → Bool} {σ σ' : St} {H H' H1 H2 : Hp} {ρ ρ' ρ1 ρ2 : En}
theorem Af.refl (S : SR K B σ H ρ) : Af K B σ H ρ H ρ := ⟨S, fun _ _ e _ => e, fun _ o e => ⟨o, e⟩, Kin.refl ρ⟩
theorem Af.trans (a : Af K B σ H ρ H1 ρ1) (b : Af K B σ H1 ρ1 H2 ρ2) : Af K B σ H ρ H2 ρ2 :=
  ⟨b.sr, fun c o e n => b.keep c o (a.keep c o e n) (fun m => n (a.kin.mine.mp m)), fun c o e => by
    obtain ⟨o', e'⟩ := a.grow c o e
    exact b.grow c o' e', a.kin.trans b.kin⟩
theorem Af.sub (S : SR K B σ H ρ) (a : Af K B σ H ρ H' ρ') : Sub (hide B H) (hide B H') := fun b o e => by
  obtain ⟨e1, e2⟩ := hide_some e
  refine hide_of e1 (a.keep b o e2 fun m => ?_)
  rw [S.mine m] at e1
  cases e1
/-- the heap only grew -/
theorem SR.grow (S : SR K B σ H ρ) (e : Sub H H') : SR K B σ H' ρ := by
  have hs : Sub (hide B H) (hide B H') := fun b o q => hide_of (hide_some q).1 (e _ _ (hide_some q).2)
  refine ⟨S.len, fun i d h => ?_, fun i s h m => ?_, S.inj, fun a h => ?_⟩
  · obtain ⟨v, g1, g2⟩ := S.val i d h
    exact ⟨v, g1, g2.mono hs⟩
  · obtain ⟨l, g1, g2, g3⟩ := S.mu_ i s h m
    obtain ⟨u, g4⟩ := g3.ne
    refine ⟨l, g1, g2, ?_⟩
    rw [g4] at g3
    rw [e _ _ g4]
    exact g3.mono hs
  · obtain ⟨o, g⟩ := S.bk a h
    exact ⟨o, e _ _ g⟩
theorem Af.of_sub (S : SR K B σ H ρ) (e : Sub H H') : Af K B σ H ρ H' ρ := ⟨S.grow e, fun b o h _ => e b o h, fun b o h => ⟨o, e b o h⟩, Kin.refl ρ⟩
theorem hsub (e : Sub H H') : Sub (hide B H) (hide B H') := fun b o q => hide_of (hide_some q).1 (e _ _ (hide_some q).2)
theorem SR.fresh (S : SR K B σ H ρ) {a : Addr} (h : H a = none) : B a = false := by
  cases q : B a with
  | false => rfl
  | true =>
    obtain ⟨o, e⟩ := S.bk a q
    rw [h] at e
    cases e
end

/-- behind a statement -/
structure Bf (K : Frag) (B : Addr → Bool) (σ : St) (H : Hp) (ρ : En) (B' : Addr → Bool) (σ' : St) (H' : Hp) (ρ' : En) : Prop where
  sr : SR K B' σ' H' ρ'
  keep : ∀ b o, H b = some o → ¬ Mine σ ρ b → H' b = some o
  grow : ∀ b o, H b = some o → ∃ o', H' b = some o'
  hnew : ∀ b, B' b = true → B b = true ∨ H b = none
  hold : ∀ b, B b = true → ¬ Mine σ ρ b → B' b = true
  mine : ∀ b, Mine σ' ρ' b → Mine σ ρ b ∨ H b = none
  bor : ∀ (i : Nat) d, ρ[i]? = some (some (.bor d)) → (∃ e, ρ'[i]? = some (some (.bor e))) ∧ σ'[i]? = σ[i]?
section
variable {K : Frag} {B B' B1 B2 : Addr → Bool} {σ σ' σ1 σ2 : St} {H H' H1 H2 : Hp} {ρ ρ' ρ1 ρ2 : En}
theorem Bf.refl (S : SR K B σ H ρ) : Bf K B σ H ρ B σ H ρ := ⟨S, fun _ _ e _ => e, fun _ o e => ⟨o, e⟩, fun _ h => .inl h, fun _ h _ => h, fun _ h => .inl h, fun _ d h => ⟨⟨d, h⟩, rfl⟩⟩
theorem Af.bf (a : Af K B σ H ρ H' ρ') : Bf K B σ H ρ B σ H' ρ' :=
  ⟨a.sr, a.keep, a.grow, fun _ h => .inl h, fun _ h _ => h, fun _ h => .inl (a.kin.mine.mp h), fun i d h => by
    have q := a.kin i
    rw [h] at q
    exact ⟨q.bor, rfl⟩⟩
theorem Bf.trans (S : SR K B σ H ρ) (a : Bf K B σ H ρ B1 σ1 H1 ρ1) (b : Bf K B1 σ1 H1 ρ1 B2 σ2 H2 ρ2) : Bf K B σ H ρ B2 σ2 H2 ρ2 := by
  have nm : ∀ c, (∃ o, H c = some o) → ¬ Mine σ ρ c → ¬ Mine σ1 ρ1 c := fun c ⟨o, e⟩ n m => by
    rcases a.mine c m with z | z
    · exact n z
    · rw [e] at z; cases z
  refine ⟨b.sr, fun c o e n => b.keep c o (a.keep c o e n) (nm c ⟨o, e⟩ n), fun c o e => ?_, fun c h => ?_, fun c h n => b.hold c (a.hold c h n) (nm c (S.bk c h) n), fun c h => ?_, fun i d h => ?_⟩
  · obtain ⟨o', e'⟩ := a.grow c o e
    exact b.grow c o' e'
  · rcases b.hnew c h with z | z
    · exact a.hnew c z
    · refine .inr ?_
      cases q : H c with
      | none => rfl
      | some o =>
        obtain ⟨o', e'⟩ := a.grow c o q
        rw [z] at e'; cases e'
  · rcases b.mine c h with z | z
    · exact a.mine c z
    · refine .inr ?_
      cases q : H c with
      | none => rfl
      | some o =>
        obtain ⟨o', e'⟩ := a.grow c o q
        rw [z] at e'; cases e'
  · obtain ⟨⟨e, h1⟩, g1⟩ := a.bor i d h
    obtain ⟨h2, g2⟩ := b.bor i e h1
    exact ⟨h2, g2.trans g1⟩
theorem Bf.sub (S : SR K B σ H ρ) (a : Bf K B σ H ρ B' σ' H' ρ') : Sub (hide B H) (hide B' H') := fun b o e => by
  obtain ⟨e1, e2⟩ := hide_some e
  refine hide_of ?_ (a.keep b o e2 fun m => ?_)
  · cases q : B' b with
    | false => rfl
    | true =>
      rcases a.hnew b q with z | z
      · rw [e1] at z; cases z
      · rw [e2] at z; cases z
  · rw [S.mine m] at e1
    cases e1
end

/-! ### the judgements -/
structure C0 where
  P : Program
  w : World
  K : Frag
  mg : Str → Option Value
  base : Heap
  k : Nat
  top : Bool
/-- the contexts of a block of a def: its names, its scope -/
structure In (c : C0) (N : List Str) (sc : Scope) (X : Cx) : Prop where
  P : X.prog = c.P
  w : X.w = c.w
  K : X.K = c.K
  mg : X.mg = c.mg
  base : X.base = c.base
  rm : Room c.k X.A
  N : X.N = N
  sc : X.env.scope = sc
  calm : X.calm = true
  fn : c.top = true → X.fn = fun _ => true
  po : PassesOwn (model X.prog X.w) X.A X.env X.xe
section
variable {c : C0} {N : List Str} {sc : Scope} {X : Cx}
theorem In.gl {x : Str} (I : In c N sc X) (h : sc.names.lookup x = some .globalImplicit) : Gl X x := by
  show X.env.scope.names.lookup x = _
  rw [I.sc]
  exact h
theorem In.vis {x : Str} (I : In c N sc X) (h : Vis sc x) : Vis X.env.scope x := by
  rw [I.sc]
  exact h
end

/-- the reading of an expression computes m: an escaping datum | an operand | a new list or dict -/
def Sd (K : Frag) (t : TE) (m : En → Option (D × En)) : Prop :=
  ∀ σ H ρ B d ρ', SR K B σ H ρ → m ρ = some (d, ρ') → ∀ Q : VK, (∀ v H', Af K B σ H ρ H' ρ' → Rp K (hide B H') v d → Q v H') → t σ H Q
def So (K : Frag) (t : TE) (m : En → Option (D × En)) : Prop :=
  ∀ σ H ρ B d ρ', SR K B σ H ρ → m ρ = some (d, ρ') → ∀ Q : VK, (∀ v H', Af K B σ H ρ H' ρ' → Rs K B H' v d → Q v H') → t σ H Q
def ins (l : Addr) (B : Addr → Bool) : Addr → Bool := fun a => decide (a = l) || B a
def Sf (K : Frag) (t : TE) (m : En → Option (D × En)) : Prop :=
  ∀ σ H ρ B d ρ', SR K B σ H ρ → m ρ = some (d, ρ') → ∀ Q : VK, (∀ l H', Af K B σ H ρ H' ρ' → SR K (ins l B) σ H' ρ' → H l = none → OwnAt K (hide (ins l B) H') (H' l) d → Q (.ref l) H') → t σ H Q
def Stt (K : Frag) (t : TT) (m : En → Option (Bool × En)) : Prop :=
  ∀ σ H ρ B d ρ', SR K B σ H ρ → m ρ = some (d, ρ') → ∀ Q : Bool → Hp → Prop, (∀ H', Af K B σ H ρ H' ρ' → Q d H') → t σ H Q

def JE (c : C0) (N : List Str) (sc : Scope) (e : Expr) (m : En → Option (D × En)) : Prop := ∃ t, (∀ X, In c N sc X → PE X e t) ∧ Sd c.K t m
def JA (c : C0) (N : List Str) (sc : Scope) (e : Expr) (m : En → Option (D × En)) : Prop := ∃ t, (∀ X, In c N sc X → PE X e t) ∧ So c.K t m
def JF (c : C0) (N : List Str) (sc : Scope) (e : Expr) (m : En → Option (D × En)) : Prop := ∃ t, (∀ X, In c N sc X → PE X e t) ∧ Sf c.K t m
def JT (c : C0) (N : List Str) (sc : Scope) (e : Expr) (m : En → Option (Bool × En)) : Prop := ∃ t, (∀ X, In c N sc X → PT X e t) ∧ Stt c.K t m

theorem ins_sub {l : Addr} {B : Addr → Bool} {H : Hp} : Sub (hide (ins l B) H) (hide B H) := fun a o e => by
  obtain ⟨e1, e2⟩ := hide_some e
  refine hide_of ?_ e2
  unfold ins at e1
  simp at e1
  exact e1.2
theorem sub_ins {l : Addr} {B : Addr → Bool} {H H' : Hp} (h : H l = none) (e : Sub (hide B H) (hide B H')) : Sub (hide B H) (hide (ins l B) H') := fun a o q => by
  obtain ⟨e1, e2⟩ := hide_some q
  refine hide_of ?_ (hide_some (e _ _ q)).2
  unfold ins
  simp
  refine ⟨fun z => ?_, e1⟩
  rw [z, h] at e2
  cases e2
theorem SR.ins {K : Frag} {B : Addr → Bool} {σ : St} {H H' : Hp} {ρ : En} {l : Addr} (S : SR K B σ H ρ) (h : H l = none) (e : Sub H H') (h' : ∃ o, H' l = some o) : SR K (ins l B) σ H' ρ := by
  have hs : Sub (hide B H) (hide (Dz.ins l B) H') := sub_ins h (hsub e)
  refine ⟨S.len, fun i d h => ?_, fun i s h m => ?_, S.inj, fun a q => ?_⟩
  · obtain ⟨v, g1, g2⟩ := S.val i d h
    exact ⟨v, g1, g2.mono hs⟩
  · obtain ⟨k, g1, g2, g3⟩ := S.mu_ i s h m
    obtain ⟨u, g4⟩ := g3.ne
    refine ⟨k, g1, by unfold Dz.ins; simp [g2], ?_⟩
    rw [g4] at g3
    rw [e _ _ g4]
    exact g3.mono hs
  · unfold Dz.ins at q
    simp at q
    rcases q with q | q
    · rw [q]; exact h'
    · obtain ⟨o, g⟩ := S.bk a q
      exact ⟨o, e _ _ g⟩
section
variable {c : C0} {N : List Str} {sc : Scope} {e : Expr} {m : En → Option (D × En)} {K : Frag} {t : TE}
theorem Sf.d (h : Sf K t m) : Sd K t m := fun σ H ρ B d ρ' S e Q q => h σ H ρ B d ρ' S e Q fun l H' A _ hl ho => by
  refine q _ _ A ?_
  have bl : B l = false := S.fresh hl
  have h1 : OwnAt K (hide B H') (H' l) d := ho.mono ins_sub
  obtain ⟨u, g⟩ := h1.ne
  refine OwnAt.rp ?_
  rw [hide_of bl g]
  rw [g] at h1
  exact h1
theorem Sd.o (h : Sd K t m) : So K t m := fun σ H ρ B d ρ' S e Q q => h σ H ρ B d ρ' S e Q fun v H' A r => q v H' A (.vis r)
theorem JF.je (h : JF c N sc e m) : JE c N sc e m := let ⟨t, h1, h2⟩ := h; ⟨t, h1, h2.d⟩
theorem JE.ja (h : JE c N sc e m) : JA c N sc e m := let ⟨t, h1, h2⟩ := h; ⟨t, h1, h2.o⟩
theorem JF.ja (h : JF c N sc e m) : JA c N sc e m := h.je.ja
end

/-! ### names and constants -/
def kC (d : D) : En → Option (D × En) := fun ρ => some (d, ρ)
def kV (i : Nat) : En → Option (D × En) := fun ρ => match ρ[i]? with
  | some (some (.val d)) => some (d, ρ)
  | _ => none
/-- a list or dict of the def's own, or lent, read where it stands -/
def kO (i : Nat) : En → Option (D × En) := fun ρ => match ρ[i]? with
  | some (some s) => some (s.d, ρ)
  | _ => none
section
variable {c : C0} {N : List Str} {sc : Scope} {K : Frag}
theorem sd_c {v : V} {d : D} (h : ∀ H, Rp K H v d) : Sd K (tC v) (kC d) := fun σ H ρ B d' ρ' S e Q q => by
  cases e
  exact q v H (Af.refl S) (h _)
theorem ce_int {i j pos} : JE c N sc (.Constant (.int i) j pos) (kC (.int i)) := ⟨_, fun _ _ => pe_int, sd_c fun _ => .int i⟩
theorem ce_bl {i j pos} : JE c N sc (.Constant (.bool i) j pos) (kC (.bool i)) := ⟨_, fun _ _ => pe_bl, sd_c fun _ => .bl i⟩
theorem ce_non {j pos} : JE c N sc (.Constant .none j pos) (kC .none) := ⟨_, fun _ _ => pe_non, sd_c fun _ => .non⟩
theorem ce_str {i j pos} : JE c N sc (.Constant (.str i) j pos) (kC (.str i)) := ⟨_, fun _ _ => pe_str, sd_c fun _ => .str i⟩
theorem ce_var {i : Nat} {x : Str} {pos : Pos} (hN : N[i]? = some x) (hv : Vis sc x) (hd : (x == ("__debug__" : Str)) = false := by decide) (hcd : (x == ("__classdict__" : Str)) = false := by decide) : JE c N sc (.Name x pos) (kV i) := by
  refine ⟨tVar i, fun X I => pe_var (by rw [I.N]; exact hN) (I.vis hv) hd hcd, fun σ H ρ B d ρ' S e Q q => ?_⟩
  unfold kV at e
  split at e
  · rename_i d' h
    cases e
    obtain ⟨v, h1, h2⟩ := S.val i _ h
    exact ⟨v, h1, q v H (Af.refl S) h2⟩
  · cases e
theorem ca_var {i : Nat} {x : Str} {pos : Pos} (hN : N[i]? = some x) (hv : Vis sc x) (hd : (x == ("__debug__" : Str)) = false := by decide) (hcd : (x == ("__classdict__" : Str)) = false := by decide) : JA c N sc (.Name x pos) (kO i) := by
  refine ⟨tVar i, fun X I => pe_var (by rw [I.N]; exact hN) (I.vis hv) hd hcd, fun σ H ρ B d ρ' S e Q q => ?_⟩
  unfold kO at e
  split at e
  · rename_i s h
    cases e
    cases hm : s.mu with
    | false =>
      cases s with
      | val d =>
        obtain ⟨v, h1, h2⟩ := S.val i _ h
        exact ⟨v, h1, q v H (Af.refl S) (.vis h2)⟩
      | own d => cases hm
      | bor d => cases hm
    | true =>
      obtain ⟨l, h1, h2, h3⟩ := S.mu_ i _ h hm
      exact ⟨.ref l, h1, q _ H (Af.refl S) h3.rs⟩
  · cases e
/-- a name of the module: a constant -/
theorem ce_glob {x : Str} {v : V} {u : Value} {d : D} {pos : Pos} (hg : sc.names.lookup x = some .globalImplicit) (hm : c.mg x = some u) (r : RelV v u) (h : ∀ H, Rp c.K H v d) (hd : (x == ("__debug__" : Str)) = false := by decide) : JE c N sc (.Name x pos) (kC d) :=
  ⟨_, fun X I => pe_glob (I.gl hg) (by rw [I.mg]; exact hm) r hd, sd_c h⟩
end

/-! ### operators -/
/-- a two-place operation, by data -/
structure OpD (K : Frag) (XS : Cx → Prop) (f : Value → Value → Sem Value) (g : D → D → Option D) : Prop where
  ex : ∃ r : R2, (∀ X, XS X → OpR X f r) ∧ ∀ (B : Addr → Bool) (H : Hp) (x y : V) (d e z : D), (∀ a, B a = true → ∃ o, H a = some o) → Rs K B H x d → Rs K B H y e → g d e = some z →
    ∀ Q : VK, (∀ v H', Sub H H' → Rp K (hide B H') v z → Q v H') → r x y H Q
/-- .. that gives a new list -/
structure OpF (K : Frag) (XS : Cx → Prop) (f : Value → Value → Sem Value) (g : D → D → Option D) : Prop where
  ex : ∃ r : R2, (∀ X, XS X → OpR X f r) ∧ ∀ (B : Addr → Bool) (H : Hp) (x y : V) (d e z : D), (∀ a, B a = true → ∃ o, H a = some o) → Rs K B H x d → Rs K B H y e → g d e = some z →
    ∀ Q : VK, (∀ l H', Sub H H' → H l = none → OwnAt K (hide (ins l B) H') (H' l) z → Q (.ref l) H') → r x y H Q
def bop (g : D → D → Option D) (ma mb : En → Option (D × En)) : En → Option (D × En) := fun ρ =>
  (ma ρ).bind fun p => (mb p.2).bind fun q => (g p.1 q.1).map fun z => (z, q.2)
/-- the first operand a name of the def's own list: read behind the second -/
def bopO (g : D → D → Option D) (i : Nat) (mb : En → Option (D × En)) : En → Option (D × En) := fun ρ =>
  (kO i ρ).bind fun _ => (mb ρ).bind fun q => (kO i q.2).bind fun p => (g p.1 q.1).map fun z => (z, q.2)
section
variable {K : Frag} {XS : Cx → Prop} {r : R2} {ta tb : TE} {ma mb : En → Option (D × En)} {g : D → D → Option D} {i : Nat}
theorem sd_bop (ha : Sd K ta ma) (hb : So K tb mb) (hr : ∀ (B : Addr → Bool) (H : Hp) (x y : V) (d e z : D), (∀ a, B a = true → ∃ o, H a = some o) → Rs K B H x d → Rs K B H y e → g d e = some z →
    ∀ Q : VK, (∀ v H', Sub H H' → Rp K (hide B H') v z → Q v H') → r x y H Q) : Sd K (tOp r ta tb) (bop g ma mb) := fun σ H ρ B d ρ' S e Q q => by
  unfold bop at e
  cases h1 : ma ρ with
  | none => rw [h1] at e; cases e
  | some p =>
    obtain ⟨d1, ρ1⟩ := p
    rw [h1] at e
    cases h2 : mb ρ1 with
    | none => simp [h2] at e
    | some p2 =>
      obtain ⟨d2, ρ2⟩ := p2
      cases h3 : g d1 d2 with
      | none => simp [h2, h3] at e
      | some z =>
        simp [h2, h3] at e
        obtain ⟨rfl, rfl⟩ := e
        refine ha σ H ρ B _ _ S h1 _ fun x H1 A1 r1 => ?_
        refine hb σ H1 ρ1 B _ _ A1.sr h2 _ fun y H2 A2 r2 => ?_
        refine hr B H2 x y _ _ _ A2.sr.bk (.vis (r1.mono (A2.sub A1.sr))) r2 h3 _ fun v H3 s3 r3 => ?_
        exact q v H3 ((A1.trans A2).trans (Af.of_sub A2.sr s3)) r3
theorem sf_bop (ha : Sd K ta ma) (hb : So K tb mb) (hr : ∀ (B : Addr → Bool) (H : Hp) (x y : V) (d e z : D), (∀ a, B a = true → ∃ o, H a = some o) → Rs K B H x d → Rs K B H y e → g d e = some z →
    ∀ Q : VK, (∀ l H', Sub H H' → H l = none → OwnAt K (hide (ins l B) H') (H' l) z → Q (.ref l) H') → r x y H Q) : Sf K (tOp r ta tb) (bop g ma mb) := fun σ H ρ B d ρ' S e Q q => by
  unfold bop at e
  cases h1 : ma ρ with
  | none => rw [h1] at e; cases e
  | some p =>
    obtain ⟨d1, ρ1⟩ := p
    rw [h1] at e
    cases h2 : mb ρ1 with
    | none => simp [h2] at e
    | some p2 =>
      obtain ⟨d2, ρ2⟩ := p2
      cases h3 : g d1 d2 with
      | none => simp [h2, h3] at e
      | some z =>
        simp [h2, h3] at e
        obtain ⟨rfl, rfl⟩ := e
        refine ha σ H ρ B _ _ S h1 _ fun x H1 A1 r1 => ?_
        refine hb σ H1 ρ1 B _ _ A1.sr h2 _ fun y H2 A2 r2 => ?_
        refine hr B H2 x y _ _ _ A2.sr.bk (.vis (r1.mono (A2.sub A1.sr))) r2 h3 _ fun l H3 s3 hl r3 => ?_
        refine q l H3 ((A1.trans A2).trans (Af.of_sub A2.sr s3)) (A2.sr.ins hl s3 r3.ne) ?_ r3
        cases z0 : H l with
        | none => rfl
        | some o =>
          obtain ⟨o1, z1⟩ := (A1.trans A2).grow l o z0
          rw [hl] at z1
          cases z1
theorem kO_some {i : Nat} {ρ ρ' : En} {d : D} (h : kO i ρ = some (d, ρ')) : ∃ s, ρ[i]? = some (some s) ∧ s.d = d ∧ ρ' = ρ := by
  unfold kO at h
  split at h
  · rename_i s e
    cases h
    exact ⟨s, e, rfl, rfl⟩
  · cases h
theorem SR.read {B : Addr → Bool} {σ : St} {H : Hp} {ρ : En} {s : Sl} (S : SR K B σ H ρ) (h : ρ[i]? = some (some s)) : ∃ v, σ[i]? = some (some v) ∧ Rs K B H v s.d := by
  cases hm : s.mu with
  | false =>
    cases s with
    | val d =>
      obtain ⟨v, h1, h2⟩ := S.val i _ h
      exact ⟨v, h1, .vis h2⟩
    | own d => cases hm
    | bor d => cases hm
  | true =>
    obtain ⟨l, h1, h2, h3⟩ := S.mu_ i _ h hm
    exact ⟨.ref l, h1, h3.rs⟩
/-- a slot that holds something behind held something before -/
theorem Af.slot {B : Addr → Bool} {σ : St} {H H' : Hp} {ρ ρ' : En} {s : Sl} (S : SR K B σ H ρ) (A : Af K B σ H ρ H' ρ') (h : ρ'[i]? = some (some s)) : ∃ v, σ[i]? = some (some v) ∧ Rs K B H' v s.d := A.sr.read h
theorem sd_bopO (hb : So K tb mb) (hr : ∀ (B : Addr → Bool) (H : Hp) (x y : V) (d e z : D), (∀ a, B a = true → ∃ o, H a = some o) → Rs K B H x d → Rs K B H y e → g d e = some z →
    ∀ Q : VK, (∀ v H', Sub H H' → Rp K (hide B H') v z → Q v H') → r x y H Q) : Sd K (tOp r (tVar i) tb) (bopO g i mb) := fun σ H ρ B d ρ' S e Q q => by
  unfold bopO at e
  cases h0 : kO i ρ with
  | none => simp [h0] at e
  | some p0 =>
  cases h2 : mb ρ with
  | none => simp [h0, h2] at e
  | some p2 =>
    obtain ⟨d2, ρ2⟩ := p2
    cases h1 : kO i ρ2 with
    | none => simp [h0, h2, h1] at e
    | some p1 =>
      obtain ⟨d1, ρ1⟩ := p1
      obtain ⟨s, g1, g2, g3⟩ := kO_some h1
      cases h3 : g d1 d2 with
      | none => simp [h0, h2, h1, h3] at e
      | some z =>
        simp [h0, h2, h1, h3] at e
        obtain ⟨rfl, rfl⟩ := e
        obtain ⟨d0, ρ0⟩ := p0
        obtain ⟨s0, u1, u2, u3⟩ := kO_some h0
        obtain ⟨v, e1, _⟩ := S.read u1
        refine ⟨v, e1, ?_⟩
        refine hb σ H ρ B _ _ S h2 _ fun y H2 A2 r2 => ?_
        obtain ⟨v', e2, r1⟩ := A2.sr.read g1
        rw [e1] at e2
        cases e2
        rw [g2] at r1
        refine hr B H2 v y _ _ _ A2.sr.bk r1 r2 h3 _ fun w H3 s3 r3 => ?_
        exact q w H3 (A2.trans (Af.of_sub A2.sr s3)) r3
theorem sf_bopO (hb : So K tb mb) (hr : ∀ (B : Addr → Bool) (H : Hp) (x y : V) (d e z : D), (∀ a, B a = true → ∃ o, H a = some o) → Rs K B H x d → Rs K B H y e → g d e = some z →
    ∀ Q : VK, (∀ l H', Sub H H' → H l = none → OwnAt K (hide (ins l B) H') (H' l) z → Q (.ref l) H') → r x y H Q) : Sf K (tOp r (tVar i) tb) (bopO g i mb) := fun σ H ρ B d ρ' S e Q q => by
  unfold bopO at e
  cases h0 : kO i ρ with
  | none => simp [h0] at e
  | some p0 =>
  cases h2 : mb ρ with
  | none => simp [h0, h2] at e
  | some p2 =>
    obtain ⟨d2, ρ2⟩ := p2
    cases h1 : kO i ρ2 with
    | none => simp [h0, h2, h1] at e
    | some p1 =>
      obtain ⟨d1, ρ1⟩ := p1
      obtain ⟨s, g1, g2, g3⟩ := kO_some h1
      cases h3 : g d1 d2 with
      | none => simp [h0, h2, h1, h3] at e
      | some z =>
        simp [h0, h2, h1, h3] at e
        obtain ⟨rfl, rfl⟩ := e
        obtain ⟨d0, ρ0⟩ := p0
        obtain ⟨s0, u1, u2, u3⟩ := kO_some h0
        obtain ⟨v, e1, _⟩ := S.read u1
        refine ⟨v, e1, ?_⟩
        refine hb σ H ρ B _ _ S h2 _ fun y H2 A2 r2 => ?_
        obtain ⟨v', e2, r1⟩ := A2.sr.read g1
        rw [e1] at e2
        cases e2
        rw [g2] at r1
        refine hr B H2 v y _ _ _ A2.sr.bk r1 r2 h3 _ fun l H3 s3 hl r3 => ?_
        refine q l H3 (A2.trans (Af.of_sub A2.sr s3)) (A2.sr.ins hl s3 r3.ne) ?_ r3
        cases z0 : H l with
        | none => rfl
        | some o =>
          obtain ⟨o1, z1⟩ := A2.grow l o z0
          rw [hl] at z1
          cases z1
end
section
variable {c : C0} {N : List Str} {sc : Scope} {a b : Expr} {ma mb : En → Option (D × En)} {g : D → D → Option D} {i : Nat} {pos p1 : Pos} {x : Str}
theorem ce_op {op : Operator} (ho : OpD c.K (In c N sc) (binaryOp op) g) (ha : JE c N sc a ma) (hb : JA c N sc b mb) : JE c N sc (.BinOp a op b pos) (bop g ma mb) := by
  obtain ⟨r, h1, h2⟩ := ho.ex
  obtain ⟨ta, p1, s1⟩ := ha
  obtain ⟨tb, p2, s2⟩ := hb
  exact ⟨_, fun X I => pe_op (h1 X I) (p1 X I) (p2 X I), sd_bop s1 s2 h2⟩
theorem ce_opO {op : Operator} (ho : OpD c.K (In c N sc) (binaryOp op) g) (hN : N[i]? = some x) (hv : Vis sc x) (hb : JA c N sc b mb) (hd : (x == ("__debug__" : Str)) = false := by decide) (hcd : (x == ("__classdict__" : Str)) = false := by decide) : JE c N sc (.BinOp (.Name x p1) op b pos) (bopO g i mb) := by
  obtain ⟨r, h1, h2⟩ := ho.ex
  obtain ⟨tb, p2, s2⟩ := hb
  exact ⟨_, fun X I => pe_op (h1 X I) (pe_var (by rw [I.N]; exact hN) (I.vis hv) hd hcd) (p2 X I), sd_bopO s2 h2⟩
theorem cf_op {op : Operator} (ho : OpF c.K (In c N sc) (binaryOp op) g) (ha : JE c N sc a ma) (hb : JA c N sc b mb) : JF c N sc (.BinOp a op b pos) (bop g ma mb) := by
  obtain ⟨r, h1, h2⟩ := ho.ex
  obtain ⟨ta, p1, s1⟩ := ha
  obtain ⟨tb, p2, s2⟩ := hb
  exact ⟨_, fun X I => pe_op (h1 X I) (p1 X I) (p2 X I), sf_bop s1 s2 h2⟩
theorem cf_opO {op : Operator} (ho : OpF c.K (In c N sc) (binaryOp op) g) (hN : N[i]? = some x) (hv : Vis sc x) (hb : JA c N sc b mb) (hd : (x == ("__debug__" : Str)) = false := by decide) (hcd : (x == ("__classdict__" : Str)) = false := by decide) : JF c N sc (.BinOp (.Name x p1) op b pos) (bopO g i mb) := by
  obtain ⟨r, h1, h2⟩ := ho.ex
  obtain ⟨tb, p2, s2⟩ := hb
  exact ⟨_, fun X I => pe_op (h1 X I) (pe_var (by rw [I.N]; exact hN) (I.vis hv) hd hcd) (p2 X I), sf_bopO s2 h2⟩
theorem ce_cmp {op : CmpOp} (ho : OpD c.K (In c N sc) (compareOp op) g) (ha : JE c N sc a ma) (hb : JA c N sc b mb) (hm : behindInMarks op b = false := by rfl) : JE c N sc (.Compare a [op] [b] pos) (bop g ma mb) := by
  obtain ⟨r, h1, h2⟩ := ho.ex
  obtain ⟨ta, p1, s1⟩ := ha
  obtain ⟨tb, p2, s2⟩ := hb
  exact ⟨_, fun X I => pe_cmpR (h1 X I) (p1 X I) (p2 X I) hm, sd_bop s1 s2 h2⟩
theorem ce_cmpO {op : CmpOp} (ho : OpD c.K (In c N sc) (compareOp op) g) (hN : N[i]? = some x) (hv : Vis sc x) (hb : JA c N sc b mb) (hm : behindInMarks op b = false := by rfl) (hd : (x == ("__debug__" : Str)) = false := by decide) (hcd : (x == ("__classdict__" : Str)) = false := by decide) : JE c N sc (.Compare (.Name x p1) [op] [b] pos) (bopO g i mb) := by
  obtain ⟨r, h1, h2⟩ := ho.ex
  obtain ⟨tb, p2, s2⟩ := hb
  exact ⟨_, fun X I => pe_cmpR (h1 X I) (pe_var (by rw [I.N]; exact hN) (I.vis hv) hd hcd) (p2 X I) hm, sd_bopO s2 h2⟩
end
end Dz

/-! Dz. C: tests, displays, calls. -/
namespace Dz
open PySem L2

def tstK (m : En → Option (D × En)) : En → Option (Bool × En) := fun ρ => match m ρ with
  | some (.bool b, ρ') => some (b, ρ')
  | _ => none
theorem tstK_some {m : En → Option (D × En)} {ρ ρ' : En} {b : Bool} (h : tstK m ρ = some (b, ρ')) : m ρ = some (.bool b, ρ') := by
  unfold tstK at h
  split at h
  · rename_i e
    cases h
    exact e
  · cases h
def valK (m : En → Option (Bool × En)) : En → Option (D × En) := fun ρ => (m ρ).map fun p => (.bool p.1, p.2)
def andK (ma mb : En → Option (Bool × En)) : En → Option (Bool × En) := fun ρ => (ma ρ).bind fun p => if p.1 = true then mb p.2 else some (false, p.2)
def orK (ma mb : En → Option (Bool × En)) : En → Option (Bool × En) := fun ρ => (ma ρ).bind fun p => if p.1 = true then some (true, p.2) else mb p.2
def notK (ma : En → Option (Bool × En)) : En → Option (Bool × En) := fun ρ => (ma ρ).map fun p => (!p.1, p.2)
/-- and, or as values: all but the last bools -/
def andV (ma : En → Option (Bool × En)) (mb : En → Option (D × En)) : En → Option (D × En) := fun ρ => (ma ρ).bind fun p => if p.1 = true then mb p.2 else some (.bool false, p.2)
def orV (ma : En → Option (Bool × En)) (mb : En → Option (D × En)) : En → Option (D × En) := fun ρ => (ma ρ).bind fun p => if p.1 = true then some (.bool true, p.2) else mb p.2
/-- a < b < c -/
def chainK (g g' : D → D → Option D) (ma mb md : En → Option (D × En)) : En → Option (D × En) := fun ρ =>
  (ma ρ).bind fun p => (mb p.2).bind fun q => (g p.1 q.1).bind fun z => match z with
    | .bool true => (md q.2).bind fun r => (g' q.1 r.1).map fun z => (z, r.2)
    | .bool false => some (.bool false, q.2)
    | _ => none
def ifK (mt : En → Option (Bool × En)) (ma mb : En → Option (D × En)) : En → Option (D × En) := fun ρ => (mt ρ).bind fun p => if p.1 = true then ma p.2 else mb p.2
def JW (c : C0) (N : List Str) (sc : Scope) (e : Expr) (m : En → Option (Bool × En)) : Prop := ∃ t, (∀ X, In c N sc X → PW X e t) ∧ Stt c.K t m
section
variable {c : C0} {N : List Str} {sc : Scope} {e a b d : Expr} {ma mb md : En → Option (D × En)} {ta tb : En → Option (Bool × En)} {g g' : D → D → Option D} {i : Nat} {pos p1 : Pos} {x : Str} {rest : List Expr} {K : Frag}
theorem st_tst {te : TE} (h : Sd K te ma) : Stt K (tB te) (tstK ma) := fun σ H ρ B k ρ' S e Q q => h σ H ρ B _ ρ' S (tstK_some e) _ fun v H' A r => ⟨k, r.booli, q H' A⟩
theorem st_tst2 {te : TE} (h : Sd K te ma) : Stt K (tTest te) (tstK ma) := fun σ H ρ B k ρ' S e Q q => h σ H ρ B _ ρ' S (tstK_some e) _ fun v H' A r => ⟨k, r.booli, q H' A⟩
theorem jt_val (h : JE c N sc e ma) (he : ∀ (env : PySem.Env) (whole : Sem Value), isTrue e env whole = (do let v ← whole; standAt e.pos; holding [v] (truthy v)) := by intros; rfl) : JT c N sc e (tstK ma) := by
  obtain ⟨t, h1, h2⟩ := h
  exact ⟨_, fun X I => pt_val (h1 X I) (fun w => he _ w), st_tst h2⟩
theorem jt_cmp {op : CmpOp} (ho : OpD c.K (In c N sc) (compareOp op) g) (ha : JE c N sc a ma) (hb : JA c N sc b mb) (hm : behindInMarks op b = false := by rfl) : JT c N sc (.Compare a [op] [b] pos) (tstK (bop g ma mb)) := by
  obtain ⟨r, h1, h2⟩ := ho.ex
  obtain ⟨ta, p1, s1⟩ := ha
  obtain ⟨tb, p2, s2⟩ := hb
  exact ⟨_, fun X I => pt_cmpR (h1 X I) (p1 X I) (p2 X I) hm, st_tst2 (sd_bop s1 s2 h2)⟩
theorem jt_cmpO {op : CmpOp} (ho : OpD c.K (In c N sc) (compareOp op) g) (hN : N[i]? = some x) (hv : Vis sc x) (hb : JA c N sc b mb) (hm : behindInMarks op b = false := by rfl) (hd : (x == ("__debug__" : Str)) = false := by decide) (hcd : (x == ("__classdict__" : Str)) = false := by decide) : JT c N sc (.Compare (.Name x p1) [op] [b] pos) (tstK (bopO g i mb)) := by
  obtain ⟨r, h1, h2⟩ := ho.ex
  obtain ⟨tb, p2, s2⟩ := hb
  exact ⟨_, fun X I => pt_cmpR (h1 X I) (pe_var (by rw [I.N]; exact hN) (I.vis hv) hd hcd) (p2 X I) hm, st_tst2 (sd_bopO s2 h2)⟩
theorem st_and {t u : TT} (h1 : Stt K t ta) (h2 : Stt K u tb) : Stt K (tAnd t u) (andK ta tb) := fun σ H ρ B k ρ' S e Q q => by
  unfold andK at e
  cases q1 : ta ρ with
  | none => simp [q1] at e
  | some p =>
    obtain ⟨b, ρ1⟩ := p
    simp only [q1, Option.bind_some] at e
    refine h1 σ H ρ B b ρ1 S q1 _ fun H1 A1 => ?_
    cases b with
    | true => exact h2 σ H1 ρ1 B k ρ' A1.sr (by simpa using e) Q fun H2 A2 => q H2 (A1.trans A2)
    | false =>
      simp at e
      obtain ⟨rfl, rfl⟩ := e
      exact q H1 A1
theorem st_or {t u : TT} (h1 : Stt K t ta) (h2 : Stt K u tb) : Stt K (tOr t u) (orK ta tb) := fun σ H ρ B k ρ' S e Q q => by
  unfold orK at e
  cases q1 : ta ρ with
  | none => simp [q1] at e
  | some p =>
    obtain ⟨b, ρ1⟩ := p
    simp only [q1, Option.bind_some] at e
    refine h1 σ H ρ B b ρ1 S q1 _ fun H1 A1 => ?_
    cases b with
    | false => exact h2 σ H1 ρ1 B k ρ' A1.sr (by simpa using e) Q fun H2 A2 => q H2 (A1.trans A2)
    | true =>
      simp at e
      obtain ⟨rfl, rfl⟩ := e
      exact q H1 A1
theorem st_not {t : TT} (h1 : Stt K t ta) : Stt K (tNot t) (notK ta) := fun σ H ρ B k ρ' S e Q q => by
  unfold notK at e
  cases q1 : ta ρ with
  | none => simp [q1] at e
  | some p =>
    obtain ⟨b, ρ1⟩ := p
    simp only [q1, Option.map_some] at e
    cases e
    exact h1 σ H ρ B b _ S q1 _ fun H1 A1 => q H1 A1
theorem jw_and1 (h : JT c N sc a ta) : JW c N sc (.BoolOp .And [a] pos) ta := by
  obtain ⟨t, h1, h2⟩ := h
  exact ⟨t, fun X I => pw_and1 (h1 X I), h2⟩
theorem jw_or1 (h : JT c N sc a ta) : JW c N sc (.BoolOp .Or [a] pos) ta := by
  obtain ⟨t, h1, h2⟩ := h
  exact ⟨t, fun X I => pw_or1 (h1 X I), h2⟩
theorem jw_and (h : JT c N sc a ta) (k : JW c N sc (.BoolOp .And (b :: rest) pos) tb) : JW c N sc (.BoolOp .And (a :: b :: rest) pos) (andK ta tb) := by
  obtain ⟨t, h1, h2⟩ := h
  obtain ⟨u, k1, k2⟩ := k
  exact ⟨_, fun X I => pw_and (h1 X I) (k1 X I), st_and h2 k2⟩
theorem jw_or (h : JT c N sc a ta) (k : JW c N sc (.BoolOp .Or (b :: rest) pos) tb) : JW c N sc (.BoolOp .Or (a :: b :: rest) pos) (orK ta tb) := by
  obtain ⟨t, h1, h2⟩ := h
  obtain ⟨u, k1, k2⟩ := k
  exact ⟨_, fun X I => pw_or (h1 X I) (k1 X I), st_or h2 k2⟩
theorem jt_w (h : JW c N sc a ta) : JT c N sc a ta := by
  obtain ⟨t, h1, h2⟩ := h
  exact ⟨t, fun X I => (h1 X I).pt, h2⟩
theorem jt_not (h : JT c N sc a ta) : JT c N sc (.UnaryOp .Not a pos) (notK ta) := by
  obtain ⟨t, h1, h2⟩ := h
  exact ⟨_, fun X I => pt_not (h1 X I), st_not h2⟩
theorem sd_chain {r r' : R2} {ta tb tc : TE} (ha : Sd K ta ma) (hb : Sd K tb mb) (hc : Sd K tc md)
    (hr : ∀ (B : Addr → Bool) (H : Hp) (x y : V) (d e z : D), (∀ a, B a = true → ∃ o, H a = some o) → Rs K B H x d → Rs K B H y e → g d e = some z → ∀ Q : VK, (∀ v H', Sub H H' → Rp K (hide B H') v z → Q v H') → r x y H Q)
    (hr' : ∀ (B : Addr → Bool) (H : Hp) (x y : V) (d e z : D), (∀ a, B a = true → ∃ o, H a = some o) → Rs K B H x d → Rs K B H y e → g' d e = some z → ∀ Q : VK, (∀ v H', Sub H H' → Rp K (hide B H') v z → Q v H') → r' x y H Q) :
    Sd K (tChain r r' ta tb tc) (chainK g g' ma mb md) := fun σ H ρ B d ρ' S e Q q => by
  unfold chainK at e
  cases h1 : ma ρ with
  | none => simp [h1] at e
  | some p =>
    obtain ⟨d1, ρ1⟩ := p
    cases h2 : mb ρ1 with
    | none => simp [h1, h2] at e
    | some p2 =>
      obtain ⟨d2, ρ2⟩ := p2
      simp only [h1, h2, Option.bind_some] at e
      cases h3 : g d1 d2 with
      | none => simp [h3] at e
      | some z =>
        simp only [h3, Option.bind_some] at e
        refine ha σ H ρ B _ _ S h1 _ fun x H1 A1 r1 => ?_
        refine hb σ H1 ρ1 B _ _ A1.sr h2 _ fun y H2 A2 r2 => ?_
        refine hr B H2 x y _ _ _ A2.sr.bk (.vis (r1.mono (A2.sub A1.sr))) (.vis r2) h3 _ fun v H3 s3 r3 => ?_
        have A3 := A2.trans (Af.of_sub A2.sr s3)
        match z, h3, r3, e with
        | .bool true, h3, r3, e =>
          refine ⟨true, r3.booli, ?_⟩
          show tc σ H3 _
          cases h4 : md ρ2 with
          | none => simp [h4] at e
          | some p4 =>
            obtain ⟨d4, ρ4⟩ := p4
            cases h5 : g' d2 d4 with
            | none => simp [h4, h5] at e
            | some z' =>
              simp [h4, h5] at e
              obtain ⟨rfl, rfl⟩ := e
              refine hc σ H3 ρ2 B _ _ A3.sr h4 _ fun y4 H4 A4 r4 => ?_
              refine hr' B H4 y y4 _ _ _ A4.sr.bk (.vis ((r2.mono (hsub s3)).mono (A4.sub A3.sr))) (.vis r4) h5 _ fun v5 H5 s5 r5 => ?_
              exact q v5 H5 (((A1.trans A3).trans A4).trans (Af.of_sub A4.sr s5)) r5
        | .bool false, h3, r3, e =>
          simp at e
          obtain ⟨rfl, rfl⟩ := e
          exact ⟨false, r3.booli, q _ H3 (A1.trans A3) (.bl false)⟩
theorem je_chain {op op' : CmpOp} (ho : OpD c.K (In c N sc) (compareOp op) g) (ho' : OpD c.K (In c N sc) (compareOp op') g') (ha : JE c N sc a ma) (hb : JE c N sc b mb) (hc : JE c N sc d md)
    (hm : lastMarks [op, op'] [b, d] = false := by with_unfolding_all rfl) : JE c N sc (.Compare a [op, op'] [b, d] pos) (chainK g g' ma mb md) := by
  obtain ⟨r, h1, h2⟩ := ho.ex
  obtain ⟨r', h1', h2'⟩ := ho'.ex
  obtain ⟨ta, p1, s1⟩ := ha
  obtain ⟨tb, p2, s2⟩ := hb
  obtain ⟨tc, p3, s3⟩ := hc
  exact ⟨_, fun X I => pe_chain (h1 X I) (h1' X I) (p1 X I) (p2 X I) (p3 X I) hm, sd_chain s1 s2 s3 h2 h2'⟩
theorem jt_chain {op op' : CmpOp} (ho : OpD c.K (In c N sc) (compareOp op) g) (ho' : OpD c.K (In c N sc) (compareOp op') g') (ha : JE c N sc a ma) (hb : JE c N sc b mb) (hc : JE c N sc d md)
    (hm : lastMarks [op, op'] [b, d] = false := by with_unfolding_all rfl) : JT c N sc (.Compare a [op, op'] [b, d] pos) (tstK (chainK g g' ma mb md)) := by
  obtain ⟨r, h1, h2⟩ := ho.ex
  obtain ⟨r', h1', h2'⟩ := ho'.ex
  obtain ⟨ta, p1, s1⟩ := ha
  obtain ⟨tb, p2, s2⟩ := hb
  obtain ⟨tc, p3, s3⟩ := hc
  exact ⟨_, fun X I => pt_chain (h1 X I) (h1' X I) (p1 X I) (p2 X I) (p3 X I) hm, st_tst2 (sd_chain s1 s2 s3 h2 h2')⟩
theorem je_one {op} (h : JE c N sc a ma) : JE c N sc (.BoolOp op [a] pos) ma := by
  obtain ⟨t, h1, h2⟩ := h
  exact ⟨t, fun X I => pe_one (h1 X I), h2⟩
theorem je_and (h : JE c N sc a ma) (k : JE c N sc (.BoolOp .And (b :: rest) pos) mb) : JE c N sc (.BoolOp .And (a :: b :: rest) pos) (andV (tstK ma) mb) := by
  obtain ⟨t, h1, h2⟩ := h
  obtain ⟨u, k1, k2⟩ := k
  refine ⟨_, fun X I => pe_and (h1 X I) (k1 X I), fun σ H ρ B z ρ' S e Q q => ?_⟩
  unfold andV at e
  cases q1 : tstK ma ρ with
  | none => simp [q1] at e
  | some p =>
    obtain ⟨k, ρ1⟩ := p
    simp only [q1, Option.bind_some] at e
    refine h2 σ H ρ B _ ρ1 S (tstK_some q1) _ fun v H1 A1 r => ⟨k, r.booli, ?_⟩
    cases k with
    | true => exact k2 σ H1 ρ1 B z ρ' A1.sr (by simpa using e) Q fun v H2 A2 r2 => q v H2 (A1.trans A2) r2
    | false =>
      simp at e
      obtain ⟨rfl, rfl⟩ := e
      exact q _ H1 A1 (.bl false)
theorem je_or (h : JE c N sc a ma) (k : JE c N sc (.BoolOp .Or (b :: rest) pos) mb) : JE c N sc (.BoolOp .Or (a :: b :: rest) pos) (orV (tstK ma) mb) := by
  obtain ⟨t, h1, h2⟩ := h
  obtain ⟨u, k1, k2⟩ := k
  refine ⟨_, fun X I => pe_or (h1 X I) (k1 X I), fun σ H ρ B z ρ' S e Q q => ?_⟩
  unfold orV at e
  cases q1 : tstK ma ρ with
  | none => simp [q1] at e
  | some p =>
    obtain ⟨k, ρ1⟩ := p
    simp only [q1, Option.bind_some] at e
    refine h2 σ H ρ B _ ρ1 S (tstK_some q1) _ fun v H1 A1 r => ⟨k, r.booli, ?_⟩
    cases k with
    | false => exact k2 σ H1 ρ1 B z ρ' A1.sr (by simpa using e) Q fun v H2 A2 r2 => q v H2 (A1.trans A2) r2
    | true =>
      simp at e
      obtain ⟨rfl, rfl⟩ := e
      exact q _ H1 A1 (.bl true)
theorem je_not (h : JE c N sc a ma) : JE c N sc (.UnaryOp .Not a pos) (valK (notK (tstK ma))) := by
  obtain ⟨t, h1, h2⟩ := h
  refine ⟨_, fun X I => pe_not (h1 X I), fun σ H ρ B z ρ' S e Q q => ?_⟩
  unfold valK notK at e
  cases q1 : tstK ma ρ with
  | none => simp [q1] at e
  | some p =>
    obtain ⟨k, ρ1⟩ := p
    simp [q1] at e
    obtain ⟨rfl, rfl⟩ := e
    exact h2 σ H ρ B _ ρ1 S (tstK_some q1) _ fun v H1 A1 r => ⟨k, r.booli, q _ H1 A1 (.bl _)⟩
theorem je_if (ht : JT c N sc d ta) (ha : JE c N sc a ma) (hb : JE c N sc b mb) : JE c N sc (.IfExp d a b pos) (ifK ta ma mb) := by
  obtain ⟨t, h1, h2⟩ := ht
  obtain ⟨u, k1, k2⟩ := ha
  obtain ⟨w, l1, l2⟩ := hb
  refine ⟨_, fun X I => pe_ifExp (h1 X I) (k1 X I) (l1 X I), fun σ H ρ B z ρ' S e Q q => ?_⟩
  unfold ifK at e
  cases q1 : ta ρ with
  | none => simp [q1] at e
  | some p =>
    obtain ⟨k, ρ1⟩ := p
    simp only [q1, Option.bind_some] at e
    refine h2 σ H ρ B k ρ1 S q1 _ fun H1 A1 => ?_
    cases k with
    | true => exact k2 σ H1 ρ1 B z ρ' A1.sr (by simpa using e) Q fun v H2 A2 r2 => q v H2 (A1.trans A2) r2
    | false => exact l2 σ H1 ρ1 B z ρ' A1.sr (by simpa using e) Q fun v H2 A2 r2 => q v H2 (A1.trans A2) r2
end

/-! ### displays, arguments -/
def SA (K : Frag) (t : TA) (m : En → Option (List D × En)) : Prop :=
  ∀ σ H ρ B ds ρ', SR K B σ H ρ → m ρ = some (ds, ρ') → ∀ Q : List V → Hp → Prop, (∀ vs H', Af K B σ H ρ H' ρ' → RpL K (hide B H') vs ds → Q vs H') → t σ H Q
def JL (c : C0) (N : List Str) (sc : Scope) (es : List Expr) (m : En → Option (List D × En)) : Prop := ∃ t, (∀ X, In c N sc X → PA X es t) ∧ SA c.K t m
def nilK : En → Option (List D × En) := fun ρ => some ([], ρ)
def consK (ma : En → Option (D × En)) (mr : En → Option (List D × En)) : En → Option (List D × En) := fun ρ => (ma ρ).bind fun p => (mr p.2).map fun q => (p.1 :: q.1, q.2)
def tupK (m : En → Option (List D × En)) : En → Option (D × En) := fun ρ => (m ρ).bind fun p => if p.1.length ≤ 100000 then some (.tuple p.1, p.2) else none
def lstK (m : En → Option (List D × En)) : En → Option (D × En) := fun ρ => (m ρ).bind fun p => if p.1.length ≤ 100000 then some (.list p.1, p.2) else none
section
variable {c : C0} {N : List Str} {sc : Scope} {e : Expr} {es : List Expr} {ma : En → Option (D × En)} {mr : En → Option (List D × En)} {pos : Pos} {K : Frag}
theorem jl_nil : JL c N sc [] nilK := ⟨_, fun _ _ => pa_nil, fun σ H ρ B ds ρ' S e Q q => by
  cases e
  exact q [] H (Af.refl S) .nil⟩
theorem jl_cons (h : JE c N sc e ma) (k : JL c N sc es mr) (hs : ∀ env, starEach (e :: es) env = (false, eval e env) :: starEach es env := by intros; rfl) : JL c N sc (e :: es) (consK ma mr) := by
  obtain ⟨t, h1, h2⟩ := h
  obtain ⟨u, k1, k2⟩ := k
  refine ⟨_, fun X I => pa_cons (h1 X I) (k1 X I) (hs _), fun σ H ρ B ds ρ' S e Q q => ?_⟩
  unfold consK at e
  cases q1 : ma ρ with
  | none => simp [q1] at e
  | some p =>
    obtain ⟨d, ρ1⟩ := p
    cases q2 : mr ρ1 with
    | none => simp [q1, q2] at e
    | some p2 =>
      obtain ⟨d2, ρ2⟩ := p2
      simp [q1, q2] at e
      obtain ⟨rfl, rfl⟩ := e
      refine h2 σ H ρ B _ _ S q1 _ fun v H1 A1 r1 => ?_
      exact k2 σ H1 ρ1 B _ _ A1.sr q2 _ fun vs H2 A2 r2 => q _ H2 (A1.trans A2) (.cons (r1.mono (A2.sub A1.sr)) r2)
theorem own_new {H : Hp} {B : Addr → Bool} {p : Addr} {vs : List V} {ds : List D} (h : H p = none) (r : RpL K (hide B H) vs ds) : OwnAt K (hide (ins p B) (upd H p (.lst vs))) (upd H p (.lst vs) p) (.list ds) :=
  ⟨vs, upd_same, r.mono (sub_ins h (hsub (Sub.new h)))⟩
theorem sz5 {n : Nat} (h : n ≤ 100000) : n ≤ sizeLine := Nat.le_trans h (by decide)
/-- a new tuple, its object known -/
theorem tnew {X : Cx} {pins : List (Addr × Obj)} {σ : L2.St} {H : Hp} {s : Shared} {xs : List V} {us : List Value} (I : Inv X pins σ H s) (r : Vals xs us) (z : xs.length ≤ sizeLine) :
    Inv X pins σ (upd H s.heap.objs.size (.frz { cls := .type "tuple", data := .seq us.toArray } (.tup xs))) { s with heap := s.heap.push { cls := .type "tuple", data := .seq us.toArray } } :=
  I.laid (t' := s.toks) (fun b u e => Heap.get?_push_of_some _ e) (Nat.le_refl _) ⟨Heap.get?_push_size _ rfl, z, us, r, ⟨_, Heap.get?_push_size _ rfl, rfl, _, rfl⟩⟩
def tTupX (t : TA) : TE := fun σ H Q => t σ H fun xs H1 => xs.length ≤ sizeLine ∧ ∀ p o, ExT o → H1 p = none → Q (.ref p) (upd H1 p (.frz o (.tup xs)))
theorem pe_tupX {X : Cx} {es : List Expr} {t : TA} {x1} {pos : Pos} (h : PA X es t) : PE X (.Tuple es x1 pos) (tTupX t) := by
  refine ⟨fun pins s σ H Q I hq => ?_⟩
  refine wpAny_Tuple_spliced (thn (h.run pos pins s σ H _ I hq) fun us s1 ⟨xs, H1, I1, r, z, q⟩ => ⟨by rw [← r.length]; exact z, ?_⟩)
  exact ⟨.ref s1.heap.objs.size, _, tnew I1 r z, rfl, q _ _ ⟨rfl, rfl⟩ (I1.hok.fresh (Nat.le_refl _))⟩
theorem tup_new {K : Frag} {B : Addr → Bool} {H : Hp} {p : Addr} {o : Obj} {vs : List V} {ds : List D} (bk : ∀ a, B a = true → ∃ o, H a = some o) (x : ExT o) (h : H p = none) (r : RpL K (hide B H) vs ds) : Sub H (upd H p (.frz o (.tup vs))) ∧ Rp K (hide B (upd H p (.frz o (.tup vs)))) (.ref p) (.tuple ds) := by
  have bp : B p = false := by
    cases q : B p with
    | false => rfl
    | true => obtain ⟨o, e⟩ := bk p q; rw [h] at e; cases e
  exact ⟨Sub.new h, .tup (.inl (.inr ⟨o, hide_of bp upd_same⟩)) (r.mono (hsub (Sub.new h))) fun _ => ⟨o, _, hide_of bp upd_same, x⟩⟩
theorem tup_newN {K : Frag} {B : Addr → Bool} {H : Hp} {p : Addr} {vs : List V} {ds : List D} (bk : ∀ a, B a = true → ∃ o, H a = some o) (n : needX ds = false) (h : H p = none) (r : RpL K (hide B H) vs ds) : Sub H (upd H p (.tup vs)) ∧ Rp K (hide B (upd H p (.tup vs))) (.ref p) (.tuple ds) := by
  have bp : B p = false := by
    cases q : B p with
    | false => rfl
    | true => obtain ⟨o, e⟩ := bk p q; rw [h] at e; cases e
  exact ⟨Sub.new h, .tup (.inl (.inl (hide_of bp upd_same))) (r.mono (hsub (Sub.new h))) fun y => by rw [n] at y; cases y⟩
theorem je_tup {x1} (h : JL c N sc es mr) : JE c N sc (.Tuple es x1 pos) (tupK mr) := by
  obtain ⟨t, h1, h2⟩ := h
  refine ⟨_, fun X I => pe_tupX (h1 X I), fun σ H ρ B ds ρ' S e Q q => ?_⟩
  unfold tupK at e
  cases q1 : mr ρ with
  | none => simp [q1] at e
  | some p =>
    obtain ⟨d, ρ1⟩ := p
    simp [q1] at e
    obtain ⟨hl, rfl, rfl⟩ := e
    refine h2 σ H ρ B _ _ S q1 _ fun vs H1 A1 r1 => ⟨by rw [r1.length]; exact sz5 hl, fun p o ho hp => ?_⟩
    obtain ⟨s1, r2⟩ := tup_new A1.sr.bk ho hp r1
    exact q _ _ (A1.trans (Af.of_sub A1.sr s1)) r2
theorem back_none {B : Addr → Bool} {σ : St} {H H' : Hp} {ρ ρ' : En} (A : Af K B σ H ρ H' ρ') {l : Addr} (h : H' l = none) : H l = none := by
  cases z0 : H l with
  | none => rfl
  | some o =>
    obtain ⟨o1, z1⟩ := A.grow l o z0
    rw [h] at z1
    cases z1
theorem jf_lst (h : JL c N sc es mr) : JF c N sc (.List es pos) (lstK mr) := by
  obtain ⟨t, h1, h2⟩ := h
  refine ⟨_, fun X I => pe_lst (h1 X I), fun σ H ρ B ds ρ' S e Q q => ?_⟩
  unfold lstK at e
  cases q1 : mr ρ with
  | none => simp [q1] at e
  | some p =>
    obtain ⟨d, ρ1⟩ := p
    simp [q1] at e
    obtain ⟨hl, rfl, rfl⟩ := e
    refine h2 σ H ρ B _ _ S q1 _ fun vs H1 A1 r1 => ⟨by rw [r1.length]; exact sz5 hl, fun p hp => ?_⟩
    exact q _ _ (A1.trans (Af.of_sub A1.sr (Sub.new hp))) (A1.sr.ins hp (Sub.new hp) ⟨_, upd_same⟩) (back_none A1 hp) (own_new hp r1)
end

/-! ### calls of the text's own defs -/
inductive Ar where
  | v (d : D)
  | b (i : Nat)
def ArOk (K : Frag) (B : Addr → Bool) (σ : St) (H : Hp) (ρ : En) (v : V) : Ar → Prop
  | .v d => Rp K (hide B H) v d
  | .b i => σ[i]? = some (some v) ∧ ∃ s, ρ[i]? = some (some s) ∧ s.mu = true
def ArsOk (K : Frag) (B : Addr → Bool) (σ : St) (H : Hp) (ρ : En) : List V → List Ar → Prop
  | [], [] => True
  | v :: vs, a :: as => ArOk K B σ H ρ v a ∧ ArsOk K B σ H ρ vs as
  | _, _ => False
def SG (K : Frag) (t : TA) (m : En → Option (List Ar × En)) : Prop :=
  ∀ σ H ρ B as ρ', SR K B σ H ρ → m ρ = some (as, ρ') → ∀ Q : List V → Hp → Prop, (∀ vs H', Af K B σ H ρ H' ρ' → ArsOk K B σ H' ρ' vs as → Q vs H') → t σ H Q
def JG (c : C0) (N : List Str) (sc : Scope) (es : List Expr) (m : En → Option (List Ar × En)) : Prop := ∃ t, (∀ X, In c N sc X → PA X es t) ∧ SG c.K t m
def gnil : En → Option (List Ar × En) := fun ρ => some ([], ρ)
def gval (ma : En → Option (D × En)) (mr : En → Option (List Ar × En)) : En → Option (List Ar × En) := fun ρ => (ma ρ).bind fun p => (mr p.2).map fun q => (.v p.1 :: q.1, q.2)
def gbor (i : Nat) (mr : En → Option (List Ar × En)) : En → Option (List Ar × En) := fun ρ => match ρ[i]? with
  | some (some s) => if s.mu = true then (mr ρ).map fun q => (.b i :: q.1, q.2) else none
  | _ => none
def toSl (ρ : En) : Ar → Option Sl
  | .v d => some (.val d)
  | .b i => match ρ[i]? with
    | some (some s) => if s.mu = true then some (.bor s.d) else none
    | _ => none
def toSls (ρ : En) : List Ar → Option (List Sl)
  | [] => some []
  | a :: r => (toSl ρ a).bind fun s => (toSls ρ r).map fun q => s :: q
def setd (i : Nat) (d : D) (ρ : En) : En := match ρ[i]? with
  | some (some s) => ρ.set i (some (s.wi d))
  | _ => ρ
def giveBack : List Ar → List Sl → En → En
  | .b i :: r, s :: q, ρ => giveBack r q (setd i s.d ρ)
  | .v _ :: r, _ :: q, ρ => giveBack r q ρ
  | _, _, ρ => ρ
/-- no slot is lent twice -/
def lentOnce : List Ar → Bool
  | [] => true
  | .v _ :: r => lentOnce r
  | .b i :: r => (r.all fun a => match a with
    | .b j => !(i == j)
    | .v _ => true) && lentOnce r
abbrev Fm := List Sl → Option (D × List Sl)
def callK (fm : Fm) (m : En → Option (List Ar × En)) : En → Option (D × En) := fun ρ =>
  (m ρ).bind fun p => if lentOnce p.1 = true then (toSls p.2 p.1).bind fun as => (fm as).map fun q => (q.1, giveBack p.1 q.2 p.2) else none
/-- what a def promises -/
def spD (K : Frag) (fm : Fm) : Sp := fun vs H Q _ => ∃ (B : Addr → Bool) (as : List Sl) (d : D) (as' : List Sl), fm as = some (d, as') ∧ SR K B (vs.map some) H (as.map some) ∧
  ∀ v H', Af K B (vs.map some) H (as.map some) H' (as'.map some) → Rp K (hide B H') v d → Q v H'
section
variable {K : Frag} {B : Addr → Bool} {σ : St} {H H' : Hp} {ρ ρ' : En}
theorem ArOk.mono (A : Af K B σ H ρ H' ρ') (S : SR K B σ H ρ) {v : V} : ∀ {a : Ar}, ArOk K B σ H ρ v a → ArOk K B σ H' ρ' v a
  | .v d, h => Rp.mono (A.sub S) h
  | .b i, ⟨h, s, e, m⟩ => by
    have k := A.kin i
    rw [e] at k
    obtain ⟨t, e', m'⟩ := k.mu
    exact ⟨h, t, e', m'.trans m⟩
theorem ArsOk.mono (A : Af K B σ H ρ H' ρ') (S : SR K B σ H ρ) : ∀ {vs : List V} {as : List Ar}, ArsOk K B σ H ρ vs as → ArsOk K B σ H' ρ' vs as
  | [], [], h => trivial
  | v :: vs, a :: as, ⟨h1, h2⟩ => ⟨ArOk.mono A S h1, ArsOk.mono A S h2⟩
  | [], _ :: _, h => h.elim
  | _ :: _, [], h => h.elim
theorem setd_get {i j : Nat} {d : D} {ρ : En} : (setd i d ρ)[j]? = if i = j then (match ρ[j]? with
    | some (some s) => some (some (s.wi d))
    | o => o) else ρ[j]? := by
  unfold setd
  by_cases e : i = j
  · subst e
    rw [if_pos rfl]
    split
    · rename_i s h
      have hl : i < ρ.length := by
        rcases List.getElem?_eq_some_iff.mp h with ⟨q, _⟩
        exact q
      rw [List.getElem?_set_self hl]
    · rfl
  · rw [if_neg e]
    split
    · rw [List.getElem?_set_ne e]
    · rfl
theorem Sl.wi_mu (s : Sl) (d : D) : (s.wi d).mu = s.mu := by cases s <;> rfl
theorem Sl.wi_d (s : Sl) (d : D) : (s.wi d).d = d := by cases s <;> rfl
/-- what stands in a slot behind the giving back -/
theorem giveBack_get : ∀ (ars : List Ar) (ss : List Sl) (ρ : En) (j : Nat), lentOnce ars = true → ars.length = ss.length →
    (giveBack ars ss ρ)[j]? = ρ[j]? ∧ (∀ k : Nat, ars[k]? ≠ some (.b j)) ∨ ∃ (k : Nat) (s : Sl), ars[k]? = some (.b j) ∧ ss[k]? = some s ∧ (giveBack ars ss ρ)[j]? = (match ρ[j]? with
      | some (some u) => some (some (u.wi s.d))
      | o => o)
  | [], [], ρ, j, _, _ => .inl ⟨rfl, fun k => by simp⟩
  | .v d :: r, s :: q, ρ, j, h, hl => by
    have hr : lentOnce r = true := h
    rcases giveBack_get r q ρ j hr (by simpa using hl) with ⟨e, n⟩ | ⟨k, s', a, b, e⟩
    · refine .inl ⟨e, fun k => ?_⟩
      cases k with
      | zero => simp
      | succ k => simpa using n k
    · exact .inr ⟨k + 1, s', by simpa using a, by simpa using b, e⟩
  | .b i :: r, s :: q, ρ, j, h, hl => by
    have h' : ((r.all fun a => match a with
      | .b j => !(i == j)
      | .v _ => true) && lentOnce r) = true := h
    rw [Bool.and_eq_true] at h'
    obtain ⟨hn, hr⟩ := h'
    have ni : ∀ k : Nat, r[k]? ≠ some (.b i) := fun k e => by
      have q := (List.all_eq_true.mp hn) _ (List.mem_of_getElem? e)
      simp at q
    show (giveBack r q (setd i s.d ρ))[j]? = ρ[j]? ∧ _ ∨ _
    rcases giveBack_get r q (setd i s.d ρ) j hr (by simpa using hl) with ⟨e, n⟩ | ⟨k, s', a, b, e⟩
    · by_cases ij : i = j
      · subst ij
        refine .inr ⟨0, s, rfl, rfl, ?_⟩
        show (giveBack r q (setd i s.d ρ))[i]? = _
        rw [e, setd_get, if_pos rfl]
      · rw [setd_get, if_neg ij] at e
        refine .inl ⟨e, fun k => ?_⟩
        cases k with
        | zero => simpa using ij
        | succ k => simpa using n k
    · have ij : i ≠ j := fun z => ni k (by rw [z]; exact a)
      rw [setd_get, if_neg ij] at e
      exact .inr ⟨k + 1, s', by simpa using a, by simpa using b, e⟩
  | [], _ :: _, _, _, _, hl => by simp at hl
  | _ :: _, [], _, _, _, hl => by simp at hl
theorem toSls_get {ρ : En} : ∀ {ars : List Ar} {ss : List Sl}, toSls ρ ars = some ss → ars.length = ss.length ∧ ∀ (k : Nat) (a : Ar), ars[k]? = some a → ∃ s, ss[k]? = some s ∧ toSl ρ a = some s
  | [], ss, h => by
    cases h
    exact ⟨rfl, fun k a e => by simp at e⟩
  | a :: r, ss, h => by
    have h' : ((toSl ρ a).bind fun s => (toSls ρ r).map fun q => s :: q) = some ss := h
    cases q1 : toSl ρ a with
    | none => simp [q1] at h'
    | some s =>
      cases q2 : toSls ρ r with
      | none => simp [q1, q2] at h'
      | some q =>
        simp [q1, q2] at h'
        subst h'
        obtain ⟨l1, l2⟩ := toSls_get q2
        refine ⟨by simp [l1], fun k a' e => ?_⟩
        cases k with
        | zero =>
          simp at e
          subst e
          exact ⟨s, rfl, q1⟩
        | succ k => simpa using l2 k a' (by simpa using e)
theorem ArsOk.get : ∀ {vs : List V} {as : List Ar}, ArsOk K B σ H ρ vs as → vs.length = as.length ∧ ∀ (k : Nat) (a : Ar), as[k]? = some a → ∃ v, vs[k]? = some v ∧ ArOk K B σ H ρ v a
  | [], [], _ => ⟨rfl, fun k a e => by simp at e⟩
  | v :: vs, a :: as, ⟨h1, h2⟩ => by
    obtain ⟨l1, l2⟩ := ArsOk.get h2
    refine ⟨by simp [l1], fun k a' e => ?_⟩
    cases k with
    | zero =>
      simp at e
      subst e
      exact ⟨v, rfl, h1⟩
    | succ k => simpa using l2 k a' (by simpa using e)
  | [], _ :: _, h => h.elim
  | _ :: _, [], h => h.elim
theorem lent_inj : ∀ {ars : List Ar} {k l : Nat} {j : Nat}, lentOnce ars = true → ars[k]? = some (.b j) → ars[l]? = some (.b j) → k = l
  | [], k, l, j, _, e, _ => by simp at e
  | .v d :: r, k, l, j, h, e, f => by
    cases k with
    | zero => simp at e
    | succ k =>
      cases l with
      | zero => simp at f
      | succ l => exact congrArg (· + 1) (lent_inj (show lentOnce r = true from h) (by simpa using e) (by simpa using f))
  | .b i :: r, k, l, j, h, e, f => by
    have h' : ((r.all fun a => match a with
      | .b j => !(i == j)
      | .v _ => true) && lentOnce r) = true := h
    rw [Bool.and_eq_true] at h'
    obtain ⟨hn, hr⟩ := h'
    have ni : ∀ k : Nat, r[k]? ≠ some (.b i) := fun k e => by
      have q := (List.all_eq_true.mp hn) _ (List.mem_of_getElem? e)
      simp at q
    cases k with
    | zero =>
      cases l with
      | zero => rfl
      | succ l =>
        simp at e f
        subst e
        exact absurd f (ni l)
    | succ k =>
      cases l with
      | zero =>
        simp at e f
        subst f
        exact absurd e (ni k)
      | succ l => exact congrArg (· + 1) (lent_inj hr (by simpa using e) (by simpa using f))
theorem map_some_get {α : Type} {l : List α} {k : Nat} {x : Option α} (h : (l.map some)[k]? = some x) : ∃ y, l[k]? = some y ∧ x = some y := by
  rw [List.getElem?_map] at h
  cases q : l[k]? with
  | none => rw [q] at h; cases h
  | some y => rw [q] at h; exact ⟨y, rfl, (Option.some.inj h).symm⟩
theorem get_map_some {α : Type} {l : List α} {k : Nat} {y : α} (h : l[k]? = some y) : (l.map some)[k]? = some (some y) := by rw [List.getElem?_map, h]; rfl
/-- the callee's slots at its entry -/
theorem call_sr {vs : List V} {ars : List Ar} {ss : List Sl} (S : SR K B σ H ρ) (ha : ArsOk K B σ H ρ vs ars) (h1 : lentOnce ars = true) (h2 : toSls ρ ars = some ss) : SR K B (vs.map some) H (ss.map some) ∧
    ∀ b, Mine (vs.map some) (ss.map some) b → ∃ (k j : Nat), ars[k]? = some (.b j) ∧ vs[k]? = some (.ref b) ∧ σ[j]? = some (some (.ref b)) := by
  obtain ⟨l1, g1⟩ := toSls_get h2
  obtain ⟨l2, g2⟩ := ha.get
  have at_ : ∀ (k : Nat) (s : Sl), ss[k]? = some s → ∃ a v, ars[k]? = some a ∧ vs[k]? = some v ∧ toSl ρ a = some s ∧ ArOk K B σ H ρ v a := fun k s e => by
    have hk : k < ss.length := (List.getElem?_eq_some_iff.mp e).1
    obtain ⟨a, ea⟩ : ∃ a, ars[k]? = some a := ⟨_, List.getElem?_eq_getElem (by omega)⟩
    obtain ⟨s', e1, e2⟩ := g1 k a ea
    rw [e] at e1
    cases e1
    obtain ⟨v, e3, e4⟩ := g2 k a ea
    exact ⟨a, v, ea, e3, e2, e4⟩
  have bor : ∀ (k : Nat) (s : Sl), ss[k]? = some s → s.mu = true → ∃ (j : Nat) (u : Sl) (v : V), ars[k]? = some (.b j) ∧ vs[k]? = some v ∧ σ[j]? = some (some v) ∧ ρ[j]? = some (some u) ∧ u.mu = true ∧ s = .bor u.d := fun k s e m => by
    obtain ⟨a, v, e1, e2, e3, e4⟩ := at_ k s e
    cases a with
    | v d => cases e3; cases m
    | b j =>
      obtain ⟨f1, u, f2, f3⟩ := e4
      simp [toSl, f2, f3] at e3
      exact ⟨j, u, v, e1, e2, f1, f2, f3, e3.symm⟩
  refine ⟨⟨by simp; omega, fun i d e => ?_, fun i s e m => ?_, fun i j s t l e1 m1 e2 m2 e3 e4 => ?_, S.bk⟩, fun b hb => ?_⟩
  · obtain ⟨s, e1, e2⟩ := map_some_get e
    cases e2
    obtain ⟨a, v, f1, f2, f3, f4⟩ := at_ i _ e1
    refine ⟨v, get_map_some f2, ?_⟩
    cases a with
    | v d' => cases f3; exact f4
    | b j =>
      obtain ⟨_, u, f5, f6⟩ := f4
      simp [toSl, f5, f6] at f3
  · obtain ⟨s', e1, e2⟩ := map_some_get e
    cases e2
    obtain ⟨j, u, v, f1, f2, f3, f4, f5, f6⟩ := bor i s e1 m
    obtain ⟨l, p1, p2, p3⟩ := S.mu_ j u f4 f5
    rw [p1] at f3
    cases f3
    subst f6
    exact ⟨l, get_map_some f2, p2, p3⟩
  · obtain ⟨s', a1, a2⟩ := map_some_get e1
    cases a2
    obtain ⟨t', b1, b2⟩ := map_some_get e2
    cases b2
    obtain ⟨j1, u1, v1, f1, f2, f3, f4, f5, f6⟩ := bor i s a1 m1
    obtain ⟨j2, u2, v2, k1, k2, k3, k4, k5, k6⟩ := bor j t b1 m2
    rw [get_map_some f2] at e3
    cases e3
    rw [get_map_some k2] at e4
    cases e4
    have ej : j1 = j2 := S.inj j1 j2 u1 u2 l f4 f5 k4 k5 f3 k3
    subst ej
    exact lent_inj h1 f1 k1
  · obtain ⟨k, s, e1, m, e2⟩ := hb
    obtain ⟨s', a1, a2⟩ := map_some_get e1
    cases a2
    obtain ⟨j, u, v, f1, f2, f3, f4, f5, f6⟩ := bor k s a1 m
    rw [get_map_some f2] at e2
    cases e2
    exact ⟨k, j, f1, f2, f3⟩
/-- the caller's slots behind the call -/
theorem call_back {vs : List V} {ars : List Ar} {ss ss' : List Sl} (S : SR K B σ H ρ) (ha : ArsOk K B σ H ρ vs ars) (h1 : lentOnce ars = true) (h2 : toSls ρ ars = some ss) (A : Af K B (vs.map some) H (ss.map some) H' (ss'.map some)) :
    Af K B σ H ρ H' (giveBack ars ss' ρ) := by
  obtain ⟨S1, M1⟩ := call_sr S ha h1 h2
  obtain ⟨l1, g1⟩ := toSls_get h2
  obtain ⟨l2, g2⟩ := ha.get
  have l3 : ars.length = ss'.length := by
    have q1 := S1.len
    have q2 := A.sr.len
    simp at q1 q2
    omega
  have hs : Sub (hide B H) (hide B H') := A.sub S1
  have gb := fun j => giveBack_get ars ss' ρ j h1 l3
  have kin : Kin ρ (giveBack ars ss' ρ) := fun j => by
    rcases gb j with ⟨e, _⟩ | ⟨k, s, a, b, e⟩
    · rw [e]; exact Ks.refl _
    · obtain ⟨v, _, f1, u, f2, f3⟩ := g2 k _ a
      rw [e, f2]
      cases u with
      | val d => cases f3
      | own d => trivial
      | bor d => trivial
  have mine : ∀ b, Mine (vs.map some) (ss.map some) b → Mine σ ρ b := fun b hb => by
    obtain ⟨k, j, a1, a2, a3⟩ := M1 b hb
    obtain ⟨v, e, f1, u, f2, f3⟩ := g2 k _ a1
    exact ⟨j, u, f2, f3, a3⟩
  refine ⟨⟨?_, fun i d e => ?_, fun i s e m => ?_, fun i j s t l e1 m1 e2 m2 e3 e4 => ?_, fun a h => ?_⟩, fun b o e n => A.keep b o e fun m => n (mine b m), A.grow, kin⟩
  · have : ∀ (as : List Ar) (q : List Sl) (ρ : En), (giveBack as q ρ).length = ρ.length := fun as => by
      induction as with
      | nil => intro q ρ; cases q <;> rfl
      | cons a r ih =>
        intro q ρ
        cases q with
        | nil => cases a <;> rfl
        | cons s q =>
          cases a with
          | v d => exact ih q ρ
          | b i =>
            show (giveBack r q (setd i s.d ρ)).length = _
            rw [ih]
            unfold setd
            split
            · rw [List.length_set]
            · rfl
    rw [this]
    exact S.len
  · have k := kin i
    rw [e] at k
    have e0 : ρ[i]? = some (some (.val d)) := by
      match q : ρ[i]?, k with
      | some (some (.val d')), k =>
        have : d' = d := k
        rw [this]
    obtain ⟨v, p1, p2⟩ := S.val i d e0
    exact ⟨v, p1, p2.mono hs⟩
  · have k := kin i
    rw [e] at k
    obtain ⟨u, e0, m0⟩ := k.mu'
    obtain ⟨l, p1, p2, p3⟩ := S.mu_ i u e0 (m0.trans m)
    refine ⟨l, p1, p2, ?_⟩
    rcases gb i with ⟨f, n⟩ | ⟨k', s', a, b, f⟩
    · rw [f, e0] at e
      have es : u = s := Option.some.inj (Option.some.inj e)
      subst es
      obtain ⟨o, p4⟩ := p3.ne
      have nm : ¬ Mine (vs.map some) (ss.map some) l := fun z => by
        obtain ⟨k', j, a1, a2, a3⟩ := M1 l z
        obtain ⟨v, _, f1, u', f2, f3⟩ := g2 k' _ a1
        have : i = j := S.inj i j u u' l e0 (m0.trans m) f2 f3 p1 a3
        subst this
        exact n k' a1
      rw [A.keep l o p4 nm]
      rw [p4] at p3
      exact p3.mono hs
    · rw [f, e0] at e
      have es : u.wi s'.d = s := Option.some.inj (Option.some.inj e)
      subst es
      rw [Sl.wi_d]
      obtain ⟨v, b2, f1, u', f2, f3⟩ := g2 k' _ a
      rw [e0] at f2
      cases f2
      rw [p1] at f1
      cases f1
      -- the callee's slot
      have kk := A.kin k'
      have b0 : ss[k']? = some (.bor u.d) := by
        obtain ⟨s0, c1, c2⟩ := g1 k' _ a
        simp [toSl, e0, f3] at c2
        rw [c1, ← c2]
      rw [get_map_some b0, get_map_some b] at kk
      have sb : ∃ d', s' = .bor d' := by
        cases s' with
        | bor d' => exact ⟨d', rfl⟩
        | val d' => exact kk.elim
        | own d' => exact kk.elim
      obtain ⟨d', rfl⟩ := sb
      obtain ⟨l', c1, c2, c3⟩ := A.sr.mu_ k' _ (get_map_some b) rfl
      rw [get_map_some b2] at c1
      cases c1
      exact c3
  · have k1 := kin i
    rw [e1] at k1
    obtain ⟨u1, a1, n1⟩ := k1.mu'
    have k2 := kin j
    rw [e2] at k2
    obtain ⟨u2, a2, n2⟩ := k2.mu'
    exact S.inj i j u1 u2 l a1 (n1.trans m1) a2 (n2.trans m2) e3 e4
  · obtain ⟨o, e⟩ := S.bk a h
    exact A.grow a o e
end
section
variable {c : C0} {N : List Str} {sc : Scope} {e : Expr} {es : List Expr} {ma : En → Option (D × En)} {mr : En → Option (List Ar × En)} {pos p : Pos} {K : Frag} {i : Nat} {x : Str}
theorem jg_nil : JG c N sc [] gnil := ⟨_, fun _ _ => pa_nil, fun σ H ρ B ds ρ' S e Q q => by
  cases e
  exact q [] H (Af.refl S) trivial⟩
theorem jg_val (h : JE c N sc e ma) (k : JG c N sc es mr) (hs : ∀ env, starEach (e :: es) env = (false, eval e env) :: starEach es env := by intros; rfl) : JG c N sc (e :: es) (gval ma mr) := by
  obtain ⟨t, h1, h2⟩ := h
  obtain ⟨u, k1, k2⟩ := k
  refine ⟨_, fun X I => pa_cons (h1 X I) (k1 X I) (hs _), fun σ H ρ B ds ρ' S e Q q => ?_⟩
  unfold gval at e
  cases q1 : ma ρ with
  | none => simp [q1] at e
  | some p =>
    obtain ⟨d, ρ1⟩ := p
    cases q2 : mr ρ1 with
    | none => simp [q1, q2] at e
    | some p2 =>
      obtain ⟨d2, ρ2⟩ := p2
      simp [q1, q2] at e
      obtain ⟨rfl, rfl⟩ := e
      refine h2 σ H ρ B _ _ S q1 _ fun v H1 A1 r1 => ?_
      exact k2 σ H1 ρ1 B _ _ A1.sr q2 _ fun vs H2 A2 r2 => q _ H2 (A1.trans A2) ⟨r1.mono (A2.sub A1.sr), r2⟩
theorem jg_bor (hN : N[i]? = some x) (hv : Vis sc x) (k : JG c N sc es mr) (hd : (x == ("__debug__" : Str)) = false := by decide) (hcd : (x == ("__classdict__" : Str)) = false := by decide) : JG c N sc (.Name x p :: es) (gbor i mr) := by
  obtain ⟨u, k1, k2⟩ := k
  refine ⟨_, fun X I => pa_cons (pe_var (by rw [I.N]; exact hN) (I.vis hv) hd hcd) (k1 X I), fun σ H ρ B ds ρ' S e Q q => ?_⟩
  unfold gbor at e
  split at e
  · rename_i s hs
    split at e
    · rename_i hm
      cases q2 : mr ρ with
      | none => simp [q2] at e
      | some p2 =>
        obtain ⟨d2, ρ2⟩ := p2
        simp [q2] at e
        obtain ⟨rfl, rfl⟩ := e
        obtain ⟨l, g1, _⟩ := S.mu_ i s hs hm
        refine ⟨.ref l, g1, ?_⟩
        refine k2 σ H ρ B _ _ S q2 _ fun vs H2 A2 r2 => q _ H2 A2 ⟨⟨g1, ?_⟩, r2⟩
        have kk := A2.kin i
        rw [hs] at kk
        obtain ⟨t, e', m'⟩ := kk.mu
        exact ⟨t, e', m'.trans hm⟩
    · cases e
  · cases e
theorem sd_call {ta : TA} {fm : Fm} {E : XK} (h : SG K ta mr) : Sd K (tCall (spD K fm) [] E ta) (callK fm mr) := fun σ H ρ B d ρ' S e Q q => by
  unfold callK at e
  cases q1 : mr ρ with
  | none => simp [q1] at e
  | some p =>
    obtain ⟨ars, ρ1⟩ := p
    simp only [q1, Option.bind_some] at e
    split at e
    · rename_i hl
      cases q2 : toSls ρ1 ars with
      | none => simp [q2] at e
      | some ss =>
        cases q3 : fm ss with
        | none => simp [q2, q3] at e
        | some r =>
          obtain ⟨z, ss'⟩ := r
          simp [q2, q3] at e
          obtain ⟨rfl, rfl⟩ := e
          refine h σ H ρ B _ _ S q1 _ fun vs H1 A1 ha => ?_
          show spD K fm (vs ++ []) H1 Q E
          rw [List.append_nil]
          refine ⟨B, ss, z, ss', q3, (call_sr A1.sr ha hl q2).1, fun v H2 A2 r2 => ?_⟩
          exact q v H2 (A1.trans (call_back A1.sr ha hl q2 A2)) r2
    · cases e
/-- a def of the text as its data say -/
def FnD (c : C0) (k : Nat) (x : Str) (ps : List Str) (fm : Fm) : Prop :=
  ∃ (f : Addr) (fd : FuncData), FnOk c.P c.w c.K c.mg c.base CX0 k f fd ps (spD c.K fm) ∧ c.mg x = some (.ref f) ∧ PySem.W.keepIn c.K (.ref f) = true ∧ Binds c.K fd ps []
theorem je_call {fm : Fm} {ps : List Str} {k : Nat} (F : FnD c k x ps fm) (hk : k ≤ c.k) (hg : sc.names.lookup x = some .globalImplicit) (ha : JG c N sc (e :: es) mr)
    (hdb : (x == ("__debug__" : Str)) = false := by decide) (he : ∀ env, starEach (e :: es) env = (false, eval e env) :: starEach es env := by intros; rfl) (hpl : ∀ env, (backTo pos (starEach es env)).any (·.1) = false := by intros; rfl) :
    JE c N sc (.Call (.Name x p) (e :: es) [] pos) (callK fm mr) := by
  obtain ⟨f, fd, F, h1, h2, h3⟩ := F
  obtain ⟨t, p1, s1⟩ := ha
  refine ⟨tCall (spD c.K fm) [] E0 t, fun X I => ?_, sd_call s1⟩
  obtain ⟨a1, a2, a3, a4, a5, a6, a7, a8, a9, a10, a11⟩ := id I
  have F' : FnOk X.prog X.w X.K X.mg X.base CX0 k f fd ps (spD c.K fm) := by
    rw [a1, a2, a3, a4, a5]
    exact F
  exact pe_call F' (a6.mono hk) (I.gl hg) (by rw [a4]; exact h1) (by rw [a3]; exact h2) (by rw [a3]; exact h3) .nil pass0 (p1 X I) hdb (he _) (hpl _)
theorem je_call0 {fm : Fm} {ps : List Str} {k : Nat} (F : FnD c k x ps fm) (hk : k ≤ c.k) (hg : sc.names.lookup x = some .globalImplicit)
    (hdb : (x == ("__debug__" : Str)) = false := by decide) : JE c N sc (.Call (.Name x p) [] [] pos) (callK fm gnil) := by
  obtain ⟨f, fd, F, h1, h2, h3⟩ := F
  refine ⟨tCall (spD c.K fm) [] E0 tNil, fun X I => ?_, sd_call (fun σ H ρ B ds ρ' S e Q q => by
    cases e
    exact q [] H (Af.refl S) trivial)⟩
  obtain ⟨a1, a2, a3, a4, a5, a6, a7, a8, a9, a10, a11⟩ := id I
  have F' : FnOk X.prog X.w X.K X.mg X.base CX0 k f fd ps (spD c.K fm) := by
    rw [a1, a2, a3, a4, a5]
    exact F
  exact pe_call0 F' (a6.mono hk) (I.gl hg) (by rw [a4]; exact h1) (by rw [a3]; exact h2) (by rw [a3]; exact h3) .nil pass0 hdb
end
end Dz

/-! Dz. D: statements, defs. -/
namespace Dz
open PySem L2

inductive SO where
  | nx (ρ : En)
  | rt (d : D) (ρ : En)
  | bk (ρ : En)
  | ct (ρ : En)
def Fi (K : Frag) (B : Addr → Bool) (σ : St) (H : Hp) (ρ : En) (Dn : Ends) : SO → Prop
  | .nx ρ' => ∀ B' σ' H', Bf K B σ H ρ B' σ' H' ρ' → Dn.nx σ' H'
  | .rt d ρ' => ∀ v B' σ' H', Bf K B σ H ρ B' σ' H' ρ' → Rp K (hide B' H') v d → Dn.rt v H'
  | .bk ρ' => ∀ B' σ' H', Bf K B σ H ρ B' σ' H' ρ' → Dn.bk σ' H'
  | .ct ρ' => ∀ B' σ' H', Bf K B σ H ρ B' σ' H' ρ' → Dn.ct σ' H'
def SS (K : Frag) (t : TS) (m : En → Option SO) : Prop := ∀ σ H ρ B o, SR K B σ H ρ → m ρ = some o → ∀ Dn : Ends, Fi K B σ H ρ Dn o → t Dn σ H
def JS (c : C0) (N : List Str) (sc : Scope) (s : Stmt) (m : En → Option SO) : Prop := ∃ t, (∀ X, In c N sc X → PS X s t) ∧ SS c.K t m
def JB (c : C0) (N : List Str) (sc : Scope) (s : List Stmt) (m : En → Option SO) : Prop := ∃ t, (∀ X, In c N sc X → PSs X s t) ∧ SS c.K t m
theorem Fi.after {K : Frag} {B B1 : Addr → Bool} {σ σ1 : St} {H H1 : Hp} {ρ ρ1 : En} {Dn : Ends} (S : SR K B σ H ρ) (b : Bf K B σ H ρ B1 σ1 H1 ρ1) : ∀ {o : SO}, Fi K B σ H ρ Dn o → Fi K B1 σ1 H1 ρ1 Dn o
  | .nx ρ', h => fun B' σ' H' a => h B' σ' H' (b.trans S a)
  | .rt d ρ', h => fun v B' σ' H' a => h v B' σ' H' (b.trans S a)
  | .bk ρ', h => fun B' σ' H' a => h B' σ' H' (b.trans S a)
  | .ct ρ', h => fun B' σ' H' a => h B' σ' H' (b.trans S a)

def nextS : En → Option SO := fun ρ => some (.nx ρ)
def seqS (m1 m2 : En → Option SO) : En → Option SO := fun ρ => (m1 ρ).bind fun o => match o with
  | .nx ρ1 => m2 ρ1
  | o => some o
def breakS : En → Option SO := fun ρ => some (.bk ρ)
def contS : En → Option SO := fun ρ => some (.ct ρ)
def neverS : En → Option SO := fun _ => none
def dropS (m : En → Option (D × En)) : En → Option SO := fun ρ => (m ρ).map fun p => .nx p.2
def retS (m : En → Option (D × En)) : En → Option SO := fun ρ => (m ρ).map fun p => .rt p.1 p.2
def retN : En → Option SO := fun ρ => some (.rt .none ρ)
def ifS (mt : En → Option (Bool × En)) (m1 m2 : En → Option SO) : En → Option SO := fun ρ => (mt ρ).bind fun p => if p.1 = true then m1 p.2 else m2 p.2
def setv (i : Nat) (d : D) (ρ : En) : Option En := match ρ[i]? with
  | some (some (.bor _)) => none
  | some _ => some (ρ.set i (some (.val d)))
  | none => none
def seto (i : Nat) (d : D) (ρ : En) : Option En := match ρ[i]? with
  | some (some (.bor _)) => none
  | some _ => some (ρ.set i (some (.own d)))
  | none => none
def asgS (m : En → Option (D × En)) (g : D → En → Option En) : En → Option SO := fun ρ => (m ρ).bind fun p => (g p.1 p.2).map .nx
/-- the def's own list becomes a datum that may be handed on -/
def frz (i : Nat) (ρ : En) : Option En := match ρ[i]? with
  | some (some (.own d)) => some (ρ.set i (some (.val d)))
  | _ => none
def frzS (i : Nat) (m : En → Option SO) : En → Option SO := fun ρ => (frz i ρ).bind m
section
variable {c : C0} {N : List Str} {sc : Scope} {K : Frag} {t u : TS} {m m1 m2 : En → Option SO} {s : Stmt} {rest b1 b2 : List Stmt} {me : En → Option (D × En)} {mt : En → Option (Bool × En)} {e : Expr} {pos p1 : Pos} {i : Nat} {x : Str}
theorem ss_next : SS K tNext nextS := fun σ H ρ B o S e Dn h => by
  cases e
  exact h B σ H (Bf.refl S)
theorem ss_seq (h1 : SS K t m1) (h2 : SS K u m2) : SS K (tSeq t u) (seqS m1 m2) := fun σ H ρ B o S e Dn h => by
  unfold seqS at e
  cases q : m1 ρ with
  | none => simp [q] at e
  | some o1 =>
    simp only [q, Option.bind_some] at e
    refine h1 σ H ρ B o1 S q _ ?_
    cases o1 with
    | nx ρ1 => exact fun B' σ' H' a => h2 σ' H' ρ1 B' o a.sr e Dn (h.after S a)
    | rt d ρ1 => cases e; exact h
    | bk ρ1 => cases e; exact h
    | ct ρ1 => cases e; exact h
theorem jb_nil : JB c N sc [] nextS := ⟨_, fun _ _ => pss_nil, ss_next⟩
theorem jb_cons (h : JS c N sc s m1) (k : JB c N sc rest m2) : JB c N sc (s :: rest) (seqS m1 m2) := by
  obtain ⟨t, h1, h2⟩ := h
  obtain ⟨u, k1, k2⟩ := k
  exact ⟨_, fun X I => pss_cons (h1 X I) (k1 X I), ss_seq h2 k2⟩
theorem jb_one (h : JS c N sc s m1) : JB c N sc [s] m1 := by
  obtain ⟨t, h1, h2⟩ := h
  exact ⟨_, fun X I => pss_one (h1 X I), h2⟩
theorem js_pass : JS c N sc (.Pass pos) nextS := ⟨_, fun _ _ => ps_pass, ss_next⟩
theorem js_doc {z j p} : JS c N sc (.Expr (.Constant (.str z) j p) pos) nextS := ⟨_, fun _ _ => ps_doc, ss_next⟩
theorem js_break : JS c N sc (.Break pos) breakS := ⟨_, fun _ _ => ps_break, fun σ H ρ B o S e Dn h => by
  cases e
  exact h B σ H (Bf.refl S)⟩
theorem js_cont : JS c N sc (.Continue pos) contS := ⟨_, fun _ _ => ps_continue, fun σ H ρ B o S e Dn h => by
  cases e
  exact h B σ H (Bf.refl S)⟩
theorem js_never : JS c N sc s neverS := ⟨_, fun _ _ => ps_never, fun σ H ρ B o S e Dn h => by cases e⟩
theorem js_expr (h : JE c N sc e me) (hs : ∀ env, swapsWith e none pos.line env = pure false := by intros; rfl) : JS c N sc (.Expr e pos) (dropS me) := by
  obtain ⟨t, h1, h2⟩ := h
  refine ⟨_, fun X I => ps_expr (h1 X I) (hs _), fun σ H ρ B o S e Dn h => ?_⟩
  unfold dropS at e
  cases q : me ρ with
  | none => simp [q] at e
  | some p =>
    obtain ⟨d, ρ1⟩ := p
    simp [q] at e
    subst e
    exact h2 σ H ρ B _ _ S q _ fun v H1 A r => h B σ H1 A.bf
theorem js_ret (h : JE c N sc e me) : JS c N sc (.Return (some e) pos) (retS me) := by
  obtain ⟨t, h1, h2⟩ := h
  refine ⟨_, fun X I => ps_ret (h1 X I), fun σ H ρ B o S e Dn h => ?_⟩
  unfold retS at e
  cases q : me ρ with
  | none => simp [q] at e
  | some p =>
    obtain ⟨d, ρ1⟩ := p
    simp [q] at e
    subst e
    exact h2 σ H ρ B _ _ S q _ fun v H1 A r => h v B σ H1 A.bf r
theorem js_retN : JS c N sc (.Return none pos) retN := ⟨_, fun _ _ => ps_retN, fun σ H ρ B o S e Dn h => by
  cases e
  exact h .non B σ H (Bf.refl S) .non⟩
theorem ss_if {tt : TT} (ht : Stt K tt mt) (h1 : SS K t m1) (h2 : SS K u m2) : SS K (tIfS tt t u) (ifS mt m1 m2) := fun σ H ρ B o S e Dn h => by
  unfold ifS at e
  cases q : mt ρ with
  | none => simp [q] at e
  | some p =>
    obtain ⟨b, ρ1⟩ := p
    simp only [q, Option.bind_some] at e
    refine ht σ H ρ B b ρ1 S q _ fun H1 A => ?_
    cases b with
    | true => exact h1 σ H1 ρ1 B o A.sr (by simpa using e) Dn (h.after S A.bf)
    | false => exact h2 σ H1 ρ1 B o A.sr (by simpa using e) Dn (h.after S A.bf)
theorem js_if (ht : JT c N sc e mt) (h1 : JB c N sc b1 m1) (h2 : JB c N sc b2 m2) : JS c N sc (.If e b1 b2 pos) (ifS mt m1 m2) := by
  obtain ⟨t, p1, s1⟩ := ht
  obtain ⟨u, p2, s2⟩ := h1
  obtain ⟨w, p3, s3⟩ := h2
  exact ⟨_, fun X I => ps_if (p1 X I) (p2 X I) (p3 X I), ss_if s1 s2 s3⟩
end

/-! ### stores -/
/-- a target at the slots js -/
def SgT (K : Frag) (js : List Nat) (g : TG) (mg : D → En → Option En) : Prop :=
  ∀ σ H ρ B v d ρ', SR K B σ H ρ → Rp K (hide B H) v d → mg d ρ = some ρ' → ∀ Q : St → Hp → Prop, (∀ σ', Bf K B σ H ρ B σ' H ρ' → (∀ j, j ∉ js → σ'[j]? = σ[j]? ∧ ρ'[j]? = ρ[j]?) → σ'.length = σ.length → Q σ' H) → g v σ H Q
def SgTs (K : Frag) (js : List Nat) (g : TGs) (mg : List D → En → Option En) : Prop :=
  ∀ σ H ρ B vs ds ρ', SR K B σ H ρ → RpL K (hide B H) vs ds → mg ds ρ = some ρ' → ∀ Q : St → Hp → Prop, (∀ σ', Bf K B σ H ρ B σ' H ρ' → (∀ j, j ∉ js → σ'[j]? = σ[j]? ∧ ρ'[j]? = ρ[j]?) → σ'.length = σ.length → Q σ' H) → g vs σ H Q
section
variable {K : Frag} {B : Addr → Bool} {σ : St} {H H' : Hp} {ρ ρ' : En} {i : Nat} {d : D} {v : V}
theorem setv_some (h : setv i d ρ = some ρ') : ρ' = ρ.set i (some (.val d)) ∧ i < ρ.length ∧ ∀ e, ρ[i]? ≠ some (some (.bor e)) := by
  unfold setv at h
  split at h
  · cases h
  · rename_i z hz hn
    cases h
    exact ⟨rfl, (List.getElem?_eq_some_iff.mp hn).1, fun e q => hz e (Option.some.inj (hn.symm.trans q))⟩
  · cases h
theorem seto_some (h : seto i d ρ = some ρ') : ρ' = ρ.set i (some (.own d)) ∧ i < ρ.length ∧ ∀ e, ρ[i]? ≠ some (some (.bor e)) := by
  unfold seto at h
  split at h
  · cases h
  · rename_i z hz hn
    cases h
    exact ⟨rfl, (List.getElem?_eq_some_iff.mp hn).1, fun e q => hz e (Option.some.inj (hn.symm.trans q))⟩
  · cases h
theorem bf_setv (S : SR K B σ H ρ) (h : setv i d ρ = some ρ') (r : Rp K (hide B H) v d) : Bf K B σ H ρ B (σ.set i (some v)) H ρ' := by
  obtain ⟨rfl, hl, hb⟩ := setv_some h
  have hl' : i < σ.length := by rw [S.len]; exact hl
  refine ⟨⟨by simpa using S.len, fun j d' e => ?_, fun j s e m => ?_, fun j k s u l e1 m1 e2 m2 e3 e4 => ?_, S.bk⟩, fun _ _ e _ => e, fun _ o e => ⟨o, e⟩, fun _ h => .inl h, fun _ h _ => h, fun b hb' => ?_, fun j d' e => ?_⟩
  · by_cases q : i = j
    · subst q
      rw [List.getElem?_set_self hl] at e
      cases e
      exact ⟨v, List.getElem?_set_self hl', r⟩
    · rw [List.getElem?_set_ne q] at e
      obtain ⟨w, a, b⟩ := S.val j d' e
      exact ⟨w, by rw [List.getElem?_set_ne q]; exact a, b⟩
  · by_cases q : i = j
    · subst q
      rw [List.getElem?_set_self hl] at e
      cases e
      cases m
    · rw [List.getElem?_set_ne q] at e
      obtain ⟨l, a, b, k⟩ := S.mu_ j s e m
      exact ⟨l, by rw [List.getElem?_set_ne q]; exact a, b, k⟩
  · by_cases q : i = j
    · subst q
      rw [List.getElem?_set_self hl] at e1
      cases e1
      cases m1
    · by_cases q2 : i = k
      · subst q2
        rw [List.getElem?_set_self hl] at e2
        cases e2
        cases m2
      · rw [List.getElem?_set_ne q] at e1 e3
        rw [List.getElem?_set_ne q2] at e2 e4
        exact S.inj j k s u l e1 m1 e2 m2 e3 e4
  · obtain ⟨j, s, e1, m, e2⟩ := hb'
    by_cases q : i = j
    · subst q
      rw [List.getElem?_set_self hl] at e1
      cases e1
      cases m
    · rw [List.getElem?_set_ne q] at e1 e2
      exact .inl ⟨j, s, e1, m, e2⟩
  · by_cases q : i = j
    · subst q
      exact absurd e (hb d')
    · exact ⟨⟨d', by rw [List.getElem?_set_ne q]; exact e⟩, List.getElem?_set_ne q⟩
theorem ins_self {l : Addr} {B : Addr → Bool} : ins l B l = true := by unfold ins; simp
theorem ins_or {l a : Addr} {B : Addr → Bool} (h : ins l B a = true) : a = l ∨ B a = true := by
  unfold ins at h
  simpa using h
theorem ins_of {l a : Addr} {B : Addr → Bool} (h : B a = true) : ins l B a = true := by unfold ins; simp [h]
/-- a new list is stored as the def's own -/
theorem bf_seto {l : Addr} {H0 : Hp} {ρ0 : En} (S0 : SR K B σ H0 ρ0) (A : Af K B σ H0 ρ0 H ρ) (S : SR K (ins l B) σ H ρ) (h : seto i d ρ = some ρ') (hl0 : H0 l = none) (o : OwnAt K (hide (ins l B) H) (H l) d) : Bf K B σ H0 ρ0 (ins l B) (σ.set i (some (.ref l))) H ρ' := by
  obtain ⟨rfl, hl, hb⟩ := seto_some h
  have hl' : i < σ.length := by rw [S.len]; exact hl
  have bl : B l = false := S0.fresh hl0
  have nl : ∀ (j : Nat) s, ρ[j]? = some (some s) → s.mu = true → σ[j]? ≠ some (some (.ref l)) := fun j s e m z => by
    obtain ⟨l', a, b, k⟩ := A.sr.mu_ j s e m
    rw [a] at z
    cases z
    rw [bl] at b
    cases b
  have sr : SR K (ins l B) (σ.set i (some (.ref l))) H (ρ.set i (some (.own d))) := by
    refine ⟨by simpa using S.len, fun j d' e => ?_, fun j s e m => ?_, fun j k s u l' e1 m1 e2 m2 e3 e4 => ?_, S.bk⟩
    · by_cases q : i = j
      · subst q
        rw [List.getElem?_set_self hl] at e
        cases e
      · rw [List.getElem?_set_ne q] at e
        obtain ⟨w, a, b⟩ := S.val j d' e
        exact ⟨w, by rw [List.getElem?_set_ne q]; exact a, b⟩
    · by_cases q : i = j
      · subst q
        rw [List.getElem?_set_self hl] at e
        cases e
        exact ⟨l, List.getElem?_set_self hl', ins_self, o⟩
      · rw [List.getElem?_set_ne q] at e
        obtain ⟨l', a, b, k⟩ := S.mu_ j s e m
        exact ⟨l', by rw [List.getElem?_set_ne q]; exact a, b, k⟩
    · by_cases q : i = j
      · by_cases q2 : i = k
        · rw [← q, ← q2]
        · subst q
          rw [List.getElem?_set_self hl'] at e3
          cases e3
          rw [List.getElem?_set_ne q2] at e2 e4
          exact absurd e4 (nl k u e2 m2)
      · by_cases q2 : i = k
        · subst q2
          rw [List.getElem?_set_self hl'] at e4
          cases e4
          rw [List.getElem?_set_ne q] at e1 e3
          exact absurd e3 (nl j s e1 m1)
        · rw [List.getElem?_set_ne q] at e1 e3
          rw [List.getElem?_set_ne q2] at e2 e4
          exact S.inj j k s u l' e1 m1 e2 m2 e3 e4
  refine ⟨sr, A.keep, A.grow, fun b hb' => ?_, fun b hb' _ => ins_of hb', fun b hb' => ?_, fun j d' e => ?_⟩
  · rcases ins_or hb' with z | z
    · rw [z]; exact .inr hl0
    · exact .inl z
  · obtain ⟨j, s, e1, m, e2⟩ := hb'
    by_cases q : i = j
    · subst q
      rw [List.getElem?_set_self hl'] at e2
      cases e2
      exact .inr hl0
    · rw [List.getElem?_set_ne q] at e1 e2
      exact .inl (A.kin.mine.mp ⟨j, s, e1, m, e2⟩)
  · have k := A.kin j
    rw [e] at k
    obtain ⟨e', h'⟩ := k.bor
    by_cases q : i = j
    · subst q
      exact absurd h' (hb e')
    · exact ⟨⟨e', by rw [List.getElem?_set_ne q]; exact h'⟩, List.getElem?_set_ne q⟩
/-- another content for the def's own list -/
theorem own_write {s : Sl} {l : Addr} {o : HO} {d' : D} (S : SR K B σ H ρ) (h : ρ[i]? = some (some s)) (m : s.mu = true) (hl : σ[i]? = some (some (.ref l))) (ho : OwnAt K (hide B H) (some o) d') : Af K B σ H ρ (upd H l o) (ρ.set i (some (s.wi d'))) := by
  have il : i < ρ.length := (List.getElem?_eq_some_iff.mp h).1
  obtain ⟨l', a1, a2, a3⟩ := S.mu_ i s h m
  rw [hl] at a1
  cases a1
  have hs : Sub (hide B H) (hide B (upd H l o)) := fun b u q => by
    obtain ⟨q1, q2⟩ := hide_some q
    refine hide_of q1 ?_
    rw [upd_ne (fun z => by rw [z, a2] at q1; cases q1)]
    exact q2
  have nj : ∀ (j : Nat) t, ρ[j]? = some (some t) → t.mu = true → σ[j]? = some (some (.ref l)) → j = i := fun j t e m' z => S.inj j i t s l e m' h m z hl
  refine ⟨⟨by simpa using S.len, fun j e q => ?_, fun j t q mt => ?_, fun j k t u l' e1 m1 e2 m2 e3 e4 => ?_, fun a q => ?_⟩, fun b u e n => ?_, fun b u e => ?_, fun j => ?_⟩
  · by_cases z : i = j
    · subst z
      rw [List.getElem?_set_self il] at q
      cases s with
      | val _ => cases m
      | own _ => cases q
      | bor _ => cases q
    · rw [List.getElem?_set_ne z] at q
      obtain ⟨v, g1, g2⟩ := S.val j e q
      exact ⟨v, g1, g2.mono hs⟩
  · by_cases z : i = j
    · subst z
      rw [List.getElem?_set_self il] at q
      have es : s.wi d' = t := Option.some.inj (Option.some.inj q)
      subst es
      refine ⟨l, hl, a2, ?_⟩
      rw [upd_same, Sl.wi_d]
      exact ho.mono hs
    · rw [List.getElem?_set_ne z] at q
      obtain ⟨k, g1, g2, g3⟩ := S.mu_ j t q mt
      refine ⟨k, g1, g2, ?_⟩
      have nk : k ≠ l := fun y => z (nj j t q mt (by rw [← y]; exact g1)).symm
      rw [upd_ne nk]
      exact g3.mono hs
  · have f : ∀ (j : Nat) t, (ρ.set i (some (s.wi d')))[j]? = some (some t) → t.mu = true → ∃ t', ρ[j]? = some (some t') ∧ t'.mu = true := fun j t q mt => by
      by_cases z : i = j
      · subst z
        exact ⟨s, h, m⟩
      · rw [List.getElem?_set_ne z] at q
        exact ⟨t, q, mt⟩
    obtain ⟨t', f1, f2⟩ := f j t e1 m1
    obtain ⟨u', f3, f4⟩ := f k u e2 m2
    exact S.inj j k t' u' l' f1 f2 f3 f4 e3 e4
  · by_cases z : a = l
    · exact ⟨o, by rw [z, upd_same]⟩
    · rw [upd_ne z]
      exact S.bk a q
  · rw [upd_ne (fun z => n (by rw [z]; exact ⟨i, s, h, m, hl⟩))]
    exact e
  · by_cases z : b = l
    · exact ⟨o, by rw [z, upd_same]⟩
    · exact ⟨u, by rw [upd_ne z]; exact e⟩
  · by_cases z : i = j
    · subst z
      rw [h, List.getElem?_set_self il]
      cases s with
      | val _ => cases m
      | own _ => trivial
      | bor _ => trivial
    · rw [List.getElem?_set_ne z]
      exact Ks.refl _
theorem sgt_name : SgT K [i] (gName i) (setv i) := fun σ H ρ B v d ρ' S r e Q q => by
  refine q _ (bf_setv S e r) (fun j hj => ?_) (by simp)
  obtain ⟨rfl, _, _⟩ := setv_some e
  have z : i ≠ j := fun z => hj (by simp [z])
  exact ⟨List.getElem?_set_ne z, List.getElem?_set_ne z⟩
end
def tgNil : List D → En → Option En := fun ds ρ => match ds with
  | [] => some ρ
  | _ => none
def tgCons (mg : D → En → Option En) (mr : List D → En → Option En) : List D → En → Option En := fun ds ρ => match ds with
  | d :: r => (mg d ρ).bind (mr r)
  | [] => none
def tgTup (n : Nat) (mr : List D → En → Option En) : D → En → Option En := fun d ρ => match d with
  | .tuple ds => if ds.length = n then mr ds ρ else none
  | _ => none
def JTg (c : C0) (N : List Str) (sc : Scope) (e : Expr) (js : List Nat) (mg : D → En → Option En) : Prop := ∃ g, (∀ X, In c N sc X → PG X e g) ∧ SgT c.K js g mg
def JTgs (c : C0) (N : List Str) (sc : Scope) (es : List Expr) (js : List Nat) (mg : List D → En → Option En) : Prop := ∃ g, (∀ X, In c N sc X → PGs X es g) ∧ SgTs c.K js g mg
section
variable {K : Frag} {mg : D → En → Option En} {mr : List D → En → Option En} {js ks : List Nat} {n : Nat}
theorem sgts_nil : SgTs K [] gNil tgNil := fun σ H ρ B vs ds ρ' S r e Q q => by
  cases r with
  | nil =>
    cases e
    exact ⟨rfl, q σ (Bf.refl S) (fun _ _ => ⟨rfl, rfl⟩) rfl⟩
  | cons _ _ => cases e
theorem sgts_cons {g : TG} {u : TGs} (h : SgT K js g mg) (k : SgTs K ks u mr) : SgTs K (js ++ ks) (gCons g u) (tgCons mg mr) := fun σ H ρ B vs ds ρ' S r e Q q => by
  cases r with
  | nil => cases e
  | cons r1 r2 =>
    rename_i v vs d ds
    unfold tgCons at e
    cases z : mg d ρ with
    | none => simp [z] at e
    | some ρ1 =>
      simp only [z, Option.bind_some] at e
      refine ⟨v, vs, rfl, h σ H ρ B v d ρ1 S r1 z _ fun σ1 b1 l1 n1 => ?_⟩
      refine k σ1 H ρ1 B vs ds ρ' b1.sr r2 e _ fun σ2 b2 l2 n2 => q σ2 (b1.trans S b2) (fun j hj => ?_) (n2.trans n1)
      rw [List.mem_append, not_or] at hj
      obtain ⟨a1, a2⟩ := l1 j hj.1
      obtain ⟨a3, a4⟩ := l2 j hj.2
      exact ⟨a3.trans a1, a4.trans a2⟩
theorem sgt_tup {u : TGs} (k : SgTs K ks u mr) : SgT K ks (gTup K n u) (tgTup n mr) := fun σ H ρ B v d ρ' S r e Q q => by
  unfold tgTup at e
  split at e
  · rename_i ds
    split at e
    · rename_i hn
      cases r with
      | tup ht rr _ =>
        refine ⟨_, _, rfl, sub_t (hide_sub B H) ht, ?_, ?_⟩
        · rw [rr.length]; exact hn
        · exact k σ H ρ B _ ds ρ' S rr e Q q
    · cases e
  · cases e
end
section
variable {c : C0} {N : List Str} {sc : Scope} {e value : Expr} {es : List Expr} {js ks : List Nat} {mg : D → En → Option En} {mr : List D → En → Option En} {pos p1 p2 : Pos} {i j n k : Nat} {x : Str} {me mi : En → Option (D × En)} {K : Frag}
/-- a name that may be stored -/
def Sto (c : C0) (sc : Scope) (x : Str) : Prop := sc.names.lookup x = some .local ∨ (c.top = true ∧ sc.names.lookup x = some .cell)
theorem Sto.loc {X : Cx} (h : Sto c sc x) (I : In c N sc X) : Loc X.env.scope x := by
  rw [I.sc]
  rcases h with h | ⟨_, h⟩
  · exact .inl h
  · exact .inr h
theorem Sto.vis (h : Sto c sc x) : Vis sc x := by
  rcases h with h | ⟨_, h⟩
  · exact .inl h
  · exact .inr (.inl h)
theorem Sto.fn {X : Cx} (h : Sto c sc x) (I : In c N sc X) : X.fn x = true ∨ X.env.scope.names.lookup x = some .local := by
  rw [I.sc]
  rcases h with h | ⟨h, _⟩
  · exact .inr h
  · rw [I.fn h]; exact .inl rfl
theorem jtg_name (nd : N.Nodup) (hN : N[i]? = some x) (hs : Sto c sc x) : JTg c N sc (.Name x pos) [i] (setv i) :=
  ⟨_, fun X I => pg_name (by rw [I.N]; exact nd) (by rw [I.N]; exact hN) (hs.loc I) (hs.fn I), sgt_name⟩
theorem jtgs_nil : JTgs c N sc [] [] tgNil := ⟨_, fun _ _ => pgs_nil, sgts_nil⟩
theorem jtgs_cons (h : JTg c N sc e js mg) (k : JTgs c N sc es ks mr) (hs : ∀ env, (assignEach (e :: es) env).map (·.2) = assign e env :: (assignEach es env).map (·.2) := by intros; rfl) : JTgs c N sc (e :: es) (js ++ ks) (tgCons mg mr) := by
  obtain ⟨g, h1, h2⟩ := h
  obtain ⟨u, k1, k2⟩ := k
  exact ⟨_, fun X I => pgs_cons (h1 X I) (k1 X I) (hs _), sgts_cons h2 k2⟩
theorem jtg_tup (h : JTgs c N sc es js mr) (hn : ∀ env, (assignEach es env).length = n := by intros; rfl) (hst : ∀ env, (assignEach es env).findIdx? (·.1) = none := by intros; rfl) : JTg c N sc (.Tuple es k pos) js (tgTup n mr) := by
  obtain ⟨u, k1, k2⟩ := h
  refine ⟨gTup c.K n u, fun X I => ?_, sgt_tup k2⟩
  have q := pg_tup (k := k) (pos := pos) I.calm (k1 X I) (hn _) (hst _)
  rw [I.K] at q
  exact q
theorem ss_asg {te : TE} {g : TG} (h : Sd K te me) (k : SgT K js g mg) : SS K (tAsg te g) (asgS me mg) := fun σ H ρ B o S e Dn h' => by
  unfold asgS at e
  cases q : me ρ with
  | none => simp [q] at e
  | some p =>
    obtain ⟨d, ρ1⟩ := p
    cases q2 : mg d ρ1 with
    | none => simp [q, q2] at e
    | some ρ2 =>
      simp [q, q2] at e
      subst e
      exact h σ H ρ B _ _ S q _ fun v H1 A r => k σ H1 ρ1 B v d ρ2 A.sr r q2 _ fun σ' b _ _ => h' B σ' H1 (A.bf.trans S b)
theorem ss_asgo {te : TE} (h : Sf K te me) : SS K (tAsg te (gName i)) (asgS me (seto i)) := fun σ H ρ B o S e Dn h' => by
  unfold asgS at e
  cases q : me ρ with
  | none => simp [q] at e
  | some p =>
    obtain ⟨d, ρ1⟩ := p
    cases q2 : seto i d ρ1 with
    | none => simp [q, q2] at e
    | some ρ2 =>
      simp [q, q2] at e
      subst e
      exact h σ H ρ B _ _ S q _ fun l H1 A S1 hl ho => h' (ins l B) _ H1 (bf_seto S A S1 q2 hl ho)
theorem js_set (nd : N.Nodup) (hN : N[i]? = some x) (hs : Sto c sc x) (h : JE c N sc e me) (hw : ∀ env, swapsWith e (some (.Name x p1)) pos.line env = pure false := by intros; rfl) : JS c N sc (.Assign [.Name x p1] e pos) (asgS me (setv i)) := by
  obtain ⟨t, h1, h2⟩ := h
  exact ⟨_, fun X I => ps_set (by rw [I.N]; exact nd) (by rw [I.N]; exact hN) (hs.loc I) (h1 X I) (hw _) (hs.fn I), ss_asg h2 sgt_name⟩
/-- x = [..], a list of the def's own -/
theorem js_own (nd : N.Nodup) (hN : N[i]? = some x) (hs : Sto c sc x) (h : JF c N sc e me) (hw : ∀ env, swapsWith e (some (.Name x p1)) pos.line env = pure false := by intros; rfl) : JS c N sc (.Assign [.Name x p1] e pos) (asgS me (seto i)) := by
  obtain ⟨t, h1, h2⟩ := h
  exact ⟨_, fun X I => ps_set (by rw [I.N]; exact nd) (by rw [I.N]; exact hN) (hs.loc I) (h1 X I) (hw _) (hs.fn I), ss_asgo h2⟩
theorem js_asg (h : JE c N sc value me) (g : JTg c N sc e js mg) (hs : ∀ env, swapsWithSole [e] value pos.line env = pure false := by intros; rfl) (hw : ∀ env, swappedStores [e] value env = pure none := by intros; rfl)
    (h1 : ∀ env, (assignEach [e] env).map (·.2) = [assign e env] := by intros; rfl) : JS c N sc (.Assign [e] value pos) (asgS me mg) := by
  obtain ⟨t, a1, a2⟩ := h
  obtain ⟨u, b1, b2⟩ := g
  exact ⟨_, fun X I => ps_asg (a1 X I) (b1 X I) (hs _) (hw _) (h1 _), ss_asg a2 b2⟩
end
end Dz

/-! Dz. E: own lists changed, loops, comprehensions, the body of a def. -/
namespace Dz
open PySem L2

/-- a list of the def's own, in slot i -/
def mutL (i : Nat) (ρ : En) : Option (Sl × List D) := match ρ[i]? with
  | some (some (.own (.list ds))) => some (.own (.list ds), ds)
  | some (some (.bor (.list ds))) => some (.bor (.list ds), ds)
  | _ => none
theorem mutL_some {i : Nat} {ρ : En} {s : Sl} {ds : List D} (h : mutL i ρ = some (s, ds)) : ρ[i]? = some (some s) ∧ s.mu = true ∧ s.d = .list ds := by
  unfold mutL at h
  split at h
  · rename_i e; cases h; exact ⟨e, rfl, rfl⟩
  · rename_i e; cases h; exact ⟨e, rfl, rfl⟩
  · cases h
/-- a method of a list that changes it, by data -/
structure MuD (K : Frag) (XS : Cx → Prop) (id : String) (f : List D → List D → Option (D × List D)) : Prop where
  ex : ∃ r : V → List V → Hp → VK → Prop, (∀ X, XS X → MtR X id r) ∧ ∀ (B : Addr → Bool) (H : Hp) (l : Addr) (vs : List V) (ds : List D) (us : List V) (as : List D) (z : D) (ds' : List D),
    (∀ a, B a = true → ∃ o, H a = some o) → B l = true → H l = some (.lst vs) → RpL K (hide B H) vs ds → RpL K (hide B H) us as → f ds as = some (z, ds') →
    ∀ Q : VK, (∀ y vs', RpL K (hide B H) vs' ds' → Rp K (hide B H) y z → Q y (upd H l (.lst vs'))) → r (.ref l) us H Q
def mutK (i : Nat) (f : List D → List D → Option (D × List D)) (ma : En → Option (List D × En)) : En → Option (D × En) := fun ρ =>
  (mutL i ρ).bind fun _ => (ma ρ).bind fun p => (mutL i p.2).bind fun q => (f q.2 p.1).map fun z => (z.1, p.2.set i (some (q.1.wi (.list z.2))))
/-- x[k] = e, x the def's own list -/
def setiS (i : Nat) (me mi : En → Option (D × En)) : En → Option SO := fun ρ => (mutL i ρ).bind fun _ => (me ρ).bind fun p => (mi p.2).bind fun q => (mutL i q.2).bind fun u => match q.1 with
  | .int k => (ixN u.2.length k).map fun j => .nx (q.2.set i (some (u.1.wi (.list (u.2.set j p.1)))))
  | _ => none
section
variable {c : C0} {N : List Str} {sc : Scope} {e e2 : Expr} {es : List Expr} {pos p1 p2 p3 : Pos} {i : Nat} {x m : Str} {me mi : En → Option (D × En)} {ma : En → Option (List D × En)} {K : Frag} {id : String} {f : List D → List D → Option (D × List D)} {r : V → List V → Hp → VK → Prop}
theorem upd_hide {B : Addr → Bool} {H : Hp} {l : Addr} {o : HO} (b : B l = true) : hide B (upd H l o) = hide B H := by
  funext a
  unfold hide
  by_cases q : a = l
  · rw [q, b]
    rfl
  · rw [upd_ne q]
/-- an own slot stays at its place -/
theorem own_at {B : Addr → Bool} {σ : St} {H H1 : Hp} {ρ ρ1 : En} {s0 s : Sl} {l : Addr} (A : Af K B σ H ρ H1 ρ1) (h0 : ρ[i]? = some (some s0)) (m0 : s0.mu = true) (hl : σ[i]? = some (some (.ref l))) (h1 : ρ1[i]? = some (some s)) : s.mu = true ∧ B l = true ∧ OwnAt K (hide B H1) (H1 l) s.d := by
  have km := A.kin i
  rw [h0, h1] at km
  obtain ⟨t, ht, hmt⟩ := km.mu
  cases ht
  have ms : s.mu = true := hmt.trans m0
  obtain ⟨l', f1, f2, f3⟩ := A.sr.mu_ i s h1 ms
  rw [hl] at f1
  cases f1
  exact ⟨ms, f2, f3⟩
theorem sd_mut {ta : TA} (h : SA K ta ma) (hr : ∀ (B : Addr → Bool) (H : Hp) (l : Addr) (vs : List V) (ds : List D) (us : List V) (as : List D) (z : D) (ds' : List D),
    (∀ a, B a = true → ∃ o, H a = some o) → B l = true → H l = some (.lst vs) → RpL K (hide B H) vs ds → RpL K (hide B H) us as → f ds as = some (z, ds') →
    ∀ Q : VK, (∀ y vs', RpL K (hide B H) vs' ds' → Rp K (hide B H) y z → Q y (upd H l (.lst vs'))) → r (.ref l) us H Q) : Sd K (tBM K "list" r (tVar i) ta) (mutK i f ma) := fun σ H ρ B d ρ' S e Q q => by
  unfold mutK at e
  cases q0 : mutL i ρ with
  | none => simp [q0] at e
  | some u0 =>
    obtain ⟨s0, ds0⟩ := u0
    obtain ⟨a1, a2, a3⟩ := mutL_some q0
    cases q1 : ma ρ with
    | none => simp [q0, q1] at e
    | some p =>
      obtain ⟨as, ρ1⟩ := p
      cases q2 : mutL i ρ1 with
      | none => simp [q0, q1, q2] at e
      | some u1 =>
        obtain ⟨s, ds⟩ := u1
        obtain ⟨b1, b2, b3⟩ := mutL_some q2
        cases q3 : f ds as with
        | none => simp [q0, q1, q2, q3] at e
        | some z =>
          obtain ⟨z, ds'⟩ := z
          simp [q0, q1, q2, q3] at e
          obtain ⟨rfl, rfl⟩ := e
          obtain ⟨l, g1, g2, g3⟩ := S.mu_ i s0 a1 a2
          rw [a3] at g3
          obtain ⟨vs0, g4, g5⟩ := g3
          refine ⟨.ref l, g1, .inl ⟨rfl, vs0, .inl (.inl g4)⟩, ?_⟩
          refine h σ H ρ B _ _ S q1 _ fun us H1 A ra => ?_
          obtain ⟨ms, f2, f3⟩ := own_at A a1 a2 g1 b1
          rw [b3] at f3
          obtain ⟨vs, f4, f5⟩ := f3
          refine hr B H1 l vs ds us as _ _ A.sr.bk f2 f4 f5 ra q3 _ fun y vs' r1 r2 => ?_
          have w := own_write A.sr b1 ms g1 (o := .lst vs') (d' := .list ds') ⟨_, rfl, r1⟩
          refine q y _ (A.trans w) ?_
          rw [upd_hide f2]
          exact r2
theorem je_mut (ho : MuD c.K (In c N sc) id f) (slot : Slot "list" m id) (hty : typeOf (.builtin id) = pure (.type "method_descriptor")) (hN : N[i]? = some x) (hv : Vis sc x) (h : JL c N sc (e :: es) ma) (hd : (x == ("__debug__" : Str)) = false := by decide) (hcd : (x == ("__classdict__" : Str)) = false := by decide)
    (hbase : ∀ env, attributeBase (.Name x p1) m env (eval (.Name x p1) env) = eval (.Name x p1) env := by intros; rfl)
    (hfew : ∀ env, ((backTo p3 (starEach (e :: es) env)).all (fun x => !x.1) && (backToKw p3 (keywordEach [] env)).all (fun x => x.1.isSome) && decide ((e :: es).length + ([] : List Keyword).length + (if ([] : List Keyword).isEmpty then 0 else 1) < 30)) = true := by intros; rfl)
    (hline : (p2.endLine == p3.line) = true := by rfl) (hs : ∀ env, starEach (e :: es) env = (false, eval e env) :: starEach es env := by intros; rfl) (hplain : ∀ env, (backTo p3 (starEach es env)).any (·.1) = false := by intros; rfl) :
    JE c N sc (.Call (.Attribute (.Name x p1) m p2) (e :: es) [] p3) (mutK i f ma) := by
  obtain ⟨t, h1, h2⟩ := h
  obtain ⟨r, hr1, hr2⟩ := ho.ex
  refine ⟨tBM c.K "list" r (tVar i) t, fun X I => ?_, sd_mut h2 hr2⟩
  have q := pe_bm (cpos := p3) (apos := p2) PySem.F.plainAttrs_list slot hty (hr1 X I) (pe_var (X := X) (i := i) (pos := p1) (by rw [I.N]; exact hN) (I.vis hv) hd hcd) (h1 X I) (hbase _) (hfew _) hline (hs _) (hplain _)
  rw [I.K] at q
  exact q
theorem je_mut0 (ho : MuD c.K (In c N sc) id f) (slot : Slot "list" m id) (hty : typeOf (.builtin id) = pure (.type "method_descriptor")) (hN : N[i]? = some x) (hv : Vis sc x) (hd : (x == ("__debug__" : Str)) = false := by decide) (hcd : (x == ("__classdict__" : Str)) = false := by decide)
    (hbase : ∀ env, attributeBase (.Name x p1) m env (eval (.Name x p1) env) = eval (.Name x p1) env := by intros; rfl)
    (hline : (p2.endLine == p3.line) = true := by rfl) :
    JE c N sc (.Call (.Attribute (.Name x p1) m p2) [] [] p3) (mutK i f nilK) := by
  obtain ⟨r, hr1, hr2⟩ := ho.ex
  refine ⟨tBM0 c.K "list" r (tVar i), fun X I => ?_, ?_⟩
  · have q := pe_bm0 (cpos := p3) (apos := p2) PySem.F.plainAttrs_list slot hty (hr1 X I) (pe_var (X := X) (i := i) (pos := p1) (by rw [I.N]; exact hN) (I.vis hv) hd hcd) (hbase _) hline
    rw [I.K] at q
    exact q
  · exact sd_mut (K := c.K) (r := r) (i := i) (ta := tNil) (fun σ H ρ B ds ρ' S e Q q => by
      cases e
      exact q [] H (Af.refl S) .nil) hr2
def muAppend (ds as : List D) : Option (D × List D) := match as with
  | [d] => if ds.length < 100000 then some (.none, ds ++ [d]) else none
  | _ => none
theorem mu_append {XS : Cx → Prop} : MuD K XS "list.append" muAppend := ⟨_, fun X _ => mt_append, fun B H l vs ds us as z ds' bk bl hl r ra e Q q => by
  unfold muAppend at e
  split at e
  · rename_i d
    split at e
    · rename_i hn
      cases e
      cases ra with
      | cons r1 r2 =>
        cases r2
        exact ⟨l, vs, _, rfl, rfl, hl, Nat.lt_of_lt_of_le (by rw [r.length]; exact hn) (by decide), q _ _ (r.append (.cons r1 .nil)) .non⟩
    · cases e
  · cases e⟩
theorem ss_seti {te ti : TE} (h : Sd K te me) (hi : Sd K ti mi) : SS K (tAsg te (gSub (tVar i) ti rSetL)) (setiS i me mi) := fun σ H ρ B o S e Dn h' => by
  unfold setiS at e
  cases q0 : mutL i ρ with
  | none => simp [q0] at e
  | some u0 =>
    obtain ⟨s0, ds0⟩ := u0
    obtain ⟨a1, a2, a3⟩ := mutL_some q0
    cases q : me ρ with
    | none => simp [q0, q] at e
    | some p =>
      obtain ⟨d, ρ1⟩ := p
      cases q2 : mi ρ1 with
      | none => simp [q0, q, q2] at e
      | some p2 =>
        obtain ⟨d2, ρ2⟩ := p2
        cases q3 : mutL i ρ2 with
        | none => simp [q0, q, q2, q3] at e
        | some u1 =>
          obtain ⟨s, ds⟩ := u1
          obtain ⟨b1, b2, b3⟩ := mutL_some q3
          simp only [q0, q, q2, q3, Option.bind_some] at e
          split at e
          · rename_i k
            cases q4 : ixN ds.length k with
            | none => simp [q4] at e
            | some j =>
              simp [q4] at e
              subst e
              obtain ⟨l, g1, g2, g3⟩ := S.mu_ i s0 a1 a2
              refine h σ H ρ B _ _ S q _ fun v H1 A1 r1 => ?_
              refine ⟨.ref l, g1, ?_⟩
              refine hi σ H1 ρ1 B _ _ A1.sr q2 _ fun w H2 A2 r2 => ?_
              obtain ⟨ms, f2, f3⟩ := own_at (A1.trans A2) a1 a2 g1 b1
              rw [b3] at f3
              obtain ⟨vs, f4, f5⟩ := f3
              refine ⟨l, vs, k, j, rfl, r2.inti, f4, by rw [f5.length]; exact q4, ?_⟩
              have wr := own_write A2.sr b1 ms g1 (o := .lst (vs.set j v)) (d' := .list (ds.set j d)) ⟨_, rfl, f5.set (r1.mono (A2.sub A1.sr)) j⟩
              exact h' B σ _ (((A1.trans A2).trans wr).bf)
          · cases e
theorem js_seti (hN : N[i]? = some x) (hv : Vis sc x) (h : JE c N sc e me) (hi : JE c N sc e2 mi) (hd : (x == ("__debug__" : Str)) = false := by decide) (hcd : (x == ("__classdict__" : Str)) = false := by decide)
    (ha : ∀ env v, assign (.Subscript (.Name x p1) e2 p2) env v = (do
      let ov ← holding [v] (eval (.Name x p1) env)
      let iv ← holding [v, ov] (eval e2 env)
      standAt p2
      holding [v, ov, iv] (setItem ov iv v)
      release [v, ov, iv] []) := by intros; rfl)
    (hs : ∀ env, swapsWithSole [.Subscript (.Name x p1) e2 p2] e pos.line env = pure false := by intros; rfl) (hw : ∀ env, swappedStores [.Subscript (.Name x p1) e2 p2] e env = pure none := by intros; rfl)
    (h1 : ∀ env, (assignEach [.Subscript (.Name x p1) e2 p2] env).map (·.2) = [assign (.Subscript (.Name x p1) e2 p2) env] := by intros; rfl) :
    JS c N sc (.Assign [.Subscript (.Name x p1) e2 p2] e pos) (setiS i me mi) := by
  obtain ⟨t, a1, a2⟩ := h
  obtain ⟨u, b1, b2⟩ := hi
  exact ⟨_, fun X I => ps_asg (a1 X I) (pg_sub (pe_var (by rw [I.N]; exact hN) (I.vis hv) hd hcd) (b1 X I) set_list (ha _)) (hs _) (hw _) (h1 _), ss_seti a2 b2⟩
/-- the def's own list is handed on from here -/
theorem ss_frz {t : TS} {m : En → Option SO} (h : SS K t m) : SS K t (frzS i m) := fun σ H ρ B o S e Dn h' => by
  unfold frzS frz at e
  split at e
  · rename_i d hd
    simp at e
    have il : i < ρ.length := (List.getElem?_eq_some_iff.mp hd).1
    obtain ⟨l, g1, g2, g3⟩ := S.mu_ i _ hd rfl
    let B' : Addr → Bool := fun a => if a = l then false else B a
    have sub : Sub (hide B H) (hide B' H) := fun b u z => by
      obtain ⟨z1, z2⟩ := hide_some z
      refine hide_of ?_ z2
      show (if b = l then false else B b) = false
      split
      · rfl
      · exact z1
    have bl' : B' l = false := by show (if l = l then false else B l) = false; rw [if_pos rfl]
    have sr : SR K B' σ H (ρ.set i (some (.val d))) := by
      refine ⟨by simpa using S.len, fun j d' z => ?_, fun j s z m => ?_, fun j k s u l' e1 m1 e2 m2 e3 e4 => ?_, fun a z => ?_⟩
      · by_cases q : i = j
        · subst q
          rw [List.getElem?_set_self il] at z
          cases z
          refine ⟨_, g1, ?_⟩
          have h1 := OwnAt.mono sub g3
          obtain ⟨u, g⟩ := h1.ne
          refine OwnAt.rp ?_
          rw [hide_of bl' g]
          rw [g] at h1
          exact h1
        · rw [List.getElem?_set_ne q] at z
          obtain ⟨w, a, b⟩ := S.val j d' z
          exact ⟨w, a, b.mono sub⟩
      · by_cases q : i = j
        · subst q
          rw [List.getElem?_set_self il] at z
          cases z
          cases m
        · rw [List.getElem?_set_ne q] at z
          obtain ⟨k, a, b, d'⟩ := S.mu_ j s z m
          refine ⟨k, a, ?_, d'.mono sub⟩
          show (if k = l then false else B k) = true
          rw [if_neg (fun y => q (S.inj i j _ s l hd rfl z m g1 (by rw [← y]; exact a)))]
          exact b
      · by_cases q : i = j
        · subst q
          rw [List.getElem?_set_self il] at e1
          cases e1
          cases m1
        · by_cases q2 : i = k
          · subst q2
            rw [List.getElem?_set_self il] at e2
            cases e2
            cases m2
          · rw [List.getElem?_set_ne q] at e1
            rw [List.getElem?_set_ne q2] at e2
            exact S.inj j k s u l' e1 m1 e2 m2 e3 e4
      · refine S.bk a ?_
        have z' : (if a = l then false else B a) = true := z
        split at z'
        · cases z'
        · exact z'
    have bf : Bf K B σ H ρ B' σ H (ρ.set i (some (.val d))) := by
      refine ⟨sr, fun _ _ e _ => e, fun _ o e => ⟨o, e⟩, fun b z => .inl ?_, fun b z n => ?_, fun b z => ?_, fun j d' z => ?_⟩
      · have z' : (if b = l then false else B b) = true := z
        split at z'
        · cases z'
        · exact z'
      · show (if b = l then false else B b) = true
        rw [if_neg (fun y => n (by rw [y]; exact ⟨i, _, hd, rfl, g1⟩))]
        exact z
      · obtain ⟨j, s, e1, m1, e2⟩ := z
        by_cases q : i = j
        · subst q
          rw [List.getElem?_set_self il] at e1
          cases e1
          cases m1
        · rw [List.getElem?_set_ne q] at e1
          exact .inl ⟨j, s, e1, m1, e2⟩
      · by_cases q : i = j
        · subst q
          rw [hd] at z
          cases z
        · exact ⟨⟨d', by rw [List.getElem?_set_ne q]; exact z⟩, rfl⟩
    exact h σ H _ B' o sr e Dn (h'.after S bf)
  · simp at e
theorem jb_frz {s : List Stmt} {m : En → Option SO} (h : JB c N sc s m) : JB c N sc s (frzS i m) := by
  obtain ⟨t, h1, h2⟩ := h
  exact ⟨t, h1, ss_frz h2⟩
end

/-! ### what is walked -/
def ItOk (K : Frag) (J : It) (B : Addr → Bool) (H : Hp) (ds : List D) : Prop := ∀ B' H', Sub (hide B H) (hide B' H') → (∀ a, B' a = true → ∃ o, H' a = some o) →
  (∀ (i : Nat) d, ds[i]? = some d → J.go i H' ∧ ∀ x H'', J.yld i H' x H'' → Sub H' H'' ∧ Rp K (hide B' H'') x d) ∧ J.stop ds.length H'
def SI (K : Frag) (wi : TI) (m : En → Option (List D × En)) : Prop :=
  ∀ σ H ρ B ds ρ', SR K B σ H ρ → m ρ = some (ds, ρ') → ∀ R : It → Hp → Prop, (∀ J H', Af K B σ H ρ H' ρ' → ItOk K J B H' ds → R J H') → wi σ H R
def JI (c : C0) (N : List Str) (sc : Scope) (tg iter : Expr) (m : En → Option (List D × En)) : Prop := ∃ wi, (∀ X, In c N sc X → PI X tg iter wi) ∧ SI c.K wi m
def listK (m : En → Option (D × En)) : En → Option (List D × En) := fun ρ => match m ρ with
  | some (.list ds, ρ') => some (ds, ρ')
  | _ => none
def tupleK (m : En → Option (D × En)) : En → Option (List D × En) := fun ρ => match m ρ with
  | some (.tuple ds, ρ') => some (ds, ρ')
  | _ => none
/-- lo, lo + 1, .., n of them -/
def nums (lo : Int) : Nat → List D
  | 0 => []
  | n + 1 => .int lo :: nums (lo + 1) n
theorem nums_length : ∀ (n : Nat) (lo : Int), (nums lo n).length = n
  | 0, _ => rfl
  | n + 1, lo => by
    show (nums (lo + 1) n).length + 1 = n + 1
    rw [nums_length n]
theorem nums_get : ∀ (n : Nat) (lo : Int) (i : Nat) (d : D), (nums lo n)[i]? = some d → i < n ∧ d = .int (lo + i)
  | 0, _, i, d, h => by simp [nums] at h
  | n + 1, lo, 0, d, h => by
    simp [nums] at h
    exact ⟨by omega, by rw [← h]; simp⟩
  | n + 1, lo, i + 1, d, h => by
    have h' : (nums (lo + 1) n)[i]? = some d := h
    obtain ⟨a, b⟩ := nums_get n (lo + 1) i d h'
    refine ⟨by omega, ?_⟩
    rw [b]
    congr 1
    omega
def rangeK1 (m : En → Option (List D × En)) : En → Option (List D × En) := fun ρ => match m ρ with
  | some ([.int n], ρ') => if -(2 ^ 62) ≤ n ∧ n < 2 ^ 62 then some (nums 0 n.toNat, ρ') else none
  | _ => none
def rangeK2 (m : En → Option (List D × En)) : En → Option (List D × En) := fun ρ => match m ρ with
  | some ([.int a, .int b], ρ') => if -(2 ^ 62) ≤ a ∧ a < 2 ^ 62 ∧ -(2 ^ 62) ≤ b ∧ b < 2 ^ 62 then some (nums a (b - a).toNat, ρ') else none
  | _ => none
section
variable {c : C0} {N : List Str} {sc : Scope} {e a b tg : Expr} {pos p : Pos} {me : En → Option (D × En)} {ma : En → Option (List D × En)} {K : Frag}
theorem si_list {te : TE} (h : So K te me) (hv : ∀ ρ p, me ρ = some p → True) (hd : Sd K te me) : SI K (iList K te) (listK me) := fun σ H ρ B ds ρ' S e R q => by
  unfold listK at e
  split at e
  · rename_i ds' ρ1 he
    cases e
    refine hd σ H ρ B _ _ S he _ fun v H1 A r => ?_
    cases r with
    | lst hs rr =>
      refine ⟨_, rfl, ⟨_, sub_l (hide_sub B H1) hs⟩, q _ H1 A fun B' H' sb bk => ⟨fun i d hi => ?_, ?_⟩⟩
      · obtain ⟨v, g1, g2⟩ := rr.get' hi
        refine ⟨⟨_, v, sub_l ((sb.trans (hide_sub B' H'))) hs, g1⟩, fun x H'' y => ?_⟩
        obtain ⟨rfl, y⟩ := y
        refine ⟨Sub.refl _, ?_⟩
        have := y _ (sub_l (sb.trans (hide_sub B' _)) hs)
        rw [g1] at this
        cases this
        exact g2.mono sb
      · exact ⟨_, sub_l ((sb.trans (hide_sub B' H'))) hs, by rw [rr.length]; exact Nat.le_refl _⟩
  · cases e
theorem si_tup {te : TE} (hd : Sd K te me) : SI K (iTup K te) (tupleK me) := fun σ H ρ B ds ρ' S e R q => by
  unfold tupleK at e
  split at e
  · rename_i ds' ρ1 he
    cases e
    refine hd σ H ρ B _ _ S he _ fun v H1 A r => ?_
    cases r with
    | tup hs rr _ =>
      refine ⟨_, rfl, ⟨_, sub_t (hide_sub B H1) hs⟩, q _ H1 A fun B' H' sb bk => ⟨fun i d hi => ?_, ?_⟩⟩
      · obtain ⟨v, g1, g2⟩ := rr.get' hi
        refine ⟨⟨_, v, sub_t ((sb.trans (hide_sub B' H'))) hs, g1⟩, fun x H'' y => ?_⟩
        obtain ⟨rfl, y⟩ := y
        refine ⟨Sub.refl _, ?_⟩
        have := y _ (sub_t (sb.trans (hide_sub B' _)) hs)
        rw [g1] at this
        cases this
        exact g2.mono sb
      · exact ⟨_, sub_t ((sb.trans (hide_sub B' H'))) hs, by rw [rr.length]; exact Nat.le_refl _⟩
  · cases e
theorem ji_list (h : JE c N sc e me) : JI c N sc tg e (listK me) := by
  obtain ⟨t, h1, h2⟩ := h
  refine ⟨iList c.K t, fun X I => ?_, si_list h2.o (fun _ _ _ => trivial) h2⟩
  have q := pi_list (tg := tg) (h1 X I)
  rw [I.K] at q
  exact q
theorem ji_tup (h : JE c N sc e me) : JI c N sc tg e (tupleK me) := by
  obtain ⟨t, h1, h2⟩ := h
  refine ⟨iTup c.K t, fun X I => ?_, si_tup h2⟩
  have q := pi_tup (tg := tg) (h1 X I)
  rw [I.K] at q
  exact q
theorem it_range {B : Addr → Bool} {H : Hp} {lo : Int} {n : Nat} : ItOk K (Itr lo n) B H (nums lo n) := fun B' H' sb bk => ⟨fun i d hi => by
  obtain ⟨a, b⟩ := nums_get n lo i d hi
  refine ⟨a, fun x H'' y => ?_⟩
  obtain ⟨rfl, rfl⟩ := y
  refine ⟨Sub.refl _, ?_⟩
  rw [b]
  exact .int _, by rw [nums_length]; exact Nat.le_refl n⟩
theorem ji_range1 (hg : sc.names.lookup ("range" : Str) = some .globalImplicit) (hm : c.mg ("range" : Str) = none) (h : JL c N sc [a] ma) (hs : ∀ env, starEach [a] env = [(false, eval a env)] := by intros; rfl) : JI c N sc tg (.Call (.Name "range" p) [a] [] pos) (rangeK1 ma) := by
  obtain ⟨t, h1, h2⟩ := h
  refine ⟨iRng1 t, fun X I => pi_range1 (I.gl hg) (by rw [I.mg]; exact hm) (h1 X I) (hs _), fun σ H ρ B ds ρ' S e R q => ?_⟩
  unfold rangeK1 at e
  split at e
  · rename_i n ρ1 he
    split at e
    · rename_i hb
      cases e
      refine h2 σ H ρ B _ _ S he _ fun vs H1 A r => ?_
      cases r with
      | cons r1 r2 =>
        cases r2
        cases r1
        exact ⟨n, rfl, hb.1, hb.2, q _ H1 A it_range⟩
    · cases e
  · cases e
theorem ji_range2 (hg : sc.names.lookup ("range" : Str) = some .globalImplicit) (hm : c.mg ("range" : Str) = none) (h : JL c N sc [a, b] ma) (hs : ∀ env, starEach [a, b] env = [(false, eval a env), (false, eval b env)] := by intros; rfl) (hs2 : ∀ env, starEach [b] env = [(false, eval b env)] := by intros; rfl) : JI c N sc tg (.Call (.Name "range" p) [a, b] [] pos) (rangeK2 ma) := by
  obtain ⟨t, h1, h2⟩ := h
  refine ⟨iRng2 t, fun X I => pi_range2 (I.gl hg) (by rw [I.mg]; exact hm) (h1 X I) (hs _) (hs2 _), fun σ H ρ B ds ρ' S e R q => ?_⟩
  unfold rangeK2 at e
  split at e
  · rename_i n m ρ1 he
    split at e
    · rename_i hb
      cases e
      refine h2 σ H ρ B _ _ S he _ fun vs H1 A r => ?_
      cases r with
      | cons r1 r2 =>
        cases r2 with
        | cons r2 r3 =>
          cases r3
          cases r1
          cases r2
          exact ⟨n, m, rfl, hb, q _ H1 A it_range⟩
    · cases e
  · cases e
end

/-! ### loops -/
def forD (mg : D → En → Option En) (mb : En → Option SO) : List D → En → Option SO
  | [], ρ => some (.nx ρ)
  | d :: ds, ρ => (mg d ρ).bind fun ρ1 => (mb ρ1).bind fun o => match o with
    | .nx ρ2 => forD mg mb ds ρ2
    | .ct ρ2 => forD mg mb ds ρ2
    | .bk ρ2 => some (.nx ρ2)
    | .rt d ρ2 => some (.rt d ρ2)
def forS (mi : En → Option (List D × En)) (mg : D → En → Option En) (mb : En → Option SO) : En → Option SO := fun ρ => (mi ρ).bind fun p => forD mg mb p.1 p.2
section
variable {c : C0} {N : List Str} {sc : Scope} {e a b tg iter : Expr} {body : List Stmt} {pos p : Pos} {mi : En → Option (List D × En)} {mg : D → En → Option En} {mb : En → Option SO} {mt : En → Option (Bool × En)} {K : Frag} {js : List Nat} {tb : TS} {wi : TI} {g : TG}
theorem ss_for (hi : SI K wi mi) (hg : SgT K js g mg) (hb : SS K tb mb) : SS K (tFor wi g tb) (forS mi mg mb) := fun σ H ρ B o S e Dn h' => by
  unfold forS at e
  cases q : mi ρ with
  | none => simp [q] at e
  | some p =>
    obtain ⟨ds, ρ1⟩ := p
    simp only [q, Option.bind_some] at e
    refine hi σ H ρ B ds ρ1 S q _ fun J H1 A ok => ?_
    have h1 := h'.after S A.bf
    refine ⟨fun i m σ' H' => ∃ B' ρ', Bf K B σ H1 ρ1 B' σ' H' ρ' ∧ m = ds.length - i ∧ i ≤ ds.length ∧ forD mg mb (ds.drop i) ρ' = some o, ⟨ds.length, B, ρ1, Bf.refl A.sr, by simp, Nat.zero_le _, by simpa using e⟩, ?_⟩
    rintro i m σ' H' ⟨B', ρ', bf, rfl, hle, hf⟩
    obtain ⟨go, stop⟩ := ok B' H' (bf.sub A.sr) bf.sr.bk
    by_cases hlt : i < ds.length
    · obtain ⟨d, hd⟩ : ∃ d, ds[i]? = some d := ⟨_, List.getElem?_eq_getElem hlt⟩
      have dr : ds.drop i = d :: ds.drop (i + 1) := by
        rw [List.drop_eq_getElem_cons hlt]
        rw [List.getElem?_eq_getElem hlt] at hd
        cases hd
        rfl
      rw [dr] at hf
      obtain ⟨g1, g2⟩ := go i d hd
      refine .inr ⟨g1, fun σ2 H2 => ∃ B2 ρ2, Bf K B σ H1 ρ1 B2 σ2 H2 ρ2 ∧ forD mg mb (ds.drop (i + 1)) ρ2 = some o, fun σ2 H2 ⟨B2, ρ2, bf2, hf2⟩ => ⟨ds.length - (i + 1), by omega, B2, ρ2, bf2, rfl, hlt, hf2⟩, fun x H2 y => ?_⟩
      obtain ⟨sb, rx⟩ := g2 x H2 y
      unfold forD at hf
      cases z1 : mg d ρ' with
      | none => simp [z1] at hf
      | some ρ2 =>
        simp only [z1, Option.bind_some] at hf
        have A2 := Af.of_sub bf.sr sb
        refine hg σ' H2 ρ' B' x d ρ2 A2.sr rx z1 _ fun σ3 b3 _ _ => ?_
        have bf3 := bf.trans A.sr (A2.bf.trans bf.sr b3)
        cases z2 : mb ρ2 with
        | none => simp [z2] at hf
        | some o1 =>
          simp only [z2, Option.bind_some] at hf
          refine hb σ3 H2 ρ2 B' o1 b3.sr z2 _ ?_
          cases o1 with
          | nx ρ4 => exact fun B4 σ4 H4 b4 => ⟨B4, ρ4, bf3.trans A.sr b4, hf⟩
          | ct ρ4 => exact fun B4 σ4 H4 b4 => ⟨B4, ρ4, bf3.trans A.sr b4, hf⟩
          | bk ρ4 =>
            cases hf
            exact fun B4 σ4 H4 b4 => h1 B4 σ4 H4 (bf3.trans A.sr b4)
          | rt d4 ρ4 =>
            cases hf
            exact fun v B4 σ4 H4 b4 r4 => h1 v B4 σ4 H4 (bf3.trans A.sr b4) r4
    · have ei : i = ds.length := by omega
      subst ei
      rw [List.drop_length] at hf
      cases hf
      exact .inl ⟨stop, h1 B' σ' H' bf⟩
theorem js_for (hi : JI c N sc tg iter mi) (hg : JTg c N sc tg js mg) (hb : JB c N sc body mb) (hs : ∀ env x, foldedSetIterable iter env x = pure x := by intros; rfl) : JS c N sc (.For tg iter body [] pos) (forS mi mg mb) := by
  obtain ⟨wi, a1, a2⟩ := hi
  obtain ⟨g, b1, b2⟩ := hg
  obtain ⟨t, c1, c2⟩ := hb
  exact ⟨_, fun X I => ps_for I.po I.calm (a1 X I) (b1 X I) (c1 X I) (hs _), ss_for a2 b2 c2⟩
end
end Dz

/-! Dz. F: while, comprehensions, the body of a def. -/
namespace Dz
open PySem L2

/-! ### while -/
def whileF (mt : En → Option (Bool × En)) (mb : En → Option SO) : Nat → En → Option SO
  | 0, _ => none
  | n + 1, ρ => (mt ρ).bind fun p => if p.1 = true then (mb p.2).bind fun o => match o with
    | .nx ρ2 => whileF mt mb n ρ2
    | .ct ρ2 => whileF mt mb n ρ2
    | .bk ρ2 => some (.nx ρ2)
    | .rt d ρ2 => some (.rt d ρ2) else some (.nx p.2)
theorem whileF_more {mt : En → Option (Bool × En)} {mb : En → Option SO} : ∀ (n : Nat) (ρ : En) (o : SO), whileF mt mb n ρ = some o → whileF mt mb (n + 1) ρ = some o
  | 0, ρ, o, h => by cases h
  | n + 1, ρ, o, h => by
    unfold whileF at h ⊢
    cases q : mt ρ with
    | none => simp [q] at h
    | some p =>
      obtain ⟨b, ρ1⟩ := p
      simp only [q, Option.bind_some] at h ⊢
      cases b with
      | false => exact h
      | true =>
        rw [if_pos rfl] at h ⊢
        cases q2 : mb ρ1 with
        | none => simp [q2] at h
        | some o1 =>
          simp only [q2, Option.bind_some] at h ⊢
          cases o1 with
          | nx ρ2 => exact whileF_more n ρ2 o h
          | ct ρ2 => exact whileF_more n ρ2 o h
          | bk ρ2 => exact h
          | rt d ρ2 => exact h
theorem whileF_le {mt : En → Option (Bool × En)} {mb : En → Option SO} {ρ : En} {o : SO} {n : Nat} (h : whileF mt mb n ρ = some o) : ∀ k, whileF mt mb (n + k) ρ = some o
  | 0 => h
  | k + 1 => whileF_more _ _ _ (whileF_le h k)
open Classical in
noncomputable def whileS (mt : En → Option (Bool × En)) (mb : En → Option SO) : En → Option SO := fun ρ => if h : ∃ o n, whileF mt mb n ρ = some o then some h.choose else none
theorem whileS_of {mt : En → Option (Bool × En)} {mb : En → Option SO} {ρ : En} {o : SO} {n : Nat} (h : whileF mt mb n ρ = some o) : whileS mt mb ρ = some o := by
  have hh : ∃ o n, whileF mt mb n ρ = some o := ⟨o, n, h⟩
  unfold whileS
  rw [dif_pos hh]
  obtain ⟨n', h'⟩ := hh.choose_spec
  have a := whileF_le h n'
  have b := whileF_le h' n
  rw [Nat.add_comm] at b
  rw [a] at b
  exact b.symm
section
variable {c : C0} {N : List Str} {sc : Scope} {e : Expr} {body : List Stmt} {pos p : Pos} {mb : En → Option SO} {mt : En → Option (Bool × En)} {K : Frag} {tb : TS} {tt : TT}
theorem ss_while (ht : Stt K tt mt) (hb : SS K tb mb) : SS K (tWhile tt tb) (whileS mt mb) := fun σ H ρ B o S e Dn h' => by
  unfold whileS at e
  split at e
  · rename_i hh
    obtain ⟨n, hn⟩ := hh.choose_spec
    have eo : hh.choose = o := Option.some.inj e
    rw [eo] at hn
    refine ⟨fun m σ' H' => ∃ B' ρ', Bf K B σ H ρ B' σ' H' ρ' ∧ whileF mt mb m ρ' = some o, ⟨n, B, ρ, Bf.refl S, hn⟩, ?_⟩
    rintro m σ' H' ⟨B', ρ', bf, hf⟩
    cases m with
    | zero => cases hf
    | succ m =>
      unfold whileF at hf
      cases q : mt ρ' with
      | none => simp [q] at hf
      | some p =>
        obtain ⟨b, ρ1⟩ := p
        simp only [q, Option.bind_some] at hf
        refine ht σ' H' ρ' B' b ρ1 bf.sr q _ fun H1 A => ?_
        have bf1 := bf.trans S A.bf
        cases b with
        | false =>
          simp at hf
          subst hf
          exact h' B' σ' H1 bf1
        | true =>
          rw [if_pos rfl] at hf
          show ∃ N : L2.St → Hp → Prop, _
          refine ⟨fun σ2 H2 => ∃ B2 ρ2, Bf K B σ H ρ B2 σ2 H2 ρ2 ∧ whileF mt mb m ρ2 = some o, fun σ2 H2 ⟨B2, ρ2, a, b⟩ => ⟨m, Nat.lt_succ_self m, B2, ρ2, a, b⟩, ?_⟩
          cases q2 : mb ρ1 with
          | none => simp [q2] at hf
          | some o1 =>
            simp only [q2, Option.bind_some] at hf
            refine hb σ' H1 ρ1 B' o1 A.sr q2 _ ?_
            cases o1 with
            | nx ρ4 => exact fun B4 σ4 H4 b4 => ⟨B4, ρ4, bf1.trans S b4, hf⟩
            | ct ρ4 => exact fun B4 σ4 H4 b4 => ⟨B4, ρ4, bf1.trans S b4, hf⟩
            | bk ρ4 =>
              cases hf
              exact fun B4 σ4 H4 b4 => h' B4 σ4 H4 (bf1.trans S b4)
            | rt d4 ρ4 =>
              cases hf
              exact fun v B4 σ4 H4 b4 r4 => h' v B4 σ4 H4 (bf1.trans S b4) r4
  · cases e
theorem js_while (ht : JT c N sc e mt) (hb : JB c N sc body mb) : JS c N sc (.While e body [] pos) (whileS mt mb) := by
  obtain ⟨t, a1, a2⟩ := ht
  obtain ⟨u, b1, b2⟩ := hb
  exact ⟨_, fun X I => ps_while I.po (a1 X I) (b1 X I), ss_while a2 b2⟩
end

/-! ### comprehensions -/
def wipeA {α : Type} (l : List (Option α)) : List Nat → List (Option α)
  | [] => l
  | v :: vs => (wipeA l vs).set v none
theorem wipe_eq (σ : L2.St) : ∀ vs, wipe σ vs = wipeA σ vs
  | [] => rfl
  | v :: vs => by
    show (wipe σ vs).set v none = (wipeA σ vs).set v none
    rw [wipe_eq σ vs]
theorem wipeA_length {α : Type} (l : List (Option α)) : ∀ vs, (wipeA l vs).length = l.length
  | [] => rfl
  | v :: vs => by
    show ((wipeA l vs).set v none).length = _
    rw [List.length_set, wipeA_length l vs]
theorem wipeA_out {α : Type} {l : List (Option α)} {j : Nat} : ∀ {vs : List Nat}, j ∉ vs → (wipeA l vs)[j]? = l[j]?
  | [], _ => rfl
  | v :: vs, h => by
    rw [List.mem_cons, not_or] at h
    show ((wipeA l vs).set v none)[j]? = _
    rw [List.getElem?_set_ne (Ne.symm h.1), wipeA_out h.2]
theorem wipeA_in {α : Type} {l : List (Option α)} {j : Nat} : ∀ {vs : List Nat}, j ∈ vs → j < l.length → (wipeA l vs)[j]? = some none
  | v :: vs, h, hl => by
    show ((wipeA l vs).set v none)[j]? = _
    by_cases e : v = j
    · subst e
      rw [List.getElem?_set_self (by rw [wipeA_length]; exact hl)]
    · rw [List.getElem?_set_ne e]
      rcases List.mem_cons.mp h with z | z
      · exact absurd z.symm e
      · exact wipeA_in z hl
theorem wipeA_some {α : Type} {l : List (Option α)} {j : Nat} {x : α} {vs : List Nat} (h : (wipeA l vs)[j]? = some (some x)) : j ∉ vs ∧ l[j]? = some (some x) := by
  by_cases q : j ∈ vs
  · by_cases hl : j < l.length
    · rw [wipeA_in q hl] at h
      cases h
    · rw [List.getElem?_eq_none (by rw [wipeA_length]; omega)] at h
      cases h
  · rw [wipeA_out q] at h
    exact ⟨q, h⟩
def unw (ρ ρ3 : En) : List Nat → En
  | [] => ρ3
  | v :: vs => (unw ρ ρ3 vs).set v (ρ[v]?.getD none)
theorem unw_length (ρ ρ3 : En) : ∀ vs, (unw ρ ρ3 vs).length = ρ3.length
  | [] => rfl
  | v :: vs => by
    show ((unw ρ ρ3 vs).set v _).length = _
    rw [List.length_set, unw_length ρ ρ3 vs]
theorem unw_out {ρ ρ3 : En} {j : Nat} : ∀ {vs : List Nat}, j ∉ vs → (unw ρ ρ3 vs)[j]? = ρ3[j]?
  | [], _ => rfl
  | v :: vs, h => by
    rw [List.mem_cons, not_or] at h
    show ((unw ρ ρ3 vs).set v _)[j]? = _
    rw [List.getElem?_set_ne (Ne.symm h.1), unw_out h.2]
theorem unw_in {ρ ρ3 : En} {j : Nat} (hl : ρ3.length = ρ.length) : ∀ {vs : List Nat}, j ∈ vs → (unw ρ ρ3 vs)[j]? = ρ[j]?
  | v :: vs, h => by
    show ((unw ρ ρ3 vs).set v (ρ[v]?.getD none))[j]? = _
    by_cases e : v = j
    · subst e
      by_cases q : v < ρ.length
      · rw [List.getElem?_set_self (by rw [unw_length, hl]; exact q), List.getElem?_eq_getElem q]
        rfl
      · rw [List.getElem?_eq_none (show ((unw ρ ρ3 vs).set v (ρ[v]?.getD none)).length ≤ v by rw [List.length_set, unw_length]; omega), List.getElem?_eq_none (show ρ.length ≤ v by omega)]
    · rw [List.getElem?_set_ne e]
      rcases List.mem_cons.mp h with z | z
      · exact absurd z.symm e
      · exact unw_in hl z
section
variable {K : Frag} {B : Addr → Bool} {σ σ2 : L2.St} {H H2 H4 : Hp} {ρ ρ2 ρ4 : En} {vs js : List Nat}
theorem mine_wipe {b : Addr} (h : Mine (wipe σ vs) (wipeA ρ vs) b) : Mine σ ρ b ∧ ∃ (j : Nat) (s : Sl), j ∉ vs ∧ ρ[j]? = some (some s) ∧ s.mu = true ∧ σ[j]? = some (some (.ref b)) := by
  obtain ⟨i, s, e1, m, e2⟩ := h
  obtain ⟨a, b'⟩ := wipeA_some e1
  rw [wipe_eq] at e2
  obtain ⟨_, d⟩ := wipeA_some e2
  exact ⟨⟨i, s, b', m, d⟩, i, s, a, b', m, d⟩
theorem SR.wipe (S : SR K B σ H ρ) : SR K B (wipe σ vs) H (wipeA ρ vs) := by
  refine ⟨by rw [wipe_eq, wipeA_length, wipeA_length]; exact S.len, fun i d e => ?_, fun i s e m => ?_, fun i j s t l e1 m1 e2 m2 e3 e4 => ?_, S.bk⟩
  · obtain ⟨a, b⟩ := wipeA_some e
    obtain ⟨v, c, d⟩ := S.val i d b
    exact ⟨v, by rw [wipe_eq, wipeA_out a]; exact c, d⟩
  · obtain ⟨a, b⟩ := wipeA_some e
    obtain ⟨v, c, d⟩ := S.mu_ i s b m
    exact ⟨v, by rw [wipe_eq, wipeA_out a]; exact c, d⟩
  · obtain ⟨_, a⟩ := wipeA_some e1
    obtain ⟨_, b⟩ := wipeA_some e2
    rw [wipe_eq] at e3 e4
    obtain ⟨_, c⟩ := wipeA_some e3
    obtain ⟨_, d⟩ := wipeA_some e4
    exact S.inj i j s t l a m1 b m2 c d
theorem SR.upd_hidden {l : Addr} {o : HO} (S : SR K B σ H ρ) (b : B l = true) (n : ¬ Mine σ ρ l) : SR K B σ (upd H l o) ρ := by
  refine ⟨S.len, fun i d e => ?_, fun i s e m => ?_, S.inj, fun a q => ?_⟩
  · rw [upd_hide b]
    exact S.val i d e
  · obtain ⟨k, g1, g2, g3⟩ := S.mu_ i s e m
    rw [upd_hide b]
    refine ⟨k, g1, g2, ?_⟩
    rw [upd_ne (fun z => n ⟨i, s, e, m, by rw [← z]; exact g1⟩)]
    exact g3
  · by_cases z : a = l
    · exact ⟨o, by rw [z, upd_same]⟩
    · rw [upd_ne z]
      exact S.bk a q
/-- behind a turn's block: the names of the block forgotten -/
theorem back_sr (S : SR K B σ H2 ρ) (b2 : Bf K B (wipe σ vs) H2 (wipeA ρ vs) B σ2 H2 ρ2) (loc : ∀ j, j ∉ js → σ2[j]? = (wipe σ vs)[j]? ∧ ρ2[j]? = (wipeA ρ vs)[j]?) (hj : ∀ j, j ∈ js → j ∈ vs) (hl : σ2.length = (wipe σ vs).length) (A : Af K B σ2 H2 ρ2 H4 ρ4) :
    SR K B σ H4 (unw ρ ρ4 vs) ∧ Kin ρ (unw ρ ρ4 vs) ∧ (∀ b o, H2 b = some o → ¬ Mine σ ρ b → H4 b = some o) ∧ (∀ b o, H2 b = some o → ∃ o', H4 b = some o') := by
  have l4 : ρ4.length = ρ.length := by
    rw [← A.sr.len, hl, wipe_eq, wipeA_length, S.len]
  have out : ∀ j, j ∉ vs → σ2[j]? = σ[j]? ∧ ρ2[j]? = ρ[j]? := fun j h => by
    obtain ⟨a, b⟩ := loc j fun z => h (hj j z)
    rw [wipe_eq, wipeA_out h] at a
    rw [wipeA_out h] at b
    exact ⟨a, b⟩
  have mine : ∀ b, (∃ o, H2 b = some o) → Mine σ2 ρ2 b → Mine σ ρ b ∧ ∃ (j : Nat) (s : Sl), j ∉ vs ∧ ρ[j]? = some (some s) ∧ s.mu = true ∧ σ[j]? = some (some (.ref b)) := fun b ⟨o, e⟩ h => by
    rcases b2.mine b h with z | z
    · exact mine_wipe z
    · rw [e] at z; cases z
  have kin : Kin ρ (unw ρ ρ4 vs) := fun j => by
    by_cases q : j ∈ vs
    · rw [unw_in l4 q]
      exact Ks.refl _
    · rw [unw_out q]
      have k := A.kin j
      rw [(out j q).2] at k
      exact k
  have hs : Sub (hide B H2) (hide B H4) := A.sub b2.sr
  refine ⟨⟨by rw [unw_length, l4]; exact S.len, fun j d e => ?_, fun j s e m => ?_, fun i j s t l e1 m1 e2 m2 e3 e4 => ?_, A.sr.bk⟩, kin, fun b o e n => A.keep b o e fun m => n (mine b ⟨o, e⟩ m).1, A.grow⟩
  · by_cases q : j ∈ vs
    · rw [unw_in l4 q] at e
      obtain ⟨v, a, b⟩ := S.val j d e
      exact ⟨v, a, b.mono hs⟩
    · rw [unw_out q] at e
      obtain ⟨v, a, b⟩ := A.sr.val j d e
      rw [(out j q).1] at a
      exact ⟨v, a, b⟩
  · by_cases q : j ∈ vs
    · rw [unw_in l4 q] at e
      obtain ⟨l, a, b, k⟩ := S.mu_ j s e m
      refine ⟨l, a, b, ?_⟩
      obtain ⟨o, ho⟩ := k.ne
      have nm : ¬ Mine σ2 ρ2 l := fun z => by
        obtain ⟨_, j', s', n', e', m', h'⟩ := mine l ⟨o, ho⟩ z
        exact n' (by rw [← S.inj j j' s s' l e m e' m' a h']; exact q)
      rw [A.keep l o ho nm]
      rw [ho] at k
      exact k.mono hs
    · rw [unw_out q] at e
      obtain ⟨l, a, b, k⟩ := A.sr.mu_ j s e m
      rw [(out j q).1] at a
      exact ⟨l, a, b, k⟩
  · have k1 := kin i
    rw [e1] at k1
    obtain ⟨u1, a1, n1⟩ := k1.mu'
    have k2 := kin j
    rw [e2] at k2
    obtain ⟨u2, a2, n2⟩ := k2.mu'
    exact S.inj i j u1 u2 l a1 (n1.trans m1) a2 (n2.trans m2) e3 e4
theorem SR.unins {l : Addr} {H1 : Hp} {ρ1 : En} (S : SR K (Dz.ins l B) σ H ρ) (S1 : SR K B σ H1 ρ1) (k : Kin ρ1 ρ) (g : ∀ b o, H1 b = some o → ∃ o', H b = some o') : SR K B σ H ρ := by
  refine ⟨S.len, fun i d e => ?_, fun i s e m => ?_, S.inj, fun a h => ?_⟩
  · obtain ⟨v, a, b⟩ := S.val i d e
    exact ⟨v, a, b.mono ins_sub⟩
  · obtain ⟨l', a, b, d⟩ := S.mu_ i s e m
    have kk := k i
    rw [e] at kk
    obtain ⟨t, e1, m1⟩ := kk.mu'
    obtain ⟨l2, a2, b2, _⟩ := S1.mu_ i t e1 (m1.trans m)
    rw [a] at a2
    cases a2
    exact ⟨l', a, b2, d.mono ins_sub⟩
  · obtain ⟨o, e⟩ := S1.bk a h
    exact g a o e
end
def yesK : En → Option (Bool × En) := fun ρ => some (true, ρ)
def lcD (vs : List Nat) (mg : D → En → Option En) (mt : En → Option (Bool × En)) (me : En → Option (D × En)) : List D → List D → En → Option (List D × En)
  | [], acc, ρ => some (acc, ρ)
  | d :: ds, acc, ρ => (mg d (wipeA ρ vs)).bind fun ρ1 => (mt ρ1).bind fun p => if p.1 = true then (me p.2).bind fun q => if acc.length < 100000 then lcD vs mg mt me ds (acc ++ [q.1]) (unw ρ q.2 vs) else none
    else lcD vs mg mt me ds acc (unw ρ p.2 vs)
def lcK (vs : List Nat) (mi : En → Option (List D × En)) (mg : D → En → Option En) (mt : En → Option (Bool × En)) (me : En → Option (D × En)) : En → Option (D × En) := fun ρ =>
  (mi ρ).bind fun p => (lcD vs mg mt me p.1 [] p.2).map fun q => (.list q.1, q.2)
section
variable {K : Frag} {vs js : List Nat} {mi : En → Option (List D × En)} {mg : D → En → Option En} {mt : En → Option (Bool × En)} {me : En → Option (D × En)} {wi : TI} {g : TG} {tt : TT} {te : TE}
theorem sf_lc (hi : SI K wi mi) (hg : SgT K js g mg) (hj : ∀ j, j ∈ js → j ∈ vs) (ht : Stt K tt mt) (he : Sd K te me) : Sf K (tLc wi g tt te vs) (lcK vs mi mg mt me) := fun σ H ρ B d ρ' S e Q q => by
  unfold lcK at e
  cases q1 : mi ρ with
  | none => simp [q1] at e
  | some p =>
    obtain ⟨ds, ρ1⟩ := p
    cases q2 : lcD vs mg mt me ds [] ρ1 with
    | none => simp [q1, q2] at e
    | some r =>
      obtain ⟨accF, ρF⟩ := r
      simp [q1, q2] at e
      obtain ⟨rfl, rfl⟩ := e
      refine hi σ H ρ B ds ρ1 S q1 _ fun J H1 A ok => fun L hL => ?_
      have bL : B L = false := A.sr.fresh hL
      have nL : ¬ Mine σ ρ1 L := fun m => by
        have := A.sr.mine m
        rw [bL] at this
        cases this
      refine ⟨fun i m H' => ∃ ρk acc av, m = ds.length - i ∧ i ≤ ds.length ∧ SR K (ins L B) σ H' ρk ∧ Kin ρ1 ρk ∧ (∀ b o, H1 b = some o → ¬ Mine σ ρ1 b → H' b = some o) ∧ (∀ b o, H1 b = some o → ∃ o', H' b = some o') ∧ H' L = some (.lst av) ∧ RpL K (hide (ins L B) H') av acc ∧ lcD vs mg mt me (ds.drop i) acc ρk = some (accF, ρF),
        ⟨ds.length, ρ1, [], [], by simp, Nat.zero_le _, A.sr.ins hL (Sub.new hL) ⟨_, upd_same⟩, Kin.refl _, fun b o e _ => ?_, fun b o e => ⟨o, ?_⟩, upd_same, .nil, by simpa using q2⟩, ?_⟩
      · rw [upd_ne (ne_of_none e hL)]; exact e
      · rw [upd_ne (ne_of_none e hL)]; exact e
      rintro i m H' ⟨ρk, acc, av, rfl, hle, Sk, kin, keep, grow, hA, rA, hf⟩
      have vis : Sub (hide B H1) (hide (ins L B) H') := fun a o z => by
        obtain ⟨z1, z2⟩ := hide_some z
        refine hide_of ?_ (keep a o z2 fun m => by rw [A.sr.mine m] at z1; cases z1)
        cases q : ins L B a with
        | false => rfl
        | true =>
          rcases ins_or q with y | y
          · rw [y, hL] at z2; cases z2
          · rw [z1] at y; cases y
      obtain ⟨go, stop⟩ := ok (ins L B) H' vis Sk.bk
      by_cases hlt : i < ds.length
      · obtain ⟨d, hd⟩ : ∃ d, ds[i]? = some d := ⟨_, List.getElem?_eq_getElem hlt⟩
        have dr : ds.drop i = d :: ds.drop (i + 1) := by
          rw [List.drop_eq_getElem_cons hlt]
          rw [List.getElem?_eq_getElem hlt] at hd
          cases hd
          rfl
        rw [dr] at hf
        obtain ⟨g1, g2⟩ := go i d hd
        refine .inr ⟨g1, fun H' => ∃ ρk acc av, SR K (ins L B) σ H' ρk ∧ Kin ρ1 ρk ∧ (∀ b o, H1 b = some o → ¬ Mine σ ρ1 b → H' b = some o) ∧ (∀ b o, H1 b = some o → ∃ o', H' b = some o') ∧ H' L = some (.lst av) ∧ RpL K (hide (ins L B) H') av acc ∧ lcD vs mg mt me (ds.drop (i + 1)) acc ρk = some (accF, ρF),
          fun H'' ⟨ρ2, ac, av, h⟩ => ⟨ds.length - (i + 1), by omega, ρ2, ac, av, rfl, hlt, h⟩, fun x H2 y => ?_⟩
        obtain ⟨sb, rx⟩ := g2 x H2 y
        unfold lcD at hf
        cases z1 : mg d (wipeA ρk vs) with
        | none => simp [z1] at hf
        | some ρ2 =>
          simp only [z1, Option.bind_some] at hf
          have S2 : SR K (ins L B) σ H2 ρk := Sk.grow sb
          refine hg (wipe σ vs) H2 (wipeA ρk vs) (ins L B) x d ρ2 S2.wipe rx z1 _ fun σ2 b2 loc hl => ?_
          have wip : wipe σ2 vs = wipe σ vs := by
            rw [wipe_eq, wipe_eq]
            have hl' : σ2.length = σ.length := by rw [hl, wipe_eq, wipeA_length]
            refine List.ext_getElem? fun j => ?_
            by_cases q : j ∈ vs
            · by_cases q' : j < σ.length
              · rw [wipeA_in q (by omega), wipeA_in q q']
              · rw [List.getElem?_eq_none (by rw [wipeA_length]; omega), List.getElem?_eq_none (by rw [wipeA_length]; omega)]
            · rw [wipeA_out q, wipeA_out q, (loc j fun z => q (hj j z)).1, wipe_eq, wipeA_out q]
          refine ⟨wip, ?_⟩
          cases z2 : mt ρ2 with
          | none => simp [z2] at hf
          | some p3 =>
            obtain ⟨b, ρ3⟩ := p3
            simp only [z2, Option.bind_some] at hf
            have hAL : H2 L = some (.lst av) := sb _ _ hA
            have nL2 : ¬ Mine σ2 ρ2 L := fun m => by
              rcases b2.mine L m with z | z
              · exact nL (kin.mine.mp (mine_wipe z).1)
              · rw [hAL] at z; cases z
            refine ht σ2 H2 ρ2 (ins L B) b ρ3 b2.sr z2 _ fun H3 A3 => ?_
            have conv : ∀ {H4 : Hp} {ρ4 : En}, Af K (ins L B) σ2 H2 ρ2 H4 ρ4 → SR K (ins L B) σ H4 (unw ρk ρ4 vs) ∧ Kin ρ1 (unw ρk ρ4 vs) ∧ (∀ b o, H1 b = some o → ¬ Mine σ ρ1 b → H4 b = some o) ∧ (∀ b o, H1 b = some o → ∃ o', H4 b = some o') ∧ H4 L = some (.lst av) ∧ RpL K (hide (ins L B) H4) av acc := fun {H4 ρ4} A4 => by
              obtain ⟨a1, a2, a3, a4⟩ := back_sr S2 b2 loc hj hl A4
              refine ⟨a1, kin.trans a2, fun b o e n => a3 b o (sb _ _ (keep b o e n)) fun m => n (kin.mine.mp m), fun b o e => ?_, A4.keep L _ hAL nL2, (rA.mono (hsub sb)).mono (A4.sub b2.sr)⟩
              obtain ⟨o', e'⟩ := grow b o e
              exact a4 b o' (sb _ _ e')
            cases b with
            | false =>
              simp at hf
              obtain ⟨c1, c2, c3, c4, c5, c6⟩ := conv A3
              exact ⟨_, acc, av, c1, c2, c3, c4, c5, c6, hf⟩
            | true =>
              rw [if_pos rfl] at hf
              show te σ2 H3 _
              cases z3 : me ρ3 with
              | none => simp [z3] at hf
              | some p4 =>
                obtain ⟨z, ρ4⟩ := p4
                simp only [z3, Option.bind_some] at hf
                split at hf
                · rename_i hn
                  refine he σ2 H3 ρ3 (ins L B) z ρ4 A3.sr z3 _ fun v H4 A4 rv => ?_
                  obtain ⟨c1, c2, c3, c4, c5, c6⟩ := conv (A3.trans A4)
                  refine ⟨av, c5, Nat.lt_of_lt_of_le (by rw [rA.length]; exact hn) (by decide), unw ρk ρ4 vs, acc ++ [z], av ++ [v], ?_, c2, fun b o e n => ?_, fun b o e => ?_, upd_same, ?_, hf⟩
                  · exact c1.upd_hidden ins_self fun m => nL (c2.mine.mp m)
                  · rw [upd_ne (ne_of_none e hL)]; exact c3 b o e n
                  · rw [upd_ne (ne_of_none e hL)]; exact c4 b o e
                  · rw [upd_hide ins_self]
                    exact c6.append (.cons rv .nil)
                · cases hf
      · have ei : i = ds.length := by omega
        subst ei
        rw [List.drop_length] at hf
        cases hf
        have A2 : Af K B σ H1 ρ1 H' ρF := ⟨Sk.unins A.sr kin grow, keep, grow, kin⟩
        exact .inl ⟨stop, q L H' (A.trans A2) Sk (back_none A hL) (by rw [hA]; exact ⟨av, rfl, rA⟩)⟩
end
/-- the contexts of a block within -/
abbrev C0.in_ (c : C0) : C0 := { c with top := false }
section
variable {c : C0} {N : List Str} {sc scope : Scope} {elt tg iter : Expr} {ifs : List Expr} {pos p1 spos : Pos} {own : List (Str × Nat)} {js : List Nat} {mi : En → Option (List D × En)} {mg : D → En → Option En} {mt : En → Option (Bool × En)} {me : En → Option (D × En)} {i : Nat} {x : Str}
theorem In.blk {X : Cx} (I : In c N sc X) (s : Shared) (H : Hp) (C : Addr) (cl : List (Str × Addr)) (fp : List Addr) : In c.in_ N (relS scope sc) (X.blk s H scope (compEnvC scope cl C X.env) fp) :=
  ⟨I.P, I.w, I.K, I.mg, I.base, I.rm, I.N, by
    show relS scope X.env.scope = _
    rw [I.sc], I.calm, fun h => (by cases h), PassesOwn.never⟩
def JTs (c : C0) (N : List Str) (sc : Scope) (es : List Expr) (m : En → Option (Bool × En)) : Prop := ∃ t, (∀ X, In c N sc X → PTs X es t) ∧ Stt c.K t m
theorem jts_nil : JTs c N sc [] yesK := ⟨_, fun _ _ => pts_nil, fun σ H ρ B d ρ' S e Q q => by
  cases e
  exact q H (Af.refl S)⟩
theorem jts_one {e : Expr} (h : JT c N sc e mt) : JTs c N sc [e] mt := by
  obtain ⟨t, h1, h2⟩ := h
  exact ⟨t, fun X I => pts_one (h1 X I), h2⟩
theorem jf_lc (nd : N.Nodup) (hi : JI c N sc tg iter mi) (ok : BlkOk N sc scope own) (hg : JTg c.in_ N (relS scope sc) tg js mg) (ht : JTs c.in_ N (relS scope sc) ifs mt) (he : JE c.in_ N (relS scope sc) elt me)
    (hj : (js.all fun j => (own.map (·.2)).contains j) = true := by rfl) (hs : ∀ env x, foldedSetIterable iter env x = pure x := by intros; rfl) : JF c N sc (.ListComp elt [⟨tg, iter, ifs, 0⟩] scope pos) (lcK (own.map (·.2)) mi mg mt me) := by
  obtain ⟨wi, a1, a2⟩ := hi
  obtain ⟨g, b1, b2⟩ := hg
  obtain ⟨tt, c1, c2⟩ := ht
  obtain ⟨te, d1, d2⟩ := he
  refine ⟨_, fun X I => pe_lc I.calm (by rw [I.N]; exact nd) (a1 X I) (by rw [I.N, I.sc]; exact ok) (fun s H C cl fp => b1 _ (I.blk s H C cl fp)) (fun s H C cl fp => c1 _ (I.blk s H C cl fp)) (fun s H C cl fp => d1 _ (I.blk s H C cl fp)) (hs _), sf_lc a2 b2 (fun j h => ?_) c2 d2⟩
  have := (List.all_eq_true.mp hj) j h
  simpa using this
theorem js_lc {mgo : D → En → Option En} (so : ∀ te, Sf c.K te (lcK (own.map (·.2)) mi mg mt me) → SS c.K (tAsg te (gName i)) (asgS (lcK (own.map (·.2)) mi mg mt me) mgo)) (nd : N.Nodup) (hN : N[i]? = some x) (hx : sc.names.lookup x = some .local) (hk : sc.kind = .function) (hl : (p1.line == pos.line) = true) (hn : (scope.names.any fun (n, k) => n == x && (k == .local || k == .cell)) = false)
    (hi : JI c N sc tg iter mi) (ok : BlkOk N sc scope own) (hg : JTg c.in_ N (relS scope sc) tg js mg) (ht : JTs c.in_ N (relS scope sc) ifs mt) (he : JE c.in_ N (relS scope sc) elt me)
    (hj : (js.all fun j => (own.map (·.2)).contains j) = true := by rfl) (hs : ∀ env x, foldedSetIterable iter env x = pure x := by intros; rfl) : JS c N sc (.Assign [.Name x p1] (.ListComp elt [⟨tg, iter, ifs, 0⟩] scope pos) spos) (asgS (lcK (own.map (·.2)) mi mg mt me) mgo) := by
  obtain ⟨wi, a1, a2⟩ := hi
  obtain ⟨g, b1, b2⟩ := hg
  obtain ⟨tt, c1, c2⟩ := ht
  obtain ⟨te, d1, d2⟩ := he
  refine ⟨_, fun X I => ps_setLc I.calm (by rw [I.N]; exact nd) (by rw [I.N]; exact hN) (by rw [I.sc]; exact hx) (sw_true (by rw [I.sc]; exact hk) (by rw [I.sc]; exact hx) hl hn) (a1 X I) (by rw [I.N, I.sc]; exact ok) (fun s H C cl fp => b1 _ (I.blk s H C cl fp)) (fun s H C cl fp => c1 _ (I.blk s H C cl fp)) (fun s H C cl fp => d1 _ (I.blk s H C cl fp)) (hs _), so _ (sf_lc a2 b2 (fun j h => ?_) c2 d2)⟩
  have := (List.all_eq_true.mp hj) j h
  simpa using this
end

/-! ### a def -/
def noOwn : List Sl → Bool
  | [] => true
  | .own _ :: _ => false
  | _ :: r => noOwn r
def finA : List Sl → En → List Sl
  | .bor _ :: r, some (.bor e) :: q => .bor e :: finA r q
  | a :: r, _ :: q => a :: finA r q
  | as, _ => as
def runF (p n : Nat) (m : En → Option SO) : Fm := fun as => if as.length = p ∧ noOwn as = true then (match m (as.map some ++ List.replicate (n - p) none) with
  | some (.rt d ρ) => some (d, finA as ρ)
  | some (.nx ρ) => some (.none, finA as ρ)
  | _ => none) else none
theorem noOwn_get : ∀ {as : List Sl} {i : Nat} {d : D}, noOwn as = true → as[i]? ≠ some (.own d)
  | [], i, d, _ => by simp
  | .val d :: r, 0, _, _ => by simp
  | .bor d :: r, 0, _, _ => by simp
  | .own d :: r, _, _, h => by cases h
  | .val d :: r, i + 1, e, h => by simpa using noOwn_get (as := r) (i := i) (d := e) h
  | .bor d :: r, i + 1, e, h => by simpa using noOwn_get (as := r) (i := i) (d := e) h
theorem finA_get : ∀ (as : List Sl) (ρ : En) (i : Nat), (finA as ρ).length = as.length ∧ ((∃ d e, as[i]? = some (.bor d) ∧ ρ[i]? = some (some (.bor e)) ∧ (finA as ρ)[i]? = some (.bor e)) ∨ ((finA as ρ)[i]? = as[i]? ∧ ∀ d e, as[i]? = some (.bor d) → ρ[i]? ≠ some (some (.bor e))))
  | [], ρ, i => ⟨by cases ρ <;> rfl, .inr ⟨by cases ρ <;> rfl, fun d e h => by simp at h⟩⟩
  | a :: r, [], i => ⟨by cases a <;> rfl, .inr ⟨by cases a <;> rfl, fun d e h => by simp⟩⟩
  | .bor d :: r, some (.bor e) :: q, i => by
    obtain ⟨l, h⟩ := finA_get r q (i - 1)
    refine ⟨congrArg (· + 1) l, ?_⟩
    cases i with
    | zero => exact .inl ⟨d, e, rfl, rfl, rfl⟩
    | succ i => exact h
  | .bor d :: r, none :: q, i => by
    obtain ⟨l, h⟩ := finA_get r q (i - 1)
    refine ⟨congrArg (· + 1) l, ?_⟩
    cases i with
    | zero => exact .inr ⟨rfl, fun _ _ _ => by simp⟩
    | succ i => exact h
  | .bor d :: r, some (.val e) :: q, i => by
    obtain ⟨l, h⟩ := finA_get r q (i - 1)
    refine ⟨congrArg (· + 1) l, ?_⟩
    cases i with
    | zero => exact .inr ⟨rfl, fun _ _ _ => by simp⟩
    | succ i => exact h
  | .bor d :: r, some (.own e) :: q, i => by
    obtain ⟨l, h⟩ := finA_get r q (i - 1)
    refine ⟨congrArg (· + 1) l, ?_⟩
    cases i with
    | zero => exact .inr ⟨rfl, fun _ _ _ => by simp⟩
    | succ i => exact h
  | .val d :: r, o :: q, i => by
    obtain ⟨l, h⟩ := finA_get r q (i - 1)
    refine ⟨congrArg (· + 1) l, ?_⟩
    cases i with
    | zero => exact .inr ⟨rfl, fun _ _ h => by simp at h⟩
    | succ i => exact h
  | .own d :: r, o :: q, i => by
    obtain ⟨l, h⟩ := finA_get r q (i - 1)
    refine ⟨congrArg (· + 1) l, ?_⟩
    cases i with
    | zero => exact .inr ⟨rfl, fun _ _ h => by simp at h⟩
    | succ i => exact h
section
variable {K : Frag} {B B' : Addr → Bool} {σ' : L2.St} {H H' : Hp} {ρ' : En} {vs : List V} {as : List Sl} {n : Nat}
theorem pad_get {α : Type} {l : List α} {n i : Nat} {x : α} : (l.map some ++ List.replicate n none)[i]? = some (some x) ↔ l[i]? = some x := by
  by_cases h : i < l.length
  · rw [List.getElem?_append_left (by simpa using h), List.getElem?_map]
    cases l[i]? <;> simp
  · rw [List.getElem?_append_right (by simpa using h)]
    constructor
    · intro q
      have := List.mem_of_getElem? q
      rw [List.mem_replicate] at this
      cases this.2
    · intro q
      rw [List.getElem?_eq_none (by omega)] at q
      cases q
theorem some_get {α : Type} {l : List α} {i : Nat} {x : α} : (l.map some)[i]? = some (some x) ↔ l[i]? = some x := by
  rw [List.getElem?_map]
  cases l[i]? <;> simp
theorem entry_sr (S : SR K B (vs.map some) H (as.map some)) : SR K B (vs.map some ++ List.replicate n none) H (as.map some ++ List.replicate n none) := by
  have hl := S.len
  refine ⟨by simpa using hl, fun i d e => ?_, fun i s e m => ?_, fun i j s t l e1 m1 e2 m2 e3 e4 => ?_, S.bk⟩
  · obtain ⟨v, a, b⟩ := S.val i d (some_get.mpr (pad_get.mp e))
    exact ⟨v, pad_get.mpr (some_get.mp a), b⟩
  · obtain ⟨v, a, b⟩ := S.mu_ i s (some_get.mpr (pad_get.mp e)) m
    exact ⟨v, pad_get.mpr (some_get.mp a), b⟩
  · exact S.inj i j s t l (some_get.mpr (pad_get.mp e1)) m1 (some_get.mpr (pad_get.mp e2)) m2 (some_get.mpr (pad_get.mp e3)) (some_get.mpr (pad_get.mp e4))
theorem entry_mine {b : Addr} : Mine (vs.map some ++ List.replicate n none) (as.map some ++ List.replicate n none) b ↔ Mine (vs.map some) (as.map some) b := by
  constructor
  · rintro ⟨i, s, a, m, c⟩
    exact ⟨i, s, some_get.mpr (pad_get.mp a), m, some_get.mpr (pad_get.mp c)⟩
  · rintro ⟨i, s, a, m, c⟩
    exact ⟨i, s, pad_get.mpr (some_get.mp a), m, pad_get.mpr (some_get.mp c)⟩
/-- a def's end, as its caller sees it -/
theorem leave_af (S : SR K B (vs.map some) H (as.map some)) (no : noOwn as = true) (b : Bf K B (vs.map some ++ List.replicate n none) H (as.map some ++ List.replicate n none) B' σ' H' ρ') :
    Af K B (vs.map some) H (as.map some) H' ((finA as ρ').map some) ∧ ∀ v d, Rp K (hide B' H') v d → Rp K (hide B H') v d := by
  have hb : ∀ a, B a = true → B' a = true := fun a h => by
    by_cases m : Mine (vs.map some) (as.map some) a
    · obtain ⟨i, s, e, mu, e2⟩ := m
      have e := some_get.mp e
      cases s with
      | val d => cases mu
      | own d => exact absurd e (noOwn_get no)
      | bor d =>
        obtain ⟨⟨d', h1⟩, h2⟩ := b.bor i d (pad_get.mpr e)
        obtain ⟨l, g1, g2, _⟩ := b.sr.mu_ i _ h1 rfl
        rw [h2, pad_get.mpr (some_get.mp e2)] at g1
        cases g1
        exact g2
    · exact b.hold a h fun z => m (entry_mine.mp z)
  have vis : Sub (hide B' H') (hide B H') := fun a o z => by
    obtain ⟨z1, z2⟩ := hide_some z
    refine hide_of ?_ z2
    cases q : B a with
    | false => rfl
    | true => rw [hb a q] at z1; cases z1
  have hs : Sub (hide B H) (hide B H') := fun a o z => by
    obtain ⟨z1, z2⟩ := hide_some z
    refine hide_of z1 (b.keep a o z2 fun m => ?_)
    rw [S.mine (entry_mine.mp m)] at z1
    cases z1
  have kin : Kin (as.map some) ((finA as ρ').map some) := fun i => by
    obtain ⟨l, h⟩ := finA_get as ρ' i
    rw [List.getElem?_map, List.getElem?_map]
    rcases h with ⟨d, e, a1, a2, a3⟩ | ⟨a1, _⟩
    · rw [a1, a3]
      trivial
    · rw [a1]
      exact Ks.refl _
  refine ⟨⟨⟨?_, fun i d e => ?_, fun i s e m => ?_, fun i j s t l e1 m1 e2 m2 e3 e4 => ?_, fun a h => ?_⟩, fun c o e nm => b.keep c o e fun z => nm (entry_mine.mp z), b.grow, kin⟩, fun v d r => r.mono vis⟩
  · have := S.len
    rw [List.length_map, List.length_map] at this
    rw [List.length_map, List.length_map, (finA_get as ρ' 0).1]
    exact this
  · have k := kin i
    rw [e] at k
    have e0 : (as.map some)[i]? = some (some (.val d)) := by
      match q : (as.map some)[i]?, k with
      | some (some (.val d')), k =>
        have : d' = d := k
        rw [this]
    obtain ⟨v, a, r⟩ := S.val i d e0
    exact ⟨v, a, r.mono hs⟩
  · have e := some_get.mp e
    rcases (finA_get as ρ' i).2 with ⟨d, d', a1, a2, a3⟩ | ⟨a1, a2⟩
    · rw [a3] at e
      cases e
      obtain ⟨l, g1, g2, g3⟩ := b.sr.mu_ i _ a2 rfl
      obtain ⟨_, h2⟩ := b.bor i d (pad_get.mpr a1)
      rw [h2] at g1
      obtain ⟨l', f1, f2, _⟩ := S.mu_ i _ (some_get.mpr a1) rfl
      have f1' := pad_get (n := n) |>.mpr (some_get.mp f1)
      rw [f1'] at g1
      cases g1
      exact ⟨_, f1, f2, g3.mono vis⟩
    · rw [a1] at e
      cases s with
      | val d => cases m
      | own d => exact absurd e (noOwn_get no)
      | bor d =>
        obtain ⟨⟨d', h1⟩, _⟩ := b.bor i d (pad_get.mpr e)
        exact absurd h1 (a2 d d' e)
  · have k1 := kin i
    rw [e1] at k1
    obtain ⟨u1, a1, n1⟩ := k1.mu'
    have k2 := kin j
    rw [e2] at k2
    obtain ⟨u2, a2, n2⟩ := k2.mu'
    exact S.inj i j u1 u2 l a1 (n1.trans m1) a2 (n2.trans m2) e3 e4
  · obtain ⟨o, e⟩ := S.bk a h
    exact b.grow a o e
end
/-- THE RULE for a def -/
theorem fn_ok {c : C0} {x qual : Str} {st : Stmt} {f : Addr} {fd : FuncData} {N ps : List Str} {k : Nat} {m : En → Option SO} (F : Fun c.K x qual st f fd) (S : FnScope N ps (defScope st)) (h : JB { c with k := k, top := true } N (defScope st) (defBody st) m) (hn : ps.length ≤ N.length := by decide) :
    FnOk c.P c.w c.K c.mg c.base CX0 (k + 1) f fd ps (spD c.K (runF ps.length N.length m)) := by
  refine F.ok S (fun vs H Q E h => ?_) (fun cdv A outer s H vs Q E hr h' => ?_)
  · obtain ⟨B, as, d, as', h1, h2, _⟩ := h
    have hl := h2.len
    rw [List.length_map, List.length_map] at hl
    unfold runF at h1
    split at h1
    · rename_i q
      rw [hl]; exact q.1
    · cases h1
  · obtain ⟨B, as, d, as', h1, h2, h3⟩ := h'
    obtain ⟨t, t1, t2⟩ := h
    refine ⟨t, t1 _ ⟨rfl, rfl, rfl, rfl, rfl, hr, rfl, rfl, rfl, fun _ => rfl, PassesOwn.never⟩, ?_⟩
    have hl := h2.len
    rw [List.length_map, List.length_map] at hl
    unfold runF at h1
    split at h1
    · rename_i q
      obtain ⟨q1, q2⟩ := q
      have es : L2.start N vs = vs.map some ++ List.replicate (N.length - ps.length) none := by
        unfold L2.start
        rw [hl, q1]
      rw [es]
      have S0 := entry_sr (n := N.length - ps.length) h2
      split at h1
      · rename_i d' ρ' e
        cases h1
        refine t2 _ H _ B _ S0 e _ fun v B' σ' H' b r => ?_
        obtain ⟨a, w⟩ := leave_af h2 q2 b
        exact h3 v H' a (w _ _ r)
      · rename_i ρ' e
        cases h1
        refine t2 _ H _ B _ S0 e _ fun B' σ' H' b => ?_
        obtain ⟨a, w⟩ := leave_af h2 q2 b
        exact h3 .non H' a .non
      · cases h1
    · cases h1
theorem fnD {c : C0} {x qual : Str} {st : Stmt} {f : Addr} {fd : FuncData} {N ps : List Str} {k : Nat} {m : En → Option SO} (F : Fun c.K x qual st f fd) (hm : c.mg x = some (.ref f)) (b : Binds c.K fd ps []) (S : FnScope N ps (defScope st)) (h : JB { c with k := k, top := true } N (defScope st) (defBody st) m) (hn : ps.length ≤ N.length := by decide) :
    FnD c (k + 1) x ps (runF ps.length N.length m) := ⟨f, fd, fn_ok F S h hn, hm, F.kp, b⟩
end Dz

/-! Dz. G: operations by data. -/
namespace Dz
open PySem L2
variable {c : C0} {N : List Str} {sc : Scope}

/-! ### data of bounded depth, no dicts -/
def okD : Nat → D → Bool
  | _, .none => true
  | _, .bool _ => true
  | _, .int _ => true
  | _, .str x => PyData.strOk x
  | k + 1, .list ds => ds.all (okD k)
  | k + 1, .tuple ds => ds.all (okD k)
  | _, _ => false
theorem okD_all {k : Nat} (h : ∀ d, okD k d = true → d.canLay0 = true ∧ d.depth ≤ k ∧ plain d = true) : ∀ ds : List D, ds.all (okD k) = true → PyData.canLayAll0 ds = true ∧ PyData.depthAll ds ≤ k ∧ plains ds = true
  | [], _ => ⟨rfl, Nat.zero_le _, rfl⟩
  | d :: ds, q => by
    have q' : okD k d = true ∧ ds.all (okD k) = true := by simpa using q
    obtain ⟨a1, a2, a3⟩ := h d q'.1
    obtain ⟨b1, b2, b3⟩ := okD_all h ds q'.2
    refine ⟨by simp [PyData.canLayAll0, a1, b1], ?_, by simp [plains, a3, b3]⟩
    show max d.depth (PyData.depthAll ds) ≤ k
    omega
theorem okD_ok : ∀ (k : Nat) (d : D), okD k d = true → d.canLay0 = true ∧ d.depth ≤ k ∧ plain d = true
  | k, .none, _ => ⟨rfl, by cases k <;> exact Nat.zero_le _, rfl⟩
  | k, .bool _, _ => ⟨rfl, by cases k <;> exact Nat.zero_le _, rfl⟩
  | k, .int _, _ => ⟨rfl, by cases k <;> exact Nat.zero_le _, rfl⟩
  | k, .str x, h => ⟨by cases k <;> exact h, by cases k <;> exact Nat.zero_le _, rfl⟩
  | 0, .list ds, h => by cases h
  | 0, .tuple ds, h => by cases h
  | k + 1, .list ds, h => by
    obtain ⟨a, b, c⟩ := okD_all (okD_ok k) ds h
    exact ⟨a, Nat.succ_le_succ b, c⟩
  | k + 1, .tuple ds, h => by
    obtain ⟨a, b, c⟩ := okD_all (okD_ok k) ds h
    exact ⟨a, Nat.succ_le_succ b, c⟩
  | 0, .dict _, h => by cases h
  | k + 1, .dict _, h => by cases h
theorem okD_shaped {k : Nat} {d : D} (h : okD k d = true) (hk : k ≤ 64) : SeqAt.shaped d = true ∧ plain d = true := by
  obtain ⟨a, b, e⟩ := okD_ok k d h
  exact ⟨by unfold SeqAt.shaped; simp [a]; omega, e⟩

/-! ### arithmetic -/
theorem rp_sub {K : Frag} {B : Addr → Bool} {H H' : Hp} {v : V} {d : D} (e : Sub H H') (h : Rp K (hide B H) v d) : Rp K (hide B H') v d := h.mono (hsub e)
theorem lst_new {K : Frag} {B : Addr → Bool} {H : Hp} {p : Addr} {vs : List V} {ds : List D} (bk : ∀ a, B a = true → ∃ o, H a = some o) (h : H p = none) (r : RpL K (hide B H) vs ds) : Sub H (upd H p (.lst vs)) ∧ Rp K (hide B (upd H p (.lst vs))) (.ref p) (.list ds) := by
  have bp : B p = false := by
    cases q : B p with
    | false => rfl
    | true => obtain ⟨o, e⟩ := bk p q; rw [h] at e; cases e
  exact ⟨Sub.new h, .lst (.inl (.inl (hide_of bp upd_same))) (r.mono (hsub (Sub.new h)))⟩
/-- t + u, its object known -/
def rCatX (K : Frag) : R2 := fun x y H Q => ∃ a b xs ys, x = .ref a ∧ y = .ref b ∧ SqT K H a xs ∧ SqT K H b ys ∧ xs.length + ys.length ≤ sizeLine ∧
  (xs = [] → Q (.ref b) H) ∧ (xs ≠ [] → ys = [] → Q (.ref a) H) ∧ (xs ≠ [] → ys ≠ [] → ∀ p o, ExT o → H p = none → Q (.ref p) (upd H p (.frz o (.tup (xs ++ ys)))))
theorem op_catX {X : Cx} : OpR X (binaryOp .Add) (rCatX X.K) := by
  intro pins s σ H x y v u Q I rx ry h
  obtain ⟨a, b, xs, ys, rfl, rfl, ha, hb, hz, q0, q1, q2⟩ := h
  cases rx
  cases ry
  obtain ⟨its, r1, p1, _⟩ := I.tuple ha
  obtain ⟨its2, r2, p2, _⟩ := I.tuple hb
  by_cases hx : xs = []
  · subst hx
    cases r1
    exact cat_tup0 p1 p2 ⟨.ref b, H, I, rfl, q0 rfl⟩
  · refine HT.cat_tup p1 p2 (fun z => hx (r1.nil_iff.mp z)) (fun z => ⟨.ref a, H, I, rfl, q1 hx (r2.nil_iff.mp z)⟩) (fun z => ?_) (by rw [← r1.length, ← r2.length]; exact hz)
    exact ⟨.ref s.heap.objs.size, _, tnew I (r1.append r2) (by rw [List.length_append]; exact hz), rfl, q2 hx (fun w => z (r2.nil_iff.mpr w)) _ _ ⟨rfl, rfl⟩ (I.hok.fresh (Nat.le_refl _))⟩
/-- list + list, whatever the lists are -/
def rCatL (K : Frag) : R2 := fun x y H Q => ∃ a b xs ys, x = .ref a ∧ y = .ref b ∧ SqL K H a xs ∧ SqL K H b ys ∧ xs.length + ys.length ≤ sizeLine ∧ ∀ p, H p = none → Q (.ref p) (upd H p (.lst (xs ++ ys)))
theorem op_catL {X : Cx} : OpR X (binaryOp .Add) (rCatL X.K) := by
  intro pins s σ H x y v u Q I rx ry h
  obtain ⟨l, b, xs, zs, rfl, rfl, hH, hB, hz, q⟩ := h
  cases rx
  cases ry
  obtain ⟨its, r, pl, z1⟩ := I.list hH
  obtain ⟨its2, r2, pl2, z2⟩ := I.list hB
  have l1 := r.length
  have l2 := r2.length
  obtain ⟨⟨cls, dd, data, sl⟩, ho, hc, n, hd⟩ := pl.isList
  obtain ⟨⟨cls2, dd2, data2, sl2⟩, ho2, hc2, n2, hd2⟩ := pl2.isList
  simp only at hc hd hc2 hd2
  subst hc hd hc2 hd2
  have e : its.toArray ++ its2.toArray = (its ++ its2).toArray := by simp
  refine concat_meets ⟨_, ho, rfl⟩ ⟨_, ho2, rfl⟩ noFill_list_add seq_list_add PySem.F.slot_list_add PySem.F.entry_list_add (PySem.F.args_list_add_2 _ _) (PyProof.Rows.list_addW l b its.toArray its2.toArray n n2 dd dd2 sl sl2 (by rw [List.size_toArray, List.size_toArray]; omega)) ⟨ho, ho2, ?_⟩
  rw [e]
  exact ⟨.ref _, _, I.lnew (t' := s.toks) (r.append r2) (by rw [List.length_append]; omega), rfl, q _ I.fresh⟩
def dAdd : D → D → Option D
  | .int a, .int b => some (.int (a + b))
  | .str a, .str b => if a.length + b.length ≤ 100000 then some (.str (a ++ b)) else none
  | .list a, .list b => if a.length + b.length ≤ 100000 then some (.list (a ++ b)) else none
  | .tuple a, .tuple b => if a.length + b.length ≤ 100000 then some (.tuple (a ++ b)) else none
  | _, _ => none
theorem o_add : OpD c.K (In c N sc) (binaryOp .Add) dAdd := by
  refine ⟨_, fun X I => by
    have h := OpR.or (X := X) op_add (OpR.or op_add_str (OpR.or op_catL op_catX))
    rw [I.K] at h
    exact h, fun B H x y d e z bk hx hy hz Q q => ?_⟩
  unfold dAdd at hz
  split at hz
  · cases hz
    exact .inl ⟨_, _, hx.int, hy.int, q _ H (Sub.refl H) (.int _)⟩
  · split at hz
    · rename_i hl
      cases hz
      exact .inr (.inl ⟨_, _, hx.str, hy.str, sz5 hl, q _ H (Sub.refl H) (.str _)⟩)
    · cases hz
  · split at hz
    · rename_i hl
      cases hz
      obtain ⟨a, xs, rfl, h1, r1⟩ := hx.list
      obtain ⟨b, ys, rfl, h2, r2⟩ := hy.list
      refine .inr (.inr (.inl ⟨a, b, xs, ys, rfl, rfl, h1, h2, by rw [r1.length, r2.length]; exact sz5 hl, fun p hp => ?_⟩))
      obtain ⟨s1, r3⟩ := lst_new bk hp (r1.append r2)
      exact q _ _ s1 r3
    · cases hz
  · split at hz
    · rename_i a b hl
      cases hz
      obtain ⟨a, xs, rfl, h1, r1⟩ := hx.tuple
      obtain ⟨b, ys, rfl, h2, r2⟩ := hy.tuple
      have sub : ∀ {w : Addr} {us : List V} {ds : List D}, Rs c.K B H (.ref w) (.tuple ds) → Rp c.K (hide B H) (.ref w) (.tuple ds) := fun h => by
        cases h with
        | vis h => exact h
      refine .inr (.inr (.inr ⟨a, b, xs, ys, rfl, rfl, h1, h2, by rw [r1.length, r2.length]; exact sz5 hl, fun e => ?_, fun _ e => ?_, fun _ _ p o ho hp => ?_⟩))
      · subst e
        cases r1
        exact q _ H (Sub.refl H) (sub (us := ys) hy)
      · subst e
        cases r2
        rw [List.append_nil] at q
        exact q _ H (Sub.refl H) (sub (us := xs) hx)
      · obtain ⟨s1, r3⟩ := tup_new bk ho hp (r1.append r2)
        exact q _ _ s1 r3
    · cases hz
  · cases hz
/-- list + list, a new list of the def's own -/
def dCat : D → D → Option D
  | .list a, .list b => if a.length + b.length ≤ 100000 then some (.list (a ++ b)) else none
  | _, _ => none
theorem of_cat : OpF c.K (In c N sc) (binaryOp .Add) dCat := by
  refine ⟨_, fun X I => by
    have h := op_catL (X := X)
    rw [I.K] at h
    exact h, fun B H x y d e z bk hx hy hz Q q => ?_⟩
  unfold dCat at hz
  split at hz
  · split at hz
    · rename_i hl
      cases hz
      obtain ⟨a, xs, rfl, h1, r1⟩ := hx.list
      obtain ⟨b, ys, rfl, h2, r2⟩ := hy.list
      refine ⟨a, b, xs, ys, rfl, rfl, h1, h2, by rw [r1.length, r2.length]; exact sz5 hl, fun p hp => ?_⟩
      exact q _ _ (Sub.new hp) hp (own_new hp (r1.append r2))
    · cases hz
  · cases hz
def dSub : D → D → Option D
  | .int a, .int b => some (.int (a - b))
  | _, _ => none
theorem o_sub : OpD c.K (In c N sc) (binaryOp .Sub) dSub := by
  refine ⟨_, fun X I => op_sub, fun B H x y d e z bk hx hy hz Q q => ?_⟩
  unfold dSub at hz
  split at hz
  · cases hz
    exact ⟨_, _, hx.int, hy.int, q _ H (Sub.refl H) (.int _)⟩
  · cases hz
/-- one factor below 2^64 -/
def dMul : D → D → Option D
  | .int a, .int b => if (-(2 ^ 64) < a ∧ a < 2 ^ 64) ∨ (-(2 ^ 64) < b ∧ b < 2 ^ 64) then some (.int (a * b)) else none
  | _, _ => none
theorem o_mul : OpD c.K (In c N sc) (binaryOp .Mult) dMul := by
  refine ⟨_, fun X I => op_mul, fun B H x y d e z bk hx hy hz Q q => ?_⟩
  unfold dMul at hz
  split at hz
  · split at hz
    · rename_i hc
      cases hz
      exact ⟨_, _, hx.int, hy.int, hc, q _ H (Sub.refl H) (.int _)⟩
    · cases hz
  · cases hz
def dMod : D → D → Option D
  | .int a, .int b => if 0 < b then some (.int (a % b)) else none
  | _, _ => none
theorem o_mod : OpD c.K (In c N sc) (binaryOp .Mod) dMod := by
  refine ⟨_, fun X I => op_mod, fun B H x y d e z bk hx hy hz Q q => ?_⟩
  unfold dMod at hz
  split at hz
  · split at hz
    · rename_i hc
      cases hz
      exact ⟨_, _, hx.int, hy.int, hc, q _ H (Sub.refl H) (.int _)⟩
    · cases hz
  · cases hz
/-- a divisor below 2^9000 -/
def dDiv : D → D → Option D
  | .int a, .int b => if 0 < b ∧ b < 2 ^ 80 then some (.int (a / b)) else none
  | _, _ => none
theorem o_div : OpD c.K (In c N sc) (binaryOp .FloorDiv) dDiv := by
  refine ⟨_, fun X I => op_fdivW, fun B H x y d e z bk hx hy hz Q q => ?_⟩
  unfold dDiv at hz
  split at hz
  · split at hz
    · rename_i hc
      cases hz
      exact ⟨_, _, hx.int, hy.int, wide_div (b := 80) hc.1 (by omega) (by decide) (by decide), q _ H (Sub.refl H) (.int _)⟩
    · cases hz
  · cases hz
def dPow : D → D → Option D
  | .int a, .int b => if 0 ≤ b ∧ b ≤ 1000000 ∧ a.natAbs < 2 ^ 64 then some (.int (a ^ b.toNat)) else none
  | _, _ => none
theorem o_pow : OpD c.K (In c N sc) (binaryOp .Pow) dPow := by
  refine ⟨_, fun X I => op_pow, fun B H x y d e z bk hx hy hz Q q => ?_⟩
  unfold dPow at hz
  split at hz
  · split at hz
    · rename_i hc
      cases hz
      exact ⟨_, _, hx.int, hy.int, hc, q _ H (Sub.refl H) (.int _)⟩
    · cases hz
  · cases hz
def dShl : D → D → Option D
  | .int a, .int b => if 0 ≤ b ∧ b ≤ 1000000 ∧ a.natAbs < 2 ^ 64 then some (.int (a * 2 ^ b.toNat)) else none
  | _, _ => none
theorem o_shl : OpD c.K (In c N sc) (binaryOp .LShift) dShl := by
  refine ⟨_, fun X I => op_shl, fun B H x y d e z bk hx hy hz Q q => ?_⟩
  unfold dShl at hz
  split at hz
  · split at hz
    · rename_i hc
      cases hz
      exact ⟨_, _, hx.int, hy.int, hc, q _ H (Sub.refl H) (.int _)⟩
    · cases hz
  · cases hz
def dShr : D → D → Option D
  | .int a, .int b => if 0 ≤ b then some (.int (a / 2 ^ b.toNat)) else none
  | _, _ => none
theorem o_shr : OpD c.K (In c N sc) (binaryOp .RShift) dShr := by
  refine ⟨_, fun X I => op_shr, fun B H x y d e z bk hx hy hz Q q => ?_⟩
  unfold dShr at hz
  split at hz
  · split at hz
    · rename_i hc
      cases hz
      exact ⟨_, _, hx.int, hy.int, hc, q _ H (Sub.refl H) (.int _)⟩
    · cases hz
  · cases hz

/-! ### comparisons -/
/-- data that are alike, in order -/
def okC (d e : D) : Bool := okD 60 d && okD 60 e && PySem.W.alike d e && (match d with
  | .none => false
  | _ => true)
theorem okC_all {d e : D} (h : okC d e = true) : okD 60 d = true ∧ okD 60 e = true ∧ PySem.W.alike d e = true ∧ d ≠ .none := by
  unfold okC at h
  simp only [Bool.and_eq_true] at h
  refine ⟨h.1.1.1, h.1.1.2, h.1.2, fun z => ?_⟩
  rw [z] at h
  cases h.2
def rCmpLt (K : Frag) : R2 := fun x y H Q => ∃ d e, Dp K H x d ∧ Dp K H y e ∧ okC d e = true ∧ Q (.bl (PySem.W.dataLt d e)) H
theorem op_cmpLt {X : Cx} (hu : X.A.units + 64 < cLine) : OpR X (compareOp .Lt) (rCmpLt X.K) := by
  intro pins s σ H x y v u Q I rx ry h
  obtain ⟨d, e, hd, he, ok, q⟩ := h
  obtain ⟨k1, k2, k3, k4⟩ := okC_all ok
  obtain ⟨as, r1⟩ := Dp.reads I d x v hd rx
  obtain ⟨bs, r2⟩ := Dp.reads I e y u he ry
  have z := (okD_ok 60 d k1).2.1
  exact PySem.W.lt_data r1 r2 k3 k4 (by omega) ⟨.bl _, H, I, rfl, q⟩
def dLt (d e : D) : Option D := match d, e with
  | .int a, .int b => some (.bool (decide (a < b)))
  | .str a, .str b => some (.bool (decide (a.cps.toList < b.cps.toList)))
  | d, e => if okC d e = true then some (.bool (PySem.W.dataLt d e)) else none
theorem o_lt : OpD c.K (In c N sc) (compareOp .Lt) dLt := by
  refine ⟨_, fun X I => by
    have h := OpR.or (X := X) op_lt (OpR.or op_lt_str (op_cmpLt I.rm.units))
    rw [I.K] at h
    exact h, fun B H x y d e z bk hx hy hz Q q => ?_⟩
  unfold dLt at hz
  split at hz
  · cases hz
    exact .inl ⟨_, _, hx.int, hy.int, q _ H (Sub.refl H) (.bl _)⟩
  · cases hz
    exact .inr (.inl ⟨_, _, hx.str, hy.str, q _ H (Sub.refl H) (.bl _)⟩)
  · split at hz
    · rename_i ok
      cases hz
      obtain ⟨k1, k2, k3, k4⟩ := okC_all ok
      exact .inr (.inr ⟨_, _, hx.rp.dp (okD_ok 60 _ k1).2.2, hy.rp.dp (okD_ok 60 _ k2).2.2, ok, q _ H (Sub.refl H) (.bl _)⟩)
    · cases hz
def rCmpGt (K : Frag) : R2 := fun x y H Q => ∃ d e, Dp K H x d ∧ Dp K H y e ∧ okC d e = true ∧ Q (.bl (PySem.W.dataLt e d)) H
theorem op_cmpGt {X : Cx} (hu : X.A.units + 64 < cLine) : OpR X (compareOp .Gt) (rCmpGt X.K) := by
  intro pins s σ H x y v u Q I rx ry h
  obtain ⟨d, e, hd, he, ok, q⟩ := h
  obtain ⟨k1, k2, k3, k4⟩ := okC_all ok
  obtain ⟨as, r1⟩ := Dp.reads I d x v hd rx
  obtain ⟨bs, r2⟩ := Dp.reads I e y u he ry
  have z := (okD_ok 60 d k1).2.1
  exact PySem.W.gt_data r1 r2 k3 k4 (by omega) ⟨.bl _, H, I, rfl, q⟩
def dGt (d e : D) : Option D := match d, e with
  | .int a, .int b => some (.bool (decide (b < a)))
  | .str a, .str b => some (.bool (decide (b.cps.toList < a.cps.toList)))
  | d, e => if okC d e = true then some (.bool (PySem.W.dataLt e d)) else none
theorem o_gt : OpD c.K (In c N sc) (compareOp .Gt) dGt := by
  refine ⟨_, fun X I => by
    have h := OpR.or (X := X) op_gt (OpR.or op_gt_str (op_cmpGt I.rm.units))
    rw [I.K] at h
    exact h, fun B H x y d e z bk hx hy hz Q q => ?_⟩
  unfold dGt at hz
  split at hz
  · cases hz
    exact .inl ⟨_, _, hx.int, hy.int, q _ H (Sub.refl H) (.bl _)⟩
  · cases hz
    exact .inr (.inl ⟨_, _, hx.str, hy.str, q _ H (Sub.refl H) (.bl _)⟩)
  · split at hz
    · rename_i ok
      cases hz
      obtain ⟨k1, k2, k3, k4⟩ := okC_all ok
      exact .inr (.inr ⟨_, _, hx.rp.dp (okD_ok 60 _ k1).2.2, hy.rp.dp (okD_ok 60 _ k2).2.2, ok, q _ H (Sub.refl H) (.bl _)⟩)
    · cases hz
def rCmpLtE (K : Frag) : R2 := fun x y H Q => ∃ d e, Dp K H x d ∧ Dp K H y e ∧ okC d e = true ∧ Q (.bl (!PySem.W.dataLt e d)) H
theorem op_cmpLtE {X : Cx} (hu : X.A.units + 64 < cLine) : OpR X (compareOp .LtE) (rCmpLtE X.K) := by
  intro pins s σ H x y v u Q I rx ry h
  obtain ⟨d, e, hd, he, ok, q⟩ := h
  obtain ⟨k1, k2, k3, k4⟩ := okC_all ok
  obtain ⟨as, r1⟩ := Dp.reads I d x v hd rx
  obtain ⟨bs, r2⟩ := Dp.reads I e y u he ry
  have z := (okD_ok 60 d k1).2.1
  exact PySem.W.le_data r1 r2 k3 k4 (by omega) ⟨.bl _, H, I, rfl, q⟩
def dLe (d e : D) : Option D := match d, e with
  | .int a, .int b => some (.bool (decide (a ≤ b)))
  | d, e => if okC d e = true then some (.bool (!PySem.W.dataLt e d)) else none
theorem o_le : OpD c.K (In c N sc) (compareOp .LtE) dLe := by
  refine ⟨_, fun X I => by
    have h := OpR.or (X := X) op_le (op_cmpLtE I.rm.units)
    rw [I.K] at h
    exact h, fun B H x y d e z bk hx hy hz Q q => ?_⟩
  unfold dLe at hz
  split at hz
  · cases hz
    exact .inl ⟨_, _, hx.int, hy.int, q _ H (Sub.refl H) (.bl _)⟩
  · split at hz
    · rename_i ok
      cases hz
      obtain ⟨k1, k2, k3, k4⟩ := okC_all ok
      exact .inr (⟨_, _, hx.rp.dp (okD_ok 60 _ k1).2.2, hy.rp.dp (okD_ok 60 _ k2).2.2, ok, q _ H (Sub.refl H) (.bl _)⟩)
    · cases hz
def rCmpGtE (K : Frag) : R2 := fun x y H Q => ∃ d e, Dp K H x d ∧ Dp K H y e ∧ okC d e = true ∧ Q (.bl (!PySem.W.dataLt d e)) H
theorem op_cmpGtE {X : Cx} (hu : X.A.units + 64 < cLine) : OpR X (compareOp .GtE) (rCmpGtE X.K) := by
  intro pins s σ H x y v u Q I rx ry h
  obtain ⟨d, e, hd, he, ok, q⟩ := h
  obtain ⟨k1, k2, k3, k4⟩ := okC_all ok
  obtain ⟨as, r1⟩ := Dp.reads I d x v hd rx
  obtain ⟨bs, r2⟩ := Dp.reads I e y u he ry
  have z := (okD_ok 60 d k1).2.1
  exact PySem.W.ge_data r1 r2 k3 k4 (by omega) ⟨.bl _, H, I, rfl, q⟩
def dGe (d e : D) : Option D := match d, e with
  | .int a, .int b => some (.bool (decide (b ≤ a)))
  | d, e => if okC d e = true then some (.bool (!PySem.W.dataLt d e)) else none
theorem o_ge : OpD c.K (In c N sc) (compareOp .GtE) dGe := by
  refine ⟨_, fun X I => by
    have h := OpR.or (X := X) op_ge (op_cmpGtE I.rm.units)
    rw [I.K] at h
    exact h, fun B H x y d e z bk hx hy hz Q q => ?_⟩
  unfold dGe at hz
  split at hz
  · cases hz
    exact .inl ⟨_, _, hx.int, hy.int, q _ H (Sub.refl H) (.bl _)⟩
  · split at hz
    · rename_i ok
      cases hz
      obtain ⟨k1, k2, k3, k4⟩ := okC_all ok
      exact .inr (⟨_, _, hx.rp.dp (okD_ok 60 _ k1).2.2, hy.rp.dp (okD_ok 60 _ k2).2.2, ok, q _ H (Sub.refl H) (.bl _)⟩)
    · cases hz
def dEqB (d e : D) : Option Bool := match d, e with
  | .str a, .str b => some (a == b)
  | _, _ => if okD 60 d = true ∧ okD 60 e = true then some (PyData.eqv d e) else none
def dEq (d e : D) : Option D := (dEqB d e).map .bool
def dNe (d e : D) : Option D := (dEqB d e).map fun b => .bool (!b)
theorem o_eq : OpD c.K (In c N sc) (compareOp .Eq) dEq := by
  refine ⟨_, fun X I => by
    have h := OpR.or (X := X) op_eq (op_eqD I.rm.units)
    rw [I.K] at h
    exact h, fun B H x y d e z bk hx hy hz Q q => ?_⟩
  unfold dEq dEqB at hz
  split at hz
  · simp at hz
    subst hz
    refine .inl ⟨?_, ?_⟩
    · rw [hx.str, hy.str]; rfl
    · rw [hx.str, hy.str, dec_str]
      exact q _ H (Sub.refl H) (.bl _)
  · split at hz
    · rename_i ho
      simp at hz
      subst hz
      obtain ⟨a1, a2⟩ := okD_shaped ho.1 (by decide)
      obtain ⟨b1, b2⟩ := okD_shaped ho.2 (by decide)
      exact .inr ⟨d, e, hx.rp.dp a2, hy.rp.dp b2, a1, b1, q _ H (Sub.refl H) (.bl _)⟩
    · simp at hz
theorem o_ne : OpD c.K (In c N sc) (compareOp .NotEq) dNe := by
  refine ⟨_, fun X I => by
    have h := OpR.or (X := X) op_ne (op_neD I.rm.units)
    rw [I.K] at h
    exact h, fun B H x y d e z bk hx hy hz Q q => ?_⟩
  unfold dNe dEqB at hz
  split at hz
  · simp at hz
    subst hz
    refine .inl ⟨?_, ?_⟩
    · rw [hx.str, hy.str]; rfl
    · rw [hx.str, hy.str, dec_str]
      exact q _ H (Sub.refl H) (.bl _)
  · split at hz
    · rename_i ho
      simp at hz
      subst hz
      obtain ⟨a1, a2⟩ := okD_shaped ho.1 (by decide)
      obtain ⟨b1, b2⟩ := okD_shaped ho.2 (by decide)
      exact .inr ⟨d, e, hx.rp.dp a2, hy.rp.dp b2, a1, b1, q _ H (Sub.refl H) (.bl _)⟩
    · simp at hz
def isNoneD : D → Bool
  | .none => true
  | _ => false
def dIs : D → D → Option D := fun d e => if isNoneD e then some (.bool (isNoneD d)) else none
def dIsNot : D → D → Option D := fun d e => if isNoneD e then some (.bool (!isNoneD d)) else none
theorem rs_none {K : Frag} {B : Addr → Bool} {H : Hp} {v : V} {d : D} (h : Rs K B H v d) : decide (v = .non) = isNoneD d := by
  have h := h.rp
  cases h <;> rfl
theorem o_is : OpD c.K (In c N sc) (compareOp .Is) dIs := by
  refine ⟨_, fun X I => op_isN, fun B H x y d e z bk hx hy hz Q q => ?_⟩
  unfold dIs at hz
  split at hz
  · rename_i he
    cases hz
    have : e = .none := by
      cases e <;> first | rfl | cases he
    subst this
    refine ⟨hy.none, ?_⟩
    rw [rs_none hx]
    exact q _ H (Sub.refl H) (.bl _)
  · cases hz
theorem o_isNot : OpD c.K (In c N sc) (compareOp .IsNot) dIsNot := by
  refine ⟨_, fun X I => op_notN, fun B H x y d e z bk hx hy hz Q q => ?_⟩
  unfold dIsNot at hz
  split at hz
  · rename_i he
    cases hz
    have : e = .none := by
      cases e <;> first | rfl | cases he
    subst this
    refine ⟨hy.none, ?_⟩
    rw [rs_none hx]
    exact q _ H (Sub.refl H) (.bl _)
  · cases hz
/-- x in a text (one sign) | a list of any data | a tuple of flat data -/
def flatD : D → Bool
  | .none => true
  | .bool _ => true
  | .int _ => true
  | .str _ => true
  | _ => false
theorem flatD_v {K : Frag} {H : Hp} {v : V} {d : D} (h : Rp K H v d) (f : flatD d = true) : flatV v = true := by
  cases h <;> first | rfl | cases f
theorem flatD_all {K : Frag} {H : Hp} : ∀ {vs : List V} {ds : List D}, RpL K H vs ds → ds.all flatD = true → vs.all flatV = true
  | _, _, .nil, _ => rfl
  | _, _, .cons h r, f => by
    simp at f ⊢
    exact ⟨flatD_v h f.1, by simpa using flatD_all r (by simpa using f.2)⟩
theorem eqV_eqv {K : Frag} {H H' : Hp} {v u : V} {d e : D} (h : Rp K H v d) (k : Rp K H' u e) (f : flatD d = true) (g : flatD e = true) : eqV v u = PyData.eqv d e := by
  cases h <;> first | (cases f; done) | (cases k <;> first | (cases g; done) | rfl)
theorem inV_any {K : Frag} {H H' : Hp} {x : V} {d : D} (h : Rp K H' x d) (f : flatD d = true) : ∀ {vs : List V} {ds : List D}, RpL K H vs ds → ds.all flatD = true → inV x vs = ds.any fun z => PyData.eqv z d
  | _, _, .nil, _ => rfl
  | _, _, .cons r rr, g => by
    simp at g
    have ih := inV_any h f rr (by simpa using g.2)
    unfold inV at ih ⊢
    rw [List.any_cons, List.any_cons, ih, eqV_eqv r h g.1 f]
def dInB (d e : D) : Option Bool := match d, e with
  | .str ⟨⟨[c]⟩⟩, .str z => some (decide (c ∈ z.cps.toList))
  | d, .list ds => if okD 60 d = true ∧ okD 60 (.list ds) = true then some (ds.any fun z => PyData.eqv z d) else none
  | d, .tuple ds => if flatD d = true ∧ ds.all flatD = true then some (ds.any fun z => PyData.eqv z d) else none
  | _, _ => none
def dIn (d e : D) : Option D := (dInB d e).map .bool
def dNotIn (d e : D) : Option D := (dInB d e).map fun b => .bool (!b)
theorem o_in : OpD c.K (In c N sc) (compareOp .In) dIn := by
  refine ⟨_, fun X I => by
    have h := OpR.or (X := X) op_in_sign (OpR.or (op_inD (by have := I.rm.un; omega)) op_in_seq)
    rw [I.K] at h
    exact h, fun B H x y d e z bk hx hy hz Q q => ?_⟩
  unfold dIn dInB at hz
  split at hz
  · simp at hz
    subst hz
    exact .inl ⟨_, _, hx.str, hy.str, by simpa using q _ H (Sub.refl H) (.bl _)⟩
  · split at hz
    · rename_i ho
      simp at hz
      subst hz
      obtain ⟨a1, a2⟩ := okD_shaped ho.1 (by decide)
      obtain ⟨b1, b2⟩ := okD_shaped ho.2 (by decide)
      exact .inr (.inl ⟨_, _, hx.rp.dp a2, hy.rp.dp b2, a1, b1, q _ H (Sub.refl H) (.bl _)⟩)
    · simp at hz
  · split at hz
    · rename_i ho
      simp at hz
      subst hz
      obtain ⟨a, xs, rfl, h1, r1⟩ := hy.tuple
      refine .inr (.inr ⟨a, xs, rfl, .inr h1, flatD_v hx.rp ho.1, flatD_all r1 ho.2, ?_⟩)
      rw [if_neg Bool.false_ne_true, inV_any hx.rp ho.1 r1 ho.2]
      exact q _ H (Sub.refl H) (.bl _)
    · simp at hz
  · simp at hz
theorem o_notIn : OpD c.K (In c N sc) (compareOp .NotIn) dNotIn := by
  refine ⟨_, fun X I => by
    have h := OpR.or (X := X) op_notIn_sign (OpR.or (op_notInD (by have := I.rm.un; omega)) op_notIn_seq)
    rw [I.K] at h
    exact h, fun B H x y d e z bk hx hy hz Q q => ?_⟩
  unfold dNotIn dInB at hz
  split at hz
  · simp at hz
    subst hz
    exact .inl ⟨_, _, hx.str, hy.str, by simpa using q _ H (Sub.refl H) (.bl _)⟩
  · split at hz
    · rename_i ho
      simp at hz
      subst hz
      obtain ⟨a1, a2⟩ := okD_shaped ho.1 (by decide)
      obtain ⟨b1, b2⟩ := okD_shaped ho.2 (by decide)
      exact .inr (.inl ⟨_, _, hx.rp.dp a2, hy.rp.dp b2, a1, b1, q _ H (Sub.refl H) (.bl _)⟩)
    · simp at hz
  · split at hz
    · rename_i ho
      simp at hz
      subst hz
      obtain ⟨a, xs, rfl, h1, r1⟩ := hy.tuple
      refine .inr (.inr ⟨a, xs, rfl, .inr h1, flatD_v hx.rp ho.1, flatD_all r1 ho.2, ?_⟩)
      rw [if_pos rfl, inV_any hx.rp ho.1 r1 ho.2]
      exact q _ H (Sub.refl H) (.bl _)
    · simp at hz
  · simp at hz
end Dz

/-! Dz. H: subscripts, slices, built-ins, methods, what is walked. -/
namespace Dz
open PySem L2

/-! ### unary minus -/
def negK (m : En → Option (D × En)) : En → Option (D × En) := fun ρ => match m ρ with
  | some (.int i, ρ') => some (.int (-i), ρ')
  | _ => none
section
variable {c : C0} {N : List Str} {sc : Scope} {a b : Expr} {ma mb : En → Option (D × En)} {g : D → D → Option D} {i : Nat} {pos p1 : Pos} {x : Str}
theorem je_neg (h : JE c N sc a ma) : JE c N sc (.UnaryOp .USub a pos) (negK ma) := by
  obtain ⟨t, h1, h2⟩ := h
  refine ⟨_, fun X I => pe_un un_neg (h1 X I), fun σ H ρ B d ρ' S e Q q => ?_⟩
  unfold negK at e
  split at e
  · rename_i z ρ1 he
    cases e
    refine h2 σ H ρ B _ _ S he _ fun v H1 A r => ?_
    exact ⟨z, r.inti, q _ H1 A (.int _)⟩
  · cases e

/-! ### subscripts -/
structure IxD (K : Frag) (XS : Cx → Prop) (g : D → D → Option D) : Prop where
  ex : ∃ r : R2, (∀ X, XS X → IxR X r) ∧ ∀ (B : Addr → Bool) (H : Hp) (x y : V) (d e z : D), (∀ a, B a = true → ∃ o, H a = some o) → Rs K B H x d → Rs K B H y e → g d e = some z →
    ∀ Q : VK, (∀ v H', Sub H H' → Rp K (hide B H') v z → Q v H') → r x y H Q
def dIx : D → D → Option D
  | .list ds, .int i => (ixN ds.length i).bind fun j => ds[j]?
  | .tuple ds, .int i => (ixN ds.length i).bind fun j => ds[j]?
  | .str z, .int i => if z.length ≤ 100000 then (ixN z.cps.toList.length i).bind fun j => (z.cps.toList[j]?).map fun k => .str ⟨#[k]⟩ else none
  | _, _ => none
theorem o_ix : IxD c.K (In c N sc) dIx := by
  refine ⟨_, fun X I => by
    have h := IxR.or (X := X) ix_list (IxR.or ix_tup ix_str)
    rw [I.K] at h
    exact h, fun B H x y d e z bk hx hy hz Q q => ?_⟩
  unfold dIx at hz
  split at hz
  · rename_i ds k
    obtain ⟨a, xs, rfl, h1, r1⟩ := hx.list
    cases hj : ixN ds.length k with
    | none => simp [hj] at hz
    | some j =>
      simp [hj] at hz
      obtain ⟨v, g1, g2⟩ := r1.get' hz
      refine .inl ⟨a, xs, k, v, rfl, hy.int, h1, ?_, q v H (Sub.refl H) g2⟩
      unfold atI
      rw [r1.length, hj]
      exact g1
  · rename_i ds k
    obtain ⟨a, xs, rfl, h1, r1⟩ := hx.tuple
    cases hj : ixN ds.length k with
    | none => simp [hj] at hz
    | some j =>
      simp [hj] at hz
      obtain ⟨v, g1, g2⟩ := r1.get' hz
      refine .inr (.inl ⟨a, xs, k, v, rfl, hy.int, h1, ?_, q v H (Sub.refl H) g2⟩)
      unfold atI
      rw [r1.length, hj]
      exact g1
  · rename_i s k
    split at hz
    · rename_i hl
      cases hj : ixN s.cps.toList.length k with
      | none => rw [hj] at hz; cases hz
      | some j =>
        rw [hj, Option.bind_some] at hz
        cases hk : s.cps.toList[j]? with
        | none => rw [hk] at hz; cases hz
        | some w =>
          rw [hk] at hz
          cases hz
          refine .inr (.inr ⟨s, k, w, hx.str, hy.int, sz5 hl, ?_, q _ H (Sub.refl H) (.str _)⟩)
          unfold atI
          rw [hj]
          exact hk
    · cases hz
  · cases hz
theorem je_ix (ho : IxD c.K (In c N sc) g) (ha : JE c N sc a ma) (hb : JA c N sc b mb) (hs : PlainIx b := by intro _ _; rfl) : JE c N sc (.Subscript a b pos) (bop g ma mb) := by
  obtain ⟨r, h1, h2⟩ := ho.ex
  obtain ⟨ta, p1, s1⟩ := ha
  obtain ⟨tb, p2, s2⟩ := hb
  exact ⟨_, fun X I => pe_ix (h1 X I) (p1 X I) (p2 X I) hs, sd_bop s1 s2 h2⟩
theorem je_ixO (ho : IxD c.K (In c N sc) g) (hN : N[i]? = some x) (hv : Vis sc x) (hb : JA c N sc b mb) (hs : PlainIx b := by intro _ _; rfl) (hd : (x == ("__debug__" : Str)) = false := by decide) (hcd : (x == ("__classdict__" : Str)) = false := by decide) : JE c N sc (.Subscript (.Name x p1) b pos) (bopO g i mb) := by
  obtain ⟨r, h1, h2⟩ := ho.ex
  obtain ⟨tb, p2, s2⟩ := hb
  exact ⟨_, fun X I => pe_ix (h1 X I) (pe_var (by rw [I.N]; exact hN) (I.vis hv) hd hcd) (p2 X I) hs, sd_bopO s2 h2⟩
end

/-! ### slices -/
def SP_ (K : Frag) (t : TO) (m : En → Option (Option Int × En)) : Prop :=
  ∀ σ H ρ B d ρ', SR K B σ H ρ → m ρ = some (d, ρ') → ∀ Q : Option Int → Hp → Prop, (∀ H', Af K B σ H ρ H' ρ' → Q d H') → t σ H Q
def JP (c : C0) (N : List Str) (sc : Scope) (e : Option Expr) (m : En → Option (Option Int × En)) : Prop := ∃ t, (∀ X, In c N sc X → PO X e t) ∧ SP_ c.K t m
def pnone : En → Option (Option Int × En) := fun ρ => some (none, ρ)
def psome (m : En → Option (D × En)) : En → Option (Option Int × En) := fun ρ => match m ρ with
  | some (.int i, ρ') => some (some i, ρ')
  | _ => none
def cutD (xs : List D) (lo hi : Option Int) : List D := (xs.drop (HT.sIx xs.length 0 lo)).take (HT.sIx xs.length xs.length hi - HT.sIx xs.length 0 lo)
def dCut : D → Option Int → Option Int → Option D
  | .list ds, lo, hi => some (.list (cutD ds lo hi))
  | .tuple ds, lo, hi => some (.tuple (cutD ds lo hi))
  | .str z, lo, hi => if z.length ≤ 100000 then some (.str (cutS z lo hi)) else none
  | _, _, _ => none
def cutK (ma : En → Option (D × En)) (ml mh : En → Option (Option Int × En)) : En → Option (D × En) := fun ρ => (ma ρ).bind fun p => (ml p.2).bind fun q => (mh q.2).bind fun r => (dCut p.1 q.1 r.1).map fun z => (z, r.2)
def dCutL : D → Option Int → Option Int → Option D
  | .list ds, lo, hi => some (.list (cutD ds lo hi))
  | _, _, _ => none
/-- .. of a name that may hold the def's own list: read behind the bounds -/
def cutO (f : D → Option Int → Option Int → Option D) (i : Nat) (ml mh : En → Option (Option Int × En)) : En → Option (D × En) := fun ρ => (kO i ρ).bind fun _ => (ml ρ).bind fun q => (mh q.2).bind fun r => (kO i r.2).bind fun p => (f p.1 q.1 r.1).map fun z => (z, r.2)
theorem RpL.cut {K : Frag} {H : Hp} {vs : List V} {ds : List D} (r : RpL K H vs ds) (lo hi : Option Int) : RpL K H (cutV vs lo hi) (cutD ds lo hi) := by
  unfold cutV cutD
  rw [r.length]
  exact (r.drop _).take _
section
variable {c : C0} {N : List Str} {sc : Scope} {a : Expr} {lo hi : Option Expr} {ma : En → Option (D × En)} {ml mh : En → Option (Option Int × En)} {i : Nat} {pos p1 p2 : Pos} {x : Str} {K : Frag}
theorem jp_none : JP c N sc none pnone := ⟨_, fun _ _ => po_none, fun σ H ρ B d ρ' S e Q q => by
  cases e
  exact q H (Af.refl S)⟩
theorem jp_some (h : JE c N sc a ma) : JP c N sc (some a) (psome ma) := by
  obtain ⟨t, h1, h2⟩ := h
  refine ⟨_, fun X I => po_some (h1 X I), fun σ H ρ B d ρ' S e Q q => ?_⟩
  unfold psome at e
  split at e
  · rename_i z ρ1 he
    cases e
    exact h2 σ H ρ B _ _ S he _ fun v H1 A r => ⟨z, r.inti, q H1 A⟩
  · cases e
/-- t[lo:hi], its object known -/
def rSlX (K : Frag) : V → Option Int → Option Int → Hp → VK → Prop := fun x lo hi H Q => ∃ a xs, x = .ref a ∧ SqT K H a xs ∧
  (HT.sIx xs.length 0 lo = 0 ∧ HT.sIx xs.length xs.length hi = xs.length → Q (.ref a) H) ∧ (¬ (HT.sIx xs.length 0 lo = 0 ∧ HT.sIx xs.length xs.length hi = xs.length) → ∀ p o, ExT o → H p = none → Q (.ref p) (upd H p (.frz o (.tup (cutV xs lo hi)))))
theorem sl_tupX {X : Cx} : SlR X (rSlX X.K) := by
  intro pins s σ H x v vl vu lo hi sl Q I rx hs pl pu h
  obtain ⟨a, xs, rfl, hx, q1, q2⟩ := h
  cases rx
  obtain ⟨its, r, ht, hz⟩ := I.tuple hx
  have hlen : its.toArray.size = xs.length := by rw [List.size_toArray]; exact r.length.symm
  refine ⟨"tuple", _, PyProof.Rows.slot_tuple_getitem.lookup, ht.typeIs, ?_⟩
  by_cases hw : HT.sIx xs.length 0 lo = 0 ∧ HT.sIx xs.length xs.length hi = xs.length
  · exact getItem_tuple_whole ht hs pl pu (by rw [hlen]; exact hw) ⟨.ref a, H, I, rfl, q1 hw⟩
  · refine HT.getItem_tuple_cut ht hs pl pu (by rw [hlen]; exact hw) ?_ (by rw [hlen]; exact hz)
    rw [hlen]
    exact ⟨.ref s.heap.objs.size, _, tnew I ((r.drop (HT.sIx xs.length 0 lo)).take (HT.sIx xs.length xs.length hi - HT.sIx xs.length 0 lo)) (Nat.le_trans (cutV_length xs lo hi) hz), rfl, q2 hw _ _ ⟨rfl, rfl⟩ (I.hok.fresh (Nat.le_refl _))⟩
def rCutR (K : Frag) : V → Option Int → Option Int → Hp → VK → Prop := fun x lo hi H Q => rSlL K x lo hi H Q ∨ (rSlX K x lo hi H Q ∨ rSlS x lo hi H Q)
theorem cut_read {B : Addr → Bool} {H : Hp} {x : V} {d z : D} {l h : Option Int} (bk : ∀ a, B a = true → ∃ o, H a = some o) (hx : Rs K B H x d) (hz : dCut d l h = some z) : ∀ Q : VK, (∀ v H', Sub H H' → Rp K (hide B H') v z → Q v H') → rCutR K x l h H Q := fun Q q => by
  unfold dCut at hz
  split at hz
  · cases hz
    obtain ⟨a, xs, rfl, h1, r1⟩ := hx.list
    refine .inl ⟨a, xs, rfl, h1, fun p hp => ?_⟩
    obtain ⟨s1, r2⟩ := lst_new bk hp (r1.cut l h)
    exact q _ _ s1 r2
  · rename_i ds
    cases hz
    obtain ⟨a, xs, rfl, h1, r1⟩ := hx.tuple
    refine .inr (.inl ⟨a, xs, rfl, h1, fun w => ?_, fun _ p o ho hp => ?_⟩)
    · have e : cutD ds l h = ds := by
        unfold cutD
        rw [← r1.length, w.1, w.2, List.drop_zero, Nat.sub_zero, r1.length, List.take_length]
      rw [e] at q
      refine q _ H (Sub.refl H) ?_
      cases hx with
      | vis h => exact h
    · obtain ⟨s1, r2⟩ := tup_new bk ho hp (r1.cut l h)
      exact q _ _ s1 r2
  · split at hz
    · rename_i hl
      cases hz
      exact .inr (.inr ⟨_, hx.str, sz5 hl, q _ H (Sub.refl H) (.str _)⟩)
    · cases hz
  · cases hz
theorem sl_cut {X : Cx} : SlR X (rCutR X.K) := SlR.or sl_list (SlR.or sl_tupX sl_str)
theorem je_cut (ha : JE c N sc a ma) (hl : JP c N sc lo ml) (hh : JP c N sc hi mh) : JE c N sc (.Subscript a (.Slice lo hi none p2) pos) (cutK ma ml mh) := by
  obtain ⟨t, a1, a2⟩ := ha
  obtain ⟨u, b1, b2⟩ := hl
  obtain ⟨w, c1, c2⟩ := hh
  refine ⟨tSl (rCutR c.K) t u w, fun X I => ?_, fun σ H ρ B d ρ' S e Q q => ?_⟩
  · have h := pe_slice (p2 := p2) (pos := pos) (sl_cut (X := X)) (a1 X I) (b1 X I) (c1 X I)
    rw [I.K] at h
    exact h
  · unfold cutK at e
    cases q1 : ma ρ with
    | none => simp [q1] at e
    | some p =>
      obtain ⟨d1, ρ1⟩ := p
      cases q2 : ml ρ1 with
      | none => simp [q1, q2] at e
      | some p =>
        obtain ⟨l, ρ2⟩ := p
        cases q3 : mh ρ2 with
        | none => simp [q1, q2, q3] at e
        | some p =>
          obtain ⟨h, ρ3⟩ := p
          cases q4 : dCut d1 l h with
          | none => simp [q1, q2, q3, q4] at e
          | some z =>
            simp [q1, q2, q3, q4] at e
            obtain ⟨rfl, rfl⟩ := e
            refine a2 σ H ρ B _ _ S q1 _ fun v H1 A1 r1 => ?_
            refine b2 σ H1 ρ1 B _ _ A1.sr q2 _ fun H2 A2 => ?_
            refine c2 σ H2 ρ2 B _ _ A2.sr q3 _ fun H3 A3 => ?_
            refine cut_read A3.sr.bk (.vis ((r1.mono (A2.sub A1.sr)).mono (A3.sub A2.sr))) q4 _ fun y H4 s4 r4 => ?_
            exact q y H4 (((A1.trans A2).trans A3).trans (Af.of_sub A3.sr s4)) r4
theorem so_cut {u w : TO} (b2 : SP_ K u ml) (c2 : SP_ K w mh) : Sd K (tSl (rCutR K) (tVar i) u w) (cutO dCut i ml mh) := fun σ H ρ B d ρ' S e Q q => by
  unfold cutO at e
  cases q0 : kO i ρ with
  | none => simp [q0] at e
  | some p0 =>
  cases q2 : ml ρ with
  | none => simp [q0, q2] at e
  | some p =>
    obtain ⟨l, ρ2⟩ := p
    cases q3 : mh ρ2 with
    | none => simp [q0, q2, q3] at e
    | some p =>
      obtain ⟨h, ρ3⟩ := p
      cases q1 : kO i ρ3 with
      | none => simp [q0, q2, q3, q1] at e
      | some p1 =>
        obtain ⟨d1, ρ4⟩ := p1
        obtain ⟨s, g1, g2, g3⟩ := kO_some q1
        cases q4 : dCut d1 l h with
        | none => simp [q0, q1, q2, q3, q4] at e
        | some z =>
          simp [q0, q1, q2, q3, q4] at e
          obtain ⟨rfl, rfl⟩ := e
          obtain ⟨d0, ρ0⟩ := p0
          obtain ⟨s0, u1, u2, u3⟩ := kO_some q0
          obtain ⟨v, e1, _⟩ := S.read u1
          refine ⟨v, e1, ?_⟩
          refine b2 σ H ρ B _ _ S q2 _ fun H2 A2 => ?_
          refine c2 σ H2 ρ2 B _ _ A2.sr q3 _ fun H3 A3 => ?_
          obtain ⟨v', e2, r1⟩ := A3.sr.read g1
          rw [e1] at e2
          cases e2
          rw [g2] at r1
          refine cut_read A3.sr.bk r1 q4 _ fun y H4 s4 r4 => ?_
          exact q y H4 ((A2.trans A3).trans (Af.of_sub A3.sr s4)) r4
theorem je_cutO (hN : N[i]? = some x) (hv : Vis sc x) (hl : JP c N sc lo ml) (hh : JP c N sc hi mh) (hd : (x == ("__debug__" : Str)) = false := by decide) (hcd : (x == ("__classdict__" : Str)) = false := by decide) : JE c N sc (.Subscript (.Name x p1) (.Slice lo hi none p2) pos) (cutO dCut i ml mh) := by
  obtain ⟨u, b1, b2⟩ := hl
  obtain ⟨w, c1, c2⟩ := hh
  refine ⟨tSl (rCutR c.K) (tVar i) u w, fun X I => ?_, so_cut b2 c2⟩
  have h := pe_slice (p2 := p2) (pos := pos) (sl_cut (X := X)) (pe_var (X := X) (i := i) (pos := p1) (by rw [I.N]; exact hN) (I.vis hv) hd hcd) (b1 X I) (c1 X I)
  rw [I.K] at h
  exact h
end

/-! ### built-ins -/
inductive RsL (K : Frag) (B : Addr → Bool) (H : Hp) : List V → List D → Prop
  | nil : RsL K B H [] []
  | cons {v : V} {vs : List V} {d : D} {ds : List D} : Rs K B H v d → RsL K B H vs ds → RsL K B H (v :: vs) (d :: ds)
theorem RpL.rs {K : Frag} {B : Addr → Bool} {H : Hp} : ∀ {vs : List V} {ds : List D}, RpL K (hide B H) vs ds → RsL K B H vs ds
  | _, _, .nil => .nil
  | _, _, .cons h r => .cons (.vis h) (RpL.rs r)
theorem RsL.one {K : Frag} {B : Addr → Bool} {H : Hp} {vs : List V} {d : D} (h : RsL K B H vs [d]) : ∃ v, vs = [v] ∧ Rs K B H v d := by
  cases h with
  | cons a b => cases b; exact ⟨_, rfl, a⟩
theorem RsL.two {K : Frag} {B : Addr → Bool} {H : Hp} {vs : List V} {d e : D} (h : RsL K B H vs [d, e]) : ∃ v u, vs = [v, u] ∧ Rs K B H v d ∧ Rs K B H u e := by
  cases h with
  | cons a b =>
    obtain ⟨u, rfl, k⟩ := RsL.one b
    exact ⟨_, u, rfl, a, k⟩
structure CaD (K : Frag) (XS : Cx → Prop) (fv : Value) (f : List D → Option D) : Prop where
  ex : ∃ r : List V → Hp → VK → Prop, (∀ X, XS X → CallR X fv r) ∧ ∀ (B : Addr → Bool) (H : Hp) (vs : List V) (ds : List D) (z : D), (∀ a, B a = true → ∃ o, H a = some o) → RsL K B H vs ds → f ds = some z →
    ∀ Q : VK, (∀ v H', Sub H H' → Rp K (hide B H') v z → Q v H') → r vs H Q
structure CaF (K : Frag) (XS : Cx → Prop) (fv : Value) (f : List D → Option D) : Prop where
  ex : ∃ r : List V → Hp → VK → Prop, (∀ X, XS X → CallR X fv r) ∧ ∀ (B : Addr → Bool) (H : Hp) (vs : List V) (ds : List D) (z : D), (∀ a, B a = true → ∃ o, H a = some o) → RsL K B H vs ds → f ds = some z →
    ∀ Q : VK, (∀ l H', Sub H H' → H l = none → OwnAt K (hide (ins l B) H') (H' l) z → Q (.ref l) H') → r vs H Q
def b1K (f : List D → Option D) (m : En → Option (D × En)) : En → Option (D × En) := fun ρ => (m ρ).bind fun p => (f [p.1]).map fun z => (z, p.2)
def bnK (f : List D → Option D) (m : En → Option (List D × En)) : En → Option (D × En) := fun ρ => (m ρ).bind fun p => (f p.1).map fun z => (z, p.2)
section
variable {c : C0} {N : List Str} {sc : Scope} {e : Expr} {es : List Expr} {me : En → Option (D × En)} {ml : En → Option (List D × En)} {f : List D → Option D} {pos p : Pos} {x : Str} {id T : String} {K : Frag} {r : List V → Hp → VK → Prop}
theorem sd_b1 {te : TE} (h : So K te me) (hr : ∀ (B : Addr → Bool) (H : Hp) (vs : List V) (ds : List D) (z : D), (∀ a, B a = true → ∃ o, H a = some o) → RsL K B H vs ds → f ds = some z → ∀ Q : VK, (∀ v H', Sub H H' → Rp K (hide B H') v z → Q v H') → r vs H Q) :
    Sd K (tCB r (tCons te tNil)) (b1K f me) := fun σ H ρ B d ρ' S e Q q => by
  unfold b1K at e
  cases q1 : me ρ with
  | none => simp [q1] at e
  | some p =>
    obtain ⟨d1, ρ1⟩ := p
    cases q2 : f [d1] with
    | none => simp [q1, q2] at e
    | some z =>
      simp [q1, q2] at e
      obtain ⟨rfl, rfl⟩ := e
      refine h σ H ρ B _ _ S q1 _ fun v H1 A1 r1 => ?_
      exact hr B H1 [v] [d1] _ A1.sr.bk (.cons r1 .nil) q2 _ fun w H2 s2 r2 => q w H2 (A1.trans (Af.of_sub A1.sr s2)) r2
theorem sd_bn {ta : TA} (h : SA K ta ml) (hr : ∀ (B : Addr → Bool) (H : Hp) (vs : List V) (ds : List D) (z : D), (∀ a, B a = true → ∃ o, H a = some o) → RsL K B H vs ds → f ds = some z → ∀ Q : VK, (∀ v H', Sub H H' → Rp K (hide B H') v z → Q v H') → r vs H Q) :
    Sd K (tCB r ta) (bnK f ml) := fun σ H ρ B d ρ' S e Q q => by
  unfold bnK at e
  cases q1 : ml ρ with
  | none => simp [q1] at e
  | some p =>
    obtain ⟨ds, ρ1⟩ := p
    cases q2 : f ds with
    | none => simp [q1, q2] at e
    | some z =>
      simp [q1, q2] at e
      obtain ⟨rfl, rfl⟩ := e
      refine h σ H ρ B _ _ S q1 _ fun vs H1 A1 r1 => ?_
      exact hr B H1 vs ds _ A1.sr.bk r1.rs q2 _ fun w H2 s2 r2 => q w H2 (A1.trans (Af.of_sub A1.sr s2)) r2
theorem sf_b1 {te : TE} (h : So K te me) (hr : ∀ (B : Addr → Bool) (H : Hp) (vs : List V) (ds : List D) (z : D), (∀ a, B a = true → ∃ o, H a = some o) → RsL K B H vs ds → f ds = some z → ∀ Q : VK, (∀ l H', Sub H H' → H l = none → OwnAt K (hide (ins l B) H') (H' l) z → Q (.ref l) H') → r vs H Q) :
    Sf K (tCB r (tCons te tNil)) (b1K f me) := fun σ H ρ B d ρ' S e Q q => by
  unfold b1K at e
  cases q1 : me ρ with
  | none => simp [q1] at e
  | some p =>
    obtain ⟨d1, ρ1⟩ := p
    cases q2 : f [d1] with
    | none => simp [q1, q2] at e
    | some z =>
      simp [q1, q2] at e
      obtain ⟨rfl, rfl⟩ := e
      refine h σ H ρ B _ _ S q1 _ fun v H1 A1 r1 => ?_
      exact hr B H1 [v] [d1] _ A1.sr.bk (.cons r1 .nil) q2 _ fun l H2 s2 hl r2 => q l H2 (A1.trans (Af.of_sub A1.sr s2)) (A1.sr.ins hl s2 r2.ne) (back_none A1 hl) r2
theorem je_b1 (ho : CaD c.K (In c N sc) (.builtin id) f) (hg : sc.names.lookup x = some .globalImplicit) (hm : c.mg x = none) (hv : bootBuiltins x = some (.builtin id)) (ha : JA c N sc e me) (hn : x ≠ "__name__" := by decide) (hdb : (x == ("__debug__" : Str)) = false := by decide)
    (he : ∀ env, starEach [e] env = (false, eval e env) :: starEach [] env := by intros; rfl) (hpl : ∀ env, (backTo pos (starEach [] env)).any (·.1) = false := by intros; rfl) : JE c N sc (.Call (.Name x p) [e] [] pos) (b1K f me) := by
  obtain ⟨r, h1, h2⟩ := ho.ex
  obtain ⟨t, a1, a2⟩ := ha
  exact ⟨_, fun X I => pe_callB (h1 X I) (I.gl hg) (by rw [I.mg]; exact hm) hv (pa_cons (a1 X I) pa_nil (he _)) hn hdb (he _) (hpl _), sd_b1 a2 h2⟩
theorem je_bn (ho : CaD c.K (In c N sc) (.builtin id) f) (hg : sc.names.lookup x = some .globalImplicit) (hm : c.mg x = none) (hv : bootBuiltins x = some (.builtin id)) (ha : JL c N sc (e :: es) ml) (hn : x ≠ "__name__" := by decide) (hdb : (x == ("__debug__" : Str)) = false := by decide)
    (he : ∀ env, starEach (e :: es) env = (false, eval e env) :: starEach es env := by intros; rfl) (hpl : ∀ env, (backTo pos (starEach es env)).any (·.1) = false := by intros; rfl) : JE c N sc (.Call (.Name x p) (e :: es) [] pos) (bnK f ml) := by
  obtain ⟨r, h1, h2⟩ := ho.ex
  obtain ⟨t, a1, a2⟩ := ha
  exact ⟨_, fun X I => pe_callB (h1 X I) (I.gl hg) (by rw [I.mg]; exact hm) hv (a1 X I) hn hdb (he _) (hpl _), sd_bn a2 h2⟩
theorem je_t1 (ho : CaD c.K (In c N sc) (.type T) f) (hg : sc.names.lookup x = some .globalImplicit) (hm : c.mg x = none) (hv : bootBuiltins x = some (.type T)) (ha : JA c N sc e me) (hn : x ≠ "__name__" := by decide) (hdb : (x == ("__debug__" : Str)) = false := by decide)
    (he : ∀ env, starEach [e] env = (false, eval e env) :: starEach [] env := by intros; rfl) (hpl : ∀ env, (backTo pos (starEach [] env)).any (·.1) = false := by intros; rfl) : JE c N sc (.Call (.Name x p) [e] [] pos) (b1K f me) := by
  obtain ⟨r, h1, h2⟩ := ho.ex
  obtain ⟨t, a1, a2⟩ := ha
  exact ⟨_, fun X I => pe_callTy (h1 X I) (I.gl hg) (by rw [I.mg]; exact hm) hv (pa_cons (a1 X I) pa_nil (he _)) hn hdb (he _) (hpl _), sd_b1 a2 h2⟩
theorem jf_t1 (ho : CaF c.K (In c N sc) (.type T) f) (hg : sc.names.lookup x = some .globalImplicit) (hm : c.mg x = none) (hv : bootBuiltins x = some (.type T)) (ha : JA c N sc e me) (hn : x ≠ "__name__" := by decide) (hdb : (x == ("__debug__" : Str)) = false := by decide)
    (he : ∀ env, starEach [e] env = (false, eval e env) :: starEach [] env := by intros; rfl) (hpl : ∀ env, (backTo pos (starEach [] env)).any (·.1) = false := by intros; rfl) : JF c N sc (.Call (.Name x p) [e] [] pos) (b1K f me) := by
  obtain ⟨r, h1, h2⟩ := ho.ex
  obtain ⟨t, a1, a2⟩ := ha
  exact ⟨_, fun X I => pe_callTy (h1 X I) (I.gl hg) (by rw [I.mg]; exact hm) hv (pa_cons (a1 X I) pa_nil (he _)) hn hdb (he _) (hpl _), sf_b1 a2 h2⟩
/-- isinstance(e, T), T a built-in class -/
def isiB (T : String) : D → Option Bool
  | .none => kitB "NoneType" T
  | .bool _ => kitB "bool" T
  | .int _ => kitB "int" T
  | .str _ => kitB "str" T
  | .list _ => kitB "list" T
  | .tuple _ => kitB "tuple" T
  | _ => none
def isiK (T : String) (m : En → Option (D × En)) : En → Option (D × En) := fun ρ => (m ρ).bind fun p => (isiB T p.1).map fun b => (.bool b, p.2)
def tagD : D → Option String
  | .none => some "NoneType"
  | .bool _ => some "bool"
  | .int _ => some "int"
  | .str _ => some "str"
  | .list _ => some "list"
  | .tuple _ => some "tuple"
  | _ => none
theorem tag_of {K : Frag} {H : Hp} {v : V} {d : D} {b : Bool} (h : Rp K H v d) (e : isiB T d = some b) : ∃ t, TyX K H v (.type t) ∧ kitB t T = some b := by
  cases h with
  | non => exact ⟨_, .base .non, e⟩
  | bl k => exact ⟨_, .base (.bl k), e⟩
  | int k => exact ⟨_, .base (.int k), e⟩
  | str k => exact ⟨_, .base (.str k), e⟩
  | lst hs _ =>
    refine ⟨"list", ?_, e⟩
    rcases hs with (h | ⟨o, h⟩) | ⟨o, its, n, h1, h2, _⟩
    · exact .base (.lst h)
    · exact .base (.frz h)
    · exact .kList h1 h2
  | tup hs _ _ =>
    refine ⟨"tuple", ?_, e⟩
    rcases hs with (h | ⟨o, h⟩) | ⟨o, its, n, h1, h2, _⟩
    · exact .base (.tup h)
    · exact .fTuple h
    · exact .kTuple h1 h2
  | dct _ _ => cases e
  | obj _ _ => cases e
theorem je_isi {y : Str} {p2 : Pos} (hg : sc.names.lookup ("isinstance" : Str) = some .globalImplicit) (hm : c.mg ("isinstance" : Str) = none) (hgy : sc.names.lookup y = some .globalImplicit) (hmy : c.mg y = none) (hv : bootBuiltins y = some (.type T)) (ha : JA c N sc e me)
    (hn : y ≠ "__name__" := by decide) (hdb : (y == ("__debug__" : Str)) = false := by decide)
    (he : ∀ env, starEach [e, .Name y p2] env = (false, eval e env) :: starEach [.Name y p2] env := by intros; rfl) (hpl : ∀ env, (backTo pos (starEach [.Name y p2] env)).any (·.1) = false := by intros; rfl) :
    JE c N sc (.Call (.Name "isinstance" p) [e, .Name y p2] [] pos) (isiK T me) := by
  obtain ⟨t, a1, a2⟩ := ha
  refine ⟨tCB (rIsi c.K) (tCons t (tCons (tC (.ty T)) tNil)), fun X I => ?_, fun σ H ρ B d ρ' S e Q q => ?_⟩
  · have h := pe_callB (x := "isinstance") (p := p) (pos := pos) (call_isi (X := X)) (I.gl hg) (by rw [I.mg]; exact hm) (by decide +kernel) (pa_cons (a1 X I) (pa_cons (pe_bltn (pos := p2) (v := .ty T) (I.gl hgy) (by rw [I.mg]; exact hmy) hv rfl hn hdb) pa_nil) (he _)) (by decide) (by decide) (he _) (hpl _)
    rw [I.K] at h
    exact h
  · unfold isiK at e
    cases q1 : me ρ with
    | none => simp [q1] at e
    | some p =>
      obtain ⟨d1, ρ1⟩ := p
      cases q2 : isiB T d1 with
      | none => simp [q1, q2] at e
      | some z =>
        simp [q1, q2] at e
        obtain ⟨rfl, rfl⟩ := e
        refine a2 σ H ρ B _ _ S q1 _ fun v H1 A1 r1 => ?_
        obtain ⟨t, h1, h2⟩ := tag_of r1.rp q2
        exact ⟨v, .ty T, .type t, .type T, z, rfl, .ty T, h1, kit_ty h2, q _ H1 A1 (.bl z)⟩
end
section
variable {c : C0} {N : List Str} {sc : Scope}
def dLen : List D → Option D
  | [.list ds] => some (.int ds.length)
  | [.tuple ds] => some (.int ds.length)
  | [.str z] => if z.length ≤ 100000 then some (.int z.length) else none
  | _ => none
theorem c_len : CaD c.K (In c N sc) (.builtin "len") dLen := by
  refine ⟨_, fun X I => by
    have h := call_len (X := X)
    rw [I.K] at h
    exact h, fun B H vs ds z bk hv hz Q q => ?_⟩
  unfold dLen at hz
  split at hz
  · cases hz
    obtain ⟨v, rfl, h⟩ := hv.one
    obtain ⟨a, xs, rfl, h1, r1⟩ := h.list
    exact ⟨_, _, rfl, .inl ⟨xs, h1, r1.length.symm⟩, q _ H (Sub.refl H) (.int _)⟩
  · cases hz
    obtain ⟨v, rfl, h⟩ := hv.one
    obtain ⟨a, xs, rfl, h1, r1⟩ := h.tuple
    exact ⟨_, _, rfl, .inr ⟨xs, h1, r1.length.symm⟩, q _ H (Sub.refl H) (.int _)⟩
  · split at hz
    · rename_i hl
      cases hz
      obtain ⟨v, rfl, h⟩ := hv.one
      rw [h.str]
      exact ⟨_, _, rfl, ⟨sz5 hl, rfl⟩, q _ H (Sub.refl H) (.int _)⟩
    · cases hz
  · cases hz
def dInt : List D → Option D
  | [.int i] => some (.int i)
  | [.bool b] => some (.int (if b then 1 else 0))
  | _ => none
theorem c_int : CaD c.K (In c N sc) (.type "int") dInt := by
  refine ⟨_, fun X I => call_int1, fun B H vs ds z bk hv hz Q q => ?_⟩
  unfold dInt at hz
  split at hz
  · cases hz
    obtain ⟨v, rfl, h⟩ := hv.one
    exact .inl ⟨_, by rw [h.int], q _ H (Sub.refl H) (.int _)⟩
  · cases hz
    obtain ⟨v, rfl, h⟩ := hv.one
    exact .inr ⟨_, by rw [h.bool], q _ H (Sub.refl H) (.int _)⟩
  · cases hz
def dAbs : List D → Option D
  | [.int i] => some (.int (if i < 0 then -i else i))
  | _ => none
theorem c_abs : CaD c.K (In c N sc) (.builtin "abs") dAbs := by
  refine ⟨_, fun X I => call_abs, fun B H vs ds z bk hv hz Q q => ?_⟩
  unfold dAbs at hz
  split at hz
  · cases hz
    obtain ⟨v, rfl, h⟩ := hv.one
    exact ⟨_, by rw [h.int], q _ H (Sub.refl H) (.int _)⟩
  · cases hz
def dOrd : List D → Option D
  | [.str x] => if x.length = 1 then some (.int ((x.cps.getD 0 0 : Nat) : Int)) else none
  | _ => none
theorem c_ord : CaD c.K (In c N sc) (.builtin "ord") dOrd := by
  refine ⟨_, fun X I => call_ord, fun B H vs ds z bk hv hz Q q => ?_⟩
  unfold dOrd at hz
  split at hz
  · split at hz
    · rename_i hl
      cases hz
      obtain ⟨v, rfl, h⟩ := hv.one
      exact ⟨_, by rw [h.str], hl, q _ H (Sub.refl H) (.int _)⟩
    · cases hz
  · cases hz
def dStr : List D → Option D
  | [.int i] => if i.natAbs < 2 ^ 1000 then some (.str (toString i)) else none
  | _ => none
theorem c_str : CaD c.K (In c N sc) (.type "str") dStr := by
  refine ⟨_, fun X I => call_str_int, fun B H vs ds z bk hv hz Q q => ?_⟩
  unfold dStr at hz
  split at hz
  · split at hz
    · rename_i hl
      cases hz
      obtain ⟨v, rfl, h⟩ := hv.one
      exact ⟨_, by rw [h.int], Nat.lt_of_lt_of_le (PySem.Flt.log2_lt_of (by decide) hl) (by decide), q _ H (Sub.refl H) (.str _)⟩
    · cases hz
  · cases hz
def dMax2 : List D → Option D
  | [.int i, .int j] => some (.int (if j > i then j else i))
  | _ => none
theorem c_max2 : CaD c.K (In c N sc) (.builtin "max") dMax2 := by
  refine ⟨_, fun X I => call_max2 I.calm, fun B H vs ds z bk hv hz Q q => ?_⟩
  unfold dMax2 at hz
  split at hz
  · cases hz
    obtain ⟨v, u, rfl, h, k⟩ := hv.two
    exact ⟨_, _, by rw [h.int, k.int], q _ H (Sub.refl H) (.int _)⟩
  · cases hz
def dMin2 : List D → Option D
  | [.int i, .int j] => some (.int (if j < i then j else i))
  | _ => none
theorem c_min2 : CaD c.K (In c N sc) (.builtin "min") dMin2 := by
  refine ⟨_, fun X I => call_min2 I.calm, fun B H vs ds z bk hv hz Q q => ?_⟩
  unfold dMin2 at hz
  split at hz
  · cases hz
    obtain ⟨v, u, rfl, h, k⟩ := hv.two
    exact ⟨_, _, by rw [h.int, k.int], q _ H (Sub.refl H) (.int _)⟩
  · cases hz
def toInts : List D → Option (List Int)
  | [] => some []
  | .int i :: r => (toInts r).map fun q => i :: q
  | _ => none
theorem toInts_of : ∀ {ds : List D} {ns : List Int}, toInts ds = some ns → ds = ns.map PyData.int
  | [], ns, h => by cases h; rfl
  | .int i :: r, ns, h => by
    cases q : toInts r with
    | none => simp [toInts, q] at h
    | some l =>
      simp [toInts, q] at h
      subst h
      rw [toInts_of q]
      rfl
  | .none :: _, _, h => by cases h
  | .bool _ :: _, _, h => by cases h
  | .str _ :: _, _, h => by cases h
  | .list _ :: _, _, h => by cases h
  | .tuple _ :: _, _, h => by cases h
  | .dict _ :: _, _, h => by cases h
def toBools : List D → Option (List Bool)
  | [] => some []
  | .bool i :: r => (toBools r).map fun q => i :: q
  | _ => none
theorem toBools_of : ∀ {ds : List D} {ns : List Bool}, toBools ds = some ns → ds = ns.map PyData.bool
  | [], ns, h => by cases h; rfl
  | .bool i :: r, ns, h => by
    cases q : toBools r with
    | none => simp [toBools, q] at h
    | some l =>
      simp [toBools, q] at h
      subst h
      rw [toBools_of q]
      rfl
  | .none :: _, _, h => by cases h
  | .int _ :: _, _, h => by cases h
  | .str _ :: _, _, h => by cases h
  | .list _ :: _, _, h => by cases h
  | .tuple _ :: _, _, h => by cases h
  | .dict _ :: _, _, h => by cases h
def toStrs : List D → Option (List Str)
  | [] => some []
  | .str i :: r => (toStrs r).map fun q => i :: q
  | _ => none
theorem toStrs_of : ∀ {ds : List D} {ns : List Str}, toStrs ds = some ns → ds = ns.map PyData.str
  | [], ns, h => by cases h; rfl
  | .str i :: r, ns, h => by
    cases q : toStrs r with
    | none => simp [toStrs, q] at h
    | some l =>
      simp [toStrs, q] at h
      subst h
      rw [toStrs_of q]
      rfl
  | .none :: _, _, h => by cases h
  | .int _ :: _, _, h => by cases h
  | .bool _ :: _, _, h => by cases h
  | .list _ :: _, _, h => by cases h
  | .tuple _ :: _, _, h => by cases h
  | .dict _ :: _, _, h => by cases h
def dSum : List D → Option D
  | [.list ds] => (toInts ds).map fun ns => .int ns.sum
  | _ => none
theorem c_sum : CaD c.K (In c N sc) (.builtin "sum") dSum := by
  refine ⟨_, fun X I => by
    have h := cr_sum (X := X) I.calm
    rw [I.K] at h
    exact h, fun B H vs ds z bk hv hz Q q => ?_⟩
  unfold dSum at hz
  split at hz
  · rename_i ds
    cases q1 : toInts ds with
    | none => simp [q1] at hz
    | some ns =>
      simp [q1] at hz
      subst hz
      obtain ⟨v, rfl, h⟩ := hv.one
      obtain ⟨a, xs, rfl, h1, r1⟩ := h.list
      rw [toInts_of q1] at r1
      rw [r1.of_ints] at h1
      exact ⟨a, ns, rfl, h1, q _ H (Sub.refl H) (.int _)⟩
  · cases hz
def dAll : List D → Option D
  | [.list ds] => (toBools ds).map fun ns => .bool (ns.all id)
  | _ => none
theorem c_all : CaD c.K (In c N sc) (.builtin "all") dAll := by
  refine ⟨_, fun X I => by
    have h := cr_all (X := X) I.calm
    rw [I.K] at h
    exact h, fun B H vs ds z bk hv hz Q q => ?_⟩
  unfold dAll at hz
  split at hz
  · rename_i ds
    cases q1 : toBools ds with
    | none => simp [q1] at hz
    | some ns =>
      simp only [q1, Option.map_some] at hz
      cases hz
      obtain ⟨v, rfl, h⟩ := hv.one
      obtain ⟨a, xs, rfl, h1, r1⟩ := h.list
      rw [toBools_of q1] at r1
      rw [r1.of_bools] at h1
      exact ⟨a, ns, rfl, h1, q _ H (Sub.refl H) (.bl _)⟩
  · cases hz
def dAny : List D → Option D
  | [.list ds] => (toBools ds).map fun ns => .bool (ns.any id)
  | _ => none
theorem c_any : CaD c.K (In c N sc) (.builtin "any") dAny := by
  refine ⟨_, fun X I => by
    have h := cr_any (X := X) I.calm
    rw [I.K] at h
    exact h, fun B H vs ds z bk hv hz Q q => ?_⟩
  unfold dAny at hz
  split at hz
  · rename_i ds
    cases q1 : toBools ds with
    | none => simp [q1] at hz
    | some ns =>
      simp only [q1, Option.map_some] at hz
      cases hz
      obtain ⟨v, rfl, h⟩ := hv.one
      obtain ⟨a, xs, rfl, h1, r1⟩ := h.list
      rw [toBools_of q1] at r1
      rw [r1.of_bools] at h1
      exact ⟨a, ns, rfl, h1, q _ H (Sub.refl H) (.bl _)⟩
  · cases hz
def dList : List D → Option D
  | [.list ds] => some (.list ds)
  | [.tuple ds] => some (.list ds)
  | _ => none
theorem cf_list : CaF c.K (In c N sc) (.type "list") dList := by
  refine ⟨_, fun X I => by
    have h := call_list_of (X := X)
    rw [I.K] at h
    exact h, fun B H vs ds z bk hv hz Q q => ?_⟩
  unfold dList at hz
  split at hz
  · cases hz
    obtain ⟨v, rfl, h⟩ := hv.one
    obtain ⟨a, xs, rfl, h1, r1⟩ := h.list
    exact ⟨a, xs, rfl, .inl h1, fun l hl => q _ _ (Sub.new hl) hl (own_new hl r1)⟩
  · cases hz
    obtain ⟨v, rfl, h⟩ := hv.one
    obtain ⟨a, xs, rfl, h1, r1⟩ := h.tuple
    exact ⟨a, xs, rfl, .inr h1, fun l hl => q _ _ (Sub.new hl) hl (own_new hl r1)⟩
  · cases hz
def dTuple : List D → Option D
  | [.list ds] => some (.tuple ds)
  | [.tuple ds] => some (.tuple ds)
  | _ => none
def rTupX (K : Frag) : List V → Hp → VK → Prop := fun xs H Q => ∃ p ys, xs = [.ref p] ∧ ((SqL K H p ys ∧ ∀ l o, ExT o → H l = none → Q (.ref l) (upd H l (.frz o (.tup ys)))) ∨ (SqT K H p ys ∧ Q (.ref p) H))
theorem call_tupX {X : Cx} : CallR X (.type "tuple") (rTupX X.K) := by
  intro pins s σ H xs us Q I r h
  obtain ⟨p, ys, rfl, h⟩ := h
  obtain ⟨u, rfl, rx⟩ := vals1 r
  cases rx
  rcases h with ⟨hq, q⟩ | ⟨hq, q⟩
  · obtain ⟨its, r', pl, hz⟩ := I.list hq
    have hlen := r'.length
    refine call_tuple_list pl.isList (fun h' kp => ?_) (by simp only [List.size_toArray] <;> omega)
    have I1 : Inv X pins σ H { s with heap := h' } := I.kept (t' := s.toks) kp
    exact ⟨.ref h'.objs.size, _, tnew I1 r' hz, rfl, q _ _ ⟨rfl, rfl⟩ (I1.hok.fresh (Nat.le_refl _))⟩
  · obtain ⟨its, r', pl, hz⟩ := I.tuple hq
    exact call_tuple_same pl ⟨.ref p, H, I, rfl, q⟩
theorem c_tuple : CaD c.K (In c N sc) (.type "tuple") dTuple := by
  refine ⟨_, fun X I => by
    have h := call_tupX (X := X)
    rw [I.K] at h
    exact h, fun B H vs ds z bk hv hz Q q => ?_⟩
  unfold dTuple at hz
  split at hz
  · cases hz
    obtain ⟨v, rfl, h⟩ := hv.one
    obtain ⟨a, xs, rfl, h1, r1⟩ := h.list
    refine ⟨a, xs, rfl, .inl ⟨h1, fun l o ho hl => ?_⟩⟩
    obtain ⟨s1, r2⟩ := tup_new bk ho hl r1
    exact q _ _ s1 r2
  · cases hz
    obtain ⟨v, rfl, h⟩ := hv.one
    obtain ⟨a, xs, rfl, h1, r1⟩ := h.tuple
    refine ⟨a, xs, rfl, .inr ⟨h1, q _ H (Sub.refl H) ?_⟩⟩
    cases h with
    | vis h => exact h
  · cases hz
end

/-! ### methods of texts -/
structure MeD (K : Frag) (XS : Cx → Prop) (id : String) (f : Str → List D → Option D) : Prop where
  ex : ∃ r : V → List V → Hp → VK → Prop, (∀ X, XS X → MtR X id r) ∧ ∀ (B : Addr → Bool) (H : Hp) (x : Str) (vs : List V) (ds : List D) (z : D), (∀ a, B a = true → ∃ o, H a = some o) → RpL K (hide B H) vs ds → f x ds = some z →
    ∀ Q : VK, (∀ v H', Sub H H' → Rp K (hide B H') v z → Q v H') → r (.str x) vs H Q
def metK (f : Str → List D → Option D) (mo : En → Option (D × En)) (ma : En → Option (List D × En)) : En → Option (D × En) := fun ρ => (mo ρ).bind fun p => (ma p.2).bind fun q => match p.1 with
  | .str x => (f x q.1).map fun z => (z, q.2)
  | _ => none
section
variable {c : C0} {N : List Str} {sc : Scope} {o e : Expr} {es : List Expr} {mo : En → Option (D × En)} {ma : En → Option (List D × En)} {f : Str → List D → Option D} {p2 p3 : Pos} {m : Str} {id : String} {K : Frag}
theorem je_met (ho : MeD c.K (In c N sc) id f) (slot : Slot "str" m id) (hty : typeOf (.builtin id) = pure (.type "method_descriptor")) (h : JE c N sc o mo) (ha : JL c N sc (e :: es) ma)
    (hbase : ∀ env, attributeBase o m env (eval o env) = eval o env := by intros; rfl)
    (hfew : ∀ env, ((backTo p3 (starEach (e :: es) env)).all (fun x => !x.1) && (backToKw p3 (keywordEach [] env)).all (fun x => x.1.isSome) && decide ((e :: es).length + ([] : List Keyword).length + (if ([] : List Keyword).isEmpty then 0 else 1) < 30)) = true := by intros; rfl)
    (hline : (p2.endLine == p3.line) = true := by rfl) (hs : ∀ env, starEach (e :: es) env = (false, eval e env) :: starEach es env := by intros; rfl) (hplain : ∀ env, (backTo p3 (starEach es env)).any (·.1) = false := by intros; rfl) :
    JE c N sc (.Call (.Attribute o m p2) (e :: es) [] p3) (metK f mo ma) := by
  obtain ⟨t, h1, h2⟩ := h
  obtain ⟨u, k1, k2⟩ := ha
  obtain ⟨r, hr1, hr2⟩ := ho.ex
  refine ⟨tBM c.K "str" r t u, fun X I => ?_, fun σ H ρ B d ρ' S e Q q => ?_⟩
  · have q := pe_bm (cpos := p3) (apos := p2) PySem.F.plainAttrs_str slot hty (hr1 X I) (h1 X I) (k1 X I) (hbase _) (hfew _) hline (hs _) (hplain _)
    rw [I.K] at q
    exact q
  · unfold metK at e
    cases q1 : mo ρ with
    | none => simp [q1] at e
    | some p =>
      obtain ⟨d1, ρ1⟩ := p
      cases q2 : ma ρ1 with
      | none => simp [q1, q2] at e
      | some p =>
        obtain ⟨ds, ρ2⟩ := p
        simp only [q1, q2, Option.bind_some] at e
        split at e
        · rename_i x
          cases q3 : f x ds with
          | none => simp [q3] at e
          | some z =>
            simp [q3] at e
            obtain ⟨rfl, rfl⟩ := e
            refine h2 σ H ρ B _ _ S q1 _ fun v H1 A1 r1 => ?_
            rw [r1.stri]
            refine ⟨rfl, ?_⟩
            refine k2 σ H1 ρ1 B _ _ A1.sr q2 _ fun vs H2 A2 r2 => ?_
            exact hr2 B H2 x vs ds _ A2.sr.bk r2 q3 _ fun w H3 s3 r3 => q w H3 ((A1.trans A2).trans (Af.of_sub A2.sr s3)) r3
        · cases e
def dJoin (x : Str) : List D → Option D
  | [.list ds] => (toStrs ds).bind fun ys => if (ys.map (·.length)).sum + ys.length * x.length ≤ 100000 then some (.str (Txt.join x ys)) else none
  | _ => none
theorem m_join : MeD c.K (In c N sc) "str.join" dJoin := by
  refine ⟨_, fun X I => by
    have h := mt_join (X := X)
    rw [I.K] at h
    exact h, fun B H x vs ds z bk hv hz Q q => ?_⟩
  unfold dJoin at hz
  split at hz
  · rename_i ds
    cases q1 : toStrs ds with
    | none => simp [q1] at hz
    | some ys =>
      simp only [q1, Option.bind_some] at hz
      split at hz
      · rename_i hl
        cases hz
        obtain ⟨v, rfl, h⟩ := hv.rs.one
        obtain ⟨a, xs, rfl, h1, r1⟩ := h.list
        rw [toStrs_of q1] at r1
        rw [r1.of_strs] at h1
        exact ⟨x, a, ys, rfl, rfl, .inl h1, by omega, q _ H (Sub.refl H) (.str _)⟩
      · cases hz
  · cases hz
def dSplit (x : Str) : List D → Option D
  | [.str b] => if (b.length == 0) = false ∧ x.length + 2 ≤ 100000 then some (.list ((Txt.split x b).map PyData.str)) else none
  | _ => none
end

/-! ### what is walked -/
def strK (m : En → Option (D × En)) : En → Option (List D × En) := fun ρ => match m ρ with
  | some (.str x, ρ') => some (x.cps.toList.map fun k => .str ⟨#[k]⟩, ρ')
  | _ => none
def zipD (xs ys : List D) : List D := (xs.zip ys).map fun p => .tuple [p.1, p.2]
def zipK (m : En → Option (List D × En)) : En → Option (List D × En) := fun ρ => match m ρ with
  | some ([.list a, .list b], ρ') => if (zipD a b).all noXd = true then some (zipD a b, ρ') else none
  | some ([.tuple a, .tuple b], ρ') => if (zipD a b).all noXd = true then some (zipD a b, ρ') else none
  | _ => none
theorem zipD_length (xs ys : List D) : (zipD xs ys).length = min xs.length ys.length := by
  unfold zipD
  rw [List.length_map, List.length_zip]
theorem zipD_get {xs ys : List D} {i : Nat} {d : D} (h : (zipD xs ys)[i]? = some d) : ∃ x y, xs[i]? = some x ∧ ys[i]? = some y ∧ d = .tuple [x, y] := by
  unfold zipD at h
  rw [List.getElem?_map] at h
  cases q : (xs.zip ys)[i]? with
  | none => rw [q] at h; cases h
  | some p =>
    rw [q] at h
    cases h
    rw [List.getElem?_zip_eq_some] at q
    exact ⟨p.1, p.2, q.1, q.2, rfl⟩
def enumD : Nat → List D → List D
  | _, [] => []
  | i, d :: r => .tuple [.int i, d] :: enumD (i + 1) r
def enumK (m : En → Option (List D × En)) : En → Option (List D × En) := fun ρ => match m ρ with
  | some ([.list a], ρ') => some (enumD 0 a, ρ')
  | _ => none
theorem enumD_length : ∀ (xs : List D) (i : Nat), (enumD i xs).length = xs.length
  | [], _ => rfl
  | _ :: r, i => congrArg (· + 1) (enumD_length r (i + 1))
theorem enumD_get : ∀ (xs : List D) (n i : Nat) (d : D), (enumD n xs)[i]? = some d → ∃ x, xs[i]? = some x ∧ d = .tuple [.int ((n + i : Nat) : Int), x]
  | [], n, i, d, h => by simp [enumD] at h
  | x :: r, n, 0, d, h => by
    simp [enumD] at h
    exact ⟨x, rfl, h.symm⟩
  | x :: r, n, i + 1, d, h => by
    have h' : (enumD (n + 1) r)[i]? = some d := h
    obtain ⟨y, a, b⟩ := enumD_get r (n + 1) i d h'
    exact ⟨y, a, by rw [b, show n + 1 + i = n + (i + 1) by omega]⟩
section
variable {c : C0} {N : List Str} {sc : Scope} {e e2 tg : Expr} {elts : List Expr} {kk : Nat} {pos p tpos : Pos} {me : En → Option (D × En)} {ma : En → Option (List D × En)} {K : Frag}
theorem ji_str (h : JE c N sc e me) : JI c N sc tg e (strK me) := by
  obtain ⟨t, h1, h2⟩ := h
  refine ⟨iStr t, fun X I => pi_str (h1 X I), fun σ H ρ B ds ρ' S e R q => ?_⟩
  unfold strK at e
  split at e
  · rename_i x ρ1 he
    cases e
    refine h2 σ H ρ B _ _ S he _ fun v H1 A r => ⟨x, r.stri, q _ H1 A fun B' H' sb bk => ⟨fun i d hi => ?_, ?_⟩⟩
    · rw [List.getElem?_map] at hi
      cases hk : x.cps.toList[i]? with
      | none => rw [hk] at hi; cases hi
      | some w =>
        rw [hk] at hi
        cases hi
        have hk' : x.cps[i]? = some w := by simpa using hk
        refine ⟨(Array.getElem?_eq_some_iff.mp hk').1, fun y H'' z => ?_⟩
        obtain ⟨rfl, w', hw, rfl⟩ := z
        rw [hk'] at hw
        cases hw
        exact ⟨Sub.refl _, .str _⟩
    · show x.cps.size ≤ _
      simp
  · cases e
theorem pair_ok {B : Addr → Bool} {H : Hp} {T : Addr} {x y : V} {d e : D} (bk : ∀ a, B a = true → ∃ o, H a = some o) (n : needX [d, e] = false) (hT : H T = none) (h1 : Rp K (hide B H) x d) (h2 : Rp K (hide B H) y e) : Sub H (upd H T (.tup [x, y])) ∧ Rp K (hide B (upd H T (.tup [x, y]))) (.ref T) (.tuple [d, e]) :=
  tup_newN bk n hT (.cons h1 (.cons h2 .nil))
theorem zip_noX {a b : List D} {i : Nat} {x y : D} (h : (zipD a b).all noXd = true) (e : (zipD a b)[i]? = some (.tuple [x, y])) : needX [x, y] = false := by
  have := List.all_eq_true.mp h _ (List.mem_of_getElem? e)
  simpa [noXd] using this
theorem ji_zip (hg : sc.names.lookup ("zip" : Str) = some .globalImplicit) (hm : c.mg ("zip" : Str) = none) (h : JL c N sc [e, e2] ma)
    (hs : ∀ env, starEach [e, e2] env = (false, eval e env) :: starEach [e2] env := by intros; rfl) (hpl : ∀ env, (backTo pos (starEach [e2] env)).any (·.1) = false := by intros; rfl) : JI c N sc (.Tuple elts kk tpos) (.Call (.Name "zip" p) [e, e2] [] pos) (zipK ma) := by
  obtain ⟨t, h1, h2⟩ := h
  refine ⟨RZ.iZipA c.K t, fun X I => ?_, fun σ H ρ B ds ρ' S e R q => ?_⟩
  · have h := RZ.pi_zipA (elts := elts) (kk := kk) (tpos := tpos) (p := p) (pos := pos) (I.gl hg) (by rw [I.mg]; exact hm) (h1 X I) (hs _) (hpl _)
    rw [I.K] at h
    exact h
  · unfold zipK at e
    split at e
    · rename_i a b ρ1 he
      have nx : (zipD a b).all noXd = true := by
        by_cases n : (zipD a b).all noXd = true
        · exact n
        · rw [if_neg n] at e
          cases e
      rw [if_pos nx] at e
      cases e
      refine h2 σ H ρ B _ _ S he _ fun vs H1 A r => ?_
      cases r with
      | cons r1 r2 =>
        cases r2 with
        | cons r2 r3 =>
          cases r3
          cases r1 with
          | lst s1 r1 =>
            cases r2 with
            | lst s2 r2 =>
              refine ⟨_, _, _, _, rfl, .inl ⟨sub_l (hide_sub B H1) s1, sub_l (hide_sub B H1) s2, q _ H1 A fun B' H' sb bk => ⟨fun i d hi => ?_, ?_⟩⟩⟩
              · obtain ⟨x, y, g1, g2, rfl⟩ := zipD_get hi
                obtain ⟨v, f1, f2⟩ := r1.get' g1
                obtain ⟨u, k1, k2⟩ := r2.get' g2
                have q1 := sub_l (sb.trans (hide_sub B' H')) s1
                have q2 := sub_l (sb.trans (hide_sub B' H')) s2
                refine ⟨⟨_, _, v, u, q1, q2, f1, k1⟩, fun z H'' w => ?_⟩
                obtain ⟨T, x', y', rfl, hT, rfl, m1, m2⟩ := w
                have e1 := m1 _ q1
                have e2 := m2 _ q2
                rw [f1] at e1
                rw [k1] at e2
                cases e1
                cases e2
                exact pair_ok bk (zip_noX nx hi) hT (f2.mono sb) (k2.mono sb)
              · refine ⟨_, _, sub_l (sb.trans (hide_sub B' H')) s1, sub_l (sb.trans (hide_sub B' H')) s2, ?_⟩
                rw [r1.length, r2.length, zipD_length]
                omega
    · rename_i a b ρ1 he
      have nx : (zipD a b).all noXd = true := by
        by_cases n : (zipD a b).all noXd = true
        · exact n
        · rw [if_neg n] at e
          cases e
      rw [if_pos nx] at e
      cases e
      refine h2 σ H ρ B _ _ S he _ fun vs H1 A r => ?_
      cases r with
      | cons r1 r2 =>
        cases r2 with
        | cons r2 r3 =>
          cases r3
          cases r1 with
          | tup s1 r1 _ =>
            cases r2 with
            | tup s2 r2 _ =>
              refine ⟨_, _, _, _, rfl, .inr ⟨sub_t (hide_sub B H1) s1, sub_t (hide_sub B H1) s2, q _ H1 A fun B' H' sb bk => ⟨fun i d hi => ?_, ?_⟩⟩⟩
              · obtain ⟨x, y, g1, g2, rfl⟩ := zipD_get hi
                obtain ⟨v, f1, f2⟩ := r1.get' g1
                obtain ⟨u, k1, k2⟩ := r2.get' g2
                have q1 := sub_t (sb.trans (hide_sub B' H')) s1
                have q2 := sub_t (sb.trans (hide_sub B' H')) s2
                refine ⟨⟨_, _, v, u, q1, q2, f1, k1⟩, fun z H'' w => ?_⟩
                obtain ⟨T, x', y', rfl, hT, rfl, m1, m2⟩ := w
                have e1 := m1 _ q1
                have e2 := m2 _ q2
                rw [f1] at e1
                rw [k1] at e2
                cases e1
                cases e2
                exact pair_ok bk (zip_noX nx hi) hT (f2.mono sb) (k2.mono sb)
              · refine ⟨_, _, sub_t (sb.trans (hide_sub B' H')) s1, sub_t (sb.trans (hide_sub B' H')) s2, ?_⟩
                rw [r1.length, r2.length, zipD_length]
                omega
    · cases e
end
end Dz

/-! Dz. I: short words for the generator; op=; the end. -/
namespace Dz
open PySem L2
section
variable {c : C0} {N : List Str} {sc : Scope} {e b : Expr} {es : List Expr} {me mb : En → Option (D × En)} {mr : En → Option (List Ar × En)} {ml : En → Option (List D × En)} {mh mk : En → Option (Option Int × En)} {pos p p1 p2 : Pos} {x : Str} {g : D → D → Option D} {K : Frag}
theorem v_ (i : Nat) (hN : N[i]? = some x := by rfl) (hv : Vis sc x := by first | exact Or.inl rfl | exact Or.inr (Or.inl rfl) | exact Or.inr (Or.inr rfl)) (hd : (x == ("__debug__" : Str)) = false := by decide) (hcd : (x == ("__classdict__" : Str)) = false := by decide) : JE c N sc (.Name x pos) (kV i) := ce_var hN hv hd hcd
theorem o_ (i : Nat) (hN : N[i]? = some x := by rfl) (hv : Vis sc x := by first | exact Or.inl rfl | exact Or.inr (Or.inl rfl) | exact Or.inr (Or.inr rfl)) (hd : (x == ("__debug__" : Str)) = false := by decide) (hcd : (x == ("__classdict__" : Str)) = false := by decide) : JA c N sc (.Name x pos) (kO i) := ca_var hN hv hd hcd
theorem g_int {i : Int} (hg : sc.names.lookup x = some .globalImplicit := by rfl) (hm : ∃ t, c.mg x = some (.int i t)) (hd : (x == ("__debug__" : Str)) = false := by decide) : JE c N sc (.Name x pos) (kC (.int i)) := by
  obtain ⟨t, h⟩ := hm
  exact ce_glob (v := .int i) hg h ⟨t, rfl⟩ (fun _ => .int i) hd
theorem g_str {i : Str} (hg : sc.names.lookup x = some .globalImplicit := by rfl) (hm : ∃ t, c.mg x = some (.str i t)) (hd : (x == ("__debug__" : Str)) = false := by decide) : JE c N sc (.Name x pos) (kC (.str i)) := by
  obtain ⟨t, h⟩ := hm
  exact ce_glob (v := .str i) hg h ⟨t, rfl⟩ (fun _ => .str i) hd
theorem bor_ (i : Nat) (k : JG c N sc es mr) (hN : N[i]? = some x := by rfl) (hv : Vis sc x := by first | exact Or.inl rfl | exact Or.inr (Or.inl rfl) | exact Or.inr (Or.inr rfl)) (hd : (x == ("__debug__" : Str)) = false := by decide) (hcd : (x == ("__classdict__" : Str)) = false := by decide) : JG c N sc (.Name x p :: es) (gbor i mr) := jg_bor hN hv k hd hcd
theorem opO_ (i : Nat) {op : Operator} (ho : OpD c.K (In c N sc) (binaryOp op) g) (hb : JA c N sc b mb) (hN : N[i]? = some x := by rfl) (hv : Vis sc x := by first | exact Or.inl rfl | exact Or.inr (Or.inl rfl) | exact Or.inr (Or.inr rfl)) (hd : (x == ("__debug__" : Str)) = false := by decide) (hcd : (x == ("__classdict__" : Str)) = false := by decide) : JE c N sc (.BinOp (.Name x p1) op b pos) (bopO g i mb) := ce_opO ho hN hv hb hd hcd
theorem cmpO_ (i : Nat) {op : CmpOp} (ho : OpD c.K (In c N sc) (compareOp op) g) (hb : JA c N sc b mb) (hm : behindInMarks op b = false := by rfl) (hN : N[i]? = some x := by rfl) (hv : Vis sc x := by first | exact Or.inl rfl | exact Or.inr (Or.inl rfl) | exact Or.inr (Or.inr rfl)) (hd : (x == ("__debug__" : Str)) = false := by decide) (hcd : (x == ("__classdict__" : Str)) = false := by decide) : JE c N sc (.Compare (.Name x p1) [op] [b] pos) (bopO g i mb) := ce_cmpO ho hN hv hb hm hd hcd
theorem tcmpO_ (i : Nat) {op : CmpOp} (ho : OpD c.K (In c N sc) (compareOp op) g) (hb : JA c N sc b mb) (hm : behindInMarks op b = false := by rfl) (hN : N[i]? = some x := by rfl) (hv : Vis sc x := by first | exact Or.inl rfl | exact Or.inr (Or.inl rfl) | exact Or.inr (Or.inr rfl)) (hd : (x == ("__debug__" : Str)) = false := by decide) (hcd : (x == ("__classdict__" : Str)) = false := by decide) : JT c N sc (.Compare (.Name x p1) [op] [b] pos) (tstK (bopO g i mb)) := jt_cmpO ho hN hv hb hm hd hcd
theorem ixO_ (i : Nat) (ho : IxD c.K (In c N sc) g) (hb : JA c N sc b mb) (hs : PlainIx b := by intro _ _; rfl) (hN : N[i]? = some x := by rfl) (hv : Vis sc x := by first | exact Or.inl rfl | exact Or.inr (Or.inl rfl) | exact Or.inr (Or.inr rfl)) (hd : (x == ("__debug__" : Str)) = false := by decide) (hcd : (x == ("__classdict__" : Str)) = false := by decide) : JE c N sc (.Subscript (.Name x p1) b pos) (bopO g i mb) := je_ixO ho hN hv hb hs hd hcd
theorem cutO_ (i : Nat) {lo hi : Option Expr} (hl : JP c N sc lo mh) (hh : JP c N sc hi mk) (hN : N[i]? = some x := by rfl) (hv : Vis sc x := by first | exact Or.inl rfl | exact Or.inr (Or.inl rfl) | exact Or.inr (Or.inr rfl)) (hd : (x == ("__debug__" : Str)) = false := by decide) (hcd : (x == ("__classdict__" : Str)) = false := by decide) : JE c N sc (.Subscript (.Name x p1) (.Slice lo hi none p2) pos) (cutO dCut i mh mk) := je_cutO hN hv hl hh hd hcd

/-- x op= e -/
def augS (g : D → D → Option D) (i : Nat) (me : En → Option (D × En)) : En → Option SO := fun ρ => (kV i ρ).bind fun p => (me ρ).bind fun q => (g p.1 q.1).bind fun z => (setv i z q.2).map .nx
theorem ss_aug {te : TE} {r : R2} {i : Nat} (h : Sd K te me) (hr : ∀ (B : Addr → Bool) (H : Hp) (x y : V) (d e z : D), (∀ a, B a = true → ∃ o, H a = some o) → Rs K B H x d → Rs K B H y e → g d e = some z →
    ∀ Q : VK, (∀ v H', Sub H H' → Rp K (hide B H') v z → Q v H') → r x y H Q) : SS K (tAug i te r) (augS g i me) := fun σ H ρ B o S e Dn h' => by
  unfold augS at e
  cases q0 : kV i ρ with
  | none => simp [q0] at e
  | some p0 =>
    obtain ⟨d0, ρ0⟩ := p0
    unfold kV at q0
    split at q0
    · rename_i d' hd'
      cases q0
      cases q1 : me ρ with
      | none => simp [kV, hd', q1] at e
      | some p1 =>
        obtain ⟨d1, ρ1⟩ := p1
        cases q2 : g d0 d1 with
        | none => simp [kV, hd', q1, q2] at e
        | some z =>
          cases q3 : setv i z ρ1 with
          | none => simp [kV, hd', q1, q2, q3] at e
          | some ρ2 =>
            simp [kV, hd', q1, q2, q3] at e
            subst e
            obtain ⟨v, g1, g2⟩ := S.val i _ hd'
            refine ⟨v, g1, ?_⟩
            refine h σ H ρ B _ _ S q1 _ fun w H1 A1 r1 => ?_
            refine hr B H1 v w _ _ _ A1.sr.bk (.vis (g2.mono (A1.sub S))) (.vis r1) q2 _ fun y H2 s2 r2 => ?_
            have A2 := A1.trans (Af.of_sub A1.sr s2)
            exact h' B _ H2 (A2.bf.trans S (bf_setv A2.sr q3 r2))
    · cases q0
def dIAdd : D → D → Option D
  | .int a, .int b => some (.int (a + b))
  | .str a, .str b => if a.length + b.length ≤ 100000 then some (.str (a ++ b)) else none
  | _, _ => none
theorem o_iadd : OpD c.K (In c N sc) (inplaceOp .Add) dIAdd := by
  refine ⟨_, fun X I => OpR.or (X := X) iop_add iop_add_str, fun B H x y d e z bk hx hy hz Q q => ?_⟩
  unfold dIAdd at hz
  split at hz
  · cases hz
    exact .inl ⟨_, _, hx.int, hy.int, q _ H (Sub.refl H) (.int _)⟩
  · split at hz
    · rename_i hl
      cases hz
      exact .inr ⟨_, _, hx.str, hy.str, sz5 hl, q _ H (Sub.refl H) (.str _)⟩
    · cases hz
  · cases hz
theorem o_isub : OpD c.K (In c N sc) (inplaceOp .Sub) dSub := by
  refine ⟨_, fun X I => iop_sub, fun B H x y d e z bk hx hy hz Q q => ?_⟩
  unfold dSub at hz
  split at hz
  · cases hz
    exact ⟨_, _, hx.int, hy.int, q _ H (Sub.refl H) (.int _)⟩
  · cases hz
theorem js_aug {op : Operator} {i : Nat} (nd : N.Nodup) (ho : OpD c.K (In c N sc) (inplaceOp op) g) (h : JE c N sc e me) (hN : N[i]? = some x := by rfl) (hs : Sto c sc x := by first | exact Or.inl rfl | exact Or.inr ⟨rfl, rfl⟩) : JS c N sc (.AugAssign (.Name x p) op e pos) (augS g i me) := by
  obtain ⟨r, h1, h2⟩ := ho.ex
  obtain ⟨t, a1, a2⟩ := h
  exact ⟨_, fun X I => ps_aug (by rw [I.N]; exact nd) (by rw [I.N]; exact hN) (hs.loc I) (a1 X I) (h1 X I) (hs.fn I), ss_aug a2 h2⟩
theorem set_ (i : Nat) (nd : N.Nodup) (h : JE c N sc e me) (hN : N[i]? = some x := by rfl) (hs : Sto c sc x := by first | exact Or.inl rfl | exact Or.inr ⟨rfl, rfl⟩) (hw : ∀ env, swapsWith e (some (.Name x p1)) pos.line env = pure false := by intros; rfl) : JS c N sc (.Assign [.Name x p1] e pos) (asgS me (setv i)) := js_set nd hN hs h hw
theorem own_ (i : Nat) (nd : N.Nodup) (h : JF c N sc e me) (hN : N[i]? = some x := by rfl) (hs : Sto c sc x := by first | exact Or.inl rfl | exact Or.inr ⟨rfl, rfl⟩) (hw : ∀ env, swapsWith e (some (.Name x p1)) pos.line env = pure false := by intros; rfl) : JS c N sc (.Assign [.Name x p1] e pos) (asgS me (seto i)) := js_own nd hN hs h hw
theorem tg_ (i : Nat) (nd : N.Nodup) (hN : N[i]? = some x := by rfl) (hs : Sto c sc x := by first | exact Or.inl rfl | exact Or.inr ⟨rfl, rfl⟩) : JTg c N sc (.Name x pos) [i] (setv i) := jtg_name nd hN hs
theorem seti_ (i : Nat) (h : JE c N sc e me) (hi : JE c N sc b mb) (hN : N[i]? = some x := by rfl) (hv : Vis sc x := by first | exact Or.inl rfl | exact Or.inr (Or.inl rfl) | exact Or.inr (Or.inr rfl)) (hd : (x == ("__debug__" : Str)) = false := by decide) (hcd : (x == ("__classdict__" : Str)) = false := by decide)
    (ha : ∀ env v, assign (.Subscript (.Name x p1) b p2) env v = (do
      let ov ← holding [v] (eval (.Name x p1) env)
      let iv ← holding [v, ov] (eval b env)
      standAt p2
      holding [v, ov, iv] (setItem ov iv v)
      release [v, ov, iv] []) := by intros; rfl)
    (hs : ∀ env, swapsWithSole [.Subscript (.Name x p1) b p2] e pos.line env = pure false := by intros; rfl) (hw : ∀ env, swappedStores [.Subscript (.Name x p1) b p2] e env = pure none := by intros; rfl)
    (h1 : ∀ env, (assignEach [.Subscript (.Name x p1) b p2] env).map (·.2) = [assign (.Subscript (.Name x p1) b p2) env] := by intros; rfl) : JS c N sc (.Assign [.Subscript (.Name x p1) b p2] e pos) (setiS i me mb) := js_seti hN hv h hi hd hcd ha hs hw h1
/-- y = [..] on one line -/
theorem setLc_ (i : Nat) {elt tg iter : Expr} {ifs : List Expr} {scope : Scope} {spos : Pos} {own : List (Str × Nat)} {js : List Nat} {mi : En → Option (List D × En)} {mg : D → En → Option En} {mt : En → Option (Bool × En)} (nd : N.Nodup)
    (hi : JI c N sc tg iter mi) (ok : BlkOk N sc scope own) (hg : JTg c.in_ N (relS scope sc) tg js mg) (ht : JTs c.in_ N (relS scope sc) ifs mt) (he : JE c.in_ N (relS scope sc) elt me)
    (hN : N[i]? = some x := by rfl) (hx : sc.names.lookup x = some .local := by rfl) (hk : sc.kind = .function := by rfl) (hl : (p1.line == pos.line) = true := by rfl) (hn : (scope.names.any fun (n, k) => n == x && (k == .local || k == .cell)) = false := by decide +kernel)
    (hj : (js.all fun j => (own.map (·.2)).contains j) = true := by rfl) (hs : ∀ env x, foldedSetIterable iter env x = pure x := by intros; rfl) : JS c N sc (.Assign [.Name x p1] (.ListComp elt [⟨tg, iter, ifs, 0⟩] scope pos) spos) (asgS (lcK (own.map (·.2)) mi mg mt me) (setv i)) :=
  js_lc (fun _ h => ss_asg h.d sgt_name) nd hN hx hk hl hn hi ok hg ht he hj hs
theorem ownLc_ (i : Nat) {elt tg iter : Expr} {ifs : List Expr} {scope : Scope} {spos : Pos} {own : List (Str × Nat)} {js : List Nat} {mi : En → Option (List D × En)} {mg : D → En → Option En} {mt : En → Option (Bool × En)} (nd : N.Nodup)
    (hi : JI c N sc tg iter mi) (ok : BlkOk N sc scope own) (hg : JTg c.in_ N (relS scope sc) tg js mg) (ht : JTs c.in_ N (relS scope sc) ifs mt) (he : JE c.in_ N (relS scope sc) elt me)
    (hN : N[i]? = some x := by rfl) (hx : sc.names.lookup x = some .local := by rfl) (hk : sc.kind = .function := by rfl) (hl : (p1.line == pos.line) = true := by rfl) (hn : (scope.names.any fun (n, k) => n == x && (k == .local || k == .cell)) = false := by decide +kernel)
    (hj : (js.all fun j => (own.map (·.2)).contains j) = true := by rfl) (hs : ∀ env x, foldedSetIterable iter env x = pure x := by intros; rfl) : JS c N sc (.Assign [.Name x p1] (.ListComp elt [⟨tg, iter, ifs, 0⟩] scope pos) spos) (asgS (lcK (own.map (·.2)) mi mg mt me) (seto i)) :=
  js_lc (fun _ h => ss_asgo h) nd hN hx hk hl hn hi ok hg ht he hj hs
end
/-- a def as the top has left it -/
def At (c : C0) (x : Str) (st : Stmt) (ps : List Str) : Prop := ∃ f fd, Fun c.K x x st f fd ∧ c.mg x = some (.ref f) ∧ Binds c.K fd ps []
theorem At.fn {c : C0} {x : Str} {st : Stmt} {N ps : List Str} {k : Nat} {m : En → Option SO} (A : At c x st ps) (S : FnScope N ps (defScope st)) (h : JB { c with k := k, top := true } N (defScope st) (defBody st) m) (hn : ps.length ≤ N.length := by decide) : FnD c (k + 1) x ps (runF ps.length N.length m) := by
  obtain ⟨f, fd, F, hm, b⟩ := A
  exact fnD F hm b S h hn
theorem FnD.mono {c : C0} {x : Str} {ps : List Str} {j k : Nat} {m : Fm} (h : FnD c j x ps m) (l : j ≤ k) : FnD c k x ps m := by
  obtain ⟨f, fd, F, r⟩ := h
  exact ⟨f, fd, F.mono l, r⟩
/-! ### the law -/
def scriptD (ns : List Int) : D := .list (ns.map PyData.int)
/-- the law's end: its mirror gives True at every script -/
theorem law_fn {c : C0} {f : Addr} {fd : FuncData} {k : Nat} {m : Fm} {x : Str} (F : FnOk c.P c.w c.K c.mg c.base CX0 k f fd [x] (spD c.K m)) (hm : ∀ ns : List Int, ns.length ≤ 63 → ∃ as, m [.val (scriptD ns)] = some (.bool true, as)) :
    FnOk c.P c.w c.K c.mg c.base CX0 k f fd [x] (fun vs H Q _ => ∃ (a : Addr) (ns : List Int), vs = [.ref a] ∧ SqL c.K H a (ns.map V.int) ∧ ns.length ≤ 63 ∧ ∀ H', Q (.bl true) H') :=
  F.imp fun vs H Q E h => by
    obtain ⟨a, ns, rfl, hS, hl, q⟩ := h
    obtain ⟨as, e⟩ := hm ns hl
    refine ⟨fun _ => false, [.val (scriptD ns)], .bool true, as, e, ?_, fun v H' A r => ?_⟩
    · have hh : hide (fun _ => false) H = H := by
        funext b
        rfl
      refine ⟨rfl, fun i d e => ?_, fun i s e m => ?_, fun i j s t l e1 m1 e2 m2 e3 e4 => ?_, fun a h => by cases h⟩
      · cases i with
        | zero =>
          cases e
          refine ⟨.ref a, rfl, ?_⟩
          rw [hh]
          exact .lst hS (RpL.ints ns)
        | succ i => simp at e
      · cases i with
        | zero => cases e; cases m
        | succ i => simp at e
      · cases i with
        | zero => cases e1; cases m1
        | succ i => simp at e1
    · rw [r.booli]
      exact q H'
theorem walk_law {l : PySem.W.OpenLaw} {q : Program} {loose : List Str} {XP : (Str → Option Value) → Heap → Prop} {YP : World → Heap → Prop} {d : DefRec} {K : Params → PySem.W.Frag} {k : Nat} {x : Str} (hn : l.most = some 63) (hdf : d.params.defaults = [])
    (hr : Room k callerA) (hY : ∀ (w : World) (h : Heap), YP w h → (K w.params).In h)
    (F : ∀ (w : World) (mg : Str → Option Value) (fa : Addr) (h : Heap), (K w.params).In h → h.Ns mainGlobals mg → mg d.name = some (.ref fa) →
      ∃ fd : FuncData, (∀ (s : Shared) (u : Value), BindsTo s fd ⟨[u], []⟩ [(x, u)]) ∧ ∀ base : Heap, (K w.params).In base → base.Ns mainGlobals mg → FnOk l.prog w (K w.params) mg base CX0 k fa fd [x]
        (fun vs H Q _ => ∃ (a : Addr) (ns : List Int), vs = [.ref a] ∧ SqL (K w.params) H a (ns.map V.int) ∧ ns.length ≤ 63 ∧ ∀ H', Q (.bl true) H')) :
    PySem.W.WalkO q loose XP YP l.row.toRowW d [] (fun f vs => PySem.call f vs) :=
  L2.walk_of (n := 63) (k := k) (x := x) (CX := fun _ => CX0) (sp := fun w vs H Q _ => ∃ (a : Addr) (ns : List Int), vs = [.ref a] ∧ SqL (K w.params) H a (ns.map V.int) ∧ ns.length ≤ 63 ∧ ∀ H', Q (.bl true) H') hn (by decide) hdf hr hY F (fun _ _ a ns hl _ hS => ⟨a, ns, rfl, hS, hl, fun _ => rfl⟩) fun _ _ _ _ _ z => z
end Dz

/-! Dz. K: more operations: list * int, insert, extend, range with a step. -/
namespace Dz
open PySem L2
variable {c : C0} {N : List Str} {sc : Scope}
theorem RpL.rep {K : Frag} {H : Hp} {vs : List V} {ds : List D} (r : RpL K H vs ds) : ∀ n : Nat, RpL K H (List.replicate n vs).flatten (List.replicate n ds).flatten
  | 0 => .nil
  | n + 1 => by
    rw [List.replicate_succ, List.replicate_succ, List.flatten_cons, List.flatten_cons]
    exact r.append (RpL.rep r n)
def dRep : D → D → Option D
  | .list a, .int k => if k < 2 ^ 63 ∧ -(2 ^ 63) ≤ k ∧ a.length * k.toNat ≤ 100000 then some (.list (List.replicate k.toNat a).flatten) else none
  | _, _ => none
theorem sf_rep {K : Frag} {ta tb : TE} {ma mb : En → Option (D × En)} (ha : Sf K ta ma) (hb : So K tb mb) : Sf K (tOp rRep ta tb) (bop dRep ma mb) := fun σ H ρ B d ρ' S e Q q => by
  unfold bop at e
  cases h1 : ma ρ with
  | none => rw [h1] at e; cases e
  | some p =>
    obtain ⟨d1, ρ1⟩ := p
    rw [h1] at e
    cases h2 : mb ρ1 with
    | none => simp [h2] at e
    | some p2 =>
      obtain ⟨d2, ρ2⟩ := p2
      cases h3 : dRep d1 d2 with
      | none => simp [h2, h3] at e
      | some z =>
        simp [h2, h3] at e
        obtain ⟨rfl, rfl⟩ := e
        refine ha σ H ρ B _ _ S h1 _ fun l H1 A1 Si hl o1 => ?_
        have nl : ¬ Mine σ ρ l := fun m => by
          have := S.mine m
          rw [S.fresh hl] at this
          cases this
        have nl1 : ¬ Mine σ ρ1 l := fun m => nl (A1.kin.mine.mp m)
        refine hb σ H1 ρ1 B _ _ A1.sr h2 _ fun y H2 A2 r2 => ?_
        unfold dRep at h3
        split at h3
        · rename_i ds k
          split at h3
          · rename_i hk
            cases h3
            obtain ⟨vs, g1, g2⟩ := o1
            have g3 : H2 l = some (.lst vs) := A2.keep l _ g1 nl1
            have g4 : RpL K (hide B H2) vs ds := (g2.mono ins_sub).mono (A2.sub A1.sr)
            refine ⟨l, k, vs, rfl, r2.int, g3, hk.2.1, hk.1, Nat.le_trans (by rw [g4.length]; exact hk.2.2) (by decide), fun p hp => ?_⟩
            have sb : Sub H2 (upd H2 p (.lst (List.replicate k.toNat vs).flatten)) := Sub.new hp
            have hps : H p = none := by
              cases z0 : H p with
              | none => rfl
              | some o =>
                obtain ⟨o1, z1⟩ := (A1.trans A2).grow p o z0
                rw [hp] at z1
                cases z1
            have ow : OwnAt K (hide (ins p B) (upd H2 p (.lst (List.replicate k.toNat vs).flatten))) ((upd H2 p (.lst (List.replicate k.toNat vs).flatten)) p) (.list (List.replicate k.toNat ds).flatten) :=
              ⟨_, upd_same, (g4.rep _).mono (sub_ins hp (hsub sb))⟩
            exact q p _ ((A1.trans A2).trans (Af.of_sub A2.sr sb)) (A2.sr.ins hp sb ⟨_, upd_same⟩) hps ow
          · cases h3
        · cases h3
theorem cf_rep {a b : Expr} {ma mb : En → Option (D × En)} {pos : Pos} (ha : JF c N sc a ma) (hb : JA c N sc b mb) : JF c N sc (.BinOp a .Mult b pos) (bop dRep ma mb) := by
  obtain ⟨ta, p1, s1⟩ := ha
  obtain ⟨tb, p2, s2⟩ := hb
  exact ⟨_, fun X I => pe_op (op_rep (X := X)) (p1 X I) (p2 X I), sf_rep s1 s2⟩
/-! insert, extend -/
def muInsert (ds as : List D) : Option (D × List D) := match as with
  | [.int i, d] => if ds.length < 100000 ∧ 0 ≤ i ∧ i < 2 ^ 63 then some (.none, ds.take i.toNat ++ [d] ++ ds.drop i.toNat) else none
  | _ => none
theorem mu_insert {K : Frag} {XS : Cx → Prop} : MuD K XS "list.insert" muInsert := ⟨_, fun X _ => mt_insert, fun B H l vs ds us as z ds' bk bl hl r ra e Q q => by
  unfold muInsert at e
  split at e
  · rename_i i d
    split at e
    · rename_i hn
      cases e
      cases ra with
      | cons r1 r2 =>
        cases r2 with
        | cons r2 r3 =>
          cases r3
          cases r1
          exact ⟨l, vs, i, _, rfl, rfl, hl, Nat.lt_of_lt_of_le (by rw [r.length]; exact hn.1) (by decide), hn.2.1, hn.2.2, q _ _ (((r.take _).append (.cons r2 .nil)).append (r.drop _)) .non⟩
    · cases e
  · cases e⟩
theorem list_extendW (l : Addr) (items : Array Value) (n : Nat) (b : Addr) (items2 : Array Value) (n2 : Nat) (dd2 : Option Addr) (sl2 : Array (Option Value)) (hc0 : ¬(!items.isEmpty && Builtin.List.listTooLong (items.size + items2.size)) = true) (hc1 : items.size ≤ sizeLine) (hs2 : items.size + items2.size ≤ sizeLine + 1) :
    Meets (Builtin.«list.extend» ⟨[.ref l, .ref b], []⟩) (fun _ R s => s.heap.get? l = some { cls := .type "list", dict := none, data := .seq items n, slots := #[] } ∧ s.heap.get? b = some { cls := .type "list", dict := dd2, data := .seq items2 n2, slots := sl2 } ∧ R (.ok (.ret Value.none)) { s with heap := s.heap.update l (Obj.mapSeq fun x => x ++ items2) }) :=
  .of_wp fun prog w A R s h => by
    obtain ⟨hp, g, d, tk, os⟩ := s; obtain ⟨hl, hb, h⟩ := h; have f1 := AutoSeq1.idx_int; have f2 := AutoSeq1.sub_tuple_tuple; have f3 := AutoSeq1.sub_list_list; have f4 := AutoSeq1.sub_tuple_list; have f5 := AutoSeq1.sub_list_tuple
    have hz' : (items ++ items2).size ≤ sizeLine + 1 := by rw [Array.size_append]; exact hs2
    wp_walk using (wpAny_updateSeq hl rfl (hz := hc1) (_hz' := hz')), AutoSeq1.wpAny_loadPart' hl, AutoSeq1.wpAny_loadPart' hb; exact ⟨_, rfl, h⟩
def rExtW (K : Frag) : V → List V → Hp → VK → Prop := fun x vs H Q => ∃ l b xs zs, x = .ref l ∧ vs = [.ref b] ∧ H l = some (.lst xs) ∧ SqL K H b zs ∧ xs.length + zs.length ≤ sizeLine ∧ Q .non (upd H l (.lst (xs ++ zs)))
theorem mt_extendW {X : Cx} : MtM X "list.extend" (rExtW X.K) := by
  intro pins s σ H x vs v us Q I rx rv h
  obtain ⟨l, b, xs, zs, rfl, rfl, hH, hB, hz, q⟩ := h
  cases rx
  obtain ⟨u, rfl, ru⟩ := rv.one
  cases ru
  obtain ⟨z, its, n, r, hl, e⟩ := I.lstM hH
  obtain ⟨its2, r2, pl2, hz2⟩ := I.list hB
  have l2 := r2.length
  obtain ⟨⟨cls2, dd2, data2, sl2⟩, ho2, hc2, n2, hd2⟩ := pl2.isList
  simp only at hc2 hd2
  subst hc2 hd2
  have hsz : its.toArray.size + its2.toArray.size ≤ sizeLine := by rw [List.size_toArray, List.size_toArray]; omega
  have hlong : ¬ (!its.toArray.isEmpty && Builtin.List.listTooLong (its.toArray.size + its2.toArray.size)) = true := by
    rw [notLongL hsz, Bool.and_false]
    exact Bool.false_ne_true
  refine call_meets PySem.F.slot_list_extend ⟨_, e, rfl⟩ PySem.F.entry_list_extend (PySem.F.args_list_extend_2 _ _)
    (list_extendW l its.toArray n b its2.toArray n2 dd2 sl2 hlong (by rw [List.size_toArray]; omega) (by omega)) ⟨e, ho2, ?_⟩
  refine ⟨.non, _, I.lset (its' := its ++ its2) hH e (by simp) (r.append r2) ?_, rfl, q⟩
  rw [List.length_append]
  omega
def muExtend (ds as : List D) : Option (D × List D) := match as with
  | [.list es] => if ds.length + es.length ≤ 100000 then some (.none, ds ++ es) else none
  | _ => none
theorem mu_extend {XS : Cx → Prop} (hX : ∀ X, XS X → X.K = c.K) : MuD c.K XS "list.extend" muExtend := ⟨rExtW c.K, fun X h => by rw [← hX X h]; exact mt_extendW, fun B H l vs ds us as z ds' bk bl hl r ra e Q q => by
  unfold muExtend at e
  split at e
  · rename_i es
    split at e
    · rename_i hn
      cases e
      cases ra with
      | cons r1 r2 =>
        cases r2
        cases r1 with
        | lst h1 h2 =>
          exact ⟨l, _, vs, _, rfl, rfl, hl, sub_l (hide_sub B H) h1, Nat.le_trans (by rw [r.length, h2.length]; exact hn) (by decide), q _ _ (r.append h2) .non⟩
    · cases e
  · cases e⟩
theorem mu_extendI : MuD c.K (In c N sc) "list.extend" muExtend := mu_extend fun X I => I.K
/-! range with a step -/
def numsC (lo st : Int) : Nat → List D
  | 0 => []
  | n + 1 => .int lo :: numsC (lo + st) st n
theorem numsC_length : ∀ (n : Nat) (lo st : Int), (numsC lo st n).length = n
  | 0, _, _ => rfl
  | n + 1, lo, st => congrArg (· + 1) (numsC_length n (lo + st) st)
theorem numsC_get : ∀ (n : Nat) (lo st : Int) (i : Nat) (d : D), (numsC lo st n)[i]? = some d → i < n ∧ d = .int (lo + (i : Nat) * st)
  | 0, lo, st, i, d, h => by simp [numsC] at h
  | n + 1, lo, st, 0, d, h => by
    simp [numsC] at h
    exact ⟨by omega, by rw [← h]; simp⟩
  | n + 1, lo, st, i + 1, d, h => by
    have h' : (numsC (lo + st) st n)[i]? = some d := h
    obtain ⟨a, b⟩ := numsC_get n (lo + st) st i d h'
    refine ⟨by omega, ?_⟩
    rw [b]
    congr 1
    rw [show ((i + 1 : Nat) : Int) = (i : Int) + 1 from rfl, Int.add_mul, Int.one_mul]
    omega
theorem it_rangeC {B : Addr → Bool} {K : Frag} {H : Hp} {lo st : Int} {n : Nat} : ItOk K (Itc lo st n) B H (numsC lo st n) := fun B' H' sb bk => ⟨fun i d hi => by
  obtain ⟨a, b⟩ := numsC_get n lo st i d hi
  refine ⟨a, fun x H'' y => ?_⟩
  obtain ⟨rfl, rfl⟩ := y
  refine ⟨Sub.refl _, ?_⟩
  rw [b]
  exact .int _, by rw [numsC_length]; exact Nat.le_refl n⟩
def rangeK3 (m : En → Option (List D × En)) : En → Option (List D × En) := fun ρ => match m ρ with
  | some ([.int i, .int j, .int k], ρ') => if k ≠ 0 ∧ k.natAbs < 1073741824 ∧ Builtin.Range.small i j k = true then some (numsC i k (Builtin.Range.rangeSize i j k).toNat, ρ') else none
  | _ => none
theorem ji_range3 {a b e tg : Expr} {p pos : Pos} {ma : En → Option (List D × En)} (hg : sc.names.lookup ("range" : Str) = some .globalImplicit) (hm : c.mg ("range" : Str) = none) (h : JL c N sc [a, b, e] ma) (hs : ∀ env, starEach [a, b, e] env = (false, eval a env) :: starEach [b, e] env := by intros; rfl) (hpl : ∀ env, (backTo pos (starEach [b, e] env)).any (·.1) = false := by intros; rfl) : JI c N sc tg (.Call (.Name "range" p) [a, b, e] [] pos) (rangeK3 ma) := by
  obtain ⟨t, h1, h2⟩ := h
  refine ⟨iRng3 t, fun X I => pi_range3 (I.gl hg) (by rw [I.mg]; exact hm) (h1 X I) (hs _) (hpl _), fun σ H ρ B ds ρ' S e R q => ?_⟩
  unfold rangeK3 at e
  split at e
  · rename_i i j k ρ1 he
    split at e
    · rename_i hb
      cases e
      refine h2 σ H ρ B _ _ S he _ fun vs H1 A r => ?_
      cases r with
      | cons r1 r2 =>
        cases r2 with
        | cons r2 r3 =>
          cases r3 with
          | cons r3 r4 =>
            cases r4
            cases r1
            cases r2
            cases r3
            exact ⟨i, j, k, _, rfl, ⟨hb.1, hb.2.1, hb.2.2, PyProof.Rows.rangeSize_toNat i j k⟩, q _ H1 A it_rangeC⟩
    · cases e
  · cases e
end Dz

/-! Dz. J: what a mirror answers: rules of the plain law. -/
namespace Dz
open PySem L2
def wp {α : Type} (m : En → Option (α × En)) (ρ : En) (Q : α → En → Prop) : Prop := ∃ x ρ', m ρ = some (x, ρ') ∧ Q x ρ'
def wps (m : En → Option SO) (ρ : En) (Q : SO → Prop) : Prop := ∃ o, m ρ = some o ∧ Q o
def oq {α : Type} (o : Option α) (Q : α → Prop) : Prop := ∃ z, o = some z ∧ Q z
def fwp (f : Fm) (as : List Sl) (Q : D → List Sl → Prop) : Prop := ∃ d as', f as = some (d, as') ∧ Q d as'
def it2 (b : Bool) (A B : Prop) : Prop := (b = true → A) ∧ (b = false → B)
def thn (m : En → Option SO) (Q : SO → Prop) : SO → Prop
  | .nx ρ => wps m ρ Q
  | o => Q o
def fin (as : List Sl) (Q : D → List Sl → Prop) : SO → Prop
  | .rt d ρ => Q d (finA as ρ)
  | .nx ρ => Q .none (finA as ρ)
  | _ => False
def fq (I : En → Prop) (S : SO → Prop) : SO → Prop
  | .nx ρ => I ρ
  | .ct ρ => I ρ
  | .bk ρ => S (.nx ρ)
  | .rt d ρ => S (.rt d ρ)
def lenOk (ds : List D) (P : Prop) : Prop := ds.length ≤ 100000 ∧ P
theorem lok {ds : List D} {P : Prop} (e : decide (ds.length ≤ 100000) = true) (h : P) : lenOk ds P := ⟨of_decide_eq_true e, h⟩
def tb (d : D) (R : Bool → Prop) : Prop := ∃ b, d = .bool b ∧ R b
def ti (d : D) (R : Int → Prop) : Prop := ∃ b, d = .int b ∧ R b
def tl (d : D) (R : List D → Prop) : Prop := ∃ b, d = .list b ∧ R b
def tt (d : D) (R : List D → Prop) : Prop := ∃ b, d = .tuple b ∧ R b
def ts (d : D) (R : Str → Prop) : Prop := ∃ b, d = .str b ∧ R b
def cwp (f : Fm) (as : List Ar) (ρ : En) (Q : D → En → Prop) : Prop := lentOnce as = true ∧ oq (toSls ρ as) fun sl => fwp f sl fun d as' => Q d (giveBack as as' ρ)
section
variable {α : Type} {ρ ρ' ρ1 : En} {Q : D → En → Prop} {QL : List D → En → Prop} {QB : Bool → En → Prop} {QO : Option Int → En → Prop} {QA : List Ar → En → Prop} {S : SO → Prop} {d e : D} {i j : Nat} {R : D → Prop} {RB : Bool → Prop} {A B : Prop} {b : Bool} {p : Prop} {ds es : List D}
variable {m m1 m2 : En → Option SO} {ma mb md : En → Option (D × En)} {ml : En → Option (List D × En)} {mt mt2 : En → Option (Bool × En)} {mg : En → Option (List Ar × En)} {g g' : D → D → Option D} {f : List D → Option D} {fm : Fm} {tg : D → En → Option En} {x y z : Int} {s t : Str}
theorem wp.imp {m : En → Option (α × En)} {Q Q' : α → En → Prop} (h : wp m ρ Q) (k : ∀ x ρ', Q x ρ' → Q' x ρ') : wp m ρ Q' := let ⟨x, r, e, q⟩ := h; ⟨x, r, e, k x r q⟩
theorem wps.imp {S' : SO → Prop} (h : wps m ρ S) (k : ∀ o, S o → S' o) : wps m ρ S' := let ⟨x, e, q⟩ := h; ⟨x, e, k x q⟩
theorem fwp.imp {as : List Sl} {Q Q' : D → List Sl → Prop} (h : fwp fm as Q) (k : ∀ x ρ', Q x ρ' → Q' x ρ') : fwp fm as Q' := let ⟨x, r, e, q⟩ := h; ⟨x, r, e, k x r q⟩
theorem oq_some {z : α} {Q : α → Prop} (h : Q z) : oq (some z) Q := ⟨z, rfl, h⟩
theorem oq_of {o : Option α} {z : α} {Q : α → Prop} (e : o = some z) (h : Q z) : oq o Q := ⟨z, e, h⟩
theorem tb_b (h : RB b) : tb (.bool b) RB := ⟨b, rfl, h⟩
theorem ti_b {R : Int → Prop} {b} (h : R b) : ti (.int b) R := ⟨b, rfl, h⟩
theorem tl_b {R : List D → Prop} {b} (h : R b) : tl (.list b) R := ⟨b, rfl, h⟩
theorem tt_b {R : List D → Prop} {b} (h : R b) : tt (.tuple b) R := ⟨b, rfl, h⟩
theorem ts_b {R : Str → Prop} {b} (h : R b) : ts (.str b) R := ⟨b, rfl, h⟩
theorem it2_dec [Decidable p] (h : p → A) (k : ¬ p → B) : it2 (decide p) A B := ⟨fun e => h (of_decide_eq_true e), fun e => k (of_decide_eq_false e)⟩
theorem it2_t (h : A) : it2 true A B := ⟨fun _ => h, fun e => (nomatch e)⟩
theorem it2_f (h : B) : it2 false A B := ⟨fun e => (nomatch e), fun _ => h⟩
theorem it2_not (h : it2 b B A) : it2 (!b) A B := by
  cases b with
  | false => exact it2_t (h.2 rfl)
  | true => exact it2_f (h.1 rfl)
theorem it2_b (h : b = true → A) (k : b = false → B) : it2 b A B := ⟨h, k⟩
theorem thn_nx (h : wps m ρ S) : thn m S (.nx ρ) := h
theorem thn_rt (h : S (.rt d ρ)) : thn m S (.rt d ρ) := h
theorem thn_bk (h : S (.bk ρ)) : thn m S (.bk ρ) := h
theorem thn_ct (h : S (.ct ρ)) : thn m S (.ct ρ) := h
theorem fin_rt {as : List Sl} {Q : D → List Sl → Prop} (h : Q d (finA as ρ)) : fin as Q (.rt d ρ) := h
theorem fin_nx {as : List Sl} {Q : D → List Sl → Prop} (h : Q .none (finA as ρ)) : fin as Q (.nx ρ) := h
theorem wp_of {m : En → Option (α × En)} {x : α} {Q : α → En → Prop} (e : m ρ = some (x, ρ')) (q : Q x ρ') : wp m ρ Q := ⟨x, ρ', e, q⟩
theorem wp_kC (h : Q d ρ) : wp (kC d) ρ Q := ⟨d, ρ, rfl, h⟩
theorem wp_kV (e : ρ[i]? = some (some (.val d))) (h : Q d ρ) : wp (kV i) ρ Q := ⟨d, ρ, by unfold kV; rw [e], h⟩
theorem wp_kO {s : Sl} (e : ρ[i]? = some (some s)) (h : Q s.d ρ) : wp (kO i) ρ Q := ⟨s.d, ρ, by unfold kO; rw [e], h⟩
theorem wp_bop (h : wp ma ρ fun x ρ1 => wp mb ρ1 fun y ρ2 => oq (g x y) fun z => Q z ρ2) : wp (bop g ma mb) ρ Q := by
  obtain ⟨x, r1, e1, y, r2, e2, z, e3, q⟩ := h
  exact ⟨z, r2, by unfold bop; simp [e1, e2, e3], q⟩
theorem wp_bopO {s : Sl} (e : ρ[i]? = some (some s)) (h : wp mb ρ fun y ρ2 => wp (kO i) ρ2 fun x ρ3 => oq (g x y) fun z => Q z ρ2) : wp (bopO g i mb) ρ Q := by
  obtain ⟨y, r2, e2, x, r3, e1, z, e3, q⟩ := h
  refine ⟨z, r2, ?_, q⟩
  unfold bopO
  have : kO i ρ = some (s.d, ρ) := by unfold kO; rw [e]
  simp [this, e1, e2, e3]
theorem wp_tst (h : wp ma ρ fun d ρ1 => tb d fun b => QB b ρ1) : wp (tstK ma) ρ QB := by
  obtain ⟨d, r1, e1, b, rfl, q⟩ := h
  exact ⟨b, r1, by unfold tstK; rw [e1], q⟩
theorem wp_val (h : wp mt ρ fun b ρ1 => Q (.bool b) ρ1) : wp (valK mt) ρ Q := by
  obtain ⟨d, r1, e1, q⟩ := h
  exact ⟨_, r1, by unfold valK; rw [e1]; rfl, q⟩
theorem wp_andK (h : wp mt ρ fun b ρ1 => it2 b (wp mt2 ρ1 QB) (QB false ρ1)) : wp (andK mt mt2) ρ QB := by
  obtain ⟨b, r1, e1, h1, h2⟩ := h
  cases b with
  | true =>
    obtain ⟨b2, r2, e2, q⟩ := h1 rfl
    exact ⟨b2, r2, by unfold andK; simp [e1, e2], q⟩
  | false => exact ⟨false, r1, by unfold andK; simp [e1], h2 rfl⟩
theorem wp_orK (h : wp mt ρ fun b ρ1 => it2 b (QB true ρ1) (wp mt2 ρ1 QB)) : wp (orK mt mt2) ρ QB := by
  obtain ⟨b, r1, e1, h1, h2⟩ := h
  cases b with
  | false =>
    obtain ⟨b2, r2, e2, q⟩ := h2 rfl
    exact ⟨b2, r2, by unfold orK; simp [e1, e2], q⟩
  | true => exact ⟨true, r1, by unfold orK; simp [e1], h1 rfl⟩
theorem wp_notK (h : wp mt ρ fun b ρ1 => QB (!b) ρ1) : wp (notK mt) ρ QB := by
  obtain ⟨d, r1, e1, q⟩ := h
  exact ⟨_, r1, by unfold notK; rw [e1]; rfl, q⟩
theorem wp_andV (h : wp mt ρ fun b ρ1 => it2 b (wp mb ρ1 Q) (Q (.bool false) ρ1)) : wp (andV mt mb) ρ Q := by
  obtain ⟨b, r1, e1, h1, h2⟩ := h
  cases b with
  | true =>
    obtain ⟨b2, r2, e2, q⟩ := h1 rfl
    exact ⟨b2, r2, by unfold andV; simp [e1, e2], q⟩
  | false => exact ⟨_, r1, by unfold andV; simp [e1], h2 rfl⟩
theorem wp_orV (h : wp mt ρ fun b ρ1 => it2 b (Q (.bool true) ρ1) (wp mb ρ1 Q)) : wp (orV mt mb) ρ Q := by
  obtain ⟨b, r1, e1, h1, h2⟩ := h
  cases b with
  | false =>
    obtain ⟨b2, r2, e2, q⟩ := h2 rfl
    exact ⟨b2, r2, by unfold orV; simp [e1, e2], q⟩
  | true => exact ⟨_, r1, by unfold orV; simp [e1], h1 rfl⟩
theorem wp_chain (h : wp ma ρ fun x ρ1 => wp mb ρ1 fun y ρ2 => oq (g x y) fun z => tb z fun b => it2 b (wp md ρ2 fun w ρ3 => oq (g' y w) fun z => Q z ρ3) (Q (.bool false) ρ2)) : wp (chainK g g' ma mb md) ρ Q := by
  obtain ⟨x, r1, e1, y, r2, e2, z, e3, b, rfl, h1, h2⟩ := h
  cases b with
  | true =>
    obtain ⟨w, r3, e4, z, e5, q⟩ := h1 rfl
    exact ⟨z, r3, by unfold chainK; simp [e1, e2, e3, e4, e5], q⟩
  | false => exact ⟨_, r2, by unfold chainK; simp [e1, e2, e3], h2 rfl⟩
theorem wp_ifK (h : wp mt ρ fun b ρ1 => it2 b (wp ma ρ1 Q) (wp mb ρ1 Q)) : wp (ifK mt ma mb) ρ Q := by
  obtain ⟨b, r1, e1, h1, h2⟩ := h
  cases b with
  | true =>
    obtain ⟨b2, r2, e2, q⟩ := h1 rfl
    exact ⟨b2, r2, by unfold ifK; simp [e1, e2], q⟩
  | false =>
    obtain ⟨b2, r2, e2, q⟩ := h2 rfl
    exact ⟨b2, r2, by unfold ifK; simp [e1, e2], q⟩
theorem wp_nil (h : QL [] ρ) : wp nilK ρ QL := ⟨[], ρ, rfl, h⟩
theorem wp_cons (h : wp ma ρ fun d ρ1 => wp ml ρ1 fun ds ρ2 => QL (d :: ds) ρ2) : wp (consK ma ml) ρ QL := by
  obtain ⟨x, r1, e1, y, r2, e2, q⟩ := h
  exact ⟨_, r2, by unfold consK; simp [e1, e2], q⟩
theorem wp_tup (h : wp ml ρ fun ds ρ1 => lenOk ds (Q (.tuple ds) ρ1)) : wp (tupK ml) ρ Q := by
  obtain ⟨x, r1, e1, l, q⟩ := h
  exact ⟨_, r1, by unfold tupK; simp [e1, l], q⟩
theorem wp_lst (h : wp ml ρ fun ds ρ1 => lenOk ds (Q (.list ds) ρ1)) : wp (lstK ml) ρ Q := by
  obtain ⟨x, r1, e1, l, q⟩ := h
  exact ⟨_, r1, by unfold lstK; simp [e1, l], q⟩
theorem wp_gnil (h : QA [] ρ) : wp gnil ρ QA := ⟨[], ρ, rfl, h⟩
theorem wp_gval (h : wp ma ρ fun d ρ1 => wp mg ρ1 fun as ρ2 => QA (.v d :: as) ρ2) : wp (gval ma mg) ρ QA := by
  obtain ⟨x, r1, e1, y, r2, e2, q⟩ := h
  exact ⟨_, r2, by unfold gval; simp [e1, e2], q⟩
theorem wp_gbor {s : Sl} (e : ρ[i]? = some (some s)) (hm : s.mu = true) (h : wp mg ρ fun as ρ2 => QA (.b i :: as) ρ2) : wp (gbor i mg) ρ QA := by
  obtain ⟨y, r2, e2, q⟩ := h
  exact ⟨_, r2, by unfold gbor; rw [e]; simp [hm, e2], q⟩
theorem wp_call (h : wp mg ρ fun as ρ1 => cwp fm as ρ1 Q) : wp (callK fm mg) ρ Q := by
  obtain ⟨as, r1, e1, lo, sl, e2, d, as', e3, q⟩ := h
  exact ⟨d, _, by unfold callK; simp [e1, lo, e2, e3], q⟩
theorem cwp_of {as : List Ar} {sl : List Sl} (lo : lentOnce as = true) (e : toSls ρ as = some sl) (h : fwp fm sl fun d as' => Q d (giveBack as as' ρ)) : cwp fm as ρ Q := ⟨lo, sl, e, h⟩
theorem fwp_run {as : List Sl} {p n : Nat} {Q : D → List Sl → Prop} (hl : as.length = p) (ho : noOwn as = true) (h : wps m (as.map some ++ List.replicate (n - p) none) (fin as Q)) : fwp (runF p n m) as Q := by
  obtain ⟨o, e, q⟩ := h
  unfold fwp runF
  rw [if_pos ⟨hl, ho⟩, e]
  cases o with
  | rt d ρ => exact ⟨_, _, rfl, q⟩
  | nx ρ => exact ⟨_, _, rfl, q⟩
  | bk ρ => exact q.elim
  | ct ρ => exact q.elim
theorem wp_neg (h : wp ma ρ fun d ρ1 => ti d fun i => Q (.int (-i)) ρ1) : wp (negK ma) ρ Q := by
  obtain ⟨x, r1, e1, i, rfl, q⟩ := h
  exact ⟨_, r1, by unfold negK; rw [e1], q⟩
theorem wp_b1 (h : wp ma ρ fun d ρ1 => oq (f [d]) fun z => Q z ρ1) : wp (b1K f ma) ρ Q := by
  obtain ⟨x, r1, e1, z, e2, q⟩ := h
  exact ⟨_, r1, by unfold b1K; simp [e1, e2], q⟩
theorem wp_bn (h : wp ml ρ fun d ρ1 => oq (f d) fun z => Q z ρ1) : wp (bnK f ml) ρ Q := by
  obtain ⟨x, r1, e1, z, e2, q⟩ := h
  exact ⟨_, r1, by unfold bnK; simp [e1, e2], q⟩
theorem wp_isi {T : String} (h : wp ma ρ fun d ρ1 => oq (isiB T d) fun z => Q (.bool z) ρ1) : wp (isiK T ma) ρ Q := by
  obtain ⟨x, r1, e1, z, e2, q⟩ := h
  exact ⟨_, r1, by unfold isiK; simp [e1, e2], q⟩
theorem wp_met {f : Str → List D → Option D} (h : wp ma ρ fun d ρ1 => wp ml ρ1 fun ds ρ2 => ts d fun x => oq (f x ds) fun z => Q z ρ2) : wp (metK f ma ml) ρ Q := by
  obtain ⟨x, r1, e1, ds, r2, e2, x, rfl, z, e3, q⟩ := h
  exact ⟨_, r2, by unfold metK; simp [e1, e2, e3], q⟩
theorem wp_pnone (h : QO none ρ) : wp pnone ρ QO := ⟨none, ρ, rfl, h⟩
theorem wp_psome (h : wp ma ρ fun d ρ1 => ti d fun i => QO (some i) ρ1) : wp (psome ma) ρ QO := by
  obtain ⟨x, r1, e1, i, rfl, q⟩ := h
  exact ⟨_, r1, by unfold psome; rw [e1], q⟩
theorem wp_cut {mlo mhi : En → Option (Option Int × En)} (h : wp ma ρ fun d ρ1 => wp mlo ρ1 fun lo ρ2 => wp mhi ρ2 fun hi ρ3 => oq (dCut d lo hi) fun z => Q z ρ3) : wp (cutK ma mlo mhi) ρ Q := by
  obtain ⟨x, r1, e1, lo, r2, e2, hi, r3, e3, z, e4, q⟩ := h
  exact ⟨_, r3, by unfold cutK; simp [e1, e2, e3, e4], q⟩
theorem wp_cutO {mlo mhi : En → Option (Option Int × En)} {fc : D → Option Int → Option Int → Option D} {s : Sl} (e : ρ[i]? = some (some s)) (h : wp mlo ρ fun lo ρ2 => wp mhi ρ2 fun hi ρ3 => wp (kO i) ρ3 fun d _ => oq (fc d lo hi) fun z => Q z ρ3) : wp (cutO fc i mlo mhi) ρ Q := by
  obtain ⟨lo, r2, e2, hi, r3, e3, x, r1, e1, z, e4, q⟩ := h
  have : kO i ρ = some (s.d, ρ) := by unfold kO; rw [e]
  exact ⟨_, r3, by unfold cutO; simp [this, e1, e2, e3, e4], q⟩
theorem wp_listK (h : wp ma ρ fun d ρ1 => tl d fun ds => QL ds ρ1) : wp (listK ma) ρ QL := by
  obtain ⟨x, r1, e1, i, rfl, q⟩ := h
  exact ⟨_, r1, by unfold listK; rw [e1], q⟩
theorem wp_tupleK (h : wp ma ρ fun d ρ1 => tt d fun ds => QL ds ρ1) : wp (tupleK ma) ρ QL := by
  obtain ⟨x, r1, e1, i, rfl, q⟩ := h
  exact ⟨_, r1, by unfold tupleK; rw [e1], q⟩
theorem wp_strK (h : wp ma ρ fun d ρ1 => ts d fun x => QL (x.cps.toList.map fun k => .str ⟨#[k]⟩) ρ1) : wp (strK ma) ρ QL := by
  obtain ⟨x, r1, e1, i, rfl, q⟩ := h
  exact ⟨_, r1, by unfold strK; rw [e1], q⟩
theorem wp_range1 (h : wp ml ρ fun ds ρ1 => ∃ n, ds = [.int n] ∧ (-(2 ^ 62) ≤ n ∧ n < 2 ^ 62) ∧ QL (nums 0 n.toNat) ρ1) : wp (rangeK1 ml) ρ QL := by
  obtain ⟨x, r1, e1, n, rfl, hn, q⟩ := h
  exact ⟨_, r1, by unfold rangeK1; rw [e1]; simp only []; rw [if_pos hn], q⟩
theorem wp_range2 (h : wp ml ρ fun ds ρ1 => ∃ a b, ds = [.int a, .int b] ∧ (-(2 ^ 62) ≤ a ∧ a < 2 ^ 62 ∧ -(2 ^ 62) ≤ b ∧ b < 2 ^ 62) ∧ QL (nums a (b - a).toNat) ρ1) : wp (rangeK2 ml) ρ QL := by
  obtain ⟨x, r1, e1, a, b, rfl, hn, q⟩ := h
  exact ⟨_, r1, by unfold rangeK2; rw [e1]; simp only []; rw [if_pos hn], q⟩
theorem wp_zipL (h : wp ml ρ fun ds ρ1 => ∃ a b, ds = [.list a, .list b] ∧ (zipD a b).all noXd = true ∧ QL (zipD a b) ρ1) : wp (zipK ml) ρ QL := by
  obtain ⟨x, r1, e1, a, b, rfl, n, q⟩ := h
  exact ⟨_, r1, by unfold zipK; rw [e1]; exact if_pos n, q⟩
theorem wp_zipT (h : wp ml ρ fun ds ρ1 => ∃ a b, ds = [.tuple a, .tuple b] ∧ (zipD a b).all noXd = true ∧ QL (zipD a b) ρ1) : wp (zipK ml) ρ QL := by
  obtain ⟨x, r1, e1, a, b, rfl, n, q⟩ := h
  exact ⟨_, r1, by unfold zipK; rw [e1]; exact if_pos n, q⟩
theorem wp_yes (h : QB true ρ) : wp yesK ρ QB := ⟨true, ρ, rfl, h⟩
theorem wp_mut {fu : List D → List D → Option (D × List D)} {s : Sl} (e : ρ[i]? = some (some s)) (hs : ∃ u, mutL i ρ = some u) (h : wp ml ρ fun as ρ1 => oq (mutL i ρ1) fun u => oq (fu u.2 as) fun z => Q z.1 (ρ1.set i (some (u.1.wi (.list z.2))))) : wp (mutK i fu ml) ρ Q := by
  obtain ⟨u0, e0⟩ := hs
  obtain ⟨as, r1, e1, u, e2, z, e3, q⟩ := h
  exact ⟨_, _, by unfold mutK; simp [e0, e1, e2, e3], q⟩
/-! statements -/
theorem wps_seq (h : wps m1 ρ (thn m2 S)) : wps (seqS m1 m2) ρ S := by
  obtain ⟨o, e, q⟩ := h
  cases o with
  | nx ρ1 =>
    obtain ⟨o2, e2, q2⟩ := q
    exact ⟨o2, by unfold seqS; simp [e, e2], q2⟩
  | rt d ρ1 => exact ⟨_, by unfold seqS; simp [e], q⟩
  | bk ρ1 => exact ⟨_, by unfold seqS; simp [e], q⟩
  | ct ρ1 => exact ⟨_, by unfold seqS; simp [e], q⟩
theorem wps_next (h : S (.nx ρ)) : wps nextS ρ S := ⟨_, rfl, h⟩
theorem wps_break (h : S (.bk ρ)) : wps breakS ρ S := ⟨_, rfl, h⟩
theorem wps_cont (h : S (.ct ρ)) : wps contS ρ S := ⟨_, rfl, h⟩
theorem wps_drop (h : wp ma ρ fun _ ρ1 => S (.nx ρ1)) : wps (dropS ma) ρ S := by
  obtain ⟨d, r, e, q⟩ := h
  exact ⟨_, by unfold dropS; rw [e]; rfl, q⟩
theorem wps_ret (h : wp ma ρ fun d ρ1 => S (.rt d ρ1)) : wps (retS ma) ρ S := by
  obtain ⟨d, r, e, q⟩ := h
  exact ⟨_, by unfold retS; rw [e]; rfl, q⟩
theorem wps_retN (h : S (.rt .none ρ)) : wps retN ρ S := ⟨_, rfl, h⟩
theorem wps_if (h : wp mt ρ fun b ρ1 => it2 b (wps m1 ρ1 S) (wps m2 ρ1 S)) : wps (ifS mt m1 m2) ρ S := by
  obtain ⟨b, r1, e1, h1, h2⟩ := h
  cases b with
  | true =>
    obtain ⟨b2, e2, q⟩ := h1 rfl
    exact ⟨b2, by unfold ifS; simp [e1, e2], q⟩
  | false =>
    obtain ⟨b2, e2, q⟩ := h2 rfl
    exact ⟨b2, by unfold ifS; simp [e1, e2], q⟩
theorem wps_asg (h : wp ma ρ fun d ρ1 => oq (tg d ρ1) fun ρ2 => S (.nx ρ2)) : wps (asgS ma tg) ρ S := by
  obtain ⟨d, r, e, r2, e2, q⟩ := h
  exact ⟨_, by unfold asgS; simp [e, e2], q⟩
theorem oq_setv {Q : En → Prop} (e : setv i d ρ = some (ρ.set i (some (.val d)))) (h : Q (ρ.set i (some (.val d)))) : oq (setv i d ρ) Q := ⟨_, e, h⟩
theorem oq_seto {Q : En → Prop} (e : seto i d ρ = some (ρ.set i (some (.own d)))) (h : Q (ρ.set i (some (.own d)))) : oq (seto i d ρ) Q := ⟨_, e, h⟩
theorem oq_tgNil {Q : En → Prop} (h : Q ρ) : oq (tgNil [] ρ) Q := ⟨_, rfl, h⟩
theorem oq_tgCons {mh : D → En → Option En} {mr : List D → En → Option En} {Q : En → Prop} (h : oq (mh d ρ) fun ρ1 => oq (mr ds ρ1) Q) : oq (tgCons mh mr (d :: ds) ρ) Q := by
  obtain ⟨r1, e1, r2, e2, q⟩ := h
  exact ⟨r2, by show (mh d ρ).bind (mr ds) = _; simp [e1, e2], q⟩
theorem oq_tgTup {mr : List D → En → Option En} {n : Nat} {Q : En → Prop} (e : ds.length = n) (h : oq (mr ds ρ) Q) : oq (tgTup n mr (.tuple ds) ρ) Q := by
  obtain ⟨r1, e1, q⟩ := h
  exact ⟨r1, by show (if ds.length = n then mr ds ρ else none) = _; rw [if_pos e, e1], q⟩
theorem wps_frz (e : ρ[i]? = some (some (.own d))) (h : wps m (ρ.set i (some (.val d))) S) : wps (frzS i m) ρ S := by
  obtain ⟨o, e2, q⟩ := h
  refine ⟨o, ?_, q⟩
  unfold frzS frz
  rw [e]
  exact e2
theorem wps_seti (hs : ∃ u, mutL i ρ = some u) (h : wp ma ρ fun d ρ1 => wp mb ρ1 fun k ρ2 => oq (mutL i ρ2) fun u => ti k fun k => oq (ixN u.2.length k) fun j => S (.nx (ρ2.set i (some (u.1.wi (.list (u.2.set j d))))))) : wps (setiS i ma mb) ρ S := by
  obtain ⟨u0, e0⟩ := hs
  obtain ⟨d, r1, e1, k, r2, e2, u, e3, k, rfl, j, e4, q⟩ := h
  exact ⟨_, by unfold setiS; simp [e0, e1, e2, e3, e4], q⟩
theorem wps_aug {d0 : D} (e0 : ρ[i]? = some (some (.val d0))) (h : wp ma ρ fun d ρ1 => oq (g d0 d) fun z => oq (setv i z ρ1) fun ρ2 => S (.nx ρ2)) : wps (augS g i ma) ρ S := by
  obtain ⟨d, r1, e1, z, e2, r2, e3, q⟩ := h
  have k : kV i ρ = some (d0, ρ) := by unfold kV; rw [e0]
  exact ⟨_, by unfold augS; simp [k, e1, e2, e3], q⟩
theorem wps_for (h : wp ml ρ fun ds ρ1 => ∃ I : List D → En → Prop, I ds ρ1 ∧ (∀ d ds ρ, I (d :: ds) ρ → oq (tg d ρ) fun ρ2 => wps m ρ2 (fq (I ds) S)) ∧ ∀ ρ, I [] ρ → S (.nx ρ)) : wps (forS ml tg m) ρ S := by
  obtain ⟨ds, r1, e1, I, h0, h1, h2⟩ := h
  have key : ∀ (ds : List D) ρ, I ds ρ → wps (forD tg m ds) ρ S := by
    intro ds
    induction ds with
    | nil => exact fun ρ h => ⟨_, rfl, h2 ρ h⟩
    | cons d ds ih =>
      intro ρ h
      obtain ⟨ρ2, e2, o, e3, q⟩ := h1 d ds ρ h
      cases o with
      | nx ρ3 =>
        obtain ⟨o, e4, q⟩ := ih ρ3 q
        exact ⟨o, by unfold forD; simp [e2, e3, e4], q⟩
      | ct ρ3 =>
        obtain ⟨o, e4, q⟩ := ih ρ3 q
        exact ⟨o, by unfold forD; simp [e2, e3, e4], q⟩
      | bk ρ3 => exact ⟨_, by unfold forD; simp [e2, e3], q⟩
      | rt d ρ3 => exact ⟨_, by unfold forD; simp [e2, e3], q⟩
  obtain ⟨o, e, q⟩ := key ds r1 h0
  exact ⟨o, by unfold forS; simp [e1, e], q⟩
theorem wps_while (I : Nat → En → Prop) (n : Nat) (h0 : I n ρ) (h : ∀ n ρ, I n ρ → wp mt ρ fun b ρ1 => it2 b (∃ k, n = k + 1 ∧ wps m ρ1 (fq (I k) S)) (S (.nx ρ1))) : wps (whileS mt m) ρ S := by
  have key : ∀ (n : Nat) ρ, I n ρ → ∃ o, whileF mt m (n + 1) ρ = some o ∧ S o := by
    intro n
    induction n with
    | zero =>
      intro ρ h'
      obtain ⟨b, ρ1, e1, h1, h2⟩ := h 0 ρ h'
      cases b with
      | true =>
        obtain ⟨k, hk, _⟩ := h1 rfl
        omega
      | false => exact ⟨_, by unfold whileF; simp [e1], h2 rfl⟩
    | succ n ih =>
      intro ρ h'
      obtain ⟨b, ρ1, e1, h1, h2⟩ := h (n + 1) ρ h'
      cases b with
      | true =>
        obtain ⟨k, hk, o, e2, q⟩ := h1 rfl
        obtain rfl : n = k := by omega
        cases o with
        | nx ρ3 =>
          obtain ⟨o, e3, q⟩ := ih ρ3 q
          exact ⟨o, by unfold whileF; simp [e1, e2, e3], q⟩
        | ct ρ3 =>
          obtain ⟨o, e3, q⟩ := ih ρ3 q
          exact ⟨o, by unfold whileF; simp [e1, e2, e3], q⟩
        | bk ρ3 => exact ⟨_, by unfold whileF; simp [e1, e2], q⟩
        | rt d ρ3 => exact ⟨_, by unfold whileF; simp [e1, e2], q⟩
      | false => exact ⟨_, by unfold whileF; simp [e1], h2 rfl⟩
  obtain ⟨o, e, q⟩ := key n ρ h0
  exact ⟨o, whileS_of e, q⟩
theorem wp_lc {vs : List Nat} (h : wp ml ρ fun ds ρ1 => ∃ I : List D → List D → En → Prop, I ds [] ρ1 ∧ (∀ d ds acc ρ, I (d :: ds) acc ρ → oq (tg d (wipeA ρ vs)) fun ρ2 => wp mt ρ2 fun b ρ3 => it2 b (wp mb ρ3 fun x ρ4 => acc.length < 100000 ∧ I ds (acc ++ [x]) (unw ρ ρ4 vs)) (I ds acc (unw ρ ρ3 vs))) ∧ ∀ acc ρ, I [] acc ρ → Q (.list acc) ρ) : wp (lcK vs ml tg mt mb) ρ Q := by
  obtain ⟨ds, r1, e1, I, h0, h1, h2⟩ := h
  have key : ∀ (ds acc : List D) ρ, I ds acc ρ → ∃ xs ρ', lcD vs tg mt mb ds acc ρ = some (xs, ρ') ∧ Q (.list xs) ρ' := by
    intro ds
    induction ds with
    | nil => exact fun acc ρ h => ⟨acc, ρ, rfl, h2 acc ρ h⟩
    | cons d ds ih =>
      intro acc ρ h
      obtain ⟨ρ2, e2, b, ρ3, e3, g1, g2⟩ := h1 d ds acc ρ h
      cases b with
      | true =>
        obtain ⟨x, ρ4, e4, la, g⟩ := g1 rfl
        obtain ⟨xs, ρ', e5, q⟩ := ih _ _ g
        exact ⟨xs, ρ', by unfold lcD; simp [e2, e3, e4, la, e5], q⟩
      | false =>
        obtain ⟨xs, ρ', e5, q⟩ := ih _ _ (g2 rfl)
        exact ⟨xs, ρ', by unfold lcD; simp [e2, e3, e5], q⟩
  obtain ⟨xs, ρ', e, q⟩ := key ds [] r1 h0
  exact ⟨_, ρ', by unfold lcK; simp [e1, e], q⟩
theorem oq_add_i {Q : D → Prop} (h : Q (.int (x + y))) : oq (dAdd (.int x) (.int y)) Q := ⟨_, rfl, h⟩
theorem oq_add_s {Q : D → Prop} (l : s.length + t.length ≤ 100000) (h : Q (.str (s ++ t))) : oq (dAdd (.str s) (.str t)) Q := ⟨_, if_pos l, h⟩
theorem oq_add_l {Q : D → Prop} (l : ds.length + es.length ≤ 100000) (h : Q (.list (ds ++ es))) : oq (dAdd (.list ds) (.list es)) Q := ⟨_, if_pos l, h⟩
theorem oq_add_t {Q : D → Prop} (l : ds.length + es.length ≤ 100000) (h : Q (.tuple (ds ++ es))) : oq (dAdd (.tuple ds) (.tuple es)) Q := ⟨_, if_pos l, h⟩
theorem oq_cat {Q : D → Prop} (l : ds.length + es.length ≤ 100000) (h : Q (.list (ds ++ es))) : oq (dCat (.list ds) (.list es)) Q := ⟨_, if_pos l, h⟩
theorem oq_sub {Q : D → Prop} (h : Q (.int (x - y))) : oq (dSub (.int x) (.int y)) Q := ⟨_, rfl, h⟩
theorem oq_mul {Q : D → Prop} (l : (-(2 ^ 64) < x ∧ x < 2 ^ 64) ∨ (-(2 ^ 64) < y ∧ y < 2 ^ 64)) (h : Q (.int (x * y))) : oq (dMul (.int x) (.int y)) Q := ⟨_, if_pos l, h⟩
theorem oq_mod {Q : D → Prop} (l : 0 < y) (h : Q (.int (x % y))) : oq (dMod (.int x) (.int y)) Q := ⟨_, if_pos l, h⟩
theorem oq_div {Q : D → Prop} (l : 0 < y ∧ y < 2 ^ 80) (h : Q (.int (x / y))) : oq (dDiv (.int x) (.int y)) Q := ⟨_, if_pos l, h⟩
theorem oq_pow {Q : D → Prop} (l : 0 ≤ y ∧ y ≤ 1000000 ∧ x.natAbs < 2 ^ 64) (h : Q (.int (x ^ y.toNat))) : oq (dPow (.int x) (.int y)) Q := ⟨_, if_pos l, h⟩
theorem oq_shl {Q : D → Prop} (l : 0 ≤ y ∧ y ≤ 1000000 ∧ x.natAbs < 2 ^ 64) (h : Q (.int (x * 2 ^ y.toNat))) : oq (dShl (.int x) (.int y)) Q := ⟨_, if_pos l, h⟩
theorem oq_shr {Q : D → Prop} (l : 0 ≤ y) (h : Q (.int (x / 2 ^ y.toNat))) : oq (dShr (.int x) (.int y)) Q := ⟨_, if_pos l, h⟩
theorem oq_lt {Q : D → Prop} (h : Q (.bool (decide (x < y)))) : oq (dLt (.int x) (.int y)) Q := ⟨_, rfl, h⟩
theorem oq_le {Q : D → Prop} (h : Q (.bool (decide (x ≤ y)))) : oq (dLe (.int x) (.int y)) Q := ⟨_, rfl, h⟩
theorem oq_gt {Q : D → Prop} (h : Q (.bool (decide (y < x)))) : oq (dGt (.int x) (.int y)) Q := ⟨_, rfl, h⟩
theorem oq_ge {Q : D → Prop} (h : Q (.bool (decide (y ≤ x)))) : oq (dGe (.int x) (.int y)) Q := ⟨_, rfl, h⟩
theorem oq_eq_i {Q : D → Prop} (h : Q (.bool (decide (x = y)))) : oq (dEq (.int x) (.int y)) Q := ⟨_, rfl, h⟩
theorem oq_ne_i {Q : D → Prop} (h : Q (.bool (!decide (x = y)))) : oq (dNe (.int x) (.int y)) Q := ⟨_, rfl, h⟩
theorem oq_eq_s {Q : D → Prop} (h : Q (.bool (decide (s = t)))) : oq (dEq (.str s) (.str t)) Q := ⟨_, rfl, h⟩
theorem oq_ne_s {Q : D → Prop} (h : Q (.bool (!decide (s = t)))) : oq (dNe (.str s) (.str t)) Q := ⟨_, rfl, h⟩
theorem oq_eq_b {Q : D → Prop} {a b : Bool} (h : Q (.bool (decide (a = b)))) : oq (dEq (.bool a) (.bool b)) Q := ⟨_, by unfold dEq dEqB; cases a <;> cases b <;> rfl, h⟩
theorem oq_ne_b {Q : D → Prop} {a b : Bool} (h : Q (.bool (!decide (a = b)))) : oq (dNe (.bool a) (.bool b)) Q := ⟨_, by unfold dNe dEqB; cases a <;> cases b <;> rfl, h⟩
theorem oq_eq_d {Q : D → Prop} {b : Bool} (e1 : dEqB d e = some b) (h : Q (.bool b)) : oq (dEq d e) Q := ⟨_, by unfold dEq; rw [e1]; rfl, h⟩
theorem oq_ne_d {Q : D → Prop} {b : Bool} (e1 : dEqB d e = some b) (h : Q (.bool (!b))) : oq (dNe d e) Q := ⟨_, by unfold dNe; rw [e1]; rfl, h⟩
theorem oq_is {Q : D → Prop} (h : Q (.bool (isNoneD d))) : oq (dIs d .none) Q := ⟨_, rfl, h⟩
theorem oq_isNot {Q : D → Prop} (h : Q (.bool (!isNoneD d))) : oq (dIsNot d .none) Q := ⟨_, rfl, h⟩
theorem oq_in_s {Q : D → Prop} {k : Nat} (h : Q (.bool (decide (k ∈ t.cps.toList)))) : oq (dIn (.str ⟨#[k]⟩) (.str t)) Q := ⟨_, rfl, h⟩
theorem oq_notIn_s {Q : D → Prop} {k : Nat} (h : Q (.bool (!decide (k ∈ t.cps.toList)))) : oq (dNotIn (.str ⟨#[k]⟩) (.str t)) Q := ⟨_, rfl, h⟩
theorem ixN_in {n : Nat} {i : Int} (h0 : 0 ≤ i) (h1 : i < n) : ixN n i = some i.toNat := by unfold ixN; rw [if_pos h0, if_pos h1]
theorem ixN_back {n : Nat} {i : Int} (h0 : i < 0) (h1 : -(n : Int) ≤ i) : ixN n i = some (i + n).toNat := by unfold ixN; rw [if_neg (by omega), if_pos h1]
theorem oq_ixN {n : Nat} {i : Int} {Q : Nat → Prop} (h0 : 0 ≤ i) (h1 : i < n) (h : Q i.toNat) : oq (ixN n i) Q := ⟨_, ixN_in h0 h1, h⟩
theorem oq_ix_l {Q : D → Prop} {i : Int} (h0 : 0 ≤ i) (h1 : i < ds.length) (h : ∀ z, ds[i.toNat]? = some z → Q z) : oq (dIx (.list ds) (.int i)) Q := by
  have l : i.toNat < ds.length := by omega
  refine ⟨ds[i.toNat], ?_, h _ (List.getElem?_eq_getElem l)⟩
  show (ixN ds.length i).bind _ = _
  rw [ixN_in h0 h1]
  exact List.getElem?_eq_getElem l
theorem oq_ix_t {Q : D → Prop} {i : Int} (h0 : 0 ≤ i) (h1 : i < ds.length) (h : ∀ z, ds[i.toNat]? = some z → Q z) : oq (dIx (.tuple ds) (.int i)) Q := by
  have l : i.toNat < ds.length := by omega
  refine ⟨ds[i.toNat], ?_, h _ (List.getElem?_eq_getElem l)⟩
  show (ixN ds.length i).bind _ = _
  rw [ixN_in h0 h1]
  exact List.getElem?_eq_getElem l
theorem oq_ix_s {Q : D → Prop} {i : Int} (hz : s.length ≤ 100000) (h0 : 0 ≤ i) (h1 : i < s.length) (h : ∀ k, s.cps.toList[i.toNat]? = some k → Q (.str ⟨#[k]⟩)) : oq (dIx (.str s) (.int i)) Q := by
  have l : i.toNat < s.cps.toList.length := by
    have : s.cps.toList.length = s.length := rfl
    omega
  refine ⟨_, ?_, h _ (List.getElem?_eq_getElem l)⟩
  show (if s.length ≤ 100000 then _ else _) = _
  rw [if_pos hz, show ixN s.cps.toList.length i = some i.toNat from ixN_in h0 h1]
  show (s.cps.toList[i.toNat]?).map _ = _
  rw [List.getElem?_eq_getElem l]
  rfl
theorem oq_len_l {Q : D → Prop} (h : Q (.int ds.length)) : oq (dLen [.list ds]) Q := ⟨_, rfl, h⟩
theorem oq_len_t {Q : D → Prop} (h : Q (.int ds.length)) : oq (dLen [.tuple ds]) Q := ⟨_, rfl, h⟩
theorem oq_len_s {Q : D → Prop} (l : s.length ≤ 100000) (h : Q (.int s.length)) : oq (dLen [.str s]) Q := ⟨_, if_pos l, h⟩
theorem oq_int {Q : D → Prop} (h : Q (.int x)) : oq (dInt [.int x]) Q := ⟨_, rfl, h⟩
theorem oq_abs {Q : D → Prop} (h : Q (.int (if x < 0 then -x else x))) : oq (dAbs [.int x]) Q := ⟨_, rfl, h⟩
theorem oq_ord {Q : D → Prop} {k : Nat} (h : Q (.int k)) : oq (dOrd [.str ⟨#[k]⟩]) Q := ⟨_, rfl, h⟩
theorem oq_cut_l {Q : D → Prop} {lo hi : Option Int} (h : Q (.list (cutD ds lo hi))) : oq (dCut (.list ds) lo hi) Q := ⟨_, rfl, h⟩
theorem oq_cut_t {Q : D → Prop} {lo hi : Option Int} (h : Q (.tuple (cutD ds lo hi))) : oq (dCut (.tuple ds) lo hi) Q := ⟨_, rfl, h⟩
theorem oq_cut_s {Q : D → Prop} {lo hi : Option Int} (l : s.length ≤ 100000) (h : Q (.str (cutS s lo hi))) : oq (dCut (.str s) lo hi) Q := ⟨_, if_pos l, h⟩
theorem oq_mutL {s : Sl} {Q : Sl × List D → Prop} (e : mutL i ρ = some (s, ds)) (h : Q (s, ds)) : oq (mutL i ρ) Q := ⟨_, e, h⟩
theorem oq_append {Q : D × List D → Prop} (l : ds.length < 100000) (h : Q (.none, ds ++ [d])) : oq (muAppend ds [d]) Q := ⟨_, if_pos l, h⟩
theorem oq_list_l {Q : D → Prop} (h : Q (.list ds)) : oq (dList [.list ds]) Q := ⟨_, rfl, h⟩
theorem oq_list_t {Q : D → Prop} (h : Q (.list ds)) : oq (dList [.tuple ds]) Q := ⟨_, rfl, h⟩
theorem oq_tuple_l {Q : D → Prop} (h : Q (.tuple ds)) : oq (dTuple [.list ds]) Q := ⟨_, rfl, h⟩
theorem oq_tuple_t {Q : D → Prop} (h : Q (.tuple ds)) : oq (dTuple [.tuple ds]) Q := ⟨_, rfl, h⟩
theorem oq_max2 {Q : D → Prop} (h : Q (.int (if y > x then y else x))) : oq (dMax2 [.int x, .int y]) Q := ⟨_, rfl, h⟩
theorem oq_min2 {Q : D → Prop} (h : Q (.int (if y < x then y else x))) : oq (dMin2 [.int x, .int y]) Q := ⟨_, rfl, h⟩
theorem toBools_map {α : Type} (f : α → Bool) : ∀ xs : List α, toBools (xs.map fun x => PyData.bool (f x)) = some (xs.map f)
  | [] => rfl
  | x :: xs => by
    show (toBools (xs.map fun x => PyData.bool (f x))).map _ = _
    rw [toBools_map f xs]
    rfl
theorem toInts_map {α : Type} (f : α → Int) : ∀ xs : List α, toInts (xs.map fun x => PyData.int (f x)) = some (xs.map f)
  | [] => rfl
  | x :: xs => by
    show (toInts (xs.map fun x => PyData.int (f x))).map _ = _
    rw [toInts_map f xs]
    rfl
theorem toStrs_map {α : Type} (f : α → Str) : ∀ xs : List α, toStrs (xs.map fun x => PyData.str (f x)) = some (xs.map f)
  | [] => rfl
  | x :: xs => by
    show (toStrs (xs.map fun x => PyData.str (f x))).map _ = _
    rw [toStrs_map f xs]
    rfl
theorem oq_all {α : Type} {f : α → Bool} {xs : List α} {Q : D → Prop} (h : Q (.bool (xs.all f))) : oq (dAll [.list (xs.map fun x => .bool (f x))]) Q := by
  refine ⟨_, ?_, h⟩
  show (toBools _).map _ = _
  rw [toBools_map]
  simp
theorem oq_any {α : Type} {f : α → Bool} {xs : List α} {Q : D → Prop} (h : Q (.bool (xs.any f))) : oq (dAny [.list (xs.map fun x => .bool (f x))]) Q := by
  refine ⟨_, ?_, h⟩
  show (toBools _).map _ = _
  rw [toBools_map]
  simp
theorem oq_sum {α : Type} {f : α → Int} {xs : List α} {Q : D → Prop} (h : Q (.int (xs.map f).sum)) : oq (dSum [.list (xs.map fun x => .int (f x))]) Q := by
  refine ⟨_, ?_, h⟩
  show (toInts _).map _ = _
  rw [toInts_map]
  rfl
end
/-- an expression over a walked list that leaves the state: the list of its answers -/
theorem wp_map {ρ : En} {Q : D → En → Prop} {vs : List Nat} {ml : En → Option (List D × En)} {tg : D → En → Option En} {mb : En → Option (D × En)} {α : Type} (xs : List α) (u : α → D) (f : α → D)
    (h : wp ml ρ fun ds ρ1 => ds = xs.map u ∧ xs.length ≤ 100000 ∧ (∀ x, x ∈ xs → oq (tg (u x) (wipeA ρ1 vs)) fun ρ2 => wp mb ρ2 fun d ρ3 => d = f x ∧ unw ρ1 ρ3 vs = ρ1) ∧ Q (.list (xs.map f)) ρ1) : wp (lcK vs ml tg yesK mb) ρ Q := by
  refine wp_lc (wp.imp h ?_)
  rintro ds ρ' ⟨rfl, hl, hb, hq⟩
  refine ⟨fun ds acc r => r = ρ' ∧ ∃ as bs, xs = as ++ bs ∧ acc = as.map f ∧ ds = bs.map u, ⟨rfl, [], xs, rfl, rfl, rfl⟩, ?_, ?_⟩
  · rintro d ds acc r ⟨rfl, as, bs, e, rfl, e2⟩
    cases bs with
    | nil => simp at e2
    | cons b bs =>
      simp at e2
      obtain ⟨rfl, rfl⟩ := e2
      obtain ⟨ρ2, e3, d, ρ3, e4, rfl, e5⟩ := hb b (by rw [e]; simp)
      refine ⟨ρ2, e3, wp_yes (it2_t ⟨_, ρ3, e4, ?_, e5, as ++ [b], bs, by simp [e], by simp, rfl⟩)⟩
      have := congrArg List.length e
      simp at this ⊢
      omega
  · rintro acc r ⟨rfl, as, bs, e, rfl, e2⟩
    cases bs with
    | nil =>
      simp at e
      rw [← e]
      exact hq
    | cons b bs => simp at e2
theorem oq_ix_lk {ds : List D} {i : Int} {z : D} {Q : D → Prop} (e : ((ixN ds.length i).bind fun j => ds[j]?) = some z) (h : Q z) : oq (dIx (.list ds) (.int i)) Q := ⟨z, e, h⟩
theorem oq_ix_tk {ds : List D} {i : Int} {z : D} {Q : D → Prop} (e : ((ixN ds.length i).bind fun j => ds[j]?) = some z) (h : Q z) : oq (dIx (.tuple ds) (.int i)) Q := ⟨z, e, h⟩
theorem oq_ixN_k {n : Nat} {i : Int} {j : Nat} {Q : Nat → Prop} (e : ixN n i = some j) (h : Q j) : oq (ixN n i) Q := ⟨j, e, h⟩
theorem wp_kO_bor {ρ : En} {i : Nat} {d : D} {Q : D → En → Prop} (e : ρ[i]? = some (some (.bor d))) (h : Q d ρ) : wp (kO i) ρ Q := ⟨d, ρ, by unfold kO; rw [e]; rfl, h⟩
theorem wp_kO_own {ρ : En} {i : Nat} {d : D} {Q : D → En → Prop} (e : ρ[i]? = some (some (.own d))) (h : Q d ρ) : wp (kO i) ρ Q := ⟨d, ρ, by unfold kO; rw [e]; rfl, h⟩
theorem wp_kO_val {ρ : En} {i : Nat} {d : D} {Q : D → En → Prop} (e : ρ[i]? = some (some (.val d))) (h : Q d ρ) : wp (kO i) ρ Q := ⟨d, ρ, by unfold kO; rw [e]; rfl, h⟩
theorem oq_mutL_bor {ρ : En} {i : Nat} {ds : List D} {Q : Sl × List D → Prop} (e : ρ[i]? = some (some (.bor (.list ds)))) (h : Q (.bor (.list ds), ds)) : oq (mutL i ρ) Q := ⟨_, by unfold mutL; rw [e], h⟩
theorem oq_mutL_own {ρ : En} {i : Nat} {ds : List D} {Q : Sl × List D → Prop} (e : ρ[i]? = some (some (.own (.list ds)))) (h : Q (.own (.list ds), ds)) : oq (mutL i ρ) Q := ⟨_, by unfold mutL; rw [e], h⟩
theorem oq_len_sc {ns : List Int} {Q : D → Prop} (h : Q (.int ns.length)) : oq (dLen [scriptD ns]) Q := ⟨_, by unfold scriptD dLen; simp, h⟩
theorem oq_ix_sc {ns : List Int} {i : Int} {Q : D → Prop} (h0 : 0 ≤ i) (h1 : i < ns.length) (h : ∀ z, ns[i.toNat]? = some z → Q (.int z)) : oq (dIx (scriptD ns) (.int i)) Q := by
  refine oq_ix_l h0 (by simpa using h1) fun z e => ?_
  have l : i.toNat < ns.length := by omega
  rw [List.getElem?_map, List.getElem?_eq_getElem l] at e
  cases e
  exact h _ (List.getElem?_eq_getElem l)
theorem oq_ix_sb {ns : List Int} {i : Int} {Q : D → Prop} (h0 : i < 0) (h1 : -(ns.length : Int) ≤ i) (h : ∀ z, ns[(i + ns.length).toNat]? = some z → Q (.int z)) : oq (dIx (scriptD ns) (.int i)) Q := by
  have l : (i + ns.length).toNat < ns.length := by omega
  refine ⟨_, ?_, h _ (List.getElem?_eq_getElem l)⟩
  show (ixN (ns.map PyData.int).length i).bind _ = _
  rw [List.length_map, ixN_back h0 h1]
  show (ns.map PyData.int)[(i + ns.length).toNat]? = _
  rw [List.getElem?_map, List.getElem?_eq_getElem l]
  rfl
/-- .. with a test -/
theorem wp_fmap {ρ : En} {Q : D → En → Prop} {vs : List Nat} {ml : En → Option (List D × En)} {tg : D → En → Option En} {mt : En → Option (Bool × En)} {mb : En → Option (D × En)} {α : Type} (xs : List α) (u : α → D) (p : α → Bool) (f : α → D)
    (h : wp ml ρ fun ds ρ1 => ds = xs.map u ∧ xs.length ≤ 100000 ∧ (∀ x, x ∈ xs → oq (tg (u x) (wipeA ρ1 vs)) fun ρ2 => wp mt ρ2 fun b ρ3 => b = p x ∧ (p x = true → wp mb ρ3 fun d ρ4 => d = f x ∧ unw ρ1 ρ4 vs = ρ1) ∧ (p x = false → unw ρ1 ρ3 vs = ρ1)) ∧ Q (.list ((xs.filter p).map f)) ρ1) : wp (lcK vs ml tg mt mb) ρ Q := by
  refine wp_lc (wp.imp h ?_)
  rintro ds ρ' ⟨rfl, hl, hb, hq⟩
  refine ⟨fun ds acc r => r = ρ' ∧ ∃ as bs, xs = as ++ bs ∧ acc = (as.filter p).map f ∧ ds = bs.map u, ⟨rfl, [], xs, rfl, rfl, rfl⟩, ?_, ?_⟩
  · rintro d ds acc r ⟨rfl, as, bs, e, rfl, e2⟩
    cases bs with
    | nil => simp at e2
    | cons b bs =>
      simp at e2
      obtain ⟨rfl, rfl⟩ := e2
      obtain ⟨ρ2, e3, b', ρ3, e4, rfl, g1, g2⟩ := hb b (by rw [e]; simp)
      refine ⟨ρ2, e3, p b, ρ3, e4, fun t => ?_, fun t => ?_⟩
      · obtain ⟨d, ρ4, e5, rfl, e6⟩ := g1 t
        refine ⟨_, ρ4, e5, ?_, e6, as ++ [b], bs, by simp [e], by simp [t], rfl⟩
        have := congrArg List.length e
        have := List.length_filter_le p as
        simp at *
        omega
      · exact ⟨g2 t, as ++ [b], bs, by simp [e], by simp [t], rfl⟩
  · rintro acc r ⟨rfl, as, bs, e, rfl, e2⟩
    cases bs with
    | nil =>
      simp at e
      rw [← e]
      exact hq
    | cons b bs => simp at e2
theorem wps_post {m : En → Option SO} {ρ : En} {S : SO → Prop} (S' : SO → Prop) (h : wps m ρ S') (k : ∀ o, S' o → S o) : wps m ρ S := wps.imp h k
theorem fq_nx {I : En → Prop} {S : SO → Prop} {ρ : En} (h : I ρ) : fq I S (.nx ρ) := h
theorem fq_ct {I : En → Prop} {S : SO → Prop} {ρ : En} (h : I ρ) : fq I S (.ct ρ) := h
theorem fq_bk {I : En → Prop} {S : SO → Prop} {ρ : En} (h : S (.nx ρ)) : fq I S (.bk ρ) := h
theorem fq_rt {I : En → Prop} {S : SO → Prop} {ρ : En} {d : D} (h : S (.rt d ρ)) : fq I S (.rt d ρ) := h
/-! a walk over a list that is known, turn by turn -/
theorem wps_forL {ρ : En} {S : SO → Prop} {ml : En → Option (List D × En)} {tg : D → En → Option En} {m : En → Option SO} (h : wp ml ρ fun ds ρ1 => wps (forD tg m ds) ρ1 S) : wps (forS ml tg m) ρ S := by
  obtain ⟨ds, r1, e1, o, e2, q⟩ := h
  exact ⟨o, by unfold forS; simp [e1, e2], q⟩
theorem wfd_nil {ρ : En} {S : SO → Prop} {tg : D → En → Option En} {m : En → Option SO} (h : S (.nx ρ)) : wps (forD tg m []) ρ S := ⟨_, rfl, h⟩
theorem wfd_cons {ρ : En} {S : SO → Prop} {tg : D → En → Option En} {m : En → Option SO} {d : D} {ds : List D} (h : oq (tg d ρ) fun ρ2 => wps m ρ2 (fq (fun ρ3 => wps (forD tg m ds) ρ3 S) S)) : wps (forD tg m (d :: ds)) ρ S := by
  obtain ⟨ρ2, e2, o, e3, q⟩ := h
  cases o with
  | nx ρ3 =>
    obtain ⟨o, e4, q⟩ := q
    exact ⟨o, by unfold forD; simp [e2, e3, e4], q⟩
  | ct ρ3 =>
    obtain ⟨o, e4, q⟩ := q
    exact ⟨o, by unfold forD; simp [e2, e3, e4], q⟩
  | bk ρ3 => exact ⟨_, by unfold forD; simp [e2, e3], q⟩
  | rt d ρ3 => exact ⟨_, by unfold forD; simp [e2, e3], q⟩
theorem wp_range3 {ρ : En} {QL : List D → En → Prop} {ml : En → Option (List D × En)} (h : wp ml ρ fun ds ρ1 => ∃ i j k, ds = [.int i, .int j, .int k] ∧ (k ≠ 0 ∧ k.natAbs < 1073741824 ∧ Builtin.Range.small i j k = true) ∧ QL (numsC i k (Builtin.Range.rangeSize i j k).toNat) ρ1) : wp (rangeK3 ml) ρ QL := by
  obtain ⟨x, r1, e1, i, j, k, rfl, hn, q⟩ := h
  exact ⟨_, r1, by unfold rangeK3; rw [e1]; simp only []; rw [if_pos hn], q⟩
theorem oq_rep {a : List D} {k : Int} {Q : D → Prop} (l : k < 2 ^ 63 ∧ -(2 ^ 63) ≤ k ∧ a.length * k.toNat ≤ 100000) (h : Q (.list (List.replicate k.toNat a).flatten)) : oq (dRep (.list a) (.int k)) Q := ⟨_, if_pos l, h⟩
theorem oq_insert {ds : List D} {d : D} {i : Int} {Q : D × List D → Prop} (l : ds.length < 100000 ∧ 0 ≤ i ∧ i < 2 ^ 63) (h : Q (.none, ds.take i.toNat ++ [d] ++ ds.drop i.toNat)) : oq (muInsert ds [.int i, d]) Q := ⟨_, if_pos l, h⟩
theorem oq_extend {ds es : List D} {Q : D × List D → Prop} (l : ds.length + es.length ≤ 100000) (h : Q (.none, ds ++ es)) : oq (muExtend ds [.list es]) Q := ⟨_, if_pos l, h⟩
/-! lists of ints -/
theorem okD_ints (k : Nat) : ∀ xs : List Int, (xs.map PyData.int).all (okD k) = true
  | [] => rfl
  | x :: xs => by
    rw [List.map_cons, List.all_cons, okD_ints k xs]
    cases k <;> rfl
theorem eqv_ints : ∀ xs ys : List Int, PyData.eqvAll (xs.map PyData.int) (ys.map PyData.int) = decide (xs = ys)
  | [], [] => by simp [PyData.eqvAll]
  | [], y :: ys => by simp [PyData.eqvAll]
  | x :: xs, [] => by simp [PyData.eqvAll]
  | x :: xs, y :: ys => by
    simp only [List.map_cons, PyData.eqvAll, PyData.eqv]
    rw [eqv_ints xs ys]
    by_cases h : x = y <;> simp [h]
theorem dEqB_il (xs ys : List Int) : dEqB (.list (xs.map .int)) (.list (ys.map .int)) = some (decide (xs = ys)) := by
  show (if okD 60 (.list (xs.map .int)) = true ∧ okD 60 (.list (ys.map .int)) = true then _ else _) = _
  rw [if_pos ⟨okD_ints 59 xs, okD_ints 59 ys⟩]
  simp only [PyData.eqv]
  rw [eqv_ints]
theorem dEqB_it (xs ys : List Int) : dEqB (.tuple (xs.map .int)) (.tuple (ys.map .int)) = some (decide (xs = ys)) := by
  show (if okD 60 (.tuple (xs.map .int)) = true ∧ okD 60 (.tuple (ys.map .int)) = true then _ else _) = _
  rw [if_pos ⟨okD_ints 59 xs, okD_ints 59 ys⟩]
  simp only [PyData.eqv]
  rw [eqv_ints]
section
variable {xs ys : List Int} {Q : D → Prop}
theorem oq_eq_il (h : Q (.bool (decide (xs = ys)))) : oq (dEq (.list (xs.map .int)) (.list (ys.map .int))) Q := oq_eq_d (dEqB_il xs ys) h
theorem oq_ne_il (h : Q (.bool (!decide (xs = ys)))) : oq (dNe (.list (xs.map .int)) (.list (ys.map .int))) Q := oq_ne_d (dEqB_il xs ys) h
theorem oq_eq_it (h : Q (.bool (decide (xs = ys)))) : oq (dEq (.tuple (xs.map .int)) (.tuple (ys.map .int))) Q := oq_eq_d (dEqB_it xs ys) h
theorem oq_ne_it (h : Q (.bool (!decide (xs = ys)))) : oq (dNe (.tuple (xs.map .int)) (.tuple (ys.map .int))) Q := oq_ne_d (dEqB_it xs ys) h
def lexI : List Int → List Int → Bool
  | [], [] => false
  | [], _ :: _ => true
  | _ :: _, [] => false
  | x :: xs, y :: ys => if x = y then lexI xs ys else decide (x < y)
theorem lexI_eq : ∀ xs ys : List Int, PySem.W.listLt xs ys = lexI xs ys
  | [], [] => rfl
  | [], _ :: _ => rfl
  | _ :: _, [] => rfl
  | x :: xs, y :: ys => by
    show (if x = y then PySem.W.listLt xs ys else _) = (if x = y then lexI xs ys else _)
    rw [lexI_eq xs ys]
    rfl
theorem alike_ints : ∀ xs ys : List Int, PySem.W.alikeAll (xs.map PyData.int) (ys.map PyData.int) = true := fun xs ys => PySem.W.alikeAll_map xs ys
theorem okC_il (xs ys : List Int) : okC (.list (xs.map .int)) (.list (ys.map .int)) = true := by
  unfold okC
  rw [show okD 60 (.list (xs.map .int)) = true from okD_ints 59 xs, show okD 60 (.list (ys.map .int)) = true from okD_ints 59 ys]
  simp only [PySem.W.alike]
  rw [alike_ints]
  rfl
theorem okC_it (xs ys : List Int) : okC (.tuple (xs.map .int)) (.tuple (ys.map .int)) = true := by
  unfold okC
  rw [show okD 60 (.tuple (xs.map .int)) = true from okD_ints 59 xs, show okD 60 (.tuple (ys.map .int)) = true from okD_ints 59 ys]
  simp only [PySem.W.alike]
  rw [alike_ints]
  rfl
theorem lt_il (xs ys : List Int) : PySem.W.dataLt (.list (xs.map .int)) (.list (ys.map .int)) = lexI xs ys := (PySem.W.DatumOrd.lt_eq xs ys).trans (lexI_eq xs ys)
theorem lt_it (xs ys : List Int) : PySem.W.dataLt (.tuple (xs.map .int)) (.tuple (ys.map .int)) = lexI xs ys := (PySem.W.DatumOrd.lt_eq (PySem.W.Tup.mk xs) (PySem.W.Tup.mk ys)).trans (lexI_eq xs ys)
theorem oq_lt_il (h : Q (.bool (lexI xs ys))) : oq (dLt (.list (xs.map .int)) (.list (ys.map .int))) Q := by
  refine ⟨_, ?_, h⟩
  show (if okC _ _ = true then some (PyData.bool (PySem.W.dataLt _ _)) else none) = _
  rw [if_pos (okC_il xs ys), lt_il]
theorem oq_lt_it (h : Q (.bool (lexI xs ys))) : oq (dLt (.tuple (xs.map .int)) (.tuple (ys.map .int))) Q := by
  refine ⟨_, ?_, h⟩
  show (if okC _ _ = true then some (PyData.bool (PySem.W.dataLt _ _)) else none) = _
  rw [if_pos (okC_it xs ys), lt_it]
end
theorem oq_setv_nb {ρ : En} {i : Nat} {d : D} {x : Option Sl} (e : ρ[i]? = some x) (hx : x = none ∨ ∃ d, x = some (.val d)) {Q : En → Prop} (h : Q (ρ.set i (some (.val d)))) : oq (setv i d ρ) Q := by
  refine oq_setv ?_ h
  rcases hx with rfl | ⟨d, rfl⟩ <;> (unfold setv; rw [e])
theorem nums_map : ∀ (n : Nat) (lo : Int), nums lo n = (List.range n).map fun k => .int (lo + (k : Nat))
  | 0, _ => rfl
  | n + 1, lo => by
    rw [List.range_succ_eq_map, List.map_cons, List.map_map]
    show PyData.int lo :: nums (lo + 1) n = _
    rw [nums_map n (lo + 1)]
    congr 1
    · simp
    · refine List.map_congr_left fun k _ => ?_
      show PyData.int _ = PyData.int _
      congr 1
      show lo + 1 + (k : Int) = lo + ((k : Int) + 1)
      omega
theorem oq_seto_nb {ρ : En} {i : Nat} {d : D} {x : Option Sl} (e : ρ[i]? = some x) (hx : x = none ∨ ∃ d, x = some (.val d)) {Q : En → Prop} (h : Q (ρ.set i (some (.own d)))) : oq (seto i d ρ) Q := by
  refine oq_seto ?_ h
  rcases hx with rfl | ⟨d, rfl⟩ <;> (unfold seto; rw [e])
end Dz

/-! Dz. O: instances of the text's own classes: made, read. -/
namespace Dz
open PySem L2
variable {c : C0} {N : List Str} {sc : Scope}
/-- an instance of the class at C, as a datum -/
def oD (C : Nat) (fs : List (D × D)) : D := .dict ((.none, .int (Int.ofNat C)) :: fs)
def lookF (f : Str) : List (D × D) → Option D
  | [] => none
  | (.str g, d) :: r => if f = g then some d else lookF f r
  | _ => none
theorem RpF.look {K : Frag} {H : Hp} {f : Str} {d : D} : ∀ {gs : List (Str × V)} {ds : List (D × D)}, RpF K H gs ds → lookF f ds = some d → ∃ v, gs.lookup f = some v ∧ Rp K H v d
  | _, _, .nil, e => by cases e
  | _, _, .cons (f := g) (v := v) (vs := vs) (d := d') (ds := ds) h r, e => by
    by_cases q : f = g
    · subst q
      have e' : some d' = some d := by
        have : lookF f ((PyData.str f, d') :: ds) = some d' := if_pos rfl
        rw [this] at e
        exact e
      cases e'
      exact ⟨v, by simp [List.lookup], h⟩
    · have e' : lookF f ds = some d := by
        have : lookF f ((PyData.str g, d') :: ds) = lookF f ds := if_neg q
        rw [this] at e
        exact e
      obtain ⟨w, h1, h2⟩ := RpF.look r e'
      refine ⟨w, ?_, h2⟩
      have : (f == g) = false := by simpa using q
      simp [List.lookup, this, h1]
theorem RpF.lookN {K : Frag} {H : Hp} {f : Str} : ∀ {gs : List (Str × V)} {ds : List (D × D)}, RpF K H gs ds → lookF f ds = none → gs.lookup f = none
  | _, _, .nil, e => rfl
  | _, _, .cons (f := g) (v := v) (vs := vs) (d := d') (ds := ds) h r, e => by
    by_cases q : f = g
    · subst q
      have : lookF f ((PyData.str f, d') :: ds) = some d' := if_pos rfl
      rw [this] at e
      cases e
    · have e' : lookF f ds = none := by
        have : lookF f ((PyData.str g, d') :: ds) = lookF f ds := if_neg q
        rw [this] at e
        exact e
      have : (f == g) = false := by simpa using q
      simp [List.lookup, this, RpF.lookN r e']
theorem RpF.length {K : Frag} {H : Hp} : ∀ {gs : List (Str × V)} {ds : List (D × D)}, RpF K H gs ds → gs.length = ds.length
  | _, _, .nil => rfl
  | _, _, .cons h r => by rw [List.length_cons, List.length_cons, RpF.length r]
theorem RpF.app {K : Frag} {H : Hp} {f : Str} {v : V} {d : D} (h : Rp K H v d) : ∀ {gs : List (Str × V)} {ds : List (D × D)}, RpF K H gs ds → RpF K H (gs ++ [(f, v)]) (ds ++ [(.str f, d)])
  | _, _, .nil => .cons h .nil
  | _, _, .cons a r => .cons a (RpF.app h r)
theorem putF_new {f : Str} {v : V} : ∀ {gs : List (Str × V)}, gs.lookup f = none → putF f v gs = gs ++ [(f, v)]
  | [], _ => rfl
  | (g, x) :: r, h => by
    have q : ¬ g = f := fun e => by
      subst e
      simp [List.lookup] at h
    have q' : (f == g) = false := by
      cases z : (f == g) with
      | false => rfl
      | true => exact absurd (eq_of_beq z).symm q
    have h' : r.lookup f = none := by simpa [List.lookup, q'] using h
    show (if g = f then _ else _) = _
    rw [if_neg q, putF_new h']
    rfl
theorem RpK.noNone {K : Frag} {H : Hp} : ∀ {kvs : List (Key × V)} {es : List (D × D)}, RpK K H kvs es → ∀ x ds, es = (PyData.none, x) :: ds → False
  | _, _, .nil, x, ds, e => by cases e
  | _, _, .cons (k := k) h r, x, ds, e => by
    have e1 := (List.cons.inj e).1
    have e2 : kD k = .none := congrArg Prod.fst e1
    cases k <;> cases e2
theorem Rp.oD {K : Frag} {H : Hp} {v : V} {C : Nat} {ds : List (D × D)} (h : Rp K H v (oD C ds)) : ∃ a dx gs, v = .ref a ∧ H a = some (.ins C dx gs) ∧ RpF K H gs ds := by
  generalize e : Dz.oD C ds = z at h
  cases h with
  | dct h r => exact (r.noNone _ _ (PyData.dict.inj e).symm).elim
  | obj h r =>
    have e1 := List.cons.inj (PyData.dict.inj e)
    have e2 : PyData.int (Int.ofNat C) = PyData.int (Int.ofNat _) := congrArg Prod.snd e1.1
    have e3 := Int.ofNat.inj (PyData.int.inj e2)
    subst e3
    rw [e1.2]
    exact ⟨_, _, _, rfl, h, r⟩
  | _ => cases e
/-! ### e.f -/
def fldK (C : Nat) (f : Str) (m : En → Option (D × En)) : En → Option (D × En) := fun ρ => match m ρ with
  | some (.dict ((.none, .int k) :: fs), ρ') => if k = Int.ofNat C then (lookF f fs).map fun d => (d, ρ') else none
  | _ => none
theorem sd_fld {K : Frag} {t : TE} {m : En → Option (D × En)} {C : Nat} {f : Str} (h : Sd K t m) (cl : Cls K C) (na : NoAttr K C f) : Sd K (tFld K t f) (fldK C f m) := fun σ H ρ B d ρ' S e Q q => by
  unfold fldK at e
  split at e
  · rename_i k fs ρ1 he
    split at e
    · rename_i hk
      subst hk
      cases hl : lookF f fs with
      | none => simp [hl] at e
      | some z =>
        simp [hl] at e
        obtain ⟨rfl, rfl⟩ := e
        refine h σ H ρ B _ _ S he _ fun v H1 A r => ?_
        obtain ⟨a, dx, gs, rfl, h1, h2⟩ := Rp.oD (C := C) (ds := fs) r
        obtain ⟨w, l, rw_⟩ := h2.look hl
        exact ⟨a, C, dx, gs, w, rfl, (hide_some h1).2, cl, na, l, q w H1 A rw_⟩
    · cases e
  · cases e
theorem je_fld {C : Nat} {f : Str} {e : Expr} {pos : Pos} {m : En → Option (D × En)} (h : JE c N sc e m) (cl : Cls c.K C) (na : NoAttr c.K C f) (hb : ∀ env, attributeBase e f env (eval e env) = eval e env := by intros; rfl) : JE c N sc (.Attribute e f pos) (fldK C f m) := by
  obtain ⟨t, h1, h2⟩ := h
  refine ⟨tFld c.K t f, fun X I => ?_, sd_fld h2 cl na⟩
  have q := pe_fld (f := f) (pos := pos) (h1 X I) (hb _)
  rw [I.K] at q
  exact q
/-! ### __init__: fields stored one by one -/
abbrev Im := List (D × D) → En → Option (List (D × D) × En)
def iniNil : Im := fun acc ρ => some (acc, ρ)
def iniCons (f : Str) (me : En → Option (D × En)) (mr : Im) : Im := fun acc ρ => (me ρ).bind fun p => if lookF f acc = none ∧ acc.length < 900 then mr (acc ++ [(.str f, p.1)]) p.2 else none
def SIn (K : Frag) (C : Nat) (t : TS) (m : Im) : Prop := ∀ σ H ρ B x dx gs ds0 ds ρ', SR K B σ H ρ → (∀ a, ¬ Mine σ ρ a) → σ[0]? = some (some (.ref x)) → B x = true → H x = some (.ins C dx gs) → RpF K (hide B H) gs ds0 → m ds0 ρ = some (ds, ρ') →
  ∀ Dn : Ends, (∀ H' gs', SR K B σ H' ρ' → H' x = some (.ins C dx gs') → RpF K (hide B H') gs' ds → (∀ b o, b ≠ x → H b = some o → H' b = some o) → Dn.nx σ H') → t Dn σ H
def JIn (c : C0) (N : List Str) (sc : Scope) (C : Nat) (ss : List Stmt) (m : Im) : Prop := ∃ t, (∀ X, In c N sc X → PSs X ss t) ∧ SIn c.K C t m
theorem jin_nil {C : Nat} : JIn c N sc C [] iniNil := ⟨tNext, fun _ _ => pss_nil, fun σ H ρ B x dx gs ds0 ds ρ' S nm hs bx hx hf e Dn q => by
  cases e
  exact q H gs S hx hf fun _ _ _ h => h⟩
theorem si_fld {K : Frag} {C : Nat} {f : Str} {te : TE} {me : En → Option (D × En)} {t : TS} {mr : Im} (cl : Cls K C) (na : NoAttr K C f) (h : Sd K te me) (hr : SIn K C t mr) : SIn K C (tSeq (sFld K (tVar 0) te f) t) (iniCons f me mr) := fun σ H ρ B x dx gs ds0 ds ρ' S nm hs bx hx hf e Dn q => by
  unfold iniCons at e
  cases q1 : me ρ with
  | none => simp [q1] at e
  | some p =>
    obtain ⟨d, ρ1⟩ := p
    simp only [q1, Option.bind_some] at e
    split at e
    · rename_i hl
      refine h σ H ρ B _ _ S q1 _ fun v H1 A r => ?_
      have hx1 : H1 x = some (.ins C dx gs) := A.keep x _ hx (nm x)
      refine ⟨.ref x, hs, x, C, dx, gs, rfl, hx1, cl, na, ?_, ?_⟩
      · rw [hf.length]
        omega
      · have nm1 : ∀ a, ¬ Mine σ ρ1 a := fun a m => nm a (A.kin.mine.mp m)
        have hh : hide B (upd H1 x (.ins C dx (putF f v gs))) = hide B H1 := upd_hide bx
        have sr : SR K B σ (upd H1 x (.ins C dx (putF f v gs))) ρ1 := by
          refine ⟨A.sr.len, fun i d' z => ?_, fun i s z m => ?_, A.sr.inj, fun a z => ?_⟩
          · rw [hh]
            exact A.sr.val i d' z
          · exact absurd ⟨i, s, z, m, (A.sr.mu_ i s z m).choose_spec.1⟩ (nm1 _)
          · by_cases y : a = x
            · subst y
              exact ⟨_, upd_same⟩
            · obtain ⟨o, w⟩ := A.sr.bk a z
              exact ⟨o, by rw [upd_ne y]; exact w⟩
        have hf1 : RpF K (hide B H1) gs ds0 := hf.mono (A.sub S)
        refine hr σ _ ρ1 B x dx (putF f v gs) (ds0 ++ [(.str f, d)]) _ _ sr nm1 hs bx upd_same ?_ e Dn fun H' gs' s' hx' hf' kp => ?_
        · rw [hh, putF_new (hf1.lookN hl.1)]
          exact hf1.app r
        · exact q H' gs' s' hx' hf' fun b o nb z => kp b o nb (by rw [upd_ne nb]; exact A.keep b o z (nm b))
    · cases e
theorem jin_cons {C : Nat} {f x : Str} {e : Expr} {p1 p2 pos : Pos} {me : En → Option (D × En)} {rest : List Stmt} {mr : Im} (cl : Cls c.K C) (na : NoAttr c.K C f) (h : JE c N sc e me) (hr : JIn c N sc C rest mr) (hN : N[0]? = some x := by rfl) (hv : Vis sc x := by first | exact Or.inl rfl | exact Or.inr (Or.inl rfl) | exact Or.inr (Or.inr rfl))
    (hd : (x == ("__debug__" : Str)) = false := by decide) (hcd : (x == ("__classdict__" : Str)) = false := by decide)
    (hs : ∀ env, swapsWith e (some (.Attribute (.Name x p1) f p2)) pos.line env = pure false := by intros; rfl) : JIn c N sc C (.Assign [.Attribute (.Name x p1) f p2] e pos :: rest) (iniCons f me mr) := by
  obtain ⟨t, h1, h2⟩ := h
  obtain ⟨u, r1, r2⟩ := hr
  refine ⟨tSeq (sFld c.K (tVar 0) t f) u, fun X I => ?_, si_fld cl na h2 r2⟩
  have q := ps_fld (f := f) (pos := pos) (pos' := p2) (pe_var (pos := p1) (by rw [I.N]; exact hN) (I.vis hv) hd hcd) (h1 X I) (hs _)
  rw [I.K] at q
  exact pss_cons q (r1 X I)
/-- what __init__ promises: n slots, the instance's class at C -/
def spI (K : Frag) (C n : Nat) (m : Im) : Sp := fun vs H Q _ => ∃ x dx us ds fs ρ' B, vs = .ref x :: us ∧ H x = some (.ins C dx []) ∧ B x = true ∧ (∀ a, B a = true → ∃ o, H a = some o) ∧ RpL K (hide B H) us ds ∧ us.length + 1 ≤ n ∧
  m [] (none :: (ds.map (fun d => some (Sl.val d)) ++ List.replicate (n - 1 - ds.length) none)) = some (fs, ρ') ∧ ∀ H' gs, H' x = some (.ins C dx gs) → RpF K (hide B H') gs fs → (∀ b o, b ≠ x → H b = some o → H' b = some o) → Q .non H'
theorem init_sr {K : Frag} {B : Addr → Bool} {H : Hp} {x : Addr} {us : List V} {ds : List D} {n : Nat} (r : RpL K (hide B H) us ds) (bk : ∀ a, B a = true → ∃ o, H a = some o) (hn : us.length + 1 ≤ n) :
    SR K B ((.ref x :: us).map some ++ List.replicate (n - (us.length + 1)) none) H (none :: (ds.map (fun d => some (Sl.val d)) ++ List.replicate (n - 1 - ds.length) none)) ∧ ∀ a, ¬ Mine ((.ref x :: us).map some ++ List.replicate (n - (us.length + 1)) none) (none :: (ds.map (fun d => some (Sl.val d)) ++ List.replicate (n - 1 - ds.length) none)) a := by
  have hl := r.length
  have key : ∀ (i : Nat) (s : Sl), (none :: (ds.map (fun d => some (Sl.val d)) ++ List.replicate (n - 1 - ds.length) none) : En)[i]? = some (some s) → ∃ d v, s = .val d ∧ ((.ref x :: us).map some ++ List.replicate (n - (us.length + 1)) none : L2.St)[i]? = some (some v) ∧ Rp K (hide B H) v d := by
    intro i s e
    cases i with
    | zero => simp at e
    | succ i =>
      rw [List.getElem?_cons_succ] at e
      rcases Nat.lt_or_ge i ds.length with hi | hi
      · rw [List.getElem?_append_left (by simpa using hi), List.getElem?_map, List.getElem?_eq_getElem hi] at e
        simp at e
        obtain ⟨v, h1, h2⟩ := r.get' (List.getElem?_eq_getElem hi)
        refine ⟨_, v, e.symm, ?_, h2⟩
        rw [List.map_cons, List.cons_append, List.getElem?_cons_succ, List.getElem?_append_left (by simp; omega), List.getElem?_map, h1]
        rfl
      · rw [List.getElem?_append_right (by simpa using hi)] at e
        rw [List.getElem?_replicate] at e
        split at e <;> simp at e
  refine ⟨⟨by simp; omega, fun i d e => ?_, fun i s e m => ?_, fun i j s t l e1 m1 _ _ _ _ => ?_, bk⟩, fun a => ?_⟩
  · obtain ⟨d', v, e1, e2, e3⟩ := key i _ e
    cases e1
    exact ⟨v, e2, e3⟩
  · obtain ⟨d', v, e1, _⟩ := key i _ e
    subst e1
    cases m
  · obtain ⟨d', v, e3, _⟩ := key i _ e1
    subst e3
    cases m1
  · rintro ⟨i, s, e, m, _⟩
    obtain ⟨d', v, e3, _⟩ := key i _ e
    subst e3
    cases m
theorem init_ok {x qual : Str} {st : Stmt} {f : Addr} {fd : FuncData} {N ps : List Str} {k C : Nat} {m : Im} (F : Fun c.K x qual st f fd) (S : FnScope N ps (defScope st)) (h : JIn { c with k := k, top := true } N (defScope st) C (defBody st) m) (hp : ∀ us : List V, us.length + 1 ≤ N.length → us.length + 1 = ps.length ∨ us.length + 1 ≠ ps.length := by intros; omega) :
    FnOk c.P c.w c.K c.mg c.base CX0 (k + 1) f fd ps (fun vs H Q E => vs.length = ps.length ∧ spI c.K C N.length m vs H Q E) := by
  refine F.ok S (fun vs H Q E h => h.1) (fun cdv A outer s H vs Q E hr h' => ?_)
  obtain ⟨hl, x, dx, us, ds, fs, ρ', B, rfl, h1, h2, h3, h4, h5, h6, h7⟩ := h'
  obtain ⟨t, t1, t2⟩ := h
  refine ⟨t, t1 _ ⟨rfl, rfl, rfl, rfl, rfl, hr, rfl, rfl, rfl, fun _ => rfl, PassesOwn.never⟩, ?_⟩
  obtain ⟨s1, s2⟩ := init_sr (x := x) h4 h3 h5
  have es : L2.start N (.ref x :: us) = (V.ref x :: us).map some ++ List.replicate (N.length - (us.length + 1)) none := by
    unfold L2.start
    rfl
  rw [es]
  exact t2 _ H _ B x dx [] [] _ _ s1 s2 rfl h2 h1 .nil h6 _ fun H' gs' _ hx hf kp => h7 H' gs' hx hf kp
/-- a class of the text whose instances are made by such an __init__; ds: what the defaults give -/
def MkD (c : C0) (k : Nat) (x : Str) (C n p : Nat) (ds : List D) (m : Im) : Prop :=
  ∃ (f : Addr) (fd : FuncData) (ps : List Str) (dV : List Value) (dvs : List V), Mk c.K C f ∧ FnOk c.P c.w c.K c.mg c.base CX0 k f fd ps (fun vs H Q E => vs.length = ps.length ∧ spI c.K C n m vs H Q E) ∧ c.mg x = some (.ref C) ∧ Binds c.K fd ps dV ∧ Vals dvs dV ∧ (∀ H, RpL c.K H dvs ds) ∧ ps.length = p + 1 + ds.length ∧ ps.length ≤ n
def mkK (C n p : Nat) (ds : List D) (m : Im) (ma : En → Option (List D × En)) : En → Option (D × En) := fun ρ => (ma ρ).bind fun q => if q.1.length = p then (m [] (none :: ((q.1 ++ ds).map (fun d => some (Sl.val d)) ++ List.replicate (n - 1 - (q.1 ++ ds).length) none))).map fun z => (oD C z.1, q.2) else none
theorem sd_mk {K : Frag} {C n p np : Nat} {ds : List D} {dvs : List V} {m : Im} {t : TA} {ma : En → Option (List D × En)} {E : XK} (h : SA K t ma) (hd : ∀ H, RpL K H dvs ds) (hp : np = p + 1 + ds.length) (hn : np ≤ n) :
    Sd K (tMake C (fun vs H Q E => vs.length = np ∧ spI K C n m vs H Q E) dvs E t) (mkK C n p ds m ma) := fun σ H ρ B d ρ' S e Q q => by
  unfold mkK at e
  cases q1 : ma ρ with
  | none => simp [q1] at e
  | some z =>
    obtain ⟨es, ρ1⟩ := z
    simp only [q1, Option.bind_some] at e
    split at e
    · rename_i hl
      cases q2 : m [] (none :: ((es ++ ds).map (fun d => some (Sl.val d)) ++ List.replicate (n - 1 - (es ++ ds).length) none)) with
      | none =>
        rw [q2] at e
        cases e
      | some w =>
        obtain ⟨fs, ρ2⟩ := w
        rw [q2] at e
        simp only [Option.map_some, Option.some.injEq, Prod.mk.injEq] at e
        obtain ⟨rfl, rfl⟩ := e
        refine h σ H ρ B _ _ S q1 _ fun vs H1 A ra => ?_
        intro x dx nx ndx ne
        have rl := ra.length
        have dl := (hd H1).length
        have fx : B x = false := A.sr.fresh nx
        let B' : Addr → Bool := fun a => decide (a = x) || decide (a = dx) || B a
        let H2 : Hp := upd (upd H1 dx (.own x)) x (.ins C dx [])
        have up : ∀ b o, H1 b = some o → H2 b = some o := fun b o e => by
          have n1 : b ≠ x := ne_of_none e nx
          have n2 : b ≠ dx := ne_of_none e ndx
          show upd (upd H1 dx (.own x)) x (.ins C dx []) b = some o
          rw [upd_ne n1, upd_ne n2]
          exact e
        have hs : Sub (hide B H1) (hide B' H2) := fun b o e => by
          obtain ⟨e1, e2⟩ := hide_some e
          refine hide_of ?_ (up b o e2)
          have n1 : b ≠ x := ne_of_none e2 nx
          have n2 : b ≠ dx := ne_of_none e2 ndx
          show (decide (b = x) || decide (b = dx) || B b) = false
          simp [n1, n2, e1]
        refine ⟨by simp; omega, x, dx, vs ++ dvs, es ++ ds, fs, ρ2, B', rfl, upd_same, ?_, fun a z => ?_, (ra.mono hs).append (hd _), ?_, q2, fun H3 gs h1 h2 h3 => ⟨rfl, ?_⟩⟩
        · show (decide (x = x) || decide (x = dx) || B x) = true
          simp
        · by_cases y : a = x
          · subst y
            exact ⟨_, upd_same⟩
          · by_cases y2 : a = dx
            · subst y2
              exact ⟨_, by show upd (upd H1 a (.own x)) x (.ins C a []) a = _; rw [upd_ne y]; exact upd_same⟩
            · have z' : B a = true := by
                have : (decide (a = x) || decide (a = dx) || B a) = true := z
                simpa [y, y2] using this
              obtain ⟨o, w⟩ := A.sr.bk a z'
              exact ⟨o, up a o w⟩
        · rw [List.length_append]
          omega
        · have sb : Sub H1 H3 := fun b o e => h3 b o (ne_of_none e nx) (up b o e)
          refine q (.ref x) H3 (A.trans (Af.of_sub A.sr sb)) ?_
          have hh : Sub (hide B' H3) (hide B H3) := fun b o e => by
            obtain ⟨e1, e2⟩ := hide_some e
            refine hide_of ?_ e2
            have : (decide (b = x) || decide (b = dx) || B b) = false := e1
            simp at this
            exact this.2
          exact .obj (hide_of fx h1) (h2.mono hh)
    · cases e
theorem je_mk {C n p j : Nat} {ds : List D} {m : Im} {x : Str} {e : Expr} {es : List Expr} {q pos : Pos} {ma : En → Option (List D × En)} (M : MkD c j x C n p ds m) (hk : j + 1 ≤ c.k) (hg : sc.names.lookup x = some .globalImplicit) (ha : JL c N sc (e :: es) ma)
    (hdb : (x == ("__debug__" : Str)) = false := by decide) (he : ∀ env, starEach (e :: es) env = (false, eval e env) :: starEach es env := by intros; rfl) (hpl : ∀ env, (backTo pos (starEach es env)).any (·.1) = false := by intros; rfl) :
    JE c N sc (.Call (.Name x q) (e :: es) [] pos) (mkK C n p ds m ma) := by
  obtain ⟨f, fd, ps, dV, dvs, M, F, hm, hb, hd, hr, hp, hn⟩ := M
  obtain ⟨t, p1, s1⟩ := ha
  refine ⟨tMake C (fun vs H Q E => vs.length = ps.length ∧ spI c.K C n m vs H Q E) dvs E0 t, fun X I => ?_, sd_mk s1 hr hp hn⟩
  obtain ⟨a1, a2, a3, a4, a5, a6, a7, a8, a9, a10, a11⟩ := id I
  have F' : FnOk X.prog X.w X.K X.mg X.base CX0 j f fd ps (fun vs H Q E => vs.length = ps.length ∧ spI c.K C n m vs H Q E) := by
    rw [a1, a2, a3, a4, a5]
    exact F
  exact pe_make (by rw [a3]; exact M) F' (a6.mono hk) (I.gl hg) (by rw [a4]; exact hm) (by rw [a3]; exact hb) hd pass0 (p1 X I) hdb (he _) (hpl _)
/-- an own class, by its facts -/
structure ClsD (c : C0) (x : Str) (C : Nat) : Prop where
  mg : c.mg x = some (.ref C)
  cl : Cls c.K C
  ha : PySem.W.findIn c.K (.ref C) "__class__" = some (some (.builtin "object.__class__"))
  hn : PySem.W.specialIn c.K (.builtin "object.__class__") "__get__" = some (some (.builtin "getset_descriptor.__get__"))
  htk : PySem.W.takesIn c.K (.builtin "object.__class__") = some true
  hm : PySem.W.mroIn c.K C (.type "object") = some true
  self : PySem.W.kitOne c.K (.ref C) (.ref C) = some true
  kNone : PySem.W.kitOne c.K (.type "NoneType") (.ref C) = some false
  kBool : PySem.W.kitOne c.K (.type "bool") (.ref C) = some false
  kInt : PySem.W.kitOne c.K (.type "int") (.ref C) = some false
  kStr : PySem.W.kitOne c.K (.type "str") (.ref C) = some false
  kList : PySem.W.kitOne c.K (.type "list") (.ref C) = some false
  kTuple : PySem.W.kitOne c.K (.type "tuple") (.ref C) = some false
  fList : PySem.W.notFirst c.K C (.type "list") = true
  fTuple : PySem.W.notFirst c.K C (.type "tuple") = true
def isOb (C : Nat) : D → Bool
  | .dict ((.none, .int k) :: _) => decide (k = Int.ofNat C)
  | _ => false
theorem isOb_oD {C : Nat} {d : D} (h : isOb C d = true) : ∃ fs, d = oD C fs := by
  unfold isOb at h
  split at h
  · rename_i k fs
    exact ⟨fs, by unfold oD; rw [of_decide_eq_true h]⟩
  · cases h
def isiCB (C : Nat) : D → Option Bool
  | .none => some false
  | .bool _ => some false
  | .int _ => some false
  | .str _ => some false
  | .list _ => some false
  | .tuple _ => some false
  | d => if isOb C d = true then some true else none
theorem isiC_of {C : Nat} {x : Str} (T : ClsD c x C) {H : Hp} {v : V} {d : D} {b : Bool} (h : Rp c.K H v d) (e : isiCB C d = some b) : ∃ t, TyX c.K H v t ∧ PySem.W.kitOne c.K t (.ref C) = some b := by
  by_cases ho : isOb C d = true
  · obtain ⟨fs, rfl⟩ := isOb_oD ho
    obtain ⟨a, dx, gs, rfl, h1, h2⟩ := h.oD
    have eb : b = true := by
      have : isiCB C (oD C fs) = some true := by
        unfold isiCB oD at *
        simp only []
        rw [if_pos ho]
      rw [this] at e
      cases e
      rfl
    subst eb
    exact ⟨.ref C, .base (.ins h1 T.cl T.ha T.hn T.htk T.hm), T.self⟩
  · cases h with
    | non => cases e; exact ⟨_, .base .non, T.kNone⟩
    | bl k => cases e; exact ⟨_, .base (.bl k), T.kBool⟩
    | int k => cases e; exact ⟨_, .base (.int k), T.kInt⟩
    | str k => cases e; exact ⟨_, .base (.str k), T.kStr⟩
    | lst hs _ =>
      cases e
      refine ⟨.type "list", ?_, T.kList⟩
      rcases hs with (h | ⟨o, h⟩) | ⟨o, its, n, h1, h2, _⟩
      · exact .base (.lst h)
      · exact .base (.frz h)
      · exact .kList h1 h2
    | tup hs _ _ =>
      cases e
      refine ⟨.type "tuple", ?_, T.kTuple⟩
      rcases hs with (h | ⟨o, h⟩) | ⟨o, its, n, h1, h2, _⟩
      · exact .base (.tup h)
      · exact .fTuple h
      · exact .kTuple h1 h2
    | dct _ _ =>
      simp only [isiCB, if_neg ho] at e
      cases e
    | obj _ _ =>
      simp only [isiCB, if_neg ho] at e
      cases e
def isiCK (C : Nat) (m : En → Option (D × En)) : En → Option (D × En) := fun ρ => (m ρ).bind fun p => (isiCB C p.1).map fun b => (.bool b, p.2)
theorem je_isiC {C : Nat} {y : Str} {p p2 pos : Pos} {e : Expr} {me : En → Option (D × En)} (T : ClsD c y C) (hg : sc.names.lookup ("isinstance" : Str) = some .globalImplicit) (hm : c.mg ("isinstance" : Str) = none) (hgy : sc.names.lookup y = some .globalImplicit) (ha : JA c N sc e me)
    (hdb : (y == ("__debug__" : Str)) = false := by decide)
    (he : ∀ env, starEach [e, .Name y p2] env = (false, eval e env) :: starEach [.Name y p2] env := by intros; rfl) (hpl : ∀ env, (backTo pos (starEach [.Name y p2] env)).any (·.1) = false := by intros; rfl) :
    JE c N sc (.Call (.Name "isinstance" p) [e, .Name y p2] [] pos) (isiCK C me) := by
  obtain ⟨t, a1, a2⟩ := ha
  refine ⟨tCB (rIsi c.K) (tCons t (tCons (tC (.ref C)) tNil)), fun X I => ?_, fun σ H ρ B d ρ' S e Q q => ?_⟩
  · have h := pe_callB (x := "isinstance") (p := p) (pos := pos) (call_isi (X := X)) (I.gl hg) (by rw [I.mg]; exact hm) (by decide +kernel) (pa_cons (a1 X I) (pa_cons (pe_glob (pos := p2) (v := .ref C) (I.gl hgy) (by rw [I.mg]; exact T.mg) rfl hdb) pa_nil) (he _)) (by decide) (by decide) (he _) (hpl _)
    rw [I.K] at h
    exact h
  · unfold isiCK at e
    cases q1 : me ρ with
    | none => simp [q1] at e
    | some p =>
      obtain ⟨d1, ρ1⟩ := p
      cases q2 : isiCB C d1 with
      | none => simp [q1, q2] at e
      | some z =>
        simp [q1, q2] at e
        obtain ⟨rfl, rfl⟩ := e
        refine a2 σ H ρ B _ _ S q1 _ fun v H1 A1 r1 => ?_
        obtain ⟨t, h1, h2⟩ := isiC_of T r1.rp q2
        exact ⟨v, .ref C, t, .ref C, z, rfl, .own C, h1, h2, q _ H1 A1 (.bl z)⟩
/-! ### == by the class's own __eq__ -/
def OthOk (K : Frag) (C : Addr) (H : Hp) (y : V) : Prop := (∃ b dy gs, y = .ref b ∧ H b = some (.ins C dy gs)) ∨ (∃ b ys, y = .ref b ∧ SqT K H b ys) ∨ ∃ b ys, y = .ref b ∧ SqL K H b ys
def rOwnI (K : Frag) (C : Addr) (sp : Sp) : R2 := fun x y H Q => ∃ a dx fs, x = .ref a ∧ H a = some (.ins C dx fs) ∧ OthOk K C H y ∧ sp [x, y] H Q E0
theorem op_ownI {X : Cx} {C f : Addr} {fd : FuncData} {ps : List Str} {n : Nat} {sp : Sp} (F : FnOk X.prog X.w X.K X.mg X.base CX0 n f fd ps sp) (hs : PySem.W.findIn X.K (.ref C) "__eq__" = some (some (.ref f))) (hf : PySem.W.isFn X.K (.ref f) = true) (hb : Binds X.K fd ps []) (hr : Room n X.A)
    (fl : PySem.W.notFirst X.K C (.type "list") = true) (ft : PySem.W.notFirst X.K C (.type "tuple") = true) : OpR X (compareOp .Eq) (rOwnI X.K C sp) := by
  intro pins s σ H x y v u Q I rx ry h
  obtain ⟨a, dx, fs, rfl, ha, ho, q⟩ := h
  cases (show v = Value.ref a from rx)
  obtain ⟨mA, J, _⟩ := ins_get I.hok ha
  obtain ⟨od, J, _⟩ := J.look
  obtain ⟨m, hF⟩ := I.fr
  show wpAny (model X.prog X.w) X.A (richCompare .Eq (.ref a) u) (EP X pins σ Q) X.xe s
  have back : wpAny (model X.prog X.w) X.A (call (.ref f) [.ref a, u]) (PySem.W.CmpBack (EP X pins σ Q)) X.xe s := by
    refine wpAny_mono (run_fn (us := [.ref a, u]) (vs := [.ref a, y]) (ds := []) (dvs := []) F hr hb .nil pass0 I (.cons rfl (.cons ry .nil)) q) (fun w s' z => ?_) fun _ _ x => x
    obtain ⟨z', H', I', rz, qz⟩ := z
    exact SlX.cmpback rz ⟨z', H', I', rz, qz⟩
  rcases ho with ⟨b, dy, gs, rfl, hb'⟩ | ⟨b, ys, rfl, hb'⟩ | ⟨b, ys, rfl, hb'⟩
  · cases (show u = Value.ref b from ry)
    obtain ⟨mB, J', _⟩ := ins_get I.hok hb'
    obtain ⟨od', J', _⟩ := J'.look
    exact PySem.W.cmp_K (op := .Eq) (tb := .ref C) hr.units0 hF I.ok.mod.kin J J'.type (by simp [PySem.W.notFirst]) hs hf back
  · cases (show u = Value.ref b from ry)
    obtain ⟨its, r, pl, z1⟩ := I.tuple hb'
    obtain ⟨o, h1, h2, _⟩ := pl
    exact PySem.W.cmp_K (op := .Eq) (tb := .type "tuple") hr.units0 hF I.ok.mod.kin J (h2 ▸ (PySem.W.Looks.ld h1).andThen .now) ft hs hf back
  · cases (show u = Value.ref b from ry)
    obtain ⟨its, r, pl, z1⟩ := I.list hb'
    obtain ⟨o, h1, h2, _⟩ := pl.isList
    exact PySem.W.cmp_K (op := .Eq) (tb := .type "list") hr.units0 hF I.ok.mod.kin J (h2 ▸ (PySem.W.Looks.ld h1).andThen .now) fl hs hf back
/-- the class's __eq__ as its data say -/
def EqD (c : C0) (k C : Nat) (fm : Fm) : Prop :=
  ∃ (f : Addr) (fd : FuncData) (ps : List Str), FnOk c.P c.w c.K c.mg c.base CX0 k f fd ps (spD c.K fm) ∧ PySem.W.findIn c.K (.ref C) "__eq__" = some (some (.ref f)) ∧ PySem.W.isFn c.K (.ref f) = true ∧ Binds c.K fd ps []
def isSq : D → Bool
  | .list _ => true
  | .tuple _ => true
  | _ => false
def dEqI (C : Nat) (fm : Fm) (d e : D) : Option D := if isOb C d = true ∧ (isOb C e = true ∨ isSq e = true) then (fm [.val d, .val e]).bind fun r => match r.1 with
  | .bool b => some (.bool b)
  | _ => none else none
theorem o_eqI {C j : Nat} {x : Str} {fm : Fm} (T : ClsD c x C) (F : EqD c j C fm) (hk : j ≤ c.k) : OpD c.K (In c N sc) (compareOp .Eq) (dEqI C fm) := by
  obtain ⟨f, fd, ps, F, h1, h2, h3⟩ := F
  refine ⟨rOwnI c.K C (spD c.K fm), fun X I => ?_, fun B H x y d e z bk hx hy hz Q q => ?_⟩
  · obtain ⟨a1, a2, a3, a4, a5, a6, a7, a8, a9, a10, a11⟩ := id I
    have F' : FnOk X.prog X.w X.K X.mg X.base CX0 j f fd ps (spD c.K fm) := by
      rw [a1, a2, a3, a4, a5]
      exact F
    have h := op_ownI F' (by rw [a3]; exact h1) (by rw [a3]; exact h2) (by rw [a3]; exact h3) (a6.mono hk) (by rw [a3]; exact T.fList) (by rw [a3]; exact T.fTuple)
    rw [a3] at h
    exact h
  · unfold dEqI at hz
    split at hz
    · rename_i hc
      cases q1 : fm [.val d, .val e] with
      | none => simp [q1] at hz
      | some r =>
        obtain ⟨rr, r2⟩ := r
        simp only [q1, Option.bind_some] at hz
        cases rr with
        | bool b =>
          cases hz
          obtain ⟨fs, rfl⟩ := isOb_oD hc.1
          have hx' : Rp c.K (hide B H) x (oD C fs) := by
            cases hx with
            | vis h => exact h
            | dct h r => exact (r.noNone _ _ rfl).elim
          obtain ⟨a, dx, gs, rfl, g1, g2⟩ := hx'.oD
          have oth : OthOk c.K C H y := by
            rcases hc.2 with h | h
            · obtain ⟨fs', rfl⟩ := isOb_oD h
              obtain ⟨b', dy, gs', rfl, k1, k2⟩ := hy.rp.oD
              exact .inl ⟨b', dy, gs', rfl, k1⟩
            · cases e with
              | list es =>
                obtain ⟨b', ys, rfl, k1, k2⟩ := hy.list
                exact .inr (.inr ⟨b', ys, rfl, k1⟩)
              | tuple es =>
                obtain ⟨b', ys, rfl, k1, k2⟩ := hy.tuple
                exact .inr (.inl ⟨b', ys, rfl, k1⟩)
              | _ => cases h
          refine ⟨a, dx, gs, rfl, (hide_some g1).2, oth, ?_⟩
          have fin : ∀ B' : Addr → Bool, (∀ a, B' a = true → ∃ o, H a = some o) → Rp c.K (hide B' H) (.ref a) (oD C fs) → Rp c.K (hide B' H) y e → spD c.K fm [.ref a, y] H Q E0 := fun B' bk' hx' hy' => by
            refine ⟨B', [.val (oD C fs), .val e], .bool b, r2, q1, ⟨rfl, fun i d h => ?_, fun i s h m => ?_, fun i j s t l e1 m1 e2 m2 e3 e4 => ?_, bk'⟩, fun v H' A r => ?_⟩
            · rcases i with _ | _ | i
              · cases h; exact ⟨_, rfl, hx'⟩
              · cases h; exact ⟨_, rfl, hy'⟩
              · simp at h
            · rcases i with _ | _ | i
              · cases h; cases m
              · cases h; cases m
              · simp at h
            · rcases i with _ | _ | i
              · cases e1; cases m1
              · cases e1; cases m1
              · simp at e1
            · cases r.booli
              refine q _ H' (fun a o h => A.keep a o h fun m => ?_) (.bl b)
              obtain ⟨i, s, e1, m1, _⟩ := m
              rcases i with _ | _ | i
              · cases e1; cases m1
              · cases e1; cases m1
              · simp at e1
          cases hy with
          | vis h => exact fin B bk hx' h
          | @lst l xs ds h r =>
            have sb : Sub (hide B H) (hide (fun a => B a && !decide (a = l)) H) := fun b o e => by
              obtain ⟨e1, e2⟩ := hide_some e
              exact hide_of (by simp [e1]) e2
            refine fin (fun a => B a && !decide (a = l)) (fun a h => bk a (by simp at h; exact h.1)) (hx'.mono sb) ?_
            refine .lst ?_ (r.mono sb)
            rcases h with (h | ⟨o, h⟩) | h
            · exact .inl (.inl (hide_of (by simp) h))
            · exact .inl (.inr ⟨o, hide_of (by simp) h⟩)
            · exact .inr h
          | @dct l kvs ds h r =>
            rcases hc.2 with z | z
            · obtain ⟨fs', e'⟩ := isOb_oD z
              exact (r.noNone _ _ (PyData.dict.inj e')).elim
            · cases z
        | _ => cases hz
    · cases hz
/-! ### methods -/
def MeS (c : C0) (k C : Nat) (m : Str) (fm : Fm) : Prop :=
  ∃ (f : Addr) (fd : FuncData) (ps : List Str), FnOk c.P c.w c.K c.mg c.base CX0 k f fd ps (spD c.K fm) ∧ Meth c.K C m f ∧ Binds c.K fd ps []
def noF (C : Nat) (m : Str) : D → Bool
  | .dict ((.none, .int k) :: fs) => decide (k = Int.ofNat C) && (lookF m fs).isNone
  | _ => false
def methK (C : Nat) (m : Str) (fm : Fm) (me : En → Option (D × En)) (mr : En → Option (List Ar × En)) : En → Option (D × En) := fun ρ => (me ρ).bind fun p => if noF C m p.1 = true then callK fm (gval (kC p.1) mr) p.2 else none
theorem noF_of {C : Nat} {m : Str} {d : D} (h : noF C m d = true) : ∃ fs, d = oD C fs ∧ lookF m fs = none := by
  unfold noF at h
  split at h
  · rename_i k fs
    rw [Bool.and_eq_true] at h
    refine ⟨fs, ?_, Option.isNone_iff_eq_none.mp h.2⟩
    unfold oD
    rw [of_decide_eq_true h.1]
  · cases h
theorem sd_meth {K : Frag} {C : Nat} {m : Str} {fm : Fm} {me : En → Option (D × En)} {mr : En → Option (List Ar × En)} {ta : TE} {t : TA} {E : XK} (h : Sd K ta me) (hr : SG K t mr) : Sd K (tMeth C m (spD K fm) [] E ta t) (methK C m fm me mr) := fun σ H ρ B d ρ' S e Q q => by
  unfold methK at e
  cases q1 : me ρ with
  | none => simp [q1] at e
  | some p =>
    obtain ⟨d1, ρ1⟩ := p
    simp only [q1, Option.bind_some] at e
    split at e
    · rename_i ho
      refine h σ H ρ B _ _ S q1 _ fun v H1 A1 r1 => ?_
      obtain ⟨fs, hd, hl⟩ := noF_of ho
      have r1' := r1
      rw [hd] at r1'
      obtain ⟨a, dx, gs, rfl, g1, g2⟩ := Rp.oD r1'
      refine ⟨a, dx, gs, rfl, (hide_some g1).2, g2.lookN hl, ?_⟩
      clear r1' ho hd
      unfold callK at e
      cases q2 : mr ρ1 with
      | none => simp [gval, kC, q2] at e
      | some p2 =>
        obtain ⟨ars, ρ2⟩ := p2
        have eg : gval (kC d1) mr ρ1 = some (.v d1 :: ars, ρ2) := by
          unfold gval kC
          simp [q2]
        rw [eg] at e
        simp only [Option.bind_some] at e
        split at e
        · rename_i hl1
          cases q3 : toSls ρ2 (.v d1 :: ars) with
          | none => simp [q3] at e
          | some ss =>
            cases q4 : fm ss with
            | none => simp [q3, q4] at e
            | some r =>
              obtain ⟨z, ss'⟩ := r
              simp [q3, q4] at e
              obtain ⟨rfl, rfl⟩ := e
              refine hr σ H1 ρ1 B _ _ A1.sr q2 _ fun vs H2 A2 hav => ?_
              show spD K fm (.ref a :: (vs ++ [])) H2 Q E
              rw [List.append_nil]
              have hav' : ArsOk K B σ H2 ρ2 (.ref a :: vs) (.v d1 :: ars) := ⟨Rp.mono (A2.sub A1.sr) r1, hav⟩
              refine ⟨B, ss, z, ss', q4, (call_sr A2.sr hav' hl1 q3).1, fun v H3 A3 r3 => ?_⟩
              exact q v H3 ((A1.trans A2).trans (call_back A2.sr hav' hl1 q3 A3)) r3
        · cases e
    · cases e
theorem je_meth0 {C j : Nat} {m : Str} {fm : Fm} {x : Str} {o : Expr} {apos pos : Pos} {me : En → Option (D × En)} {pl : Env → Sem Bool} (T : ClsD c x C) (M : MeS c j C m fm) (hk : j ≤ c.k) (h : JE c N sc o me)
    (ht : ∀ env, eval (.Call (.Attribute o m apos) [] [] pos) env = (do
      let ov ← eval o env
      standAt apos.atName
      let (f, first) ← holding [ov] (getMethod ov m (pl env))
      callWith pos f first (backTo pos (starEach [] env)) (backToKw pos (keywordEach [] env))) := by intros; rfl) : JE c N sc (.Call (.Attribute o m apos) [] [] pos) (methK C m fm me gnil) := by
  obtain ⟨f, fd, ps, F, h1, h2⟩ := M
  obtain ⟨t, p1, s1⟩ := h
  refine ⟨tMeth C m (spD c.K fm) [] E0 t tNil, fun X I => ?_, sd_meth s1 (fun σ H ρ B ds ρ' S e Q q => by
    cases e
    exact q [] H (Af.refl S) trivial)⟩
  obtain ⟨a1, a2, a3, a4, a5, a6, a7, a8, a9, a10, a11⟩ := id I
  have F' : FnOk X.prog X.w X.K X.mg X.base CX0 j f fd ps (spD c.K fm) := by
    rw [a1, a2, a3, a4, a5]
    exact F
  exact pe_meth0 (p1 X I) (by rw [a3]; exact T.cl) (by rw [a3]; exact h1) F' (a6.mono hk) (by rw [a3]; exact h2) .nil pass0 (ht _)
end Dz

/-! Dz. P: constructors with defaults and keywords; a new list lent to a def. -/
namespace Dz
open PySem L2
variable {c : C0} {N : List Str} {sc : Scope}
theorem init_okD {x qual : Str} {st : Stmt} {dvs : List V} {kws : List (Str × V)} {f : Addr} {fd : FuncData} {ps : List Str} {k C : Nat} {m : Im} (F : FunD c.K x qual (defArgs st) (defBody st) (defScope st) dvs kws f fd) (S : FnScope N ps (defScope st)) (h : JIn { c with k := k, top := true } N (defScope st) C (defBody st) m) :
    FnOk c.P c.w c.K c.mg c.base CX0 (k + 1) f fd ps (fun vs H Q E => vs.length = ps.length ∧ spI c.K C N.length m vs H Q E) := by
  refine F.ok S (fun vs H Q E h => h.1) (fun cdv A outer s H vs Q E hr h' => ?_)
  obtain ⟨hl, x, dx, us, ds, fs, ρ', B, rfl, h1, h2, h3, h4, h5, h6, h7⟩ := h'
  obtain ⟨t, t1, t2⟩ := h
  have q : PSs (cxOf CX0 c.P c.w c.K c.mg c.base N qual (defScope st) f cdv A outer s H E).nox (defBody st) t := t1 _ ⟨rfl, rfl, rfl, rfl, rfl, hr, rfl, rfl, rfl, fun _ => rfl, PassesOwn.never⟩
  refine ⟨t, q.nox, ?_⟩
  obtain ⟨s1, s2⟩ := init_sr (x := x) h4 h3 h5
  have es : L2.start N (.ref x :: us) = (V.ref x :: us).map some ++ List.replicate (N.length - (us.length + 1)) none := by
    unfold L2.start
    rfl
  rw [es]
  exact t2 _ H _ B x dx [] [] _ _ s1 s2 rfl h2 h1 .nil h6 _ fun H' gs' _ hx hf kp => h7 H' gs' hx hf kp
/-- all parameters are given, the last ones by keyword, in the parameters' order -/
theorem kb_full {K : Frag} {x qual : Str} {params : Arguments} {body : List Stmt} {scope : Scope} {dvs : List V} {kws : List (Str × V)} {f : Addr} {fd : FuncData} {ps : List Str} (F : FunD K x qual params body scope dvs kws f fd) (n : Nat) (ks : List Str) (hd : dvs ≠ [])
    (h : ∀ (T : Addr) (kV doc pm : Value) (an : Option Addr) (cdv ct : Value) (us its ws : List Value), us.length = n → its.length = dvs.length → ws.length = ks.length →
      ∃ k, bindArgs (PySem.W.fnOf x qual params body scope (.ref T) kV doc pm an cdv ct) ⟨us, ks.zip ws⟩ = seqItems? (.ref T) >>= k ∧ k (some its.toArray) = pure (ps.zip (us ++ ws))) : KBn K fd ps n ks (fun us ws => us ++ ws) (fun vs zs => vs ++ zs) := by
  obtain ⟨oc, od, dV, kV, doc, pm, an, cdv, ct, osl, rfl, lk, hcd, hD, hK⟩ := F.ex
  rcases hD with ⟨e, _⟩ | ⟨_, T, o, its, m, rfl, lT, oT, rT⟩
  · exact absurd e hd
  · refine ⟨fun s us ws X l1 l2 => ?_, fun r1 r2 => r1.append r2⟩
    obtain ⟨k, e1, e2⟩ := h T kV doc pm an cdv ct us its ws l1 rT.length.symm l2
    refine BindsTo.of_looks fun M => ?_
    rw [e1]
    exact looks_items X lT oT (.of_pure e2)
/-- values given by keyword -/
def JKw (c : C0) (N : List Str) (sc : Scope) (es : List Keyword) (m : En → Option (List D × En)) : Prop := ∃ t, (∀ X, In c N sc X → PK X es t) ∧ SA c.K t m
theorem jkw_nil : JKw c N sc [] nilK := ⟨_, fun _ _ => pk_nil, fun σ H ρ B ds ρ' S e Q q => by
  cases e
  exact q [] H (Af.refl S) .nil⟩
theorem sa_cons {K : Frag} {te : TE} {t : TA} {ma : En → Option (D × En)} {mr : En → Option (List D × En)} (h : Sd K te ma) (hr : SA K t mr) : SA K (tCons te t) (consK ma mr) := fun σ H ρ B ds ρ' S e Q q => by
  unfold consK at e
  cases q1 : ma ρ with
  | none => simp [q1] at e
  | some p =>
    obtain ⟨d, ρ1⟩ := p
    cases q2 : mr ρ1 with
    | none => simp [q1, q2] at e
    | some p2 =>
      obtain ⟨ds2, ρ2⟩ := p2
      simp [q1, q2] at e
      obtain ⟨rfl, rfl⟩ := e
      refine h σ H ρ B _ _ S q1 _ fun v H1 A1 r1 => ?_
      refine hr σ H1 ρ1 B _ _ A1.sr q2 _ fun vs H2 A2 r2 => ?_
      exact q (v :: vs) H2 (A1.trans A2) (.cons (r1.mono (A2.sub A1.sr)) r2)
theorem jkw_cons {nm : Option Str} {e : Expr} {kpos : Pos} {kws : List Keyword} {ma : En → Option (D × En)} {mr : En → Option (List D × En)} (h : JE c N sc e ma) (k : JKw c N sc kws mr) : JKw c N sc (⟨nm, e, kpos⟩ :: kws) (consK ma mr) := by
  obtain ⟨t, h1, h2⟩ := h
  obtain ⟨u, k1, k2⟩ := k
  exact ⟨tCons t u, fun X I => pk_cons (h1 X I) (k1 X I), sa_cons h2 k2⟩
/-- two rows of values, one behind the other -/
def catK (ma mb : En → Option (List D × En)) : En → Option (List D × En) := fun ρ => (ma ρ).bind fun p => (mb p.2).map fun q => (p.1 ++ q.1, q.2)
def tCat (p kl : Nat) (t u : TA) : TA := fun σ H Q => t σ H fun vs H1 => u σ H1 fun ws H2 => vs.length = p ∧ ws.length = kl ∧ Q (vs ++ ws) H2
theorem sa_cat {K : Frag} {p kl : Nat} {t u : TA} {ma mb : En → Option (List D × En)} (h : SA K t ma) (k : SA K u mb) (lp : ∀ ρ z, ma ρ = some z → z.1.length = p) (lk : ∀ ρ z, mb ρ = some z → z.1.length = kl) : SA K (tCat p kl t u) (catK ma mb) := fun σ H ρ B ds ρ' S e Q q => by
  unfold catK at e
  cases q1 : ma ρ with
  | none => simp [q1] at e
  | some p =>
    obtain ⟨d, ρ1⟩ := p
    cases q2 : mb ρ1 with
    | none => simp [q1, q2] at e
    | some p2 =>
      obtain ⟨ds2, ρ2⟩ := p2
      simp [q1, q2] at e
      obtain ⟨rfl, rfl⟩ := e
      refine h σ H ρ B _ _ S q1 _ fun v H1 A1 r1 => ?_
      refine k σ H1 ρ1 B _ _ A1.sr q2 _ fun vs H2 A2 r2 => ?_
      exact ⟨by rw [r1.length]; exact lp _ _ q1, by rw [r2.length]; exact lk _ _ q2, q (v ++ vs) H2 (A1.trans A2) ((RpL.mono (A2.sub A1.sr) r1).append r2)⟩
/-- C(e, .., k = v, ..): n values, then the keywords ks -/
def MkN (c : C0) (k : Nat) (x : Str) (C n p : Nat) (ks : List Str) (m : Im) : Prop :=
  ∃ (f : Addr) (fd : FuncData) (ps : List Str), Mk c.K C f ∧ FnOk c.P c.w c.K c.mg c.base CX0 k f fd ps (fun vs H Q E => vs.length = ps.length ∧ spI c.K C n m vs H Q E) ∧ c.mg x = some (.ref C) ∧ KBn c.K fd ps (p + 1) ks (fun us ws => us ++ ws) (fun vs zs => vs ++ zs) ∧ ps.length = p + ks.length + 1 ∧ ps.length ≤ n
theorem sd_mkN {K : Frag} {C n p kl np : Nat} {m : Im} {t tk : TA} {ma mk : En → Option (List D × En)} {E : XK} (h : SA K t ma) (hk : SA K tk mk) (lp : ∀ ρ z, ma ρ = some z → z.1.length = p) (lk : ∀ ρ z, mk ρ = some z → z.1.length = kl) (hp : np = p + kl + 1) (hn : np ≤ n) :
    Sd K (tMakeN C p kl (fun vs H Q E => vs.length = np ∧ spI K C n m vs H Q E) (fun vs zs => vs ++ zs) E t tk) (mkK C n (p + kl) [] m (catK ma mk)) := fun σ H ρ B d ρ' S e Q q => by
  have h0 := sd_mk (np := np) (n := n) (p := p + kl) (ds := []) (dvs := []) (C := C) (m := m) (E := E) (sa_cat h hk lp lk) (fun _ => .nil) (by simp; omega) hn σ H ρ B d ρ' S e Q q
  unfold tMake tCat at h0
  simp only [List.append_nil] at h0
  exact h0
theorem len_nil : ∀ (ρ : En) z, nilK ρ = some z → z.1.length = 0 := fun ρ z e => by
  cases e
  rfl
theorem len_cons {p : Nat} {ma : En → Option (D × En)} {mr : En → Option (List D × En)} (h : ∀ (ρ : En) z, mr ρ = some z → z.1.length = p) : ∀ (ρ : En) z, consK ma mr ρ = some z → z.1.length = p + 1 := fun ρ z e => by
  unfold consK at e
  cases q1 : ma ρ with
  | none => simp [q1] at e
  | some w =>
    cases q2 : mr w.2 with
    | none => simp [q1, q2] at e
    | some u =>
      simp [q1, q2] at e
      rw [← e]
      simp [h _ _ q2]
theorem je_mkN {C n p j : Nat} {m : Im} {x : Str} {ks : List Str} {e : Expr} {es : List Expr} {kws : List Keyword} {q pos : Pos} {ma mk : En → Option (List D × En)} (M : MkN c j x C n p ks m) (hk : j + 1 ≤ c.k) (hg : sc.names.lookup x = some .globalImplicit) (ha : JL c N sc (e :: es) ma) (hw : JKw c N sc kws mk)
    (lp : ∀ (ρ : En) z, ma ρ = some z → z.1.length = p) (lk : ∀ (ρ : En) z, mk ρ = some z → z.1.length = ks.length)
    (hall : ∀ env, (backToKw pos (keywordEach kws env)).all (·.1.isSome) = true := by intros; rfl) (hks : ∀ env, (backToKw pos (keywordEach kws env)).filterMap (·.1) = ks := by intros; rfl)
    (hdb : (x == ("__debug__" : Str)) = false := by decide) (he : ∀ env, starEach (e :: es) env = (false, eval e env) :: starEach es env := by intros; rfl)
    (hpl : ∀ env, ((backTo pos (starEach (e :: es) env)).any (·.1) || (backToKw pos (keywordEach kws env)).any (·.1.isNone)) = false := by intros; rfl) :
    JE c N sc (.Call (.Name x q) (e :: es) kws pos) (mkK C n (p + ks.length) [] m (catK ma mk)) := by
  obtain ⟨f, fd, ps, M, F, hm, hb, hp, hn⟩ := M
  obtain ⟨t, p1, s1⟩ := ha
  obtain ⟨u, p2, s2⟩ := hw
  refine ⟨tMakeN C p ks.length (fun vs H Q E => vs.length = ps.length ∧ spI c.K C n m vs H Q E) (fun vs zs => vs ++ zs) E0 t u, fun X I => ?_, sd_mkN s1 s2 lp lk hp hn⟩
  obtain ⟨a1, a2, a3, a4, a5, a6, a7, a8, a9, a10, a11⟩ := id I
  have F' : FnOk X.prog X.w X.K X.mg X.base CX0 j f fd ps (fun vs H Q E => vs.length = ps.length ∧ spI c.K C n m vs H Q E) := by
    rw [a1, a2, a3, a4, a5]
    exact F
  exact pe_makeN (by rw [a3]; exact M) F' (a6.mono hk) (I.gl hg) (by rw [a4]; exact hm) (by rw [a3]; exact hb) pass0 (p1 X I) (p2 X I) (hall _) (hks _) hdb (he _) (hpl _)
/-! ### f(e, .., a new list): the new list is lent -/
def SLF (K : Frag) (t : TA) (m : En → Option ((List D × D) × En)) : Prop :=
  ∀ σ H ρ B ds df ρ', SR K B σ H ρ → m ρ = some ((ds, df), ρ') → ∀ Q : List V → Hp → Prop, (∀ vs l H', Af K B σ H ρ H' ρ' → SR K (ins l B) σ H' ρ' → H l = none → RpL K (hide (ins l B) H') vs ds → OwnAt K (hide (ins l B) H') (H' l) df → Q (vs ++ [.ref l]) H') → t σ H Q
def JLF (c : C0) (N : List Str) (sc : Scope) (es : List Expr) (m : En → Option ((List D × D) × En)) : Prop := ∃ t, (∀ X, In c N sc X → PA X es t) ∧ SLF c.K t m
def oneF (m : En → Option (D × En)) : En → Option ((List D × D) × En) := fun ρ => (m ρ).map fun p => (([], p.1), p.2)
def consF (me : En → Option (D × En)) (mr : En → Option ((List D × D) × En)) : En → Option ((List D × D) × En) := fun ρ => (me ρ).bind fun p => (mr p.2).map fun q => ((p.1 :: q.1.1, q.1.2), q.2)
theorem jlf_one {e : Expr} {m : En → Option (D × En)} (h : JF c N sc e m) (hs : ∀ env, starEach [e] env = (false, eval e env) :: starEach [] env := by intros; rfl) : JLF c N sc [e] (oneF m) := by
  obtain ⟨t, h1, h2⟩ := h
  refine ⟨tCons t tNil, fun X I => pa_cons (h1 X I) pa_nil (hs _), fun σ H ρ B ds df ρ' S e Q q => ?_⟩
  unfold oneF at e
  cases q1 : m ρ with
  | none => simp [q1] at e
  | some p =>
    obtain ⟨d, ρ1⟩ := p
    simp [q1] at e
    obtain ⟨⟨rfl, rfl⟩, rfl⟩ := e
    exact h2 σ H ρ B _ _ S q1 _ fun l H1 A s1 hl ho => q [] l H1 A s1 hl .nil ho
theorem jlf_cons {e : Expr} {es : List Expr} {me : En → Option (D × En)} {mr : En → Option ((List D × D) × En)} (h : JE c N sc e me) (k : JLF c N sc es mr) (hs : ∀ env, starEach (e :: es) env = (false, eval e env) :: starEach es env := by intros; rfl) : JLF c N sc (e :: es) (consF me mr) := by
  obtain ⟨t, h1, h2⟩ := h
  obtain ⟨u, k1, k2⟩ := k
  refine ⟨tCons t u, fun X I => pa_cons (h1 X I) (k1 X I) (hs _), fun σ H ρ B ds df ρ' S e Q q => ?_⟩
  unfold consF at e
  cases q1 : me ρ with
  | none => simp [q1] at e
  | some p =>
    obtain ⟨d, ρ1⟩ := p
    cases q2 : mr ρ1 with
    | none => simp [q1, q2] at e
    | some p2 =>
      obtain ⟨⟨ds2, df2⟩, ρ2⟩ := p2
      simp [q1, q2] at e
      obtain ⟨⟨rfl, rfl⟩, rfl⟩ := e
      refine h2 σ H ρ B _ _ S q1 _ fun v H1 A1 r1 => ?_
      refine k2 σ H1 ρ1 B _ _ _ A1.sr q2 _ fun vs l H2 A2 s2 hl r2 ho => ?_
      have hl0 : H l = none := by
        cases z0 : H l with
        | none => rfl
        | some o =>
          obtain ⟨o1, z1⟩ := A1.grow l o z0
          rw [hl] at z1
          cases z1
      exact q (v :: vs) l H2 (A1.trans A2) s2 hl0 (.cons (r1.mono (sub_ins hl (A2.sub A1.sr))) r2) ho
def callFK (fm : Fm) (m : En → Option ((List D × D) × En)) : En → Option (D × En) := fun ρ => (m ρ).bind fun p => (fm (p.1.1.map Sl.val ++ [.bor p.1.2])).map fun r => (r.1, p.2)
theorem sd_callF {K : Frag} {fm : Fm} {t : TA} {m : En → Option ((List D × D) × En)} {E : XK} (h : SLF K t m) : Sd K (tCall (spD K fm) [] E t) (callFK fm m) := fun σ H ρ B d ρ' S e Q q => by
  unfold callFK at e
  cases q1 : m ρ with
  | none => simp [q1] at e
  | some p =>
    obtain ⟨⟨ds, df⟩, ρ1⟩ := p
    simp only [q1, Option.bind_some] at e
    cases q2 : fm (ds.map Sl.val ++ [.bor df]) with
    | none => simp [q2] at e
    | some r =>
      obtain ⟨z, as'⟩ := r
      simp [q2] at e
      obtain ⟨rfl, rfl⟩ := e
      refine h σ H ρ B _ _ _ S q1 _ fun vs l H1 A s1 hl r1 ho => ?_
      show spD K fm ((vs ++ [.ref l]) ++ []) H1 Q E
      rw [List.append_nil]
      have rl := r1.length
      have key : ∀ (i : Nat) (s : Sl), ((ds.map Sl.val ++ [Sl.bor df]).map some)[i]? = some (some s) → (i < ds.length ∧ ∃ d v, s = .val d ∧ ((vs ++ [V.ref l]).map some)[i]? = some (some v) ∧ Rp K (hide (ins l B) H1) v d) ∨ (i = ds.length ∧ s = .bor df ∧ ((vs ++ [V.ref l]).map some)[i]? = some (some (.ref l))) := by
        intro i s e
        rw [List.getElem?_map] at e
        rcases Nat.lt_trichotomy i ds.length with hi | hi | hi
        · rw [List.getElem?_append_left (by simpa using hi), List.getElem?_map, List.getElem?_eq_getElem hi] at e
          simp at e
          obtain ⟨v, h1, h2⟩ := r1.get' (List.getElem?_eq_getElem hi)
          refine .inl ⟨hi, _, v, e.symm, ?_, h2⟩
          rw [List.getElem?_map, List.getElem?_append_left (by rw [rl]; exact hi), h1]
          rfl
        · subst hi
          rw [List.getElem?_append_right (by simp)] at e
          simp at e
          refine .inr ⟨rfl, e.symm, ?_⟩
          rw [List.getElem?_map, List.getElem?_append_right (by omega)]
          simp [rl]
        · rw [List.getElem?_append_right (by simp; omega)] at e
          have : (List.map Sl.val ds).length < i := by simpa using hi
          rw [List.getElem?_eq_none (by simp; omega)] at e
          cases e
      refine ⟨ins l B, ds.map Sl.val ++ [.bor df], z, as', q2, ⟨by simp [rl], fun i d e => ?_, fun i s e mu => ?_, fun i j s t l' e1 m1 e2 m2 e3 e4 => ?_, s1.bk⟩, fun v H2 A2 r2 => ?_⟩
      · rcases key i _ e with ⟨_, d', v, e1, e2, e3⟩ | ⟨_, e1, _⟩
        · cases e1
          exact ⟨v, e2, e3⟩
        · cases e1
      · rcases key i _ e with ⟨_, d', v, e1, e2, e3⟩ | ⟨_, e1, e2⟩
        · subst e1
          cases mu
        · subst e1
          exact ⟨l, e2, by unfold Dz.ins; simp, ho⟩
      · rcases key i _ e1 with ⟨_, d', v, k1, _⟩ | ⟨k1, _, _⟩
        · subst k1
          cases m1
        · rcases key j _ e2 with ⟨_, d', v, k2, _⟩ | ⟨k2, _, _⟩
          · subst k2
            cases m2
          · rw [k1, k2]
      · have nl : ∀ b o, H b = some o → b ≠ l := fun b o e => ne_of_none e hl
        have nm : ∀ b, Mine ((vs ++ [V.ref l]).map some) ((ds.map Sl.val ++ [Sl.bor df]).map some) b → b = l := fun b ⟨i, s, e1, m1, e2⟩ => by
          rcases key i _ e1 with ⟨_, d', v, k1, _⟩ | ⟨_, _, k2⟩
          · subst k1
            cases m1
          · rw [k2] at e2
            cases e2
            rfl
        have sub2 : ∀ b o, H1 b = some o → b ≠ l → H2 b = some o := fun b o e n => A2.keep b o e fun m => n (nm b m)
        have ml : ∀ b, Mine σ ρ1 b → b ≠ l := fun b m e => by
          subst e
          have := S.mine (A.kin.mine.mp m)
          rw [S.fresh hl] at this
          cases this
        have hh : Sub (hide B H1) (hide B H2) ∨ True := .inr trivial
        have sb : Sub (hide (ins l B) H1) (hide B H2) := fun b o e => by
          obtain ⟨e1, e2⟩ := hide_some e
          unfold Dz.ins at e1
          simp at e1
          exact hide_of e1.2 (sub2 b o e2 e1.1)
        have sr2 : SR K B σ H2 ρ1 := by
          refine ⟨s1.len, fun i d e => ?_, fun i s e mu => ?_, s1.inj, fun a e => ?_⟩
          · obtain ⟨v, g1, g2⟩ := s1.val i d e
            exact ⟨v, g1, g2.mono sb⟩
          · obtain ⟨l', g1, g2, g3⟩ := A.sr.mu_ i s e mu
            obtain ⟨l'', k1, k2, k3⟩ := s1.mu_ i s e mu
            rw [g1] at k1
            cases k1
            refine ⟨l', g1, g2, ?_⟩
            obtain ⟨u, w⟩ := k3.ne
            have n' : l' ≠ l := ml l' ⟨i, s, e, mu, g1⟩
            rw [sub2 l' u w n']
            rw [w] at k3
            exact k3.mono sb
          · obtain ⟨o, w⟩ := A.sr.bk a e
            by_cases y : a = l
            · subst y
              rw [S.fresh hl] at e
              cases e
            · exact ⟨o, sub2 a o w y⟩
        refine q v H2 ⟨sr2, fun b o e n => sub2 b o (A.keep b o e n) (nl b o e), fun b o e => ?_, A.kin⟩ (r2.mono ins_sub)
        obtain ⟨o1, w1⟩ := A.grow b o e
        exact A2.grow b o1 w1
theorem je_callF {fm : Fm} {x : Str} {ps : List Str} {k : Nat} {e : Expr} {es : List Expr} {p pos : Pos} {m : En → Option ((List D × D) × En)} (F : FnD c k x ps fm) (hk : k ≤ c.k) (hg : sc.names.lookup x = some .globalImplicit) (ha : JLF c N sc (e :: es) m)
    (hdb : (x == ("__debug__" : Str)) = false := by decide) (he : ∀ env, starEach (e :: es) env = (false, eval e env) :: starEach es env := by intros; rfl) (hpl : ∀ env, (backTo pos (starEach es env)).any (·.1) = false := by intros; rfl) :
    JE c N sc (.Call (.Name x p) (e :: es) [] pos) (callFK fm m) := by
  obtain ⟨f, fd, F, h1, h2, h3⟩ := F
  obtain ⟨t, p1, s1⟩ := ha
  refine ⟨tCall (spD c.K fm) [] E0 t, fun X I => ?_, sd_callF s1⟩
  obtain ⟨a1, a2, a3, a4, a5, a6, a7, a8, a9, a10, a11⟩ := id I
  have F' : FnOk X.prog X.w X.K X.mg X.base CX0 k f fd ps (spD c.K fm) := by
    rw [a1, a2, a3, a4, a5]
    exact F
  exact pe_call F' (a6.mono hk) (I.gl hg) (by rw [a4]; exact h1) (by rw [a3]; exact h2) (by rw [a3]; exact h3) .nil pass0 (p1 X I) hdb (he _) (hpl _)
end Dz

/-! Dz. Q: classes of the text as they stand behind the top. -/
namespace Dz
open PySem L2
theorem ClsD.to {c c' : C0} {x : Str} {C : Nat} (T : ClsD c x C) (h1 : c'.K = c.K := by rfl) (h2 : c'.mg = c.mg := by rfl) : ClsD c' x C := by
  obtain ⟨a1, a2, a3, a4, a5, a6, a7, a8, a9, a10, a11, a12, a13, a14, a15⟩ := T
  exact ⟨by rw [h2]; exact a1, by rw [h1]; exact a2, by rw [h1]; exact a3, by rw [h1]; exact a4, by rw [h1]; exact a5, by rw [h1]; exact a6, by rw [h1]; exact a7, by rw [h1]; exact a8, by rw [h1]; exact a9, by rw [h1]; exact a10, by rw [h1]; exact a11, by rw [h1]; exact a12, by rw [h1]; exact a13, by rw [h1]; exact a14, by rw [h1]; exact a15⟩
/-- __init__ without defaults -/
def MkAt (c : C0) (q x : Str) (C : Nat) (st : Stmt) (ps : List Str) : Prop := ∃ f fd, Fun c.K "__init__" q st f fd ∧ Mk c.K C f ∧ Binds c.K fd ps []
theorem MkAt.mk {c : C0} {q x : Str} {C k p : Nat} {st : Stmt} {N ps : List Str} {m : Im} (A : MkAt c q x C st ps) (T : ClsD c x C) (S : FnScope N ps (defScope st)) (h : JIn { c with k := k, top := true } N (defScope st) C (defBody st) m) (hp : ps.length = p + 1 := by rfl) (hn : ps.length ≤ N.length := by decide) : MkD c (k + 1) x C N.length p [] m := by
  obtain ⟨f, fd, F, M, b⟩ := A
  exact ⟨f, fd, ps, [], [], M, init_ok F S h, T.mg, b, .nil, fun _ => .nil, by simpa using hp, hn⟩
/-- .. with defaults: dvs; the last parameters also by keyword ks -/
def MkAtD (c : C0) (q x : Str) (C : Nat) (st : Stmt) (ps : List Str) (dvs : List V) (ks : List Str) (n : Nat) : Prop := ∃ f fd kws, FunD c.K "__init__" q (defArgs st) (defBody st) (defScope st) dvs kws f fd ∧ Mk c.K C f ∧ Binds c.K fd ps [] ∧ (∃ ds, Vals dvs ds ∧ Binds c.K fd ps ds) ∧ KBn c.K fd ps n ks (fun us ws => us ++ ws) (fun vs zs => vs ++ zs)
section
variable {c : C0} {q x : Str} {C k p n : Nat} {st : Stmt} {N ps ks : List Str} {m : Im} {dvs : List V} {ds : List D}
theorem MkAtD.mk (A : MkAtD c q x C st ps dvs ks n) (T : ClsD c x C) (S : FnScope N ps (defScope st)) (h : JIn { c with k := k, top := true } N (defScope st) C (defBody st) m) (hp : ps.length = p + 1 := by rfl) (hn : ps.length ≤ N.length := by decide) : MkD c (k + 1) x C N.length p [] m := by
  obtain ⟨f, fd, kws, F, M, b, _, _⟩ := A
  exact ⟨f, fd, ps, [], [], M, init_okD F S h, T.mg, b, .nil, fun _ => .nil, by simpa using hp, hn⟩
theorem MkAtD.mkd (A : MkAtD c q x C st ps dvs ks n) (T : ClsD c x C) (S : FnScope N ps (defScope st)) (h : JIn { c with k := k, top := true } N (defScope st) C (defBody st) m) (hd : ∀ H, RpL c.K H dvs ds) (hp : ps.length = p + 1 + ds.length := by rfl) (hn : ps.length ≤ N.length := by decide) : MkD c (k + 1) x C N.length p ds m := by
  obtain ⟨f, fd, kws, F, M, _, ⟨dV, r, b⟩, _⟩ := A
  exact ⟨f, fd, ps, dV, dvs, M, init_okD F S h, T.mg, b, r, hd, hp, hn⟩
theorem MkAtD.mkn (A : MkAtD c q x C st ps dvs ks (p + 1)) (T : ClsD c x C) (S : FnScope N ps (defScope st)) (h : JIn { c with k := k, top := true } N (defScope st) C (defBody st) m) (hp : ps.length = p + ks.length + 1 := by rfl) (hn : ps.length ≤ N.length := by decide) : MkN c (k + 1) x C N.length p ks m := by
  obtain ⟨f, fd, kws, F, M, _, _, b⟩ := A
  exact ⟨f, fd, ps, M, init_okD F S h, T.mg, b, hp, hn⟩
end
/-- the class's own == -/
def EqAt (c : C0) (q : Str) (C : Nat) (st : Stmt) (ps : List Str) : Prop := ∃ f fd, Fun c.K "__eq__" q st f fd ∧ PySem.W.findIn c.K (.ref C) "__eq__" = some (some (.ref f)) ∧ PySem.W.isFn c.K (.ref f) = true ∧ Binds c.K fd ps []
theorem EqAt.eq {c : C0} {q : Str} {C k : Nat} {st : Stmt} {N ps : List Str} {m : En → Option SO} (A : EqAt c q C st ps) (S : FnScope N ps (defScope st)) (h : JB { c with k := k, top := true } N (defScope st) (defBody st) m) (hn : ps.length ≤ N.length := by decide) : EqD c (k + 1) C (runF ps.length N.length m) := by
  obtain ⟨f, fd, F, h1, h2, b⟩ := A
  exact ⟨f, fd, ps, fn_ok F S h hn, h1, h2, b⟩
/-- a method -/
def MeAt (c : C0) (m q : Str) (C : Nat) (st : Stmt) (ps : List Str) : Prop := ∃ f fd, Fun c.K m q st f fd ∧ Meth c.K C m f ∧ Binds c.K fd ps []
theorem MeAt.me {c : C0} {nm q : Str} {C k : Nat} {st : Stmt} {N ps : List Str} {m : En → Option SO} (A : MeAt c nm q C st ps) (S : FnScope N ps (defScope st)) (h : JB { c with k := k, top := true } N (defScope st) (defBody st) m) (hn : ps.length ≤ N.length := by decide) : MeS c (k + 1) C nm (runF ps.length N.length m) := by
  obtain ⟨f, fd, F, h1, b⟩ := A
  exact ⟨f, fd, ps, fn_ok F S h hn, h1, b⟩
/-! xs[::-1] -/
def revK (m : En → Option (D × En)) : En → Option (D × En) := fun ρ => match m ρ with
  | some (.list ds, ρ') => some (.list ds.reverse, ρ')
  | _ => none
theorem je_revL {c : C0} {N : List Str} {sc : Scope} {e : Expr} {k : Nat} {p1 p2 p3 pos : Pos} {m : En → Option (D × En)} (h : JE c N sc e m) : JE c N sc (.Subscript e (.Slice none none (some (.UnaryOp .USub (.Constant (.int 1) k p1) p2)) p3) pos) (revK m) := by
  obtain ⟨t, h1, h2⟩ := h
  refine ⟨tRevL c.K t, fun X I => ?_, fun σ H ρ B d ρ' S e Q q => ?_⟩
  · have z := pe_revL (k := k) (p1 := p1) (p2 := p2) (p3 := p3) (pos := pos) (h1 X I)
    rw [I.K] at z
    exact z
  · unfold revK at e
    split at e
    · rename_i ds ρ1 he
      cases e
      refine h2 σ H ρ B _ _ S he _ fun v H1 A r => ?_
      cases r with
      | lst hs rr =>
        refine ⟨_, _, rfl, sub_l (hide_sub B H1) hs, fun p hp => ?_⟩
        obtain ⟨s1, r2⟩ := lst_new A.sr.bk hp rr.rev
        exact q _ _ (A.trans (Af.of_sub A.sr s1)) r2
    · cases e
theorem kit_self {K : Frag} {C : Addr} : PySem.W.kitOne K (.ref C) (.ref C) = some true := if_pos (beq_self_eq_true _)
theorem kit_other {K : Frag} {C : Addr} {T : String} (h1 : PySem.W.isClsIn K C = true) (h2 : PySem.W.typeIn K (.ref C) = some (.type "type")) (h3 : PySem.W.notFirst K C (.type T) = true) : PySem.W.kitOne K (.type T) (.ref C) = some false := by
  have ne : (Value.type T == Value.ref C) = false := by
    cases z : (Value.type T == Value.ref C) with
    | false => rfl
    | true => exact nomatch (eq_of_beq z)
  unfold PySem.W.notFirst at h3
  rw [ne, Bool.false_or] at h3
  unfold PySem.W.kitOne
  rw [if_neg (by rw [ne]; exact Bool.false_ne_true)]
  show (if ((PySem.W.clsIn K C).isSome && PySem.W.typeIn K (.ref C) == some (.type "type")) = true then PySem.W.subIn K (.type T) (.ref C) else none) = some false
  rw [if_pos]
  · exact eq_of_beq h3
  · rw [h2, show (PySem.W.clsIn K C).isSome = true from h1]
    rfl
end Dz

/-! Dz. R: rules of the plain law over instances. -/
namespace Dz
open PySem L2
section
variable {ρ ρ' : En} {Q : D → En → Prop} {QL : List D → En → Prop} {ma mb : En → Option (D × En)} {ml mk : En → Option (List D × En)} {C : Nat} {f : Str} {d : D} {fs : List (D × D)} {fm : Fm} {m : Im}
theorem wp_fld (h : wp ma ρ fun d ρ1 => ∃ fs z, d = oD C fs ∧ lookF f fs = some z ∧ Q z ρ1) : wp (fldK C f ma) ρ Q := by
  obtain ⟨d, r1, e1, fs, z, rfl, e2, q⟩ := h
  refine ⟨z, r1, ?_, q⟩
  unfold fldK
  rw [e1]
  show (if Int.ofNat C = Int.ofNat C then (lookF f fs).map fun d => (d, r1) else none) = _
  rw [if_pos rfl, e2]
  rfl
theorem wp_rev (h : wp ma ρ fun d ρ1 => tl d fun ds => Q (.list ds.reverse) ρ1) : wp (revK ma) ρ Q := by
  obtain ⟨d, r1, e1, ds, rfl, q⟩ := h
  exact ⟨_, r1, by unfold revK; rw [e1], q⟩
def inw (m : Im) (acc : List (D × D)) (ρ : En) (R : List (D × D) → Prop) : Prop := ∃ fs ρ', m acc ρ = some (fs, ρ') ∧ R fs
theorem inw_nil {acc : List (D × D)} {R : List (D × D) → Prop} (h : R acc) : inw iniNil acc ρ R := ⟨acc, ρ, rfl, h⟩
theorem inw_cons {acc : List (D × D)} {mr : Im} {R : List (D × D) → Prop} (hl : lookF f acc = none ∧ acc.length < 900) (h : wp ma ρ fun d ρ1 => inw mr (acc ++ [(.str f, d)]) ρ1 R) : inw (iniCons f ma mr) acc ρ R := by
  obtain ⟨d, r1, e1, fs, r2, e2, q⟩ := h
  refine ⟨fs, r2, ?_, q⟩
  unfold iniCons
  simp only [e1, Option.bind_some]
  rw [if_pos hl, e2]
theorem wp_mk {n p : Nat} {ds : List D} (h : wp ml ρ fun es ρ1 => es.length = p ∧ inw m [] (none :: ((es ++ ds).map (fun d => some (Sl.val d)) ++ List.replicate (n - 1 - (es ++ ds).length) none)) fun fs => Q (oD C fs) ρ1) : wp (mkK C n p ds m ml) ρ Q := by
  obtain ⟨es, r1, e1, l, fs, r2, e2, q⟩ := h
  refine ⟨_, r1, ?_, q⟩
  unfold mkK
  simp only [e1, Option.bind_some]
  rw [if_pos l, e2]
  rfl
theorem wp_cat (h : wp ml ρ fun ds ρ1 => wp mk ρ1 fun es ρ2 => QL (ds ++ es) ρ2) : wp (catK ml mk) ρ QL := by
  obtain ⟨ds, r1, e1, es, r2, e2, q⟩ := h
  exact ⟨_, r2, by unfold catK; simp [e1, e2], q⟩
theorem isOb_self {C : Nat} {fs : List (D × D)} : isOb C (oD C fs) = true := by
  unfold isOb oD
  simp
theorem isiCB_ob {C : Nat} {fs : List (D × D)} : isiCB C (oD C fs) = some true := by
  have h := isOb_self (C := C) (fs := fs)
  unfold oD at *
  simp only [isiCB]
  rw [if_pos h]
theorem wp_isiC (h : wp ma ρ fun d ρ1 => oq (isiCB C d) fun z => Q (.bool z) ρ1) : wp (isiCK C ma) ρ Q := by
  obtain ⟨x, r1, e1, z, e2, q⟩ := h
  exact ⟨_, r1, by unfold isiCK; simp [e1, e2], q⟩
theorem oq_isiC_ob {Q : Bool → Prop} (h : Q true) : oq (isiCB C (oD C fs)) Q := ⟨true, isiCB_ob, h⟩
theorem oq_isiC_t {ds : List D} {Q : Bool → Prop} (h : Q false) : oq (isiCB C (.tuple ds)) Q := ⟨false, rfl, h⟩
theorem oq_isiC_l {ds : List D} {Q : Bool → Prop} (h : Q false) : oq (isiCB C (.list ds)) Q := ⟨false, rfl, h⟩
theorem oq_eqI {gs : List (D × D)} {Q : D → Prop} (h : fwp fm [.val (oD C fs), .val (oD C gs)] fun d _ => tb d fun b => Q (.bool b)) : oq (dEqI C fm (oD C fs) (oD C gs)) Q := by
  obtain ⟨d, as, e, b, rfl, q⟩ := h
  refine ⟨_, ?_, q⟩
  unfold dEqI
  rw [if_pos ⟨isOb_self, .inl isOb_self⟩, e]
  rfl
theorem oq_eqI_t {es : List D} {Q : D → Prop} (h : fwp fm [.val (oD C fs), .val (.tuple es)] fun d _ => tb d fun b => Q (.bool b)) : oq (dEqI C fm (oD C fs) (.tuple es)) Q := by
  obtain ⟨d, as, e, b, rfl, q⟩ := h
  refine ⟨_, ?_, q⟩
  unfold dEqI
  rw [if_pos ⟨isOb_self, .inr rfl⟩, e]
  rfl
theorem oq_eqI_l {es : List D} {Q : D → Prop} (h : fwp fm [.val (oD C fs), .val (.list es)] fun d _ => tb d fun b => Q (.bool b)) : oq (dEqI C fm (oD C fs) (.list es)) Q := by
  obtain ⟨d, as, e, b, rfl, q⟩ := h
  refine ⟨_, ?_, q⟩
  unfold dEqI
  rw [if_pos ⟨isOb_self, .inr rfl⟩, e]
  rfl
theorem wp_oneF {QF : List D × D → En → Prop} (h : wp ma ρ fun d ρ1 => QF ([], d) ρ1) : wp (oneF ma) ρ QF := by
  obtain ⟨d, r1, e1, q⟩ := h
  exact ⟨_, r1, by unfold oneF; rw [e1]; rfl, q⟩
theorem wp_consF {mr : En → Option ((List D × D) × En)} {QF : List D × D → En → Prop} (h : wp ma ρ fun d ρ1 => wp mr ρ1 fun p ρ2 => QF (d :: p.1, p.2) ρ2) : wp (consF ma mr) ρ QF := by
  obtain ⟨d, r1, e1, p, r2, e2, q⟩ := h
  exact ⟨_, r2, by unfold consF; simp [e1, e2], q⟩
theorem wp_callF {mr : En → Option ((List D × D) × En)} (h : wp mr ρ fun p ρ1 => fwp fm (p.1.map Sl.val ++ [.bor p.2]) fun d _ => Q d ρ1) : wp (callFK fm mr) ρ Q := by
  obtain ⟨p, r1, e1, d, as, e2, q⟩ := h
  exact ⟨d, r1, by unfold callFK; simp [e1, e2], q⟩
theorem noF_self {m : Str} (h : lookF m fs = none) : noF C m (oD C fs) = true := by
  unfold noF oD
  simp [h]
theorem wp_meth {mr : En → Option (List Ar × En)} {m : Str} (h : wp ma ρ fun d ρ1 => noF C m d = true ∧ wp (callK fm (gval (kC d) mr)) ρ1 Q) : wp (methK C m fm ma mr) ρ Q := by
  obtain ⟨d, r1, e1, n, z, r2, e2, q⟩ := h
  refine ⟨z, r2, ?_, q⟩
  unfold methK
  simp only [e1, Option.bind_some]
  rw [if_pos n, e2]
end
end Dz

/-! Dz. S: instances made with a def's own lists lent to __init__. -/
namespace Dz
open PySem L2
variable {c : C0} {N : List Str} {sc : Scope}
def SIn2 (K : Frag) (C : Nat) (t : TS) (m : Im) : Prop := ∀ σ H ρ B x dx gs ds0 ds ρ', SR K B σ H ρ → ¬ Mine σ ρ x → σ[0]? = some (some (.ref x)) → B x = true → H x = some (.ins C dx gs) → RpF K (hide B H) gs ds0 → m ds0 ρ = some (ds, ρ') →
  ∀ Dn : Ends, (∀ H' gs', SR K B σ H' ρ' → H' x = some (.ins C dx gs') → RpF K (hide B H') gs' ds → (∀ b o, b ≠ x → ¬ Mine σ ρ b → H b = some o → H' b = some o) → (∀ b o, H b = some o → ∃ o', H' b = some o') → Dn.nx σ H') → t Dn σ H
def JIn2 (c : C0) (N : List Str) (sc : Scope) (C : Nat) (ss : List Stmt) (m : Im) : Prop := ∃ t, (∀ X, In c N sc X → PSs X ss t) ∧ SIn2 c.K C t m
theorem jin2_nil {C : Nat} : JIn2 c N sc C [] iniNil := ⟨tNext, fun _ _ => pss_nil, fun σ H ρ B x dx gs ds0 ds ρ' S nm hs bx hx hf e Dn q => by
  cases e
  exact q H gs S hx hf (fun _ _ _ _ h => h) fun _ o h => ⟨o, h⟩⟩
theorem si2_fld {K : Frag} {C : Nat} {f : Str} {te : TE} {me : En → Option (D × En)} {t : TS} {mr : Im} (cl : Cls K C) (na : NoAttr K C f) (h : Sd K te me) (hr : SIn2 K C t mr) : SIn2 K C (tSeq (sFld K (tVar 0) te f) t) (iniCons f me mr) := fun σ H ρ B x dx gs ds0 ds ρ' S nm hs bx hx hf e Dn q => by
  unfold iniCons at e
  cases q1 : me ρ with
  | none => simp [q1] at e
  | some p =>
    obtain ⟨d, ρ1⟩ := p
    simp only [q1, Option.bind_some] at e
    split at e
    · rename_i hl
      refine h σ H ρ B _ _ S q1 _ fun v H1 A r => ?_
      have hx1 : H1 x = some (.ins C dx gs) := A.keep x _ hx nm
      refine ⟨.ref x, hs, x, C, dx, gs, rfl, hx1, cl, na, ?_, ?_⟩
      · rw [hf.length]
        omega
      · have nm1 : ¬ Mine σ ρ1 x := fun m => nm (A.kin.mine.mp m)
        have hh : hide B (upd H1 x (.ins C dx (putF f v gs))) = hide B H1 := upd_hide bx
        have hf1 : RpF K (hide B H1) gs ds0 := hf.mono (A.sub S)
        refine hr σ _ ρ1 B x dx (putF f v gs) (ds0 ++ [(.str f, d)]) _ _ (A.sr.upd_hidden bx nm1) nm1 hs bx upd_same ?_ e Dn fun H' gs' s' hx' hf' kp gr => ?_
        · rw [hh, putF_new (hf1.lookN hl.1)]
          exact hf1.app r
        · refine q H' gs' s' hx' hf' (fun b o nb n z => kp b o nb (fun m => n (A.kin.mine.mp m)) (by rw [upd_ne nb]; exact A.keep b o z n)) fun b o z => ?_
          by_cases y : b = x
          · rw [y]
            exact ⟨_, hx'⟩
          · obtain ⟨o1, z1⟩ := A.grow b o z
            exact gr b o1 (by rw [upd_ne y]; exact z1)
    · cases e
theorem jin2_cons {C : Nat} {f x : Str} {e : Expr} {p1 p2 pos : Pos} {me : En → Option (D × En)} {rest : List Stmt} {mr : Im} (cl : Cls c.K C) (na : NoAttr c.K C f) (h : JE c N sc e me) (hr : JIn2 c N sc C rest mr) (hN : N[0]? = some x := by rfl) (hv : Vis sc x := by first | exact Or.inl rfl | exact Or.inr (Or.inl rfl) | exact Or.inr (Or.inr rfl))
    (hd : (x == ("__debug__" : Str)) = false := by decide) (hcd : (x == ("__classdict__" : Str)) = false := by decide)
    (hs : ∀ env, swapsWith e (some (.Attribute (.Name x p1) f p2)) pos.line env = pure false := by intros; rfl) : JIn2 c N sc C (.Assign [.Attribute (.Name x p1) f p2] e pos :: rest) (iniCons f me mr) := by
  obtain ⟨t, h1, h2⟩ := h
  obtain ⟨u, r1, r2⟩ := hr
  refine ⟨tSeq (sFld c.K (tVar 0) t f) u, fun X I => ?_, si2_fld cl na h2 r2⟩
  have q := ps_fld (f := f) (pos := pos) (pos' := p2) (pe_var (pos := p1) (by rw [I.N]; exact hN) (I.vis hv) hd hcd) (h1 X I) (hs _)
  rw [I.K] at q
  exact pss_cons q (r1 X I)
def en0 (n : Nat) (as : List Sl) : En := none :: (as.map some ++ List.replicate (n - 1 - as.length) none)
/-- what __init__ promises where lists are lent to it and stay as they were -/
def spG (K : Frag) (C n : Nat) (m : Im) : Sp := fun vs H Q _ => ∃ x dx us as fs B, vs = .ref x :: us ∧ H x = some (.ins C dx []) ∧ B x = true ∧ SR K B (us.map some) H (as.map some) ∧ ¬ Mine (us.map some) (as.map some) x ∧ us.length + 1 ≤ n ∧
  m [] (en0 n as) = some (fs, en0 n as) ∧ ∀ H' gs, H' x = some (.ins C dx gs) → RpF K (hide B H') gs fs → SR K B (us.map some) H' (as.map some) → (∀ b o, b ≠ x → ¬ Mine (us.map some) (as.map some) b → H b = some o → H' b = some o) → (∀ b o, H b = some o → ∃ o', H' b = some o') → Q .non H'
theorem shift_sr {K : Frag} {B : Addr → Bool} {H : Hp} {v : V} {σ : St} {ρ : En} : SR K B (some v :: σ) H (none :: ρ) ↔ SR K B σ H ρ := by
  constructor
  · intro S
    refine ⟨by have := S.len; simpa using this, fun i d e => ?_, fun i s e m => ?_, fun i j s t l e1 m1 e2 m2 e3 e4 => ?_, S.bk⟩
    · exact S.val (i + 1) d (by simpa using e)
    · exact S.mu_ (i + 1) s (by simpa using e) m
    · have := S.inj (i + 1) (j + 1) s t l (by simpa using e1) m1 (by simpa using e2) m2 (by simpa using e3) (by simpa using e4)
      omega
  · intro S
    refine ⟨by have := S.len; simpa using this, fun i d e => ?_, fun i s e m => ?_, fun i j s t l e1 m1 e2 m2 e3 e4 => ?_, S.bk⟩
    · cases i with
      | zero => simp at e
      | succ i => exact S.val i d (by simpa using e)
    · cases i with
      | zero => simp at e
      | succ i => exact S.mu_ i s (by simpa using e) m
    · cases i with
      | zero => simp at e1
      | succ i =>
        cases j with
        | zero => simp at e2
        | succ j =>
          have := S.inj i j s t l (by simpa using e1) m1 (by simpa using e2) m2 (by simpa using e3) (by simpa using e4)
          omega
theorem shift_mine {v : V} {σ : St} {ρ : En} {b : Addr} : Mine (some v :: σ) (none :: ρ) b ↔ Mine σ ρ b := by
  constructor
  · rintro ⟨i, s, e, m, e2⟩
    cases i with
    | zero => simp at e
    | succ i => exact ⟨i, s, by simpa using e, m, by simpa using e2⟩
  · rintro ⟨i, s, e, m, e2⟩
    exact ⟨i + 1, s, by simpa using e, m, by simpa using e2⟩
theorem leave_sr {K : Frag} {B : Addr → Bool} {H : Hp} {us : List V} {as : List Sl} {n : Nat} (hl : us.length = as.length) (S : SR K B (us.map some ++ List.replicate n none) H (as.map some ++ List.replicate n none)) : SR K B (us.map some) H (as.map some) := by
  refine ⟨by simpa using hl, fun i d e => ?_, fun i s e m => ?_, fun i j s t l e1 m1 e2 m2 e3 e4 => ?_, S.bk⟩
  · obtain ⟨v, a, b⟩ := S.val i d (pad_get.mpr (some_get.mp e))
    exact ⟨v, some_get.mpr (pad_get.mp a), b⟩
  · obtain ⟨v, a, b⟩ := S.mu_ i s (pad_get.mpr (some_get.mp e)) m
    exact ⟨v, some_get.mpr (pad_get.mp a), b⟩
  · exact S.inj i j s t l (pad_get.mpr (some_get.mp e1)) m1 (pad_get.mpr (some_get.mp e2)) m2 (pad_get.mpr (some_get.mp e3)) (pad_get.mpr (some_get.mp e4))
theorem initG_run {k C : Nat} {m : Im} {ss : List Stmt} (h : JIn2 { c with k := k, top := true } N sc C ss m) : ∃ t, (∀ X, In { c with k := k, top := true } N sc X → PSs X ss t) ∧ ∀ vs H Q E, spG c.K C N.length m vs H Q E → ∀ Dn : Ends, (∀ H' : Hp, Q .non H' → ∀ σ, Dn.nx σ H') → t Dn (L2.start N vs) H := by
  obtain ⟨t, t1, t2⟩ := h
  refine ⟨t, t1, fun vs H Q E h' Dn hd => ?_⟩
  obtain ⟨x, dx, us, as, fs, B, rfl, h1, h2, h3, h4, h5, h6, h7⟩ := h'
  have ll : us.length = as.length := by have := h3.len; simpa using this
  have es : L2.start N (.ref x :: us) = some (V.ref x) :: (us.map some ++ List.replicate (N.length - 1 - as.length) none) := by
    unfold L2.start
    show (V.ref x :: us).map some ++ List.replicate (N.length - (us.length + 1)) none = _
    rw [show N.length - (us.length + 1) = N.length - 1 - as.length by omega]
    rfl
  have em : ∀ b, Mine (L2.start N (.ref x :: us)) (en0 N.length as) b ↔ Mine (us.map some) (as.map some) b := fun b => by
    rw [es]
    exact shift_mine.trans entry_mine
  have S0 : SR c.K B (L2.start N (.ref x :: us)) H (en0 N.length as) := by
    rw [es]
    exact shift_sr.mpr (entry_sr h3)
  refine t2 _ H _ B x dx [] [] fs _ S0 (fun m => h4 ((em x).mp m)) (by rw [es]; rfl) h2 h1 .nil h6 Dn fun H' gs s' hx hf kp gr => ?_
  refine hd H' (h7 H' gs hx hf ?_ (fun b o nb nm z => kp b o nb (fun m => nm ((em b).mp m)) z) gr) _
  rw [es] at s'
  exact leave_sr ll (shift_sr.mp s')
theorem initG_ok {x qual : Str} {st : Stmt} {f : Addr} {fd : FuncData} {N ps : List Str} {k C : Nat} {m : Im} (F : Fun c.K x qual st f fd) (S : FnScope N ps (defScope st)) (h : JIn2 { c with k := k, top := true } N (defScope st) C (defBody st) m) :
    FnOk c.P c.w c.K c.mg c.base CX0 (k + 1) f fd ps (fun vs H Q E => vs.length = ps.length ∧ spG c.K C N.length m vs H Q E) := by
  obtain ⟨t, t1, t2⟩ := initG_run h
  refine F.ok S (fun vs H Q E h => h.1) (fun cdv A outer s H vs Q E hr h' => ?_)
  refine ⟨t, t1 _ ⟨rfl, rfl, rfl, rfl, rfl, hr, rfl, rfl, rfl, fun _ => rfl, PassesOwn.never⟩, ?_⟩
  exact t2 vs H Q E h'.2 _ fun H' q σ => q
theorem initG_okD {x qual : Str} {st : Stmt} {dvs : List V} {kws : List (Str × V)} {f : Addr} {fd : FuncData} {N ps : List Str} {k C : Nat} {m : Im} (F : FunD c.K x qual (defArgs st) (defBody st) (defScope st) dvs kws f fd) (S : FnScope N ps (defScope st)) (h : JIn2 { c with k := k, top := true } N (defScope st) C (defBody st) m) :
    FnOk c.P c.w c.K c.mg c.base CX0 (k + 1) f fd ps (fun vs H Q E => vs.length = ps.length ∧ spG c.K C N.length m vs H Q E) := by
  obtain ⟨t, t1, t2⟩ := initG_run h
  refine F.ok S (fun vs H Q E h => h.1) (fun cdv A outer s H vs Q E hr h' => ?_)
  have q : PSs (cxOf CX0 c.P c.w c.K c.mg c.base N qual (defScope st) f cdv A outer s H E).nox (defBody st) t := t1 _ ⟨rfl, rfl, rfl, rfl, rfl, hr, rfl, rfl, rfl, fun _ => rfl, PassesOwn.never⟩
  refine ⟨t, q.nox, ?_⟩
  exact t2 vs H Q E h'.2 _ fun H' q σ => q
/-- a class whose __init__ takes all p values by place, lists lent -/
def MkG (c : C0) (k : Nat) (x : Str) (C n p : Nat) (m : Im) : Prop :=
  ∃ (f : Addr) (fd : FuncData) (ps : List Str), Mk c.K C f ∧ FnOk c.P c.w c.K c.mg c.base CX0 k f fd ps (fun vs H Q E => vs.length = ps.length ∧ spG c.K C n m vs H Q E) ∧ c.mg x = some (.ref C) ∧ Binds c.K fd ps [] ∧ ps.length = p + 1 ∧ ps.length ≤ n
open Classical in
noncomputable def mkG (C n p : Nat) (m : Im) (mg : En → Option (List Ar × En)) : En → Option (D × En) := fun ρ => (mg ρ).bind fun q => if lentOnce q.1 = true then (toSls q.2 q.1).bind fun as => if as.length = p then (m [] (en0 n as)).bind fun z => if z.2 = en0 n as then some (oD C z.1, giveBack q.1 as q.2) else none else none else none
theorem sd_mkG {K : Frag} {C n p np : Nat} {m : Im} {t : TA} {mg : En → Option (List Ar × En)} {E : XK} (h : SG K t mg) (hp : np = p + 1) (hn : np ≤ n) :
    Sd K (tMake C (fun vs H Q E => vs.length = np ∧ spG K C n m vs H Q E) [] E t) (mkG C n p m mg) := fun σ H ρ B d ρ' S e Q q => by
  unfold mkG at e
  cases q1 : mg ρ with
  | none => simp [q1] at e
  | some z =>
    obtain ⟨ars, ρ1⟩ := z
    simp only [q1, Option.bind_some] at e
    split at e
    · rename_i hl
      cases q2 : toSls ρ1 ars with
      | none => simp [q2] at e
      | some ss =>
        simp only [q2, Option.bind_some] at e
        split at e
        · rename_i hs
          cases q3 : m [] (en0 n ss) with
          | none => simp [q3] at e
          | some w =>
            obtain ⟨fs, ρ2⟩ := w
            simp only [q3, Option.bind_some] at e
            split at e
            · rename_i he
              simp only [Option.some.injEq, Prod.mk.injEq] at e
              obtain ⟨rfl, rfl⟩ := e
              have he : ρ2 = en0 n ss := he
              subst he
              refine h σ H ρ B _ _ S q1 _ fun vs H1 A ha => ?_
              intro x dx nx ndx ne
              obtain ⟨S1, M1⟩ := call_sr A.sr ha hl q2
              have ll : vs.length = ss.length := by have := S1.len; simpa using this
              have fx : B x = false := A.sr.fresh nx
              have sdx : Sub H1 (upd H1 dx (.own x)) := Sub.new ndx
              have nx1 : upd H1 dx (.own x) x = none := by rw [upd_ne fun z => ne z.symm]; exact nx
              have sx : Sub (upd H1 dx (.own x)) (upd (upd H1 dx (.own x)) x (.ins C dx [])) := Sub.new nx1
              have S2 : SR K (ins dx B) (vs.map some) (upd H1 dx (.own x)) (ss.map some) := S1.ins ndx sdx ⟨_, upd_same⟩
              have S3 : SR K (ins x (ins dx B)) (vs.map some) (upd (upd H1 dx (.own x)) x (.ins C dx [])) (ss.map some) := S2.ins nx1 sx ⟨_, upd_same⟩
              have nm : ¬ Mine (vs.map some) (ss.map some) x := fun z => by
                have := S1.mine z
                rw [fx] at this
                cases this
              rw [List.append_nil]
              refine ⟨by simp; omega, x, dx, vs, ss, fs, ins x (ins dx B), rfl, upd_same, by unfold ins; simp, S3, nm, by omega, q3, fun H3 gs h1 h2 h3 h4 h5 => ⟨rfl, ?_⟩⟩
              have g3 : ∀ b o, H1 b = some o → ∃ o', H3 b = some o' := fun b o e => h5 b o (sx _ _ (sdx _ _ e))
              have g2 : ∀ b o, upd H1 dx (.own x) b = some o → ∃ o', H3 b = some o' := fun b o e => h5 b o (sx _ _ e)
              have S4 : SR K B (vs.map some) H3 (ss.map some) := by
                refine SR.unins (l := dx) ?_ S1 (Kin.refl _) g3
                refine SR.unins (l := x) h3 S2 (Kin.refl _) g2
              have A2 : Af K B (vs.map some) H1 (ss.map some) H3 (ss.map some) := ⟨S4, fun b o e n => h4 b o (ne_of_none e nx) n (sx _ _ (sdx _ _ e)), g3, Kin.refl _⟩
              refine q (.ref x) H3 (A.trans (call_back A.sr ha hl q2 A2)) ?_
              have hh : Sub (hide (ins x (ins dx B)) H3) (hide B H3) := fun b o e => ins_sub _ _ (ins_sub _ _ e)
              exact .obj (hide_of fx h1) (h2.mono hh)
            · cases e
        · cases e
    · cases e
theorem je_mkG {C n p j : Nat} {m : Im} {x : Str} {e : Expr} {es : List Expr} {q pos : Pos} {mg : En → Option (List Ar × En)} (M : MkG c j x C n p m) (hk : j + 1 ≤ c.k) (hg : sc.names.lookup x = some .globalImplicit) (ha : JG c N sc (e :: es) mg)
    (hdb : (x == ("__debug__" : Str)) = false := by decide) (he : ∀ env, starEach (e :: es) env = (false, eval e env) :: starEach es env := by intros; rfl) (hpl : ∀ env, (backTo pos (starEach es env)).any (·.1) = false := by intros; rfl) :
    JE c N sc (.Call (.Name x q) (e :: es) [] pos) (mkG C n p m mg) := by
  obtain ⟨f, fd, ps, M, F, hm, hb, hp, hn⟩ := M
  obtain ⟨t, p1, s1⟩ := ha
  refine ⟨tMake C (fun vs H Q E => vs.length = ps.length ∧ spG c.K C n m vs H Q E) [] E0 t, fun X I => ?_, sd_mkG s1 hp hn⟩
  obtain ⟨a1, a2, a3, a4, a5, a6, a7, a8, a9, a10, a11⟩ := id I
  have F' : FnOk X.prog X.w X.K X.mg X.base CX0 j f fd ps (fun vs H Q E => vs.length = ps.length ∧ spG c.K C n m vs H Q E) := by
    rw [a1, a2, a3, a4, a5]
    exact F
  exact pe_make (by rw [a3]; exact M) F' (a6.mono hk) (I.gl hg) (by rw [a4]; exact hm) (by rw [a3]; exact hb) .nil pass0 (p1 X I) hdb (he _) (hpl _)
section
variable {q x : Str} {C k p n : Nat} {st : Stmt} {ps ks : List Str} {m : Im} {dvs : List V}
theorem MkAt.mkG (A : MkAt c q x C st ps) (T : ClsD c x C) (S : FnScope N ps (defScope st)) (h : JIn2 { c with k := k, top := true } N (defScope st) C (defBody st) m) (hp : ps.length = p + 1 := by rfl) (hn : ps.length ≤ N.length := by decide) : MkG c (k + 1) x C N.length p m := by
  obtain ⟨f, fd, F, M, b⟩ := A
  exact ⟨f, fd, ps, M, initG_ok F S h, T.mg, b, hp, hn⟩
theorem MkAtD.mkG (A : MkAtD c q x C st ps dvs ks n) (T : ClsD c x C) (S : FnScope N ps (defScope st)) (h : JIn2 { c with k := k, top := true } N (defScope st) C (defBody st) m) (hp : ps.length = p + 1 := by rfl) (hn : ps.length ≤ N.length := by decide) : MkG c (k + 1) x C N.length p m := by
  obtain ⟨f, fd, kws, F, M, b, _, _⟩ := A
  exact ⟨f, fd, ps, M, initG_okD F S h, T.mg, b, hp, hn⟩
end
end Dz

/-! Dz. U: rules for instances made with lent lists. -/
namespace Dz
open PySem L2
section
variable {ρ ρ' : En} {Q : D → En → Prop} {ma : En → Option (D × En)} {C : Nat} {f : Str} {m : Im}
def inx (m : Im) (acc : List (D × D)) (ρ : En) (R : List (D × D) → En → Prop) : Prop := ∃ fs ρ', m acc ρ = some (fs, ρ') ∧ R fs ρ'
theorem inx_nil {acc : List (D × D)} {R : List (D × D) → En → Prop} (h : R acc ρ) : inx iniNil acc ρ R := ⟨acc, ρ, rfl, h⟩
theorem inx_cons {acc : List (D × D)} {mr : Im} {R : List (D × D) → En → Prop} (hl : lookF f acc = none ∧ acc.length < 900) (h : wp ma ρ fun d ρ1 => inx mr (acc ++ [(.str f, d)]) ρ1 R) : inx (iniCons f ma mr) acc ρ R := by
  obtain ⟨d, r1, e1, fs, r2, e2, q⟩ := h
  refine ⟨fs, r2, ?_, q⟩
  unfold iniCons
  simp only [e1, Option.bind_some]
  rw [if_pos hl, e2]
theorem wp_mkG {n p : Nat} {mg : En → Option (List Ar × En)} (h : wp mg ρ fun ars ρ1 => lentOnce ars = true ∧ oq (toSls ρ1 ars) fun as => as.length = p ∧ inx m [] (en0 n as) fun fs r => r = en0 n as ∧ Q (oD C fs) (giveBack ars as ρ1)) : wp (mkG C n p m mg) ρ Q := by
  obtain ⟨ars, r1, e1, l, as, e2, l2, fs, r, e3, rfl, q⟩ := h
  refine ⟨_, _, ?_, q⟩
  unfold mkG
  simp only [e1, Option.bind_some]
  rw [if_pos l, e2]
  simp only [Option.bind_some]
  rw [if_pos l2, e3]
  simp
end
end Dz

/-! Dz. V: != of lists of instances that are equal by their own ==. -/
namespace GQN
open PySem PySem.SeqAt
open AutoSeq1 (wpAny_loadPart')
open MeetsSeq MeetsSeq2 MeetsSeq3 SeqRoads2
/-- a list object of these items -/
def LsOb (h : Heap) (a : Addr) (xs : Array Value) : Prop := ∃ (k : Nat) (dd : Option Addr) (sl : Array (Option Value)), h.get? a = some ⟨.type "list", dd, .seq xs k, sl⟩
section
variable {prog : Program} {w : World} {A : Around} {R : Result → Shared → Prop} {p q : Addr} {n : Nat} {J : Nat → Shared → Prop}
/-- turn i: both lists have n items, and the two i-th ones are found equal on the way to turn i + 1 -/
def Tn (prog : Program) (w : World) (A : Around) (E : Value → Shared → Prop) (p q : Addr) (n : Nat) (J : Nat → Shared → Prop) : Prop :=
  ∀ i t, J i t → ∃ xs ys : Array Value, (LsOb t.heap p xs ∧ xs.size = n) ∧ (LsOb t.heap q ys ∧ ys.size = n) ∧ ∀ (l : i < xs.size) (m : i < ys.size), wpAny (model prog w) A.in1 (eqBool xs[i] ys[i]) (fun z t' => z = true ∧ J (i + 1) t') E t
/-- the rest of the turns from i on: no difference is found -/
theorem turns (T : Tn prog w A (fun e t => R (.error e) t) p q n J) (last : ∀ t, J n t → R (.ok (.ret (.bool false))) t) :
    ∀ (m i : Nat) (t : Shared), i + m = n → J i t → wpAny (model prog w) A.in1 (Builtin.«list.__eq__.loop» ⟨[.ref p, .ref q, rawInt i, rawInt 3], []⟩) (GQ.FinOf prog w A R) (fun e t' => R (.error e) t') t
  | 0, i, t, hm, ht => by
    obtain ⟨xs, ys, ⟨⟨k1, dd1, sl1, o1⟩, z1⟩, ⟨⟨k2, dd2, sl2, o2⟩, z2⟩, _⟩ := T i t ht
    have en : n = i := by omega
    have fin0 := last t (en ▸ ht)
    cases t with
    | mk hp g d tk os =>
      have no1 : xs[((i : Nat) : Int).toNat]? = none := by rw [Int.toNat_natCast]; exact Array.getElem?_eq_none (by omega)
      have no2 : ys[((i : Nat) : Int).toNat]? = none := by rw [Int.toNat_natCast]; exact Array.getElem?_eq_none (by omega)
      wp_walk using wpAny_loadPart' o1, wpAny_loadPart' o2
      rw [no1, no2]
      wp_walk using wpAny_loadPart' o1, wpAny_loadPart' o2
      have same : (xs.size != ys.size) = false := by rw [z1, z2]; exact bne_self_eq_false n
      show R (.ok (.ret (.bool (xs.size != ys.size)))) ⟨hp, g, d, tk, os⟩
      exact same ▸ fin0
  | m + 1, i, t, hm, ht => by
    obtain ⟨xs, ys, ⟨⟨k1, dd1, sl1, o1⟩, z1⟩, ⟨⟨k2, dd2, sl2, o2⟩, z2⟩, step⟩ := T i t ht
    have b1 : i < xs.size := by omega
    have b2 : i < ys.size := by omega
    have go := step b1 b2
    cases t with
    | mk hp g d tk os =>
      have at1 : xs[((i : Nat) : Int).toNat]? = some xs[i] := by rw [Int.toNat_natCast]; exact Array.getElem?_eq_getElem b1
      have at2 : ys[((i : Nat) : Int).toNat]? = some ys[i] := by rw [Int.toNat_natCast]; exact Array.getElem?_eq_getElem b2
      wp_walk using wpAny_loadPart' o1, wpAny_loadPart' o2
      rw [at1, at2]
      refine wpAny_bind (wpAny_mono go (fun z t2 k => ?_) (fun _ _ k => k))
      cases k.1
      have more := turns T last m (i + 1) t2 (by omega) k.2
      cases t2 with
      | mk hp2 g2 d2 tk2 os2 =>
        wp_walk
        refine ⟨plainId_quiet plain_eq_loop _, codeAny_builtin entry_eq_loop ?_⟩
        rw [Around.under_plainId plain_eq_loop _]
        exact more
end
/-- != of two lists whose items are found equal: False -/
theorem rc_ne {prog : Program} {w : World} {A : Around} {E : Value → Shared → Prop} {t : Shared} {p q : Addr} {n : Nat} {Q : Value → Shared → Prop} {J : Nat → Shared → Prop} (room : A.units < cLine) (T : Tn prog w A E p q n J)
    (last : ∀ t, J n t → Q (.bool false) t) (h0 : J 0 t) : wpAny (model prog w) A (richCompare .NotEq (.ref p) (.ref q)) Q E t := by
  obtain ⟨xs, ys, ⟨⟨k1, dd1, sl1, o1⟩, z1⟩, ⟨⟨k2, dd2, sl2, o2⟩, z2⟩, _⟩ := T 0 t h0
  have all := turns (R := wants (fun v t' => v ≠ .notImplemented ∧ Q v t') E) T (fun t' k => ⟨(fun e => nomatch e), last t' k⟩) n 0 t (by omega) h0
  refine wpAny_richCompare_same_room (op := .NotEq) ⟨_, o1, rfl⟩ ⟨_, o2, rfl⟩ F.slot_list_ne ?_ room
  refine GQ.call_here F.slot_list_ne ⟨_, o1, rfl⟩ F.entry_list_ne (F.args_list_ne_2 _ _) ?_
  cases t with
  | mk hp g d tk os =>
    have isl := AutoSeq1.sub_list_list
    have differ : ¬ (xs.size != ys.size) = true := by rw [z1, z2, bne_self_eq_false]; exact Bool.false_ne_true
    wp_walk using wpAny_loadPart' o1, wpAny_loadPart' o2
    refine ⟨plainId_quiet plain_eq_loop _, codeAny_builtin entry_eq_loop ?_⟩
    rw [Around.under_plainId plain_eq_loop _]
    exact all
end GQN
namespace Dz
open PySem L2
variable {c : C0} {N : List Str} {sc : Scope}
def DListQ (K : Frag) (D : Eqv) : Eqv := fun x y H => ∃ a b xs ys, x = .ref a ∧ y = .ref b ∧ SqL K H a xs ∧ SqL K H b ys ∧ Prs D xs ys H
def rNeG (D : Eqv) : R2 := fun x y H Q => D x y H ∧ ∀ H', Ext H H' → Q (.bl false) H'
theorem op_neLG {X : Cx} {n : Nat} {D : Eqv} (hD : Mon D) (h : EqG X n D) (hr : Room (n + 1) X.A) : OpR X (compareOp .NotEq) (rNeG (DListQ X.K D)) := by
  intro pins s σ H x y v u Q I rx ry hq
  obtain ⟨⟨a, b, xs, ys, rfl, rfl, ha, hb, p⟩, q⟩ := hq
  cases rx
  cases ry
  show wpAny (model X.prog X.w) X.A (richCompare .NotEq (.ref a) (.ref b)) (EP X pins σ Q) X.xe s
  have sb : L2.Sub X (n + 1) X.A := ⟨hr, rfl⟩
  refine GQN.rc_ne (n := xs.length) (J := fun _ t => LoopI X pins σ H t) sb.room.units0 (fun i t k => ?_) (fun t ⟨H', I', e⟩ => ⟨.bl false, H', I', rfl, q H' e⟩) ⟨H, I, Ext.rfl'⟩
  obtain ⟨H1, I1, e1⟩ := id k
  obtain ⟨us, r1, pl1, _⟩ := I1.list (SqL.ext ha e1)
  obtain ⟨ws, r2, pl2, _⟩ := I1.list (SqL.ext hb e1)
  have ob : ∀ {a : Addr} {l : List Value}, PlainL t.heap a l.toArray → GQN.LsOb t.heap a l.toArray := fun pl => by
    obtain ⟨o, f1, f2, m, f3⟩ := pl.isList
    cases o with
    | mk cls dd data sl =>
      cases f2
      cases f3
      exact ⟨m, dd, sl, f1⟩
  exact ⟨us.toArray, ws.toArray, ⟨ob pl1, by rw [List.size_toArray, r1.length]⟩, ⟨ob pl2, by rw [List.size_toArray, ← r2.length, ← p.1]⟩, fun l m => turnG hD h sb p r1 r2 i l m t k⟩
def okEq (C : Nat) (fm : Fm) (d e : D) : Bool := isOb C d && isOb C e && (match fm [.val d, .val e] with
  | some (.bool true, _) => true
  | _ => false)
def okEqs (C : Nat) (fm : Fm) : List D → List D → Bool
  | [], [] => true
  | d :: ds, e :: es => okEq C fm d e && okEqs C fm ds es
  | _, _ => false
def dNeLI (C : Nat) (fm : Fm) : D → D → Option D
  | .list ds, .list es => if okEqs C fm ds es = true then some (.bool false) else none
  | _, _ => none
/-- two values seen to be equal by the class's own == -/
def Qv (K : Frag) (C : Nat) (fm : Fm) : Eqv := fun x y H => ∃ (B : Addr → Bool) (d e : D), (∀ a, B a = true → ∃ o, H a = some o) ∧ okEq C fm d e = true ∧ Rp K (hide B H) x d ∧ Rp K (hide B H) y e
theorem mon_qv {K : Frag} {C : Nat} {fm : Fm} : Mon (Qv K C fm) := fun x y H H' e ⟨B, d, e', bk, ok, h1, h2⟩ => ⟨B, d, e', fun a z => by
  obtain ⟨o, w⟩ := bk a z
  exact ⟨o, e _ _ w⟩, ok, h1.mono (hsub e), h2.mono (hsub e)⟩
theorem qv_ins {K : Frag} {C : Nat} {fm : Fm} {x y : V} {H : Hp} (h : Qv K C fm x y H) : DIns C (fun a b H => Qv K C fm (.ref a) (.ref b) H) x y H := by
  obtain ⟨B, d, e, bk, ok, h1, h2⟩ := id h
  unfold okEq at ok
  simp only [Bool.and_eq_true] at ok
  obtain ⟨fs, rfl⟩ := isOb_oD ok.1.1
  obtain ⟨gs, rfl⟩ := isOb_oD ok.1.2
  obtain ⟨a, dx, us, rfl, g1, _⟩ := h1.oD
  obtain ⟨b, dy, ws, rfl, g2, _⟩ := h2.oD
  exact ⟨a, b, dx, dy, us, ws, rfl, rfl, (hide_some g1).2, (hide_some g2).2, h⟩
theorem spEq_qv {K : Frag} {C : Nat} {fm : Fm} (vs : List V) (H : Hp) (Q : VK) (E : XK) (h : spEq (fun a b H => Qv K C fm (.ref a) (.ref b) H) vs H Q E) : spD K fm vs H Q E := by
  obtain ⟨a, b, rfl, ⟨B, d, e, bk, ok, h1, h2⟩, q⟩ := h
  unfold okEq at ok
  simp only [Bool.and_eq_true] at ok
  cases q1 : fm [.val d, .val e] with
  | none => simp [q1] at ok
  | some r =>
    obtain ⟨z, as'⟩ := r
    have hz : z = .bool true := by
      rw [q1] at ok
      match z, ok.2 with
      | .bool true, _ => rfl
    subst hz
    have key : ∀ (i : Nat) (s : Sl), ([Sl.val d, .val e].map some)[i]? = some (some s) → ∃ d' v, s = .val d' ∧ ([V.ref a, .ref b].map some)[i]? = some (some v) ∧ Rp K (hide B H) v d' := by
      intro i s hs
      match i, hs with
      | 0, hs => exact ⟨d, .ref a, by cases hs; rfl, rfl, h1⟩
      | 1, hs => exact ⟨e, .ref b, by cases hs; rfl, rfl, h2⟩
      | i + 2, hs => simp at hs
    refine ⟨B, [.val d, .val e], .bool true, as', q1, ⟨rfl, fun i d' hs => ?_, fun i s hs m => ?_, fun i j s t l e1 m1 e2 m2 e3 e4 => ?_, bk⟩, fun v H' A r => ?_⟩
    · obtain ⟨d2, v, k1, k2, k3⟩ := key i _ hs
      cases k1
      exact ⟨v, k2, k3⟩
    · obtain ⟨d2, v, k1, k2, k3⟩ := key i _ hs
      subst k1
      cases m
    · obtain ⟨d2, v, k1, k2, k3⟩ := key i _ e1
      subst k1
      cases m1
    · rw [r.booli]
      refine q H' fun x o z => A.keep x o z fun m => ?_
      obtain ⟨i, s, hs, mu, _⟩ := m
      obtain ⟨d2, v, k1, _⟩ := key i _ hs
      subst k1
      cases mu
theorem prs_qv {K : Frag} {C : Nat} {fm : Fm} {B : Addr → Bool} {H : Hp} (bk : ∀ a, B a = true → ∃ o, H a = some o) : ∀ {ds es : List D} {xs ys : List V}, okEqs C fm ds es = true → RpL K (hide B H) xs ds → RpL K (hide B H) ys es → Prs (Qv K C fm) xs ys H
  | [], [], _, _, _, .nil, .nil => Prs.nil
  | d :: ds, e :: es, _, _, ok, .cons h1 r1, .cons h2 r2 => by
    unfold okEqs at ok
    simp only [Bool.and_eq_true] at ok
    exact Prs.cons ⟨B, d, e, bk, ok.1, h1, h2⟩ (prs_qv bk ok.2 r1 r2)
  | [], e :: es, _, _, ok, _, _ => by cases ok
  | d :: ds, [], _, _, ok, _, _ => by cases ok
theorem o_neLI {C j : Nat} {x : Str} {fm : Fm} (T : ClsD c x C) (F : EqD c j C fm) (hk : j + 1 ≤ c.k) : OpD c.K (In c N sc) (compareOp .NotEq) (dNeLI C fm) := by
  obtain ⟨f, fd, ps, F, h1, h2, h3⟩ := F
  refine ⟨rNeG (DListQ c.K (Qv c.K C fm)), fun X I => ?_, fun B H x y d e z bk hx hy hz Q q => ?_⟩
  · obtain ⟨a1, a2, a3, a4, a5, a6, a7, a8, a9, a10, a11⟩ := id I
    have F' : FnOk X.prog X.w X.K X.mg X.base CX0 j f fd ps (spD c.K fm) := by
      rw [a1, a2, a3, a4, a5]
      exact F
    have h := eqG_ins (X := X) (C := C) (E := E0) (F'.imp (spEq_qv (C := C))) (by rw [a3]; exact h1) (by rw [a3]; exact h2) (by rw [a3]; exact h3) pass0
    have h' := op_neLG (mon_qv (K := c.K) (C := C) (fm := fm)) (EqG.imp h fun x y H z => qv_ins z) (a6.mono hk)
    rw [a3] at h'
    exact h'
  · unfold dNeLI at hz
    split at hz
    · rename_i ds es
      split at hz
      · rename_i ok
        cases hz
        obtain ⟨a, xs, rfl, s1, r1⟩ := hx.list
        obtain ⟨b, ys, rfl, s2, r2⟩ := hy.list
        exact ⟨⟨a, b, xs, ys, rfl, rfl, s1, s2, prs_qv bk ok r1 r2⟩, fun H' e => q _ H' e (.bl false)⟩
      · cases hz
    · cases hz
end Dz

/-! Dz. W: names that a comprehension reads (cells) given a comprehension; split. -/
namespace Dz
open PySem L2
variable {c : C0} {N : List Str} {sc : Scope}
theorem sw_cell {elt : Expr} {gs : List Comprehension} {scope : Scope} {pos py : Pos} {y : Str} {l : Nat} {env : Env} (hy : env.scope.names.lookup y = some .cell) : swapsWith (.ListComp elt gs scope pos) (some (.Name y py)) l env = pure false := by
  have ky : env.kindOf y = some .cell := hy
  have e : (env.kindOf y == some NameKind.local) = false := by rw [ky]; rfl
  unfold swapsWith
  simp only [e, Bool.and_false, Bool.false_and]
theorem setC_ (i : Nat) {x : Str} {p1 pos lp : Pos} {elt : Expr} {gs : List Comprehension} {scope : Scope} {me : En → Option (D × En)} (nd : N.Nodup) (h : JE c N sc (.ListComp elt gs scope lp) me) (hN : N[i]? = some x := by rfl) (hx : sc.names.lookup x = some .cell := by rfl) (ht : c.top = true := by rfl) : JS c N sc (.Assign [.Name x p1] (.ListComp elt gs scope lp) pos) (asgS me (setv i)) := by
  have hs : Sto c sc x := .inr ⟨ht, hx⟩
  obtain ⟨t, h1, h2⟩ := h
  exact ⟨_, fun X I => ps_set (by rw [I.N]; exact nd) (by rw [I.N]; exact hN) (hs.loc I) (h1 X I) (sw_cell (by rw [I.sc]; exact hx)) (hs.fn I), ss_asg h2 sgt_name⟩
theorem ownC_ (i : Nat) {x : Str} {p1 pos lp : Pos} {elt : Expr} {gs : List Comprehension} {scope : Scope} {me : En → Option (D × En)} (nd : N.Nodup) (h : JF c N sc (.ListComp elt gs scope lp) me) (hN : N[i]? = some x := by rfl) (hx : sc.names.lookup x = some .cell := by rfl) (ht : c.top = true := by rfl) : JS c N sc (.Assign [.Name x p1] (.ListComp elt gs scope lp) pos) (asgS me (seto i)) := by
  have hs : Sto c sc x := .inr ⟨ht, hx⟩
  obtain ⟨t, h1, h2⟩ := h
  exact ⟨_, fun X I => ps_set (by rw [I.N]; exact nd) (by rw [I.N]; exact hN) (hs.loc I) (h1 X I) (sw_cell (by rw [I.sc]; exact hx)) (hs.fn I), ss_asgo h2⟩
theorem RpL.strs_map {K : Frag} {H : Hp} (ys : List Str) : RpL K H (ys.map V.str) (ys.map PyData.str) := RpL.strs ys
theorem m_split : MeD c.K (In c N sc) "str.split" dSplit := by
  refine ⟨_, fun X I => by
    have h := mt_split (X := X)
    exact h, fun B H x vs ds z bk hv hz Q q => ?_⟩
  unfold dSplit at hz
  split at hz
  · rename_i b
    split at hz
    · rename_i hl
      cases hz
      obtain ⟨v, rfl, h⟩ := hv.rs.one
      rw [h.str]
      refine ⟨x, b, rfl, rfl, hl.1, Nat.le_trans hl.2 (by decide), fun p hp => ?_⟩
      obtain ⟨s1, r2⟩ := lst_new bk hp (RpL.strs (K := c.K) (H := hide B H) (Txt.split x b))
      exact q _ _ s1 r2
    · cases hz
  · cases hz
end Dz

/-! Dz. T: defs that return a new list of their own. -/
namespace Dz
open PySem L2
/-- a slot that the def made itself -/
def Own1 (σ : St) (ρ : En) (l : Addr) : Prop := ∃ (i : Nat) (d : D), ρ[i]? = some (some (.own d)) ∧ σ[i]? = some (some (.ref l))
/-- as Fi, what is returned is the def's own -/
def FiO (K : Frag) (B : Addr → Bool) (σ : St) (H : Hp) (ρ : En) (Dn : Ends) : SO → Prop
  | .rt d ρ' => ∀ l B' σ' H', Bf K B σ H ρ B' σ' H' ρ' → B' l = true → (H l = none ∨ Own1 σ ρ l) → OwnAt K (hide B' H') (H' l) d → Dn.rt (.ref l) H'
  | _ => True
def SSo (K : Frag) (t : TS) (m : En → Option SO) : Prop := ∀ σ H ρ B d ρ', SR K B σ H ρ → m ρ = some (.rt d ρ') → ∀ Dn : Ends, FiO K B σ H ρ Dn (.rt d ρ') → t Dn σ H
def JBo (c : C0) (N : List Str) (sc : Scope) (s : List Stmt) (m : En → Option SO) : Prop := ∃ t, (∀ X, In c N sc X → PSs X s t) ∧ SSo c.K t m
section
variable {K : Frag} {B B1 : Addr → Bool} {σ σ1 : St} {H H1 : Hp} {ρ ρ1 : En} {Dn : Ends}
theorem Own1.back {l : Addr} (S : SR K B σ H ρ) (b : Bf K B σ H ρ B1 σ1 H1 ρ1) (h : H1 l = none ∨ Own1 σ1 ρ1 l) : H l = none ∨ Own1 σ ρ l := by
  rcases h with h | ⟨i, d, h1, h2⟩
  · refine .inl ?_
    cases q : H l with
    | none => rfl
    | some o =>
      obtain ⟨o', e'⟩ := b.grow l o q
      rw [h] at e'
      cases e'
  · rcases b.mine l ⟨i, _, h1, rfl, h2⟩ with ⟨j, s, g1, g2, g3⟩ | z
    · cases s with
      | val e => cases g2
      | own e => exact .inr ⟨j, e, g1, g3⟩
      | bor e =>
        obtain ⟨⟨e', f1⟩, f2⟩ := b.bor j e g1
        have := b.sr.inj i j _ _ l h1 rfl f1 rfl h2 (by rw [f2]; exact g3)
        subst this
        rw [h1] at f1
        cases f1
    · exact .inl z
theorem FiO.after (S : SR K B σ H ρ) (b : Bf K B σ H ρ B1 σ1 H1 ρ1) : ∀ {o : SO}, FiO K B σ H ρ Dn o → FiO K B1 σ1 H1 ρ1 Dn o
  | .rt d ρ', h => fun l B' σ' H' a bl fr ow => h l B' σ' H' (b.trans S a) bl (Own1.back S b fr) ow
  | .nx _, _ => trivial
  | .bk _, _ => trivial
  | .ct _, _ => trivial
end
/-- only the last statement returns -/
def seqO (m1 m2 : En → Option SO) : En → Option SO := fun ρ => (m1 ρ).bind fun o => match o with
  | .nx ρ1 => m2 ρ1
  | _ => none
def retO (i : Nat) : En → Option SO := fun ρ => match ρ[i]? with
  | some (some (.own d)) => some (.rt d ρ)
  | _ => none
section
variable {c : C0} {N : List Str} {sc : Scope} {s : Stmt} {rest : List Stmt} {m1 m2 : En → Option SO} {e : Expr} {me : En → Option (D × En)} {pos p1 p : Pos} {x : Str} {i : Nat}
theorem jbo_cons (h : JS c N sc s m1) (k : JBo c N sc rest m2) : JBo c N sc (s :: rest) (seqO m1 m2) := by
  obtain ⟨t, h1, h2⟩ := h
  obtain ⟨u, k1, k2⟩ := k
  refine ⟨_, fun X I => pss_cons (h1 X I) (k1 X I), fun σ H ρ B d ρ' S ee Dn hh => ?_⟩
  unfold seqO at ee
  cases q : m1 ρ with
  | none => simp [q] at ee
  | some o1 =>
    simp only [q, Option.bind_some] at ee
    refine h2 σ H ρ B o1 S q _ ?_
    cases o1 with
    | nx ρ1 => exact fun B' σ' H' a => k2 σ' H' ρ1 B' d ρ' a.sr ee Dn (FiO.after S a hh)
    | rt d ρ1 => cases ee
    | bk ρ1 => cases ee
    | ct ρ1 => cases ee
theorem jbo_ret (h : JF c N sc e me) : JBo c N sc [.Return (some e) pos] (retS me) := by
  obtain ⟨t, h1, h2⟩ := h
  refine ⟨_, fun X I => pss_one (ps_ret (h1 X I)), fun σ H ρ B d ρ' S ee Dn hh => ?_⟩
  unfold retS at ee
  cases q : me ρ with
  | none => simp [q] at ee
  | some p =>
    obtain ⟨d1, ρ1⟩ := p
    simp [q] at ee
    obtain ⟨rfl, rfl⟩ := ee
    refine h2 σ H ρ B _ _ S q _ fun l H1 A SR1 n ow => ?_
    refine hh l (ins l B) σ H1 ⟨SR1, A.keep, A.grow, fun b z => ?_, fun b z _ => ?_, fun b z => .inl (A.kin.mine.mp z), fun j d' z => ?_⟩ (by simp [ins]) (.inl n) ow
    · unfold ins at z
      simp at z
      rcases z with z | z
      · exact .inr (by rw [z]; exact n)
      · exact .inl z
    · simp [ins, z]
    · have k := A.kin j
      rw [z] at k
      exact ⟨k.bor, rfl⟩
theorem jbo_own (hN : N[i]? = some x) (hv : Vis sc x) (hd : (x == ("__debug__" : Str)) = false := by decide) (hcd : (x == ("__classdict__" : Str)) = false := by decide) : JBo c N sc [.Return (some (.Name x p1)) pos] (retO i) := by
  refine ⟨_, fun X I => pss_one (ps_ret (pe_var (i := i) (by rw [I.N]; exact hN) (I.vis hv) hd hcd)), fun σ H ρ B d ρ' S ee Dn hh => ?_⟩
  unfold retO at ee
  split at ee
  · rename_i d1 h1
    cases ee
    obtain ⟨l, g1, g2, g3⟩ := S.mu_ i _ h1 rfl
    exact ⟨.ref l, g1, hh l B σ H (Bf.refl S) g2 (.inr ⟨i, _, h1, g1⟩) g3⟩
  · cases ee
end
/-- what a def promises whose result is new -/
def spO (K : Frag) (fm : Fm) : Sp := fun vs H Q _ => ∃ (B : Addr → Bool) (as : List Sl) (d : D) (as' : List Sl), fm as = some (d, as') ∧ SR K B (vs.map some) H (as.map some) ∧
  ∀ l H', Af K B (vs.map some) H (as.map some) H' (as'.map some) → SR K (ins l B) (vs.map some) H' (as'.map some) → H l = none → OwnAt K (hide (ins l B) H') (H' l) d → Q (.ref l) H'
def runO (p n : Nat) (m : En → Option SO) : Fm := fun as => if as.length = p ∧ noOwn as = true then (match m (as.map some ++ List.replicate (n - p) none) with
  | some (.rt d ρ) => some (d, finA as ρ)
  | _ => none) else none
section
variable {K : Frag} {B B' : Addr → Bool} {σ' : L2.St} {H H' : Hp} {ρ' : En} {vs : List V} {as : List Sl} {n : Nat}
/-- with one more place hidden -/
theorem hide_put {l : Addr} {o : HO} (h : H l = none) : hide (ins l B) (upd H l o) = hide B H := by
  funext a
  unfold hide ins
  by_cases q : a = l
  · subst q
    simp [h]
  · rw [upd_ne q]
    simp [q]
theorem af_put {σ : St} {ρ : En} {l : Addr} {o : HO} (A : Af K B σ H ρ H' ρ') (S : SR K (ins l B) σ H' ρ') (n : H l = none) (o' : H' l = some o) : Af K (ins l B) σ (upd H l o) ρ H' ρ' := by
  refine ⟨S, fun b u e nm => ?_, fun b u e => ?_, A.kin⟩
  · by_cases q : b = l
    · subst q
      rw [upd_same] at e
      cases e
      exact o'
    · rw [upd_ne q] at e
      exact A.keep b u e nm
  · by_cases q : b = l
    · subst q
      exact ⟨_, o'⟩
    · rw [upd_ne q] at e
      exact A.grow b u e
theorem sr_put {σ : St} {ρ : En} {l : Addr} {o : HO} (S : SR K B σ H ρ) (n : H l = none) : SR K (ins l B) σ (upd H l o) ρ := by
  refine ⟨S.len, fun i d h => ?_, fun i s h m => ?_, S.inj, fun a h => ?_⟩
  · obtain ⟨v, g1, g2⟩ := S.val i d h
    exact ⟨v, g1, by rw [hide_put n]; exact g2⟩
  · obtain ⟨k, g1, g2, g3⟩ := S.mu_ i s h m
    obtain ⟨u, g4⟩ := g3.ne
    have ne : k ≠ l := fun e => by rw [e, n] at g4; cases g4
    refine ⟨k, g1, by simp [ins, g2], ?_⟩
    rw [hide_put n, upd_ne ne]
    exact g3
  · unfold ins at h
    simp at h
    by_cases q : a = l
    · subst q
      exact ⟨_, upd_same⟩
    · rw [upd_ne q]
      exact S.bk a (h.resolve_left q)
theorem arOk_put {σ : St} {ρ : En} {l : Addr} {o : HO} (n : H l = none) {v : V} : ∀ {a : Ar}, ArOk K B σ H ρ v a → ArOk K (ins l B) σ (upd H l o) ρ v a
  | .v d, h => by
    show Rp K (hide (ins l B) (upd H l o)) v d
    rw [hide_put n]
    exact h
  | .b i, h => h
theorem arsOk_put {σ : St} {ρ : En} {l : Addr} {o : HO} (n : H l = none) : ∀ {vs : List V} {as : List Ar}, ArsOk K B σ H ρ vs as → ArsOk K (ins l B) σ (upd H l o) ρ vs as
  | [], [], h => h
  | [], _ :: _, h => h
  | _ :: _, [], h => h
  | v :: vs, a :: as, ⟨h1, h2⟩ => ⟨arOk_put n h1, arsOk_put n h2⟩
end
section
variable {K : Frag} {B B' : Addr → Bool} {σ' : L2.St} {H H' : Hp} {ρ' : En} {vs : List V} {as : List Sl} {n : Nat} {l : Addr}
theorem leave_vis (S : SR K B (vs.map some) H (as.map some)) (no : noOwn as = true) (b : Bf K B (vs.map some ++ List.replicate n none) H (as.map some ++ List.replicate n none) B' σ' H' ρ') (bl : B' l = true) : Sub (hide B' H') (hide (ins l B) H') := fun a o z => by
  obtain ⟨z1, z2⟩ := hide_some z
  refine hide_of ?_ z2
  have ne : a ≠ l := fun e => by rw [e, bl] at z1; cases z1
  have : B a = false := by
    cases q : B a with
    | false => rfl
    | true =>
      exfalso
      by_cases m : Mine (vs.map some) (as.map some) a
      · obtain ⟨i, s, e, mu, e2⟩ := m
        have e := some_get.mp e
        cases s with
        | val d => cases mu
        | own d => exact absurd e (noOwn_get no)
        | bor d =>
          obtain ⟨⟨d', h1⟩, h2⟩ := b.bor i d (pad_get.mpr e)
          obtain ⟨k, g1, g2, _⟩ := b.sr.mu_ i _ h1 rfl
          rw [h2, pad_get.mpr (some_get.mp e2)] at g1
          cases g1
          rw [g2] at z1
          cases z1
      · have := b.hold a q fun z => m (entry_mine.mp z)
        rw [this] at z1
        cases z1
  simp [ins, ne, this]
theorem leave_ins (S : SR K B (vs.map some) H (as.map some)) (no : noOwn as = true) (b : Bf K B (vs.map some ++ List.replicate n none) H (as.map some ++ List.replicate n none) B' σ' H' ρ') (bl : B' l = true) (nl : H l = none) : SR K (ins l B) (vs.map some) H' ((finA as ρ').map some) := by
  obtain ⟨a, _⟩ := leave_af S no b
  have vis := leave_vis S no b bl
  have hs : Sub (hide B H) (hide (ins l B) H') := fun k o z => by
    obtain ⟨z1, z2⟩ := hide_some z
    have ne : k ≠ l := fun e => by rw [e, nl] at z2; cases z2
    refine hide_of (by simp [ins, ne, z1]) (a.keep k o z2 fun m => ?_)
    rw [S.mine m] at z1
    cases z1
  refine ⟨a.sr.len, fun i d e => ?_, fun i s e m => ?_, a.sr.inj, fun k h => ?_⟩
  · have k := a.kin i
    rw [e] at k
    have e0 : (as.map some)[i]? = some (some (.val d)) := by
      match q : (as.map some)[i]?, k with
      | some (some (.val d')), k =>
        have : d' = d := k
        rw [this]
    obtain ⟨v, f1, f2⟩ := S.val i d e0
    exact ⟨v, f1, f2.mono hs⟩
  · obtain ⟨k, g1, g2, _⟩ := a.sr.mu_ i s e m
    refine ⟨k, g1, by simp [ins, g2], ?_⟩
    have e := some_get.mp e
    rcases (finA_get as ρ' i).2 with ⟨d, d', a1, a2, a3⟩ | ⟨a1, a2⟩
    · rw [a3] at e
      cases e
      obtain ⟨k', f1, f2, f3⟩ := b.sr.mu_ i _ a2 rfl
      obtain ⟨_, h2⟩ := b.bor i d (pad_get.mpr a1)
      rw [h2, pad_get.mpr (some_get.mp g1)] at f1
      cases f1
      exact f3.mono vis
    · rw [a1] at e
      cases s with
      | val d => cases m
      | own d => exact absurd e (noOwn_get no)
      | bor d =>
        obtain ⟨⟨d', h1⟩, _⟩ := b.bor i d (pad_get.mpr e)
        exact absurd h1 (a2 d d' e)
  · by_cases q : k = l
    · subst q
      cases z : H' k with
      | some o => exact ⟨o, rfl⟩
      | none =>
        exfalso
        obtain ⟨o, e⟩ := b.sr.bk k bl
        rw [z] at e
        cases e
    · exact a.sr.bk k (by simpa [ins, q] using h)
end
section
variable {c : C0} {N : List Str} {sc : Scope} {e : Expr} {es : List Expr} {mr : En → Option (List Ar × En)} {pos p : Pos} {K : Frag} {x : Str}
theorem sf_call {ta : TA} {fm : Fm} {E : XK} (h : SG K ta mr) : Sf K (tCall (spO K fm) [] E ta) (callK fm mr) := fun σ H ρ B d ρ' S e Q q => by
  unfold callK at e
  cases q1 : mr ρ with
  | none => simp [q1] at e
  | some p =>
    obtain ⟨ars, ρ1⟩ := p
    simp only [q1, Option.bind_some] at e
    split at e
    · rename_i hl
      cases q2 : toSls ρ1 ars with
      | none => simp [q2] at e
      | some ss =>
        cases q3 : fm ss with
        | none => simp [q2, q3] at e
        | some r =>
          obtain ⟨z, ss'⟩ := r
          simp [q2, q3] at e
          obtain ⟨rfl, rfl⟩ := e
          refine h σ H ρ B _ _ S q1 _ fun vs H1 A1 ha => ?_
          show spO K fm (vs ++ []) H1 Q E
          rw [List.append_nil]
          refine ⟨B, ss, z, ss', q3, (call_sr A1.sr ha hl q2).1, fun l H2 A2 S2 n ow => ?_⟩
          obtain ⟨o, e2⟩ := ow.ne
          have n0 : H l = none := by
            cases q : H l with
            | none => rfl
            | some u =>
              obtain ⟨u', e'⟩ := A1.grow l u q
              rw [n] at e'
              cases e'
          exact q l H2 (A1.trans (call_back A1.sr ha hl q2 A2)) (call_back (sr_put (o := o) A1.sr n) (arsOk_put n ha) hl q2 (af_put A2 S2 n e2)).sr n0 ow
    · cases e
def FnO (c : C0) (k : Nat) (x : Str) (ps : List Str) (fm : Fm) : Prop :=
  ∃ (f : Addr) (fd : FuncData), FnOk c.P c.w c.K c.mg c.base CX0 k f fd ps (spO c.K fm) ∧ c.mg x = some (.ref f) ∧ PySem.W.keepIn c.K (.ref f) = true ∧ Binds c.K fd ps []
theorem jf_call {fm : Fm} {ps : List Str} {k : Nat} (F : FnO c k x ps fm) (hk : k ≤ c.k) (hg : sc.names.lookup x = some .globalImplicit) (ha : JG c N sc (e :: es) mr)
    (hdb : (x == ("__debug__" : Str)) = false := by decide) (he : ∀ env, starEach (e :: es) env = (false, eval e env) :: starEach es env := by intros; rfl) (hpl : ∀ env, (backTo pos (starEach es env)).any (·.1) = false := by intros; rfl) :
    JF c N sc (.Call (.Name x p) (e :: es) [] pos) (callK fm mr) := by
  obtain ⟨f, fd, F, h1, h2, h3⟩ := F
  obtain ⟨t, p1, s1⟩ := ha
  refine ⟨tCall (spO c.K fm) [] E0 t, fun X I => ?_, sf_call s1⟩
  obtain ⟨a1, a2, a3, a4, a5, a6, a7, a8, a9, a10, a11⟩ := id I
  have F' : FnOk X.prog X.w X.K X.mg X.base CX0 k f fd ps (spO c.K fm) := by
    rw [a1, a2, a3, a4, a5]
    exact F
  exact pe_call F' (a6.mono hk) (I.gl hg) (by rw [a4]; exact h1) (by rw [a3]; exact h2) (by rw [a3]; exact h3) .nil pass0 (p1 X I) hdb (he _) (hpl _)
end
/-- THE RULE for a def whose result is new -/
theorem fn_okO {c : C0} {x qual : Str} {st : Stmt} {f : Addr} {fd : FuncData} {N ps : List Str} {k : Nat} {m : En → Option SO} (F : Fun c.K x qual st f fd) (S : FnScope N ps (defScope st)) (h : JBo { c with k := k, top := true } N (defScope st) (defBody st) m) (hn : ps.length ≤ N.length := by decide) :
    FnOk c.P c.w c.K c.mg c.base CX0 (k + 1) f fd ps (spO c.K (runO ps.length N.length m)) := by
  refine F.ok S (fun vs H Q E h => ?_) (fun cdv A outer s H vs Q E hr h' => ?_)
  · obtain ⟨B, as, d, as', h1, h2, _⟩ := h
    have hl := h2.len
    rw [List.length_map, List.length_map] at hl
    unfold runO at h1
    split at h1
    · rename_i q
      rw [hl]; exact q.1
    · cases h1
  · obtain ⟨B, as, d, as', h1, h2, h3⟩ := h'
    obtain ⟨t, t1, t2⟩ := h
    refine ⟨t, t1 _ ⟨rfl, rfl, rfl, rfl, rfl, hr, rfl, rfl, rfl, fun _ => rfl, PassesOwn.never⟩, ?_⟩
    have hl := h2.len
    rw [List.length_map, List.length_map] at hl
    unfold runO at h1
    split at h1
    · rename_i q
      obtain ⟨q1, q2⟩ := q
      have es : L2.start N vs = vs.map some ++ List.replicate (N.length - ps.length) none := by
        unfold L2.start
        rw [hl, q1]
      rw [es]
      have S0 := entry_sr (n := N.length - ps.length) h2
      split at h1
      · rename_i d' ρ' e
        cases h1
        refine t2 _ H _ B _ _ S0 e _ fun l B' σ' H' b bl fr ow => ?_
        have n : H l = none := by
          rcases fr with z | ⟨i, d0, z1, z2⟩
          · exact z
          · exact absurd (pad_get.mp z1) (noOwn_get q2)
        obtain ⟨a, w⟩ := leave_af h2 q2 b
        exact h3 l H' a (leave_ins h2 q2 b bl n) n (ow.mono (leave_vis h2 q2 b bl))
      · cases h1
    · cases h1
theorem fnO {c : C0} {x qual : Str} {st : Stmt} {f : Addr} {fd : FuncData} {N ps : List Str} {k : Nat} {m : En → Option SO} (F : Fun c.K x qual st f fd) (hm : c.mg x = some (.ref f)) (b : Binds c.K fd ps []) (S : FnScope N ps (defScope st)) (h : JBo { c with k := k, top := true } N (defScope st) (defBody st) m) (hn : ps.length ≤ N.length := by decide) :
    FnO c (k + 1) x ps (runO ps.length N.length m) := ⟨f, fd, fn_okO F S h hn, hm, F.kp, b⟩
theorem At.fno {c : C0} {x : Str} {st : Stmt} {N ps : List Str} {k : Nat} {m : En → Option SO} (A : At c x st ps) (S : FnScope N ps (defScope st)) (h : JBo { c with k := k, top := true } N (defScope st) (defBody st) m) (hn : ps.length ≤ N.length := by decide) : FnO c (k + 1) x ps (runO ps.length N.length m) := by
  obtain ⟨f, fd, F, hm, b⟩ := A
  exact fnO F hm b S h hn
theorem retO_ {c : C0} {N : List Str} {sc : Scope} {x : Str} {p1 pos : Pos} (i : Nat) (hN : N[i]? = some x := by rfl) (hv : Vis sc x := by first | exact Or.inl rfl | exact Or.inr (Or.inl rfl) | exact Or.inr (Or.inr rfl)) (hd : (x == ("__debug__" : Str)) = false := by decide) (hcd : (x == ("__classdict__" : Str)) = false := by decide) : JBo c N sc [.Return (some (.Name x p1)) pos] (retO i) := jbo_own hN hv hd hcd
end Dz

/-! Dz. Y: max and min of a list of data, the place of a datum in a list, is of truth values. -/
namespace Dz
open PySem L2
variable {c : C0} {N : List Str} {sc : Scope}
theorem dpAll_at {K : Frag} {H : Hp} : ∀ {vs : List V} {ds : List D} {i : Nat} {v : V}, DpAll K H vs ds → vs[i]? = some v → ∃ d, ds[i]? = some d ∧ Dp K H v d
  | _, _, _, _, .nil, e => nomatch e
  | _, _, 0, _, .cons h _, e => by
    cases e
    exact ⟨_, rfl, h⟩
  | _, _, i + 1, _, .cons _ r, e => dpAll_at (i := i) r e
def okMx (ds : List D) : Bool := ds.all (okD 58) && (ds.all (fun x => ds.all fun y => PySem.W.alike x y) && ds.all fun x => !isNoneD x)
theorem okMx_all {ds : List D} (h : okMx ds = true) : PyData.depthAll ds ≤ 58 ∧ plains ds = true ∧ PySem.W.AlikeAll ds := by
  unfold okMx at h
  simp only [Bool.and_eq_true] at h
  obtain ⟨h1, h2, h3⟩ := h
  obtain ⟨_, k2, k3⟩ := okD_all (k := 58) (fun d hd => okD_ok 58 d hd) ds h1
  refine ⟨k2, k3, fun x hx y hy => List.all_eq_true.mp (List.all_eq_true.mp h2 x hx) y hy, fun x hx z => ?_⟩
  have := List.all_eq_true.mp h3 x hx
  rw [z] at this
  cases this
/-- one of a list's items is picked by the data -/
def rPick (K : Frag) (f : D → List D → D) : List V → Hp → VK → Prop := fun vs H Q => ∃ (a : Addr) (xs : List V) (d : D) (ds : List D), vs = [.ref a] ∧ SqL K H a xs ∧ DpAll K H xs (d :: ds) ∧ okMx (d :: ds) = true ∧ ∀ (i : Nat) v, xs[i]? = some v → (d :: ds)[i]? = some (f d ds) → Q v H
section
variable {X : Cx}
theorem cr_pick {id : String} {f : D → List D → D} (hc : X.calm = true) (hu : X.A.units + 64 < cLine)
    (rule : ∀ {s : Shared} {l : Addr} {vs : Array Value} {d : D} {ds : List D} {as : List Addr} {Q : Value → Shared → Prop}, X.A.handled = none → s.heap.IsList l vs → ReadsAll s.heap vs.toList (d :: ds) as → PySem.W.AlikeAll (d :: ds) → X.A.units + 1 + PyData.depthAll (d :: ds) < cLine →
      (∀ (i : Nat) v h' tk bs, vs[i]? = some v → Reads h' v (f d ds) bs → (∀ b o, s.heap.get? b = some o → h'.get? b = some o) → Q v { s with heap := h', toks := tk }) → wpAny (model X.prog X.w) X.A (call (.builtin id) [.ref l]) Q X.xe s) : CallR X (.builtin id) (rPick X.K f) := by
  intro pins s σ H vs us Q I r h
  obtain ⟨a, xs, d, ds, rfl, hs, hd, ok, q⟩ := h
  obtain ⟨dep, _, al⟩ := okMx_all ok
  obtain ⟨its, rv, pl, _⟩ := I.list hs
  rw [Vals.ref1 r]
  obtain ⟨as, rd⟩ := Dp.readsAll I (d :: ds) xs its hd rv
  refine rule (I.ok.hd hc) pl.isList rd al (by omega) fun i v h' tk bs hi hr hk => ?_
  have hi' : its[i]? = some v := by simpa using hi
  have li : i < xs.length := by
    have := (List.getElem?_eq_some_iff.mp hi').1
    have := rv.length
    omega
  obtain ⟨u, hu', ru⟩ := rv.get (List.getElem?_eq_getElem li)
  rw [hi'] at hu'
  cases hu'
  obtain ⟨e, he, de⟩ := dpAll_at hd (List.getElem?_eq_getElem li)
  obtain ⟨cs, re⟩ := Dp.reads I e _ v de ru
  have same := (PyProof.Rows.reads_det (fun b o x _ => hk b o x) re hr).1
  exact ⟨_, H, I.kept hk, ru, q i _ (List.getElem?_eq_getElem li) (by rw [same]; exact he)⟩
end
def dMaxL : List D → Option D
  | [.list (d :: ds)] => if okMx (d :: ds) = true then some (PySem.W.maxD d ds) else none
  | _ => none
def dMinL : List D → Option D
  | [.list (d :: ds)] => if okMx (d :: ds) = true then some (PySem.W.minD d ds) else none
  | _ => none
theorem c_maxL : CaD c.K (In c N sc) (.builtin "max") dMaxL := by
  refine ⟨rPick c.K PySem.W.maxD, fun X I => ?_, fun B H vs ds z bk hv hz Q q => ?_⟩
  · have h := cr_pick (X := X) (id := "max") (f := PySem.W.maxD) I.calm I.rm.units fun hh hl hr ha hu h => PySem.W.max_list_data hh hl hr ha hu h
    rw [I.K] at h
    exact h
  · unfold dMaxL at hz
    split at hz
    · rename_i d ds
      split at hz
      · rename_i ok
        cases hz
        obtain ⟨v, rfl, h⟩ := hv.one
        obtain ⟨a, xs, rfl, h1, r1⟩ := h.list
        exact ⟨a, xs, d, ds, rfl, h1, (r1.mono (hide_sub B H)).dp (okMx_all ok).2.1, ok, fun i v e1 e2 => by
          obtain ⟨e, k1, k2⟩ := r1.get e1
          rw [e2] at k1
          cases k1
          exact q v H (Sub.refl H) k2⟩
      · cases hz
    · cases hz
theorem c_minL : CaD c.K (In c N sc) (.builtin "min") dMinL := by
  refine ⟨rPick c.K PySem.W.minD, fun X I => ?_, fun B H vs ds z bk hv hz Q q => ?_⟩
  · have h := cr_pick (X := X) (id := "min") (f := PySem.W.minD) I.calm I.rm.units fun hh hl hr ha hu h => PySem.W.min_list_data hh hl hr ha hu h
    rw [I.K] at h
    exact h
  · unfold dMinL at hz
    split at hz
    · rename_i d ds
      split at hz
      · rename_i ok
        cases hz
        obtain ⟨v, rfl, h⟩ := hv.one
        obtain ⟨a, xs, rfl, h1, r1⟩ := h.list
        exact ⟨a, xs, d, ds, rfl, h1, (r1.mono (hide_sub B H)).dp (okMx_all ok).2.1, ok, fun i v e1 e2 => by
          obtain ⟨e, k1, k2⟩ := r1.get e1
          rw [e2] at k1
          cases k1
          exact q v H (Sub.refl H) k2⟩
      · cases hz
    · cases hz
/-! is of truth values -/
def dIsT : D → D → Option D
  | .bool a, .bool b => some (.bool (decide (a = b)))
  | _, _ => none
def dIsNotT : D → D → Option D
  | .bool a, .bool b => some (.bool (!decide (a = b)))
  | _, _ => none
theorem o_isT : OpD c.K (In c N sc) (compareOp .Is) dIsT := by
  refine ⟨_, fun X I => op_isBl, fun B H x y d e z bk hx hy hz Q q => ?_⟩
  unfold dIsT at hz
  split at hz
  · cases hz
    exact ⟨_, _, hx.bool, hy.bool, q _ H (Sub.refl H) (.bl _)⟩
  · cases hz
theorem o_isNotT : OpD c.K (In c N sc) (compareOp .IsNot) dIsNotT := by
  refine ⟨_, fun X I => op_notBl, fun B H x y d e z bk hx hy hz Q q => ?_⟩
  unfold dIsNotT at hz
  split at hz
  · cases hz
    exact ⟨_, _, hx.bool, hy.bool, q _ H (Sub.refl H) (.bl _)⟩
  · cases hz
/-! xs.index(v) -/
def dIndex (ds : List D) (d : D) : Option D := if okD 60 (.list ds) = true ∧ okD 60 d = true then (ds.findIdx? fun z => PyData.eqv z d).map fun j => .int (j : Nat) else none
def indexK (ma mb : En → Option (D × En)) : En → Option (D × En) := fun ρ => match ma ρ with
  | some (.list ds, ρ1) => (mb ρ1).bind fun q => (dIndex ds q.1).map fun z => (z, q.2)
  | _ => none
theorem je_index {o e : Expr} {p2 p3 : Pos} {mo ma : En → Option (D × En)} (h : JE c N sc o mo) (ha : JE c N sc e ma)
    (hbase : ∀ env, attributeBase o "index" env (eval o env) = eval o env := by intros; rfl)
    (hfew : ∀ env, ((backTo p3 (starEach [e] env)).all (fun x => !x.1) && (backToKw p3 (keywordEach [] env)).all (fun x => x.1.isSome) && decide (([e] : List Expr).length + ([] : List Keyword).length + (if ([] : List Keyword).isEmpty then 0 else 1) < 30)) = true := by intros; rfl)
    (hline : (p2.endLine == p3.line) = true := by rfl) (hs : ∀ env, starEach [e] env = (false, eval e env) :: starEach [] env := by intros; rfl) (hplain : ∀ env, (backTo p3 (starEach [] env)).any (·.1) = false := by intros; rfl) :
    JE c N sc (.Call (.Attribute o "index" p2) [e] [] p3) (indexK mo ma) := by
  obtain ⟨t, h1, h2⟩ := h
  obtain ⟨u, k1, k2⟩ := ha
  refine ⟨tBM c.K "list" (rIndexD c.K) t (tCons u tNil), fun X I => ?_, fun σ H ρ B d ρ' S ee Q q => ?_⟩
  · have z := pe_bm (apos := p2) (cpos := p3) PySem.F.plainAttrs_list PySem.F.slot_list_index PySem.F.type_list_index (mt_indexD (X := X) (by have := I.rm.un; omega)) (h1 X I) (pa_cons (k1 X I) pa_nil (hs _)) (hbase _) (hfew _) hline (hs _) (hplain _)
    rw [I.K] at z
    exact z
  · unfold indexK at ee
    split at ee
    · rename_i ds ρ1 e1
      cases e2 : ma ρ1 with
      | none => simp [e2] at ee
      | some p =>
        obtain ⟨y, ρ2⟩ := p
        cases e3 : dIndex ds y with
        | none => simp [e2, e3] at ee
        | some z =>
          simp [e2, e3] at ee
          obtain ⟨rfl, rfl⟩ := ee
          refine h2 σ H ρ B _ _ S e1 _ fun v H1 A1 r1 => ?_
          cases r1 with
          | lst hs1 rr1 =>
            refine ⟨.inl ⟨rfl, _, sub_l (hide_sub B H1) hs1⟩, ?_⟩
            refine k2 σ H1 ρ1 B _ _ A1.sr e2 _ fun w H2 A2 r2 => ?_
            unfold dIndex at e3
            split at e3
            · rename_i ok
              obtain ⟨o1, o2⟩ := ok
              cases e4 : ds.findIdx? (fun z => PyData.eqv z y) with
              | none => simp [e4] at e3
              | some j =>
                simp [e4] at e3
                subst e3
                obtain ⟨lj, ej, nj⟩ := List.findIdx?_eq_some_iff_getElem.mp e4
                have sh1 := okD_shaped o1 (by decide)
                have sh2 := okD_shaped o2 (by decide)
                have rl : Rp c.K (hide B H2) (.ref _) (.list ds) := (Rp.lst hs1 rr1).mono (A2.sub A1.sr)
                refine ⟨_, w, y, ds, j, ds[j], rfl, rfl, (rl.mono (hide_sub B H2)).dp sh1.2, (r2.mono (hide_sub B H2)).dp sh2.2, sh1.1, sh2.1, List.getElem?_eq_getElem lj, ej, fun m z' hm hz' => ?_, q _ H2 (A1.trans A2) (.int _)⟩
                have lm : m < ds.length := by omega
                rw [List.getElem?_eq_getElem lm] at hz'
                cases hz'
                have := nj m hm
                simpa using this
            · cases e3
    · cases ee
end Dz

/-! Dz. Z: list(zip(t, u)) of two tuples. -/
namespace Dz
open PySem L2
open PySem.Sem (wp)
section
variable {prog : Program} {w : World} {A : Around} {E : Value → Shared → Prop} {s : Shared} {z TI TO i1 i2 l1 l2 : Addr} {xs ys : Array Value}
/-- what a zip's next leaves alone -/
def Rest (z TO i1 i2 : Addr) (h h' : Heap) : Prop := ∀ c o, c ≠ z → c ≠ TO → c ≠ i1 → c ≠ i2 → h.get? c = some o → h'.get? c = some o
theorem zh_code {T : Addr} {f : Bool} {oT : Obj} {k : Nat} {Q : Value → Shared → Prop} (hh : A.handled = none) (D : ZipApart z TI TO i1 i2 l1 l2)
    (hz : IsZipHeld s.heap z TI TO T f) (hT : s.heap.get? T = some oT) (hTI : IsPair s.heap TI (.ref i1) (.ref i2))
    (h1 : s.heap.IsTupleIter i1 l1 k) (h2 : s.heap.IsTupleIter i2 l2 k) (hl1 : s.heap.IsTuple l1 xs) (hl2 : s.heap.IsTuple l2 ys)
    (hQ : ∀ x y h', xs[k]? = some x → ys[k]? = some y → IsZipHeld h' z TI TO T true → h'.IsTupleIter i1 l1 (k + 1) → h'.IsTupleIter i2 l2 (k + 1) → IsPair h' s.heap.objs.size x y → h'.objs.size = s.heap.objs.size + 1 →
      Rest z TO i1 i2 s.heap h' → Q (.ref s.heap.objs.size) { s with heap := h' })
    (hE : ∀ h' e, (xs[k]? = none ∨ ys[k]? = none) → Rest z TO i1 i2 s.heap h' → (∃ o, h'.get? e = some o ∧ o.cls = .type "StopIteration") → E (.ref e) { s with heap := h' }) :
    wpAny (model prog w) A (Builtin.«zip.__next__» ⟨[.ref z], []⟩) (fun fin s' => ∃ v, fin = .done (.ret v) ∧ Q v s') E s := by
  show wpAny _ _ (field (.ref z) 2 >>= _) _ _ _
  refine wpAny_bind (wpAny_field hz rfl (x := .bool false) rfl ?_)
  show wpAny _ _ (field (.ref z) 3 >>= _) _ _ _
  refine wpAny_bind (wpAny_field hz rfl (x := .ref TI) rfl ?_)
  refine wpAny_bind (wpAny_seqItems hTI rfl ?_)
  show wpAny _ _ (Builtin.SmallTypes.ownedTupleIsFree (.ref z) >>= _) _ _ _
  refine wpAny_bind (wpAny_tupleHeld_zip hz hT fun ha hza sa => ?_)
  simp only [Bool.false_eq_true, if_false]
  have ta : ha.IsTuple l1 xs := hl1.extBut sa.extBut D.l1z
  have ua : ha.IsTuple l2 ys := hl2.extBut sa.extBut D.l2z
  refine wpAny_bind ?_
  rw [← Array.forIn_toList]
  simp only [List.forIn_cons, List.forIn_nil]
  refine wpAny_bind (wpAny_bind (wpAny_holding ?_))
  show wpAny _ _ (Builtin.SmallTypes.nextOf (.ref i1) >>= _) _ _ _
  cases ex : xs[k]? with
  | none =>
    refine wpAny_bind (RZ.nextOf_tuple_end (s := { s with heap := ha }) hh (h1.extBut sa.extBut D.i1z) ta ex fun hb e sb he => ?_)
    exact hE hb e (.inl ex) (fun c o c1 _ c3 _ q => sb _ _ c3 (sa.extBut _ _ c1 q)) he
  | some x =>
    refine wpAny_bind (RZ.nextOf_tuple_item (s := { s with heap := ha }) (h1.extBut sa.extBut D.i1z) ta ex fun hb i1b sb => wpAny_pure ?_)
    refine wpAny_pure ?_
    refine wpAny_bind (wpAny_bind (wpAny_holding ?_))
    show wpAny _ _ (Builtin.SmallTypes.nextOf (.ref i2) >>= _) _ _ _
    have j2 : hb.IsTupleIter i2 l2 k := (h2.extBut sa.extBut D.i2z).extBut sb.extBut D.i12.symm
    have ub : hb.IsTuple l2 ys := ua.extBut sb.extBut D.l2i1
    cases ey : ys[k]? with
    | none =>
      refine wpAny_bind (RZ.nextOf_tuple_end (s := { s with heap := hb }) hh j2 ub ey fun hc e sc he => ?_)
      exact hE hc e (.inr ey) (fun c o c1 _ c3 c4 q => sc _ _ c4 (sb.extBut _ _ c3 (sa.extBut _ _ c1 q))) he
    | some y =>
      refine wpAny_bind (RZ.nextOf_tuple_item (s := { s with heap := hb }) j2 ub ey fun hc i2c sc => wpAny_pure ?_)
      refine wpAny_pure (wpAny_pure ?_)
      show wpAny _ _ (newTuple [x, y] >>= _) _ _ _
      refine wpAny_bind (wpAny_newTuple (wpAny_pure ⟨_, rfl, ?_⟩))
      have size : hc.objs.size = s.heap.objs.size := by rw [sc.1, sb.1, sa.1]
      have up : ∀ c o, hc.get? c = some o → (hc.push { cls := .type "tuple", data := .seq #[x, y] }).get? c = some o := fun c o q => Heap.get?_push_of_some _ q
      have at0 : IsPair (hc.push { cls := .type "tuple", data := .seq #[x, y] }) hc.objs.size x y := Heap.get?_push_size _ rfl
      have sz0 : (hc.push { cls := .type "tuple", data := .seq #[x, y] }).objs.size = hc.objs.size + 1 := Heap.size_push ..
      show Q (.ref hc.objs.size) _
      rw [size] at at0 sz0 ⊢
      refine hQ x y _ ex ey (up _ _ (sc.extBut _ _ D.i2z.symm (sb.extBut _ _ D.i1z.symm hza))) ?_ ?_ at0 sz0 fun c o c1 _ c3 c4 q => up _ _ (sc.extBut _ _ c4 (sb.extBut _ _ c3 (sa.extBut _ _ c1 q)))
      · exact (i1b.extBut sc.extBut D.i12).at fun o q => up _ _ q
      · exact i2c.at fun o q => up _ _ q
theorem zh_next {T : Addr} {f : Bool} {oT : Obj} {k : Nat} {Q : Option Value → Shared → Prop} (hh : A.handled = none) (D : ZipApart z TI TO i1 i2 l1 l2)
    (hz : IsZipHeld s.heap z TI TO T f) (hT : s.heap.get? T = some oT) (hTI : IsPair s.heap TI (.ref i1) (.ref i2))
    (h1 : s.heap.IsTupleIter i1 l1 k) (h2 : s.heap.IsTupleIter i2 l2 k) (hl1 : s.heap.IsTuple l1 xs) (hl2 : s.heap.IsTuple l2 ys)
    (hQ : ∀ x y h', xs[k]? = some x → ys[k]? = some y → IsZipHeld h' z TI TO T true → h'.IsTupleIter i1 l1 (k + 1) → h'.IsTupleIter i2 l2 (k + 1) → IsPair h' s.heap.objs.size x y → h'.objs.size = s.heap.objs.size + 1 →
      Rest z TO i1 i2 s.heap h' → Q (some (.ref s.heap.objs.size)) { s with heap := h' })
    (hE : ∀ h', (xs[k]? = none ∨ ys[k]? = none) → Rest z TO i1 i2 s.heap h' → Q none { s with heap := h' }) : wpAny (model prog w) A (pyNext (.ref z)) Q E s := by
  have ty : s.TypeIs (.ref z) "zip" := ⟨_, hz, rfl⟩
  unfold pyNext
  refine wpAny_bind (wpAny_attempt (wpAny_callSpecial?_slot (name := Str.ofString "__next__") ty F.slot_zip_next (wpAny_call_entry F.slot_zip_next ty F.entry_zip_next
    (zh_code hh D hz hT hTI h1 h2 hl1 hl2 (fun x y h' a1 a2 a3 a4 a5 a6 a7 a8 => wpAny_pure (hQ x y h' a1 a2 a3 a4 a5 a6 a7 a8)) fun h' e a1 a2 a3 => ?_) (F.args_zip_next_1 _))))
  obtain ⟨o, ho, hc⟩ := a3
  exact wpAny_bind (wpAny_isInstance (T := "StopIteration") (b := true) ⟨o, ho, hc⟩ isSubtype_stop (wpAny_pure (hE h' a1 a2)))
/-- the zip behind i turns, its tuples above S -/
structure ZSt (z TI TO i1 i2 l1 l2 S : Addr) (xs ys : Array Value) (i : Nat) (h : Heap) : Prop where
  ti : IsPair h TI (.ref i1) (.ref i2)
  a1 : h.IsTupleIter i1 l1 i
  a2 : h.IsTupleIter i2 l2 i
  t1 : h.IsTuple l1 xs
  t2 : h.IsTuple l2 ys
  st : (IsZip h z TI TO .none ∧ ∃ a b, IsPair h TO a b) ∨ ∃ T f o, IsZipHeld h z TI TO T f ∧ h.get? T = some o ∧ S < T
structure Below (z TI TO i1 i2 l1 l2 S : Addr) : Prop where
  z : z < S
  ti : TI < S
  to : TO < S
  a1 : i1 < S
  a2 : i2 < S
  t1 : l1 < S
  t2 : l2 < S
variable {S : Addr}
theorem ZSt.keep {i : Nat} {h h' : Heap} (B : Below z TI TO i1 i2 l1 l2 S) (x : ZSt z TI TO i1 i2 l1 l2 S xs ys i h) (k : ∀ b o, b ≠ S → h.get? b = some o → h'.get? b = some o) : ZSt z TI TO i1 i2 l1 l2 S xs ys i h' where
  ti := k _ _ (Nat.ne_of_lt B.ti) x.ti
  a1 := x.a1.at fun o q => k _ o (Nat.ne_of_lt B.a1) q
  a2 := x.a2.at fun o q => k _ o (Nat.ne_of_lt B.a2) q
  t1 := x.t1.at fun o q => k _ o (Nat.ne_of_lt B.t1) q
  t2 := x.t2.at fun o q => k _ o (Nat.ne_of_lt B.t2) q
  st := by
    rcases x.st with ⟨e, a, b, r⟩ | ⟨T, f, o, e, r, l⟩
    · exact .inl ⟨k _ _ (Nat.ne_of_lt B.z) e, a, b, k _ _ (Nat.ne_of_lt B.to) r⟩
    · exact .inr ⟨T, f, o, k _ _ (Nat.ne_of_lt B.z) e, k _ _ (Nat.ne_of_gt l) r, l⟩
theorem zs_next {i : Nat} {Q : Option Value → Shared → Prop} (hh : A.handled = none) (D : ZipApart z TI TO i1 i2 l1 l2) (B : Below z TI TO i1 i2 l1 l2 S) (x : ZSt z TI TO i1 i2 l1 l2 S xs ys i s.heap) (hS : S < s.heap.objs.size)
    (hQ : ∀ x y h', xs[i]? = some x → ys[i]? = some y → ZSt z TI TO i1 i2 l1 l2 S xs ys (i + 1) h' → IsPair h' s.heap.objs.size x y → h'.objs.size = s.heap.objs.size + 1 → Rest z TO i1 i2 s.heap h' → Q (some (.ref s.heap.objs.size)) { s with heap := h' })
    (hE : ∀ h', (xs[i]? = none ∨ ys[i]? = none) → Rest z TO i1 i2 s.heap h' → Q none { s with heap := h' }) : wpAny (model prog w) A (pyNext (.ref z)) Q E s := by
  have kt : ∀ {h'}, Rest z TO i1 i2 s.heap h' → h'.IsTuple l1 xs ∧ h'.IsTuple l2 ys ∧ IsPair h' TI (.ref i1) (.ref i2) := fun r =>
    ⟨x.t1.at fun o q => r _ o D.l1z D.l1TO D.l1i1 D.l1i2 q, x.t2.at fun o q => r _ o D.l2z D.l2TO D.l2i1 D.l2i2 q, r _ _ D.TIz D.TITO D.TIi1 D.TIi2 x.ti⟩
  rcases x.st with ⟨e, a, b, r⟩ | ⟨T, f, o, e, r, l⟩
  · cases ex : xs[i]? with
    | none => exact RZ.pyNext_zipT_end hh D e x.ti r x.a1 x.a2 x.t1 x.t2 (.inl ex) fun h' k => hE h' (.inl ex) k
    | some u =>
      cases ey : ys[i]? with
      | none => exact RZ.pyNext_zipT_end hh D e x.ti r x.a1 x.a2 x.t1 x.t2 (.inr ey) fun h' k => hE h' (.inr ey) k
      | some v =>
        refine RZ.pyNext_zipT_item D e x.ti r x.a1 x.a2 x.t1 x.t2 ex ey fun h' e1 e2 e3 e4 e5 e6 k => ?_
        obtain ⟨k1, k2, k3⟩ := kt k
        exact hQ u v h' ex ey ⟨k3, e3, e4, k1, k2, .inr ⟨_, false, _, e1, e5, hS⟩⟩ e5 e6 k
  · refine zh_next hh D e r x.ti x.a1 x.a2 x.t1 x.t2 (fun u v h' ex ey e1 e3 e4 e5 e6 k => ?_) hE
    obtain ⟨k1, k2, k3⟩ := kt k
    have ne : ∀ c, c < S → T ≠ c := fun c q => Nat.ne_of_gt (Nat.lt_trans q l)
    exact hQ u v h' ex ey ⟨k3, e3, e4, k1, k2, .inr ⟨T, true, o, e1, k _ _ (ne _ B.z) (ne _ B.to) (ne _ B.a1) (ne _ B.a2) r, l⟩⟩ e5 e6 k
/-- the pairs that were made -/
structure ZG (S : Addr) (xs ys : Array Value) (h : Heap) (as : List Addr) : Prop where
  rise : as.Pairwise (· < ·)
  above : ∀ a ∈ as, S < a
  pairs : ∀ (j : Nat) (a : Addr), as[j]? = some a → ∃ x y, xs[j]? = some x ∧ ys[j]? = some y ∧ IsPair h a x y
theorem ZG.keep {h h' : Heap} {as : List Addr} (g : ZG S xs ys h as) (k : ∀ a o, S < a → h.get? a = some o → h'.get? a = some o) : ZG S xs ys h' as :=
  ⟨g.rise, g.above, fun j a e => let ⟨x, y, e1, e2, e3⟩ := g.pairs j a e; ⟨x, y, e1, e2, k a _ (g.above a (List.mem_of_getElem? e)) e3⟩⟩
theorem ZG.snoc {h : Heap} {as : List Addr} {a : Addr} {x y : Value} (g : ZG S xs ys h as) (hx : xs[as.length]? = some x) (hy : ys[as.length]? = some y) (ha : IsPair h a x y) (hS : S < a) (hl : ∀ b ∈ as, b < a) : ZG S xs ys h (as ++ [a]) where
  rise := List.pairwise_append.mpr ⟨g.rise, List.pairwise_singleton _ _, fun b hb c hc => by rw [List.mem_singleton.mp hc]; exact hl b hb⟩
  above := fun b hb => by
    rcases List.mem_append.mp hb with q | q
    · exact g.above b q
    · rw [List.mem_singleton.mp q]; exact hS
  pairs := fun j b e => by
    rw [List.getElem?_append] at e
    split at e
    · exact g.pairs j b e
    · have : j = as.length := by
        have := (List.getElem?_eq_some_iff.mp e).1
        simp at this
        omega
      subst this
      simp at e
      subst e
      exact ⟨x, y, hx, hy, ha⟩
abbrev lstO (acc : Array Value) (c : Nat) : Obj := { cls := .type "list", dict := none, data := .seq acc c, slots := #[] }
theorem zl_loop {R : Result → Shared → Prop} (hh : A.handled = none) (D : ZipApart z TI TO i1 i2 l1 l2) (B : Below z TI TO i1 i2 l1 l2 S) (hn : xs.size ≤ sizeLine) (res : Value) {h0 : Heap}
    (hR : ∀ h' tk acc c as, (∀ b o, b ≠ S → b ≠ z → b ≠ TO → b ≠ i1 → b ≠ i2 → h0.get? b = some o → h'.get? b = some o) → h'.get? S = some (lstO acc c) → as.length = min xs.size ys.size → ZG S xs ys h' as → acc.toList = as.map Value.ref →
      R (.ok (.ret res)) { s with heap := h', toks := tk }) :
    ∀ (k i : Nat) (h : Heap) (tk c : Nat) (acc : Array Value) (as : List Addr), xs.size - i = k → i ≤ xs.size → i ≤ ys.size → ZSt z TI TO i1 i2 l1 l2 S xs ys i h →
      (∀ b o, b ≠ S → b ≠ z → b ≠ TO → b ≠ i1 → b ≠ i2 → h0.get? b = some o → h.get? b = some o) → h.get? S = some (lstO acc c) → acc.toList = as.map Value.ref → as.length = i → ZG S xs ys h as →
      codeAny (model prog w) A (.builtin "list.extend.loop" ⟨[.ref S, .ref z, res], []⟩) R { s with heap := h, toks := tk } := by
  intro k
  induction k with
  | zero =>
    intro i h tk c acc as hk hi hj x keep hS hacc hal g
    refine codeAny_builtin PySem.F.entry_extend_loop ?_
    rw [Around.under_plainId PySem.F.plain_extend_loop _]
    show wpAny _ A.in1 (pyNext (.ref z) >>= _) _ _ _
    refine wpAny_bind (zs_next (s := { s with heap := h, toks := tk }) (A := A.in1) hh D B x (Heap.lt_size hS) (fun u v h' ex _ _ _ _ _ => ?_) fun h' _ r => ?_)
    · have := (Array.getElem?_eq_some_iff.mp ex).1
      omega
    · refine wpAny_pure (hR h' tk acc c as (fun b o b1 b2 b3 b4 b5 q => r b o b2 b3 b4 b5 (keep b o b1 b2 b3 b4 b5 q)) (r S _ (Nat.ne_of_gt B.z) (Nat.ne_of_gt B.to) (Nat.ne_of_gt B.a1) (Nat.ne_of_gt B.a2) hS) (by omega) (g.keep fun a o l q => ?_) hacc)
      exact r a o (Nat.ne_of_gt (Nat.lt_trans B.z l)) (Nat.ne_of_gt (Nat.lt_trans B.to l)) (Nat.ne_of_gt (Nat.lt_trans B.a1 l)) (Nat.ne_of_gt (Nat.lt_trans B.a2 l)) q
  | succ k ih =>
    intro i h tk c acc as hk hi hj x keep hS hacc hal g
    have far : ∀ {h'}, Rest z TO i1 i2 h h' → ∀ a o, S < a → h.get? a = some o → h'.get? a = some o := fun r a o l q =>
      r a o (Nat.ne_of_gt (Nat.lt_trans B.z l)) (Nat.ne_of_gt (Nat.lt_trans B.to l)) (Nat.ne_of_gt (Nat.lt_trans B.a1 l)) (Nat.ne_of_gt (Nat.lt_trans B.a2 l)) q
    refine codeAny_builtin PySem.F.entry_extend_loop ?_
    rw [Around.under_plainId PySem.F.plain_extend_loop _]
    show wpAny _ A.in1 (pyNext (.ref z) >>= _) _ _ _
    refine wpAny_bind (zs_next (s := { s with heap := h, toks := tk }) (A := A.in1) hh D B x (Heap.lt_size hS) (fun u v h' ex ey x' ht hz r => ?_) fun h' en r => ?_)
    · dsimp only at ht hz r ⊢
      have lx := (Array.getElem?_eq_some_iff.mp ex).1
      have ly := (Array.getElem?_eq_some_iff.mp ey).1
      have hsz : acc.size = i := by rw [← Array.length_toList, hacc, List.length_map, hal]
      have lS : S < h.objs.size := Heap.lt_size hS
      have hS' := r S _ (Nat.ne_of_gt B.z) (Nat.ne_of_gt B.to) (Nat.ne_of_gt B.a1) (Nat.ne_of_gt B.a2) hS
      have up : ∀ b o, b ≠ S → h'.get? b = some o → (h'.update S (Obj.mapSeq (·.push (Value.ref h.objs.size)))).get? b = some o := fun b o hb e => (Heap.get?_update_other _ _ (Ne.symm hb)).trans e
      show wpAny _ A.in1 (updateSeq S (·.push (Value.ref h.objs.size)) >>= _) _ _ _
      refine wpAny_bind (wpAny_updateSeq hS' rfl (wpAny_pure ⟨plainId_quiet PySem.F.plain_extend_loop _, ih (i + 1) _ tk _ (acc.push (Value.ref h.objs.size)) (as ++ [h.objs.size]) (by omega) lx ly (x'.keep B up)
        (fun b o b1 b2 b3 b4 b5 q => up b o b1 (r b o b2 b3 b4 b5 (keep b o b1 b2 b3 b4 b5 q))) (Heap.get?_update_self _ hS' rfl) (by rw [Array.toList_push, hacc, List.map_append]; rfl) (by rw [List.length_append, hal]; rfl) ?_⟩) (by rw [hsz]; omega) (by show (acc.push (Value.ref h.objs.size)).size ≤ sizeLine + 1; rw [Array.size_push, hsz]; omega))
      refine ZG.snoc (x := u) (y := v) ((g.keep (far r)).keep fun a o l q => up a o (Nat.ne_of_gt l) q) (by rw [hal]; exact ex) (by rw [hal]; exact ey) (up _ _ (Nat.ne_of_gt lS) ht) lS fun b hb => ?_
      obtain ⟨j, hj⟩ := List.mem_iff_getElem?.mp hb
      obtain ⟨_, _, _, _, e⟩ := g.pairs j b hj
      exact Heap.lt_size e
    · refine wpAny_pure (hR h' tk acc c as (fun b o b1 b2 b3 b4 b5 q => r b o b2 b3 b4 b5 (keep b o b1 b2 b3 b4 b5 q)) (r S _ (Nat.ne_of_gt B.z) (Nat.ne_of_gt B.to) (Nat.ne_of_gt B.a1) (Nat.ne_of_gt B.a2) hS) ?_ (g.keep (far r)) hacc)
      rcases en with e | e
      · have := Array.getElem?_eq_none_iff.mp e
        omega
      · have := Array.getElem?_eq_none_iff.mp e
        omega
theorem zip_no_len : typeLookup (.type "zip") "__len__" = pure none := am_miss_of_fast (by decide +kernel)
theorem zip_no_hint : typeLookup (.type "zip") "__length_hint__" = pure none := am_miss_of_fast (by decide +kernel)
theorem zip_hint {Q : Bool → Shared → Prop} (ty : s.TypeIs (.ref z) "zip") (h : Q true s) : wpAny (model prog w) A (Builtin.List.listLengthHint (.ref z)) Q E s := by
  unfold Builtin.List.listLengthHint
  refine wpAny_bind (wpAny_specialOf ty zip_no_len ?_)
  wp_delta
  refine wpAny_ite_split (fun hab => absurd hab (by decide)) (fun _ => ?_)
  refine wpAny_ite_split (fun hab => absurd hab (by decide)) (fun _ => ?_)
  exact wpAny_bind (wpAny_specialOf ty zip_no_hint (wpAny_pure h))
theorem zl_extend {R : Result → Shared → Prop} (hh : A.handled = none) (D : ZipApart z TI TO i1 i2 l1 l2) (B : Below z TI TO i1 i2 l1 l2 S) (hn : xs.size ≤ sizeLine) (res : Value) (c0 : Nat) (x : ZSt z TI TO i1 i2 l1 l2 S xs ys 0 s.heap) (hz : IsZip s.heap z TI TO .none) (hS : s.heap.get? S = some (lstO #[] c0))
    (hR : ∀ h' tk acc c as, (∀ b o, b ≠ S → b ≠ z → b ≠ TO → b ≠ i1 → b ≠ i2 → s.heap.get? b = some o → h'.get? b = some o) → h'.get? S = some (lstO acc c) → as.length = min xs.size ys.size → ZG S xs ys h' as → acc.toList = as.map Value.ref →
      R (.ok (.ret res)) { s with heap := h', toks := tk }) :
    wpAny (model prog w) A.in1 (Builtin.List.listExtendWith (.ref S) (.ref z) res)
      (fun fin s' => match fin with | .done f => R (.ok f) s' | .again c' => c'.quiet = true ∧ codeAny (model prog w) A c' R s') (fun e s' => R (.error e) s') s := by
  have go : ∀ (h : Heap) (c tk : Nat), (∀ b o, b ≠ S → s.heap.get? b = some o → h.get? b = some o) → h.get? S = some (lstO #[] c) → codeAny (model prog w) A (.builtin "list.extend.loop" ⟨[.ref S, .ref z, res], []⟩) R { s with heap := h, toks := tk } := fun h c tk k hS1 =>
    zl_loop (s := s) (h0 := s.heap) hh D B hn res hR xs.size 0 h tk c #[] [] (Nat.sub_zero _) (Nat.zero_le _) (Nat.zero_le _) (x.keep B k) (fun b o b1 _ _ _ _ q => k b o b1 q) hS1 rfl rfl ⟨List.Pairwise.nil, fun _ q => (nomatch q), fun j a q => by simp at q⟩
  have ne : S ≠ z := Nat.ne_of_gt B.z
  have ty : s.TypeIs (.ref z) "zip" := ⟨_, hz, rfl⟩
  unfold Builtin.List.listExtendWith
  refine wpAny_bind (wpAny_typeOf (T := "zip") ty ?_)
  have f1 : Builtin.List.listSameRef (.ref S) (.ref z) = false := by simp [Builtin.List.listSameRef, ne]
  have f2 : (Value.type "zip" == Value.type "list") = false := by decide
  have f3 : (Value.type "zip" == Value.type "tuple") = false := by decide
  simp only [f1, f2, f3, Bool.or_false, Bool.false_eq_true, if_false]
  refine wpAny_bind (wpAny_pyIter_zip hz ?_)
  refine wpAny_bind (wpAny_holding (zip_hint ty ?_))
  refine wpAny_ite_split (fun _ => ?_) (fun q => absurd rfl q)
  refine wpAny_bind (wpAny_rule (wpAny_bind ?_))
  show wpAny _ _ (updateSeq S (·.push .none) >>= fun _ => updateSeq S (·.pop)) _ _ _
  refine wpAny_bind (wpAny_updateSeq hS rfl ?_)
  have s1 := Heap.get?_update_self (Obj.mapSeq (·.push Value.none)) hS rfl
  refine wpAny_updateSeq (hz := by seq_fits) s1 rfl ?_
  have s2 := Heap.get?_update_self (Obj.mapSeq (·.pop)) s1 rfl
  exact wpAny_pure ⟨plainId_quiet PySem.F.plain_extend_loop _, go _ _ _ (fun b o hb q => (Heap.get?_update_other _ _ (Ne.symm hb)).trans ((Heap.get?_update_other _ _ (Ne.symm hb)).trans q)) s2⟩
/-- list(z) of a new zip of two tuples -/
theorem zl_call {Q : Value → Shared → Prop} (hh : A.handled = none) (D : ZipApart z TI TO i1 i2 l1 l2) (B : Below z TI TO i1 i2 l1 l2 s.heap.objs.size) (hn : xs.size ≤ sizeLine) (x : ZSt z TI TO i1 i2 l1 l2 s.heap.objs.size xs ys 0 s.heap) (hz : IsZip s.heap z TI TO .none)
    (hQ : ∀ h' tk acc c as, (∀ b o, b ≠ z → b ≠ TO → b ≠ i1 → b ≠ i2 → s.heap.get? b = some o → h'.get? b = some o) → h'.get? s.heap.objs.size = some (lstO acc c) → as.length = min xs.size ys.size → ZG s.heap.objs.size xs ys h' as → acc.toList = as.map Value.ref →
      Q (.ref s.heap.objs.size) { s with heap := h', toks := tk }) : wpAny (model prog w) A (call (.type "list") [.ref z]) Q E s := by
  have up : ∀ b o, s.heap.get? b = some o → (s.heap.push (lstO #[] 0)).get? b = some o := fun b o q => Heap.get?_push_of_some _ q
  refine callType_codes (Q₁ := fun obj s₁ => obj = .ref s.heap.objs.size ∧ s₁ = { s with heap := s.heap.push { cls := .type "list", data := .seq #[] } }) PySem.F.called_list (PySem.F.typeCall_list_1 _) PySem.F.entry_list_init (code_list_new _ ⟨rfl, rfl⟩) ?_
  rintro obj s₁ ⟨rfl, rfl⟩
  have hS : (s.heap.push { cls := .type "list", data := .seq #[] }).get? s.heap.objs.size = some (lstO #[] 0) := Heap.get?_push_size _ rfl
  refine ⟨⟨_, hS, rfl⟩, PySem.F.args_list_init_2 _ _, ?_⟩
  show wpAny _ _ (do let old ← Builtin.List.listItems (.ref s.heap.objs.size); Builtin.List.listUpdate (.ref s.heap.objs.size) (fun _ => #[]); letGo old.toList.reverse; Builtin.List.listExtendWith (.ref s.heap.objs.size) (.ref z) .none) _ _ _
  refine wpAny_bind ?_
  unfold Builtin.List.listItems
  refine wpAny_bind (wpAny_seqItems hS rfl (wpAny_pure ?_))
  show wpAny _ _ (updateSeq s.heap.objs.size (fun _ => #[]) >>= fun _ => letGo (#[] : Array Value).toList.reverse >>= fun _ => Builtin.List.listExtendWith (.ref s.heap.objs.size) (.ref z) .none) _ _ _
  refine wpAny_bind (wpAny_updateSeq hS rfl ?_)
  have s2 := Heap.get?_update_self (Obj.mapSeq (fun _ => (#[] : Array Value))) hS rfl
  have oth : ∀ b o, b ≠ s.heap.objs.size → s.heap.get? b = some o → ((s.heap.push { cls := .type "list", data := .seq #[] }).update s.heap.objs.size (Obj.mapSeq (fun _ => (#[] : Array Value)))).get? b = some o :=
    fun b o hb q => (Heap.get?_update_other _ _ (Ne.symm hb)).trans (up b o q)
  refine wpAny_bind (wpAny_letGo ?_)
  refine zl_extend (A := A.in1) hh D B hn .none _ (x.keep B oth) (oth _ _ (Nat.ne_of_lt B.z) hz) s2 fun h' tk acc c as k e1 e2 e3 e4 => ?_
  exact ⟨rfl, hQ h' tk acc c as (fun b o b2 b3 b4 b5 q => k b o (Nat.ne_of_lt (Heap.lt_size q)) b2 b3 b4 b5 (oth b o (Nat.ne_of_lt (Heap.lt_size q)) q)) e1 e2 e3 e4⟩
end
/-! the pairs tracked -/
def atP (as : List Addr) (ps : List (V × V)) (b : Addr) : Option (V × V) := ((as.zip ps).find? fun q => decide (q.1 = b)).map (·.2)
theorem atP_off {b : Addr} : ∀ {as : List Addr} {ps : List (V × V)}, b ∉ as → atP as ps b = none
  | [], _, _ => rfl
  | _ :: _, [], _ => rfl
  | a :: as, p :: ps, h => by
    have : ¬ a = b := fun e => h (by rw [e]; exact List.mem_cons_self)
    show ((((a, p) :: as.zip ps).find? fun q => decide (q.1 = b)).map (·.2)) = none
    rw [List.find?_cons_of_neg (by simpa using this)]
    exact atP_off (as := as) (ps := ps) fun e => h (List.mem_cons_of_mem _ e)
theorem atP_on : ∀ {as : List Addr} {ps : List (V × V)} {j : Nat} {a : Addr} {p : V × V}, as.Nodup → as[j]? = some a → ps[j]? = some p → atP as ps a = some p
  | [], _, j, _, _, _, e, _ => by simp at e
  | _ :: _, [], j, _, _, _, _, e => by simp at e
  | a :: as, p :: ps, 0, _, _, _, e1, e2 => by
    simp at e1 e2
    subst e1 e2
    simp [atP]
  | a :: as, p :: ps, j + 1, b, q, hn, e1, e2 => by
    simp at e1 e2
    have hn' := List.nodup_cons.mp hn
    have : ¬ a = b := fun e => hn'.1 (by rw [e]; exact List.mem_of_getElem? e1)
    show ((((a, p) :: as.zip ps).find? fun q => decide (q.1 = b)).map (·.2)) = _
    rw [List.find?_cons_of_neg (by simpa using this)]
    exact atP_on (as := as) (ps := ps) hn'.2 e1 e2
def layH (H : Hp) (S : Addr) (as : List Addr) (ps : List (V × V)) : Hp := fun b => if b = S then some (.lst (as.map V.ref)) else match atP as ps b with
  | some p => some (.tup [p.1, p.2])
  | none => H b
section
variable {X : Cx} {pins : List (Addr × Obj)} {σ : L2.St} {H : Hp} {s : Shared}
theorem lay_pairs {h' : Heap} {tk : Nat} {acc : Array Value} {c : Nat} {as : List Addr} {ps : List (V × V)} {S : Addr} (I : Inv X pins σ H s) (hk : ∀ b o, s.heap.get? b = some o → h'.get? b = some o) (hS : s.heap.objs.size ≤ S) (hl : as.length = ps.length) (hz : ps.length ≤ sizeLine)
    (nd : as.Nodup) (above : ∀ a ∈ as, S < a) (at' : h'.get? S = some (lstO acc c)) (hacc : acc.toList = as.map Value.ref)
    (objs : ∀ (j : Nat) a p, as[j]? = some a → ps[j]? = some p → ∃ u v, RelV p.1 u ∧ RelV p.2 v ∧ IsPair h' a u v) : Inv X pins σ (layH H S as ps) { s with heap := h', toks := tk } := by
  have low : ∀ b o, s.heap.get? b = some o → b ∉ as ∧ b ≠ S := fun b o e => ⟨fun q => absurd (Heap.lt_size e) (Nat.not_lt.mpr (Nat.le_of_lt (Nat.lt_of_le_of_lt hS (above b q)))), fun q => absurd (Heap.lt_size e) (by rw [q]; exact Nat.not_lt.mpr hS)⟩
  have off : ∀ b, b ∉ as → b ≠ S → layH H S as ps b = H b := fun b b1 b2 => by
    unfold layH
    rw [if_neg b2, atP_off b1]
  have kp : ∀ b u, H b = some u → layH H S as ps b = some u := fun b u e => by
    have lt := (I.hok b u e).lt
    rw [off b (fun q => absurd lt (Nat.not_lt.mpr (Nat.le_of_lt (Nat.lt_of_le_of_lt hS (above b q))))) fun q => absurd lt (by rw [q]; exact Nat.not_lt.mpr hS)]
    exact e
  refine I.call' (ch := []) rfl ⟨fun b o q _ _ _ => hk b o q, fun b o q _ _ _ => ⟨o.slots, hk b o q⟩, fun b o q n _ => ?_, fun b o q _ => ⟨o, hk b o q⟩, fun b xs q => kp b _ q, fun b o u q => kp b _ q, fun b ps q => ⟨#[], by rw [kp b _ q]; simp⟩⟩ (fun b u q => ?_) I.bare fun b q => (nomatch q)
  · obtain ⟨b1, b2⟩ := low b o q
    rw [off b b1 b2]
    exact n
  · by_cases e : b = S
    · subst e
      unfold layH at q
      rw [if_pos rfl] at q
      cases q
      refine ⟨by rw [List.length_map]; omega, as.map Value.ref, c, LiI.vals_refs as, ?_⟩
      rw [← hacc, Array.toArray_toList]
      exact at'
    · by_cases m : b ∈ as
      · obtain ⟨j, e1⟩ := List.mem_iff_getElem?.mp m
        obtain ⟨lj, _⟩ := List.getElem?_eq_some_iff.mp e1
        have e2 : ps[j]? = some (ps[j]'(by omega)) := List.getElem?_eq_getElem (by omega)
        unfold layH at q
        rw [if_neg e, atP_on nd e1 e2] at q
        cases q
        obtain ⟨u, v, r1, r2, o⟩ := objs j b _ e1 e2
        exact ⟨by show 2 ≤ sizeLine; decide, [u, v], .cons r1 (.cons r2 .nil), ⟨_, o, rfl, _, rfl⟩⟩
      · rw [off b m e] at q
        exact (I.hok b u q).stay (fun d v _ y => hk d v y) (fun d y => kp d _ y) fun d xs y => kp d _ y
/-- list(zip(e, e2)) -/
def tLZip (K : Frag) (ta : TA) : TE := fun σ H Q => ta σ H fun vs H1 => ∃ a b xs ys, vs = [.ref a, .ref b] ∧ SqT K H1 a xs ∧ SqT K H1 b ys ∧
  ∀ S as, (∀ b u, H1 b = some u → layH H1 S as (xs.zip ys) b = some u) → H1 S = none → (∀ a ∈ as, H1 a = none) → S ∉ as → as.Nodup → as.length = (xs.zip ys).length → Q (.ref S) (layH H1 S as (xs.zip ys))
open PySem.Spec PyProof.Rows in
theorem pe_lzip {e e2 : Expr} {ta : TA} {p pz posz pos : Pos} (hc : X.calm = true) (hg : Gl X "list") (hm : X.mg "list" = none) (hv : bootBuiltins "list" = some (.type "list")) (hgz : Gl X "zip") (hmz : X.mg "zip" = none) (ha : PA X [e, e2] ta)
    (hs : starEach [.Call (.Name "zip" pz) [e, e2] [] posz] X.env = (false, eval (.Call (.Name "zip" pz) [e, e2] [] posz) X.env) :: starEach [] X.env := by rfl)
    (hsz : starEach [e, e2] X.env = (false, eval e X.env) :: starEach [e2] X.env := by rfl) (hpl : (backTo posz (starEach [e2] X.env)).any (·.1) = false := by rfl) :
    PE X (.Call (.Name "list" p) [.Call (.Name "zip" pz) [e, e2] [] posz] [] pos) (tLZip X.K ta) := by
  refine ⟨fun pins s σ H Q I hq => ?_⟩
  refine wpAny_Call_Name_kw (ld_blt I hg hm hv ?_)
  refine PyProof.Rows.callWith_type1 ?_ hs rfl
  rw [hs]
  show wpAny _ _ (spliced ((false, eval (.Call (.Name "zip" pz) [e, e2] [] posz) X.env) :: backTo pos (starEach [] X.env))) _ _ s
  refine Calls.spliced_cons ?_
  refine Call_ (ld_blt I hgz hmz PyProof.Rows.boot_zip (PyProof.Rows.callWith_type1 (L2.thn (ha.run posz pins s σ H _ I hq) fun us s1 ⟨vs, H1, I1, r1, q1⟩ => ?_) hsz hpl))
  obtain ⟨a, b, xs, ys, ex, hx, hy, q⟩ := q1
  subst ex
  cases r1 with
  | cons r rr =>
    cases rr with
    | cons r' rr =>
      cases rr
      cases r
      cases r'
      obtain ⟨its, rv, p1, z1⟩ := I1.tuple hx
      obtain ⟨its2, rv2, p2, _⟩ := I1.tuple hy
      have n1 := rv.length
      have n2 := rv2.length
      obtain ⟨o1, ho1, _⟩ := id p1
      obtain ⟨o2, ho2, _⟩ := id p2
      have la := Heap.lt_size ho1
      have lb := Heap.lt_size ho2
      refine RZ.call_zipT (show s1.heap.IsTuple a its.toArray from p1) (show s1.heap.IsTuple b its2.toArray from p2) fun h' hz hTI hTO h1 h2 hsz hk => Calls.spliced_nil ?_
      have I2 : Inv X pins σ H1 { s1 with heap := h' } := I1.kept (t' := s1.toks) hk
      refine zl_call (s := { s1 with heap := h' }) (xs := its.toArray) (ys := its2.toArray) (I1.ok.hd hc) (PySem.W.ktu_apart s1.heap.objs.size a b la lb) ?_ (by simp; omega) ?_ hz fun h2' tk acc c as k e1 e2 g e4 => ?_
      · show Below _ _ _ _ _ _ _ h'.objs.size
        rw [hsz]
        exact ⟨Nat.add_lt_add_left (by decide) _, Nat.add_lt_add_left (by decide) _, Nat.add_lt_add_left (by decide) _, Nat.lt_add_of_pos_right (by decide), Nat.add_lt_add_left (by decide) _, Nat.lt_of_lt_of_le la (Nat.le_add_right _ _), Nat.lt_of_lt_of_le lb (Nat.le_add_right _ _)⟩
      · exact ⟨hTI, h1, h2, Heap.IsTuple.at p1 fun o e => hk _ o e, Heap.IsTuple.at p2 fun o e => hk _ o e, .inl ⟨hz, _, _, hTO⟩⟩
      · have nd : as.Nodup := List.Pairwise.imp (fun {a b} (h : a < b) => Nat.ne_of_lt h) g.rise
        have hlen : as.length = (xs.zip ys).length := by rw [e2, List.length_zip]; simp; omega
        have hS : s1.heap.objs.size ≤ h'.objs.size := by omega
        have lo : ∀ c, c ∈ as → s1.heap.objs.size ≤ c := fun c hc' => Nat.le_of_lt (Nat.lt_of_le_of_lt hS (g.above c hc'))
        have L := lay_pairs (h' := h2') (tk := tk) (ps := xs.zip ys) I1 (fun b o e => k b o (Nat.ne_of_lt (Nat.lt_of_lt_of_le (Heap.lt_size e) (Nat.le_add_right _ _))) (Nat.ne_of_lt (Nat.lt_of_lt_of_le (Heap.lt_size e) (Nat.le_add_right _ _))) (Nat.ne_of_lt (Heap.lt_size e)) (Nat.ne_of_lt (Nat.lt_of_lt_of_le (Heap.lt_size e) (Nat.le_add_right _ _))) (hk b o e)) hS hlen (by rw [List.length_zip]; omega) nd g.above e1 e4 fun j a' p ea ep => ?_
        · refine ⟨.ref h'.objs.size, _, L, rfl, q _ _ (fun b u e => ?_) (I1.hok.fresh hS) (fun a' ha' => I1.hok.fresh (lo a' ha')) (fun m => Nat.lt_irrefl _ (g.above _ m)) nd hlen⟩
          have lt := (I1.hok b u e).lt
          unfold layH
          rw [if_neg (Nat.ne_of_lt (Nat.lt_of_lt_of_le lt hS)), atP_off (fun m => Nat.lt_irrefl _ (Nat.lt_of_lt_of_le lt (lo b m)))]
          exact e
        · obtain ⟨x, y, f1, f2, f3⟩ := g.pairs j a' ea
          obtain ⟨px, py⟩ := p
          rw [List.getElem?_zip_eq_some] at ep
          obtain ⟨u, hu, ru⟩ := rv.get ep.1
          obtain ⟨v, hv', rv'⟩ := rv2.get ep.2
          have : x = u := by
            have : its[j]? = some x := by simpa using f1
            rw [hu] at this
            exact (Option.some.inj this).symm
          have : y = v := by
            have : its2[j]? = some y := by simpa using f2
            rw [hv'] at this
            exact (Option.some.inj this).symm
          subst x y
          exact ⟨_, _, ru, rv', f3⟩
end
def lzipK (m : En → Option (List D × En)) : En → Option (D × En) := fun ρ => match m ρ with
  | some ([.tuple a, .tuple b], ρ') => if (zipD a b).all noXd = true then some (.list (zipD a b), ρ') else none
  | _ => none
variable {c : C0} {N : List Str} {sc : Scope}
theorem rpl_pairs {K : Frag} {H0 H : Hp} : ∀ {as : List Addr} {xs ys : List V} {ds es : List D}, RpL K H xs ds → RpL K H ys es → (zipD ds es).all noXd = true → as.length = (xs.zip ys).length → (∀ (j : Nat) a (p : V × V), as[j]? = some a → (xs.zip ys)[j]? = some p → SqT K H a [p.1, p.2]) → RpL K H (as.map V.ref) (zipD ds es)
  | as, [], ys, _, es, .nil, _, _, hl, _ => by
    cases as with
    | nil => exact .nil
    | cons => simp at hl
  | as, _ :: _, [], _, _, .cons _ _, .nil, _, hl, _ => by
    cases as with
    | nil => exact .nil
    | cons => simp at hl
  | [], _ :: _, _ :: _, _, _, .cons _ _, .cons _ _, _, hl, _ => by simp at hl
  | a :: as, x :: xs, y :: ys, d :: ds, e :: es, .cons r1 r2, .cons r3 r4, nx, hl, h => by
    have n0 : needX [d, e] = false := zip_noX (i := 0) nx rfl
    have nr : (zipD ds es).all noXd = true := by
      have : (noXd (.tuple [d, e]) && (zipD ds es).all noXd) = true := nx
      simp only [Bool.and_eq_true] at this
      exact this.2
    refine .cons (.tup (h 0 a (x, y) rfl rfl) (.cons r1 (.cons r3 .nil)) fun z => by rw [n0] at z; cases z) ?_
    exact rpl_pairs (H0 := H0) r2 r4 nr (by simpa using hl) fun j a' p e1 e2 => h (j + 1) a' p (by simpa using e1) (by simpa using e2)
theorem je_lzip {e e2 : Expr} {ma : En → Option (List D × En)} {p pz posz pos : Pos} (hg : sc.names.lookup ("list" : Str) = some .globalImplicit) (hm : c.mg ("list" : Str) = none) (hgz : sc.names.lookup ("zip" : Str) = some .globalImplicit) (hmz : c.mg ("zip" : Str) = none) (h : JL c N sc [e, e2] ma)
    (hs : ∀ env, starEach [.Call (.Name "zip" pz) [e, e2] [] posz] env = (false, eval (.Call (.Name "zip" pz) [e, e2] [] posz) env) :: starEach [] env := by intros; rfl)
    (hsz : ∀ env, starEach [e, e2] env = (false, eval e env) :: starEach [e2] env := by intros; rfl) (hpl : ∀ env, (backTo posz (starEach [e2] env)).any (·.1) = false := by intros; rfl) :
    JE c N sc (.Call (.Name "list" p) [.Call (.Name "zip" pz) [e, e2] [] posz] [] pos) (lzipK ma) := by
  obtain ⟨t, h1, h2⟩ := h
  refine ⟨tLZip c.K t, fun X I => ?_, fun σ H ρ B d ρ' S ee Q q => ?_⟩
  · have z := pe_lzip (X := X) (p := p) (pz := pz) (posz := posz) (pos := pos) I.calm (I.gl hg) (by rw [I.mg]; exact hm) (by decide +kernel) (I.gl hgz) (by rw [I.mg]; exact hmz) (h1 X I) (hs _) (hsz _) (hpl _)
    rw [I.K] at z
    exact z
  · unfold lzipK at ee
    split at ee
    · rename_i a b ρ1 he
      have nx : (zipD a b).all noXd = true := by
        by_cases n : (zipD a b).all noXd = true
        · exact n
        · rw [if_neg n] at ee
          cases ee
      rw [if_pos nx] at ee
      cases ee
      refine h2 σ H ρ B _ _ S he _ fun vs H1 A r => ?_
      cases r with
      | cons r1 r2 =>
        cases r2 with
        | cons r2 r3 =>
          cases r3
          cases r1 with
          | @tup a1 xs1 _ s1 r1 _ =>
            cases r2 with
            | @tup a2 xs2 _ s2 r2 _ =>
              refine ⟨_, _, _, _, rfl, sub_t (hide_sub B H1) s1, sub_t (hide_sub B H1) s2, fun S0 as kp n1 n2 nS nd hl => ?_⟩
              have sb : Sub H1 (layH H1 S0 as (xs1.zip xs2)) := kp
              have bk := A.sr.bk
              have vis : ∀ b o, H1 b = none → layH H1 S0 as (xs1.zip xs2) b = some o → hide B (layH H1 S0 as (xs1.zip xs2)) b = some o := fun b o hb e => by
                refine hide_of (H := layH H1 S0 as (xs1.zip xs2)) ?_ e
                cases qb : B b with
                | false => rfl
                | true => obtain ⟨o', e'⟩ := bk b qb; rw [hb] at e'; cases e'
              refine q _ _ (A.trans (Af.of_sub A.sr sb)) (.lst (.inl (.inl (vis _ _ n1 (by unfold layH; rw [if_pos rfl])))) ?_)
              refine rpl_pairs (H0 := H1) (r1.mono (hsub sb)) (r2.mono (hsub sb)) nx hl fun j a' p ea ep => ?_
              have m := List.mem_of_getElem? ea
              refine .inl (.inl (vis _ _ (n2 _ m) ?_))
              unfold layH
              rw [if_neg (fun e => nS (by rw [← e]; exact m)), atP_on nd ea ep]
    · cases ee
end Dz

/-! Dz. X: dict of a tuple of pairs, get. -/
namespace Dz
open PySem L2
variable {c : C0} {N : List Str} {sc : Scope}
/-! dict of a tuple of pairs, get -/
def keyD : D → Option Key
  | .int i => some (.inl i)
  | .str x => some (.inr x)
  | _ => none
theorem keyD_of {d : D} {k : Key} (h : keyD d = some k) : d = kD k := by
  cases d <;> simp [keyD] at h <;> subst h <;> rfl
theorem keyD_kD (k : Key) : keyD (kD k) = some k := by cases k <;> rfl
theorem rp_key {K : Frag} {H : Hp} {v : V} {k : Key} (h : Rp K H v (kD k)) : v = L2.kV k := by
  cases k with
  | inl i => exact h.inti
  | inr x => exact h.stri
def pairD : D → Option (Key × D)
  | .tuple [k, v] => (keyD k).map fun q => (q, v)
  | _ => none
def pairsD : List D → Option (List (Key × D))
  | [] => some []
  | d :: ds => (pairD d).bind fun p => (pairsD ds).map fun ps => p :: ps
def asD (ps : List (Key × D)) : List (D × D) := ps.map fun p => (kD p.1, p.2)
def dDict : List D → Option D
  | [.tuple ds] => if needX ds = true then (pairsD ds).bind fun ps => if (ps.map (·.1)).Nodup then some (.dict (asD ps)) else none else none
  | _ => none
theorem pairs_rp {K : Frag} {H : Hp} : ∀ {ds : List D} {xs : List V} {ps : List (Key × D)}, RpL K H xs ds → pairsD ds = some ps →
    ∃ (as : List Addr) (kvs : List (Key × V)), xs = as.map V.ref ∧ Paired (fun p kv => SqT K H p [L2.kV kv.1, kv.2]) as kvs ∧ RpK K H kvs (asD ps) ∧ kvs.map (·.1) = ps.map (·.1)
  | [], _, ps, r, e => by
    cases r
    cases e
    exact ⟨[], [], rfl, .nil, .nil, rfl⟩
  | d :: ds, _, ps, r, e => by
    cases r with
    | cons r1 r2 =>
      unfold pairsD at e
      cases e1 : pairD d with
      | none => simp [e1] at e
      | some p =>
        cases e2 : pairsD ds with
        | none => simp [e1, e2] at e
        | some qs =>
          simp [e1, e2] at e
          subst e
          obtain ⟨as, kvs, rfl, hp, hr, hk⟩ := pairs_rp r2 e2
          unfold pairD at e1
          split at e1
          · rename_i k v
            cases e3 : keyD k with
            | none => simp [e3] at e1
            | some q =>
              simp [e3] at e1
              subst e1
              cases keyD_of e3
              cases r1 with
              | tup h rr _ =>
                cases rr with
                | cons s1 s2 =>
                  cases s2 with
                  | cons s3 s4 =>
                    cases s4
                    cases rp_key s1
                    exact ⟨_ :: as, (q, _) :: kvs, rfl, .cons h hp, .cons s3 hr, by simp [hk]⟩
          · cases e1
theorem mergeK_new : ∀ (ps acc : List (Key × V)), ((acc ++ ps).map (·.1)).Nodup → mergeK acc ps = acc ++ ps
  | [], acc, _ => by simp [mergeK]
  | p :: ps, acc, h => by
    have hn : valV acc p.1 = none := by
      cases q : valV acc p.1 with
      | none => rfl
      | some v =>
        exfalso
        have := valV_any p.1 acc
        rw [q, Option.isSome_some] at this
        obtain ⟨x, hx, e⟩ := List.any_eq_true.mp this
        rw [List.map_append, List.nodup_append] at h
        exact h.2.2 x.1 (List.mem_map_of_mem hx) p.1 (by simp) (by simpa using e)
    have := mergeK_new ps (acc ++ [p]) (by simpa using h)
    show mergeK (putK acc p.1 p.2) ps = _
    rw [putK_new p.2 hn, this]
    simp
theorem dct_new {K : Frag} {B : Addr → Bool} {H : Hp} {p : Addr} {kvs : List (Key × V)} {ds : List (D × D)} (bk : ∀ a, B a = true → ∃ o, H a = some o) (h : H p = none) (r : RpK K (hide B H) kvs ds) :
    Sub H (upd H p (.dK kvs)) ∧ Rp K (hide B (upd H p (.dK kvs))) (.ref p) (.dict ds) := by
  have bp : B p = false := by
    cases q : B p with
    | false => rfl
    | true => obtain ⟨o, e⟩ := bk p q; rw [h] at e; cases e
  exact ⟨Sub.new h, .dct (.inl (hide_of bp upd_same)) (r.mono (hsub (Sub.new h)))⟩
section
variable {X : Cx}
theorem pairs_at {pins : List (Addr × Obj)} {σ : St} {H : Hp} {s : Shared} (I : Inv X pins σ H s) : ∀ {ps : List Addr} {kvs : List (Key × V)}, Paired (fun p kv => SqT X.K H p [L2.kV kv.1, kv.2]) ps kvs →
    ∃ (prs : List (Key × Value)) (us : List (Value × Value)), KV kvs prs ∧ prs.length = ps.length ∧ us.length = ps.length ∧
      ∀ (j : Nat) k v, us[j]? = some (k, v) → ∃ (b : Addr) (q : Key), ps[j]? = some b ∧ s.heap.IsTuple b #[k, v] ∧ prs[j]? = some (q, v) ∧ (mixKind X.prog X.w).is q k = true
  | _, _, .nil => ⟨[], [], .nil, rfl, rfl, fun j _ _ e => by simp at e⟩
  | _, _, .cons (a := p) (b := kv) h t => by
    obtain ⟨prs, us, r, l1, l2, hp⟩ := pairs_at I t
    obtain ⟨its, rv, ht, _⟩ := I.tuple h
    obtain ⟨u, y, ei, ru, ry⟩ := vals2 rv
    subst ei
    refine ⟨(kv.1, y) :: prs, (u, y) :: us, .cons ⟨rfl, ry⟩ r, by simp [l1], by simp [l2], fun j k v e => ?_⟩
    cases j with
    | zero =>
      cases (Option.some.inj e : (u, y) = (k, v))
      exact ⟨p, kv.1, rfl, ht, rfl, kV_is ru⟩
    | succ j =>
      obtain ⟨b, q, e1, e2, e3, e4⟩ := hp j k v (by simpa using e)
      exact ⟨b, q, by simpa using e1, e2, by simpa using e3, e4⟩
def rDictT (K : Frag) : List V → Hp → VK → Prop := fun xs H Q => ∃ (a : Addr) (as : List Addr) (kvs : List (Key × V)), xs = [.ref a] ∧ XT H a ∧ SqT K H a (as.map V.ref) ∧ Paired (fun p kv => SqT K H p [L2.kV kv.1, kv.2]) as kvs ∧
    ∀ p, H p = none → Q (.ref p) (upd H p (.dK (mergeK [] kvs)))
theorem call_dictT (hc : X.calm = true) : CallR X (.type "dict") (rDictT X.K) := by
  intro pins s σ H xs us Q I r q
  obtain ⟨a, as, kvs, ex, ⟨ot, ut, ht, ho⟩, hq, hp, q⟩ := q
  subst ex
  obtain ⟨u, eu, rx⟩ := vals1 r
  subst eu
  cases rx
  obtain ⟨its, rv, pl, hz⟩ := I.tuple hq
  have ei := refs_at rv
  subst ei
  rw [List.length_map] at hz
  obtain ⟨prs, us, rel, l1, l2, hpr⟩ := pairs_at I hp
  have P := PairArg.tuple (prog := X.prog) (w := X.w) a (as.map Value.ref).toArray (fun j => (as[j]?).getD 0) us
  refine PySem.call_dict_pairs (knd := mixKind X.prog X.w) (kvs := prs) P (I.ok.hd hc) ⟨?_, ?_, fun j k v e => ?_⟩ ⟨by rw [l1, l2], fun i key v e => ?_⟩ (by rw [l2]; exact hz) fun h' tk hd' k => ?_
  · obtain ⟨o, h1, h2, n, h4⟩ := pl
    obtain ⟨g1, _⟩ := (show ObjOk X.prog X.w H s.heap a (.frz ot ut) from I.hok a _ ht)
    rw [h1] at g1
    cases g1
    exact ⟨_, n, h1, h2, ho.2, h4⟩
  · simp [l2]
  · obtain ⟨b, q', e1, e2, _, _⟩ := hpr j k v e
    exact ⟨by simp [e1], .inl (by simpa [e1] using e2)⟩
  · obtain ⟨b, q', _, _, e3, e4⟩ := hpr i key v e
    exact ⟨q', e3, e4⟩
  · have hm : (s.heap.objs.size == sysModules) = false := beq_eq_false_iff_ne.mpr (Nat.ne_of_gt I.big)
    have hlen : (mergeK [] kvs).length ≤ sizeLine := by
      refine Nat.le_trans (length_mergeK kvs []) ?_
      rw [List.length_nil, Nat.zero_add, rel.length, l1]
      exact hz
    exact ⟨.ref s.heap.objs.size, upd H s.heap.objs.size (.dK (mergeK [] kvs)), I.laid (t' := tk) (fun b o e => k b o (by simp) e) (Nat.le_refl _) (show ObjOk X.prog X.w _ _ _ (.dK (mergeK [] kvs)) from ⟨hlen, hm, merged [] prs, KV.merge rel .nil, hd'⟩), rfl, q _ (I.hok.fresh (Nat.le_refl _))⟩
end
theorem c_dict : CaD c.K (In c N sc) (.type "dict") dDict := by
  refine ⟨_, fun X I => by
    have h := call_dictT (X := X) I.calm
    rw [I.K] at h
    exact h, fun B H vs ds z bk hv hz Q q => ?_⟩
  unfold dDict at hz
  split at hz
  · rename_i es
    split at hz
    · rename_i nx
      cases e1 : pairsD es with
      | none => simp [e1] at hz
      | some ps =>
        simp [e1] at hz
        obtain ⟨nd, rfl⟩ := hz
        obtain ⟨v, rfl, h⟩ := hv.one
        cases h with
        | vis h =>
          cases h with
          | tup h1 r1 x1 =>
            obtain ⟨as, kvs, rfl, hp, hr, hk⟩ := pairs_rp r1 e1
            refine ⟨_, as, kvs, rfl, (x1 nx).mono (hide_sub B H), sub_t (hide_sub B H) h1, Paired.mapP hp fun _ _ y => sub_t (hide_sub B H) y, fun p hp0 => ?_⟩
            rw [mergeK_new kvs [] (by simpa [hk] using nd)]
            obtain ⟨s1, r2⟩ := dct_new bk hp0 hr
            exact q _ _ s1 r2
    · cases hz
  · cases hz
def lookD (ds : List (D × D)) (k : Key) : Option D := (ds.find? fun p => decide (keyD p.1 = some k)).map (·.2)
theorem look_rp {K : Frag} {H : Hp} (k : Key) : ∀ {kvs : List (Key × V)} {ds : List (D × D)}, RpK K H kvs ds → (valV kvs k = none ∧ lookD ds k = none) ∨ ∃ v d, valV kvs k = some v ∧ lookD ds k = some d ∧ Rp K H v d
  | _, _, .nil => .inl ⟨rfl, rfl⟩
  | _, _, .cons (k := j) (v := v) (d := d) h t => by
    by_cases e : j = k
    · exact .inr ⟨v, d, valV_pos (p := (j, v)) e, by simp [lookD, keyD_kD, e], h⟩
    · have e1 : ∀ vs : List (Key × V), valV ((j, v) :: vs) k = valV vs k := fun vs => valV_neg (p := (j, v)) e
      have e2 : ∀ ds : List (D × D), lookD ((kD j, d) :: ds) k = lookD ds k := fun ds => by simp [lookD, keyD_kD, e]
      rw [e1, e2]
      exact look_rp k t
def getK (mo ma mb : En → Option (D × En)) : En → Option (D × En) := fun ρ => match mo ρ with
  | some (.dict ds, ρ1) => if (ds.all fun p => (keyD p.1).isSome) = true then (ma ρ1).bind fun q => (keyD q.1).bind fun k => (mb q.2).map fun z => ((lookD ds k).getD z.1, z.2) else none
  | _ => none
theorem je_get {o e f : Expr} {p2 p3 : Pos} {mo ma mb : En → Option (D × En)} (h : JE c N sc o mo) (ha : JE c N sc e ma) (hb : JE c N sc f mb)
    (hbase : ∀ env, attributeBase o "get" env (eval o env) = eval o env := by intros; rfl)
    (hfew : ∀ env, ((backTo p3 (starEach [e, f] env)).all (fun x => !x.1) && (backToKw p3 (keywordEach [] env)).all (fun x => x.1.isSome) && decide (([e, f] : List Expr).length + ([] : List Keyword).length + (if ([] : List Keyword).isEmpty then 0 else 1) < 30)) = true := by intros; rfl)
    (hline : (p2.endLine == p3.line) = true := by rfl) (ht : ∀ env, backTo p3 (starEach [e, f] env) = [(false, eval e env), (false, eval f env)] := by intros; rfl) :
    JE c N sc (.Call (.Attribute o "get" p2) [e, f] [] p3) (getK mo ma mb) := by
  obtain ⟨t, h1, h2⟩ := h
  obtain ⟨u, k1, k2⟩ := ha
  obtain ⟨w, j1, j2⟩ := hb
  refine ⟨tDGet2 t u w, fun X I => pe_dget2 (by have := I.rm.units; omega) (h1 X I) (k1 X I) (j1 X I) ⟨hbase _, hfew _, hline, ht _⟩, fun σ H ρ B d ρ' S ee Q q => ?_⟩
  unfold getK at ee
  split at ee
  · rename_i ds ρ1 e1
    split at ee
    · rename_i ok
      cases e2 : ma ρ1 with
      | none => simp [e2] at ee
      | some p =>
        obtain ⟨y, ρ2⟩ := p
        cases e3 : keyD y with
        | none => simp [e2, e3] at ee
        | some k =>
          cases e4 : mb ρ2 with
          | none => simp [e2, e3, e4] at ee
          | some p =>
            obtain ⟨z, ρ3⟩ := p
            simp [e2, e3, e4] at ee
            obtain ⟨rfl, rfl⟩ := ee
            cases keyD_of e3
            refine h2 σ H ρ B _ _ S e1 _ fun v H1 A1 r1 => ?_
            cases r1 with
            | obj _ _ => simp [keyD] at ok
            | @dct a kvs _ hd rr =>
              refine ⟨a, rfl, .inl ⟨kvs, sub_rd (hide_sub B H1) hd⟩, ?_⟩
              refine k2 σ H1 ρ1 B _ _ A1.sr e2 _ fun w H2 A2 r2 => ?_
              refine j2 σ H2 ρ2 B _ _ A2.sr e4 _ fun u H3 A3 r3 => ?_
              cases rp_key r2
              have s3 : Sub (hide B H1) (hide B H3) := Sub.trans (A2.sub A1.sr) (A3.sub A2.sr)
              refine ⟨valV kvs k, .inl ⟨kvs, k, sub_rd (hide_sub B H3) (sub_rd s3 hd), rfl, rfl⟩, q _ H3 ((A1.trans A2).trans A3) ?_⟩
              rcases look_rp k rr with ⟨n1, n2⟩ | ⟨v, d, n1, n2, n3⟩
              · rw [n1, n2]
                exact r3
              · rw [n1, n2]
                exact n3.mono s3
    · cases ee
  · cases ee
end Dz

/-! Dz. N: rules of the plain law for T, Y, Z. -/
namespace Dz
open PySem L2
theorem wps_seqO {m1 m2 : En → Option SO} {ρ : En} {S : SO → Prop} (h : wps m1 ρ fun o => ∃ ρ1, o = .nx ρ1 ∧ wps m2 ρ1 S) : wps (seqO m1 m2) ρ S := by
  obtain ⟨o, e, ρ1, rfl, o2, e2, q⟩ := h
  exact ⟨o2, by unfold seqO; rw [e]; exact e2, q⟩
theorem wps_retO {ρ : En} {i : Nat} {d : D} {S : SO → Prop} (e : ρ[i]? = some (some (.own d))) (h : S (.rt d ρ)) : wps (retO i) ρ S := ⟨_, by unfold retO; rw [e], h⟩
def finO (as : List Sl) (Q : D → List Sl → Prop) : SO → Prop
  | .rt d ρ => Q d (finA as ρ)
  | _ => False
theorem fwp_runO {m : En → Option SO} {as : List Sl} {p n : Nat} {Q : D → List Sl → Prop} (hl : as.length = p) (ho : noOwn as = true) (h : wps m (as.map some ++ List.replicate (n - p) none) (finO as Q)) : fwp (runO p n m) as Q := by
  obtain ⟨o, e, q⟩ := h
  cases o with
  | rt d ρ => exact ⟨d, finA as ρ, by unfold runO; rw [if_pos ⟨hl, ho⟩, e], q⟩
  | nx ρ => exact q.elim
  | bk ρ => exact q.elim
  | ct ρ => exact q.elim
theorem wp_lzip {ml : En → Option (List D × En)} {ρ : En} {Q : D → En → Prop} (h : wp ml ρ fun ds ρ1 => ∃ a b, ds = [.tuple a, .tuple b] ∧ (zipD a b).all noXd = true ∧ Q (.list (zipD a b)) ρ1) : wp (lzipK ml) ρ Q := by
  obtain ⟨ds, ρ1, e, a, b, rfl, n, q⟩ := h
  exact ⟨_, ρ1, by unfold lzipK; rw [e]; exact if_pos n, q⟩
/-- a slot that is no lent one -/
def Nb (x : Option Sl) : Prop := ∀ d, x ≠ some (.bor d)
theorem oq_seto_n {ρ : En} {i : Nat} {d : D} {x : Option Sl} (e : ρ[i]? = some x) (hx : Nb x) {Q : En → Prop} (h : Q (ρ.set i (some (.own d)))) : oq (seto i d ρ) Q := by
  refine ⟨_, ?_, h⟩
  unfold seto
  rw [e]
  cases x with
  | none => rfl
  | some s => cases s with
    | val d => rfl
    | own d => rfl
    | bor d => exact absurd rfl (hx d)
theorem oq_setv_n {ρ : En} {i : Nat} {d : D} {x : Option Sl} (e : ρ[i]? = some x) (hx : Nb x) {Q : En → Prop} (h : Q (ρ.set i (some (.val d)))) : oq (setv i d ρ) Q := by
  refine ⟨_, ?_, h⟩
  unfold setv
  rw [e]
  cases x with
  | none => rfl
  | some s => cases s with
    | val d => rfl
    | own d => rfl
    | bor d => exact absurd rfl (hx d)
theorem nb_none : Nb none := fun _ h => nomatch h
theorem nb_val {d : D} : Nb (some (.val d)) := fun _ h => nomatch h
theorem nb_own {d : D} : Nb (some (.own d)) := fun _ h => nomatch h
theorem dEqB_self {d : D} (h : okD 60 d = true) (e : dEqB d d = if okD 60 d = true ∧ okD 60 d = true then some (PyData.eqv d d) else none) : dEqB d d = some true := by
  rw [e, if_pos ⟨h, h⟩, PySem.SeqAt.eqv_refl _ (okD_ok 60 _ h).1]
/-- whole numbers against none at all -/
theorem oq_eq_nil {l : List Int} {Q : D → Prop} (q : Q (.bool (decide (l = [])))) : oq (dEq (.list (l.map PyData.int)) (.list [])) Q := by
  have ok : okD 60 (.list (l.map PyData.int)) = true := okD_ints 59 l
  have e : dEqB (.list (l.map PyData.int)) (.list []) = some (PyData.eqv (.list (l.map PyData.int)) (.list [])) := by
    show (if okD 60 (.list (l.map PyData.int)) = true ∧ okD 60 (.list []) = true then some (PyData.eqv (.list (l.map PyData.int)) (.list [])) else none) = _
    rw [if_pos ⟨ok, rfl⟩]
  refine oq_eq_d e ?_
  rw [show PyData.eqv (.list (l.map PyData.int)) (.list []) = decide (l = []) by cases l <;> simp [PyData.eqv, PyData.eqvAll]]
  exact q
end Dz

/-! Dz. M: rules of the plain law for X, Y. -/
namespace Dz
open PySem L2
theorem wp_get {mo ma mb : En → Option (D × En)} {ρ : En} {Q : D → En → Prop} (h : wp mo ρ fun d ρ1 => ∃ ds, d = .dict ds ∧ (ds.all fun p => (keyD p.1).isSome) = true ∧ wp ma ρ1 fun y ρ2 => ∃ k, keyD y = some k ∧ wp mb ρ2 fun z ρ3 => Q ((lookD ds k).getD z) ρ3) : wp (getK mo ma mb) ρ Q := by
  obtain ⟨d, ρ1, e1, ds, rfl, ok, y, ρ2, e2, k, e3, z, ρ3, e4, q⟩ := h
  refine ⟨_, ρ3, ?_, q⟩
  unfold getK
  rw [e1]
  simp only [if_pos ok, e2, e3, e4, Option.bind_some, Option.map_some]
theorem wp_index {mo ma : En → Option (D × En)} {ρ : En} {Q : D → En → Prop} (h : wp mo ρ fun d ρ1 => tl d fun ds => wp ma ρ1 fun y ρ2 => oq (dIndex ds y) fun z => Q z ρ2) : wp (indexK mo ma) ρ Q := by
  obtain ⟨d, ρ1, e1, ds, rfl, y, ρ2, e2, z, e3, q⟩ := h
  refine ⟨_, ρ2, ?_, q⟩
  unfold indexK
  rw [e1]
  simp only [e2, e3, Option.bind_some, Option.map_some]
theorem oq_index {ds : List D} {d : D} {j : Nat} {Q : D → Prop} (o1 : okD 60 (.list ds) = true) (o2 : okD 60 d = true) (e : (ds.findIdx? fun z => PyData.eqv z d) = some j) (q : Q (.int (j : Nat))) : oq (dIndex ds d) Q :=
  ⟨_, by unfold dIndex; rw [if_pos ⟨o1, o2⟩, e]; rfl, q⟩
theorem oq_maxL {d : D} {ds : List D} {Q : D → Prop} (ok : okMx (d :: ds) = true) (q : Q (PySem.W.maxD d ds)) : oq (dMaxL [.list (d :: ds)]) Q := ⟨_, if_pos ok, q⟩
theorem oq_minL {d : D} {ds : List D} {Q : D → Prop} (ok : okMx (d :: ds) = true) (q : Q (PySem.W.minD d ds)) : oq (dMinL [.list (d :: ds)]) Q := ⟨_, if_pos ok, q⟩
theorem oq_isT {a b : Bool} {Q : D → Prop} (q : Q (.bool (decide (a = b)))) : oq (dIsT (.bool a) (.bool b)) Q := ⟨_, rfl, q⟩
theorem oq_isNotT {a b : Bool} {Q : D → Prop} (q : Q (.bool (!decide (a = b)))) : oq (dIsNotT (.bool a) (.bool b)) Q := ⟨_, rfl, q⟩
end Dz

namespace K50
open PySem L2 Dz
def i_Entry (C_Entry : Nat) : Im := iniCons "name" (kV 1) (iniCons "vector" (kV 2) (iniCons "height" (kV 3) (iniCons "maker" (kV 4) (iniCons "deleted" (kV 5) (iniCons "time" (kV 6) (iniCons "blocks" (kV 7) (iniNil)))))))
noncomputable def m_Entry_fields (C_Entry : Nat) : En → Option SO := retS (tupK (consK (fldK C_Entry "name" (kV 0)) (consK (fldK C_Entry "vector" (kV 0)) (consK (fldK C_Entry "height" (kV 0)) (consK (fldK C_Entry "maker" (kV 0)) (consK (fldK C_Entry "deleted" (kV 0)) (consK (fldK C_Entry "time" (kV 0)) (consK (fldK C_Entry "blocks" (kV 0)) (nilK)))))))))
noncomputable def f_Entry_fields (C_Entry : Nat) : Fm := runF 1 1 (m_Entry_fields C_Entry)
noncomputable def m_Entry_eq (C_Entry : Nat) : En → Option SO := seqS (ifS (notK (tstK (isiCK C_Entry (kV 1)))) (retS (kC (.bool false))) (nextS))
  (retS (bop dEq (methK C_Entry "fields" (f_Entry_fields C_Entry) (kV 0) gnil) (methK C_Entry "fields" (f_Entry_fields C_Entry) (kV 1) gnil)))
noncomputable def f_Entry_eq (C_Entry : Nat) : Fm := runF 2 2 (m_Entry_eq C_Entry)
noncomputable def m_count_of (C_Entry : Nat) : En → Option SO := seqS (forS (tupleK (kV 0)) (tgTup 2 (tgCons (setv 2) (tgCons (setv 3) (tgNil)))) (ifS (tstK (bop dEq (kV 2) (kV 1))) (retS (kV 3)) (nextS)))
  (retS (kC (.int 0)))
noncomputable def f_count_of (C_Entry : Nat) : Fm := runF 2 4 (m_count_of C_Entry)
noncomputable def m_counts_of (C_Entry : Nat) : En → Option SO := retS (b1K dTuple (lcK [1] (rangeK2 (consK (kC (.int 1)) (consK (bop dAdd (kC (.int 9)) (kC (.int 1))) (nilK)))) (setv 1) (yesK) (callK (f_count_of C_Entry) (gval (kV 0) (gval (kV 1) (gnil))))))
noncomputable def f_counts_of (C_Entry : Nat) : Fm := runF 1 2 (m_counts_of C_Entry)
noncomputable def m_vector_of (C_Entry : Nat) : En → Option SO := retS (b1K dTuple (lcK [1] (rangeK1 (consK (kC (.int 9)) (nilK))) (setv 1) (tstK (bop dGt (bop dIx (kV 0) (kV 1)) (kC (.int 0)))) (tupK (consK (bop dAdd (kV 1) (kC (.int 1))) (consK (bop dIx (kV 0) (kV 1)) (nilK))))))
noncomputable def f_vector_of (C_Entry : Nat) : Fm := runF 1 2 (m_vector_of C_Entry)
noncomputable def m_join (C_Entry : Nat) : En → Option SO := retS (callK (f_vector_of C_Entry) (gval (lcK [2, 3] (zipK (consK (callK (f_counts_of C_Entry) (gval (kV 0) (gnil))) (consK (callK (f_counts_of C_Entry) (gval (kV 1) (gnil))) (nilK)))) (tgTup 2 (tgCons (setv 2) (tgCons (setv 3) (tgNil)))) (yesK) (bnK dMax2 (consK (kV 2) (consK (kV 3) (nilK))))) (gnil)))
noncomputable def f_join (C_Entry : Nat) : Fm := runF 2 4 (m_join C_Entry)
noncomputable def m_alike (C_Entry : Nat) : En → Option SO := retS (andV (tstK (bop dEq (fldK C_Entry "deleted" (kV 0)) (fldK C_Entry "deleted" (kV 1)))) (bop dEq (fldK C_Entry "blocks" (kV 0)) (fldK C_Entry "blocks" (kV 1))))
noncomputable def f_alike (C_Entry : Nat) : Fm := runF 2 2 (m_alike C_Entry)
noncomputable def m_key_of (C_Entry : Nat) : En → Option SO := seqS (asgS (fldK C_Entry "maker" (kV 0)) (tgTup 2 (tgCons (setv 1) (tgCons (setv 2) (tgNil)))))
  (retS (tupK (consK (fldK C_Entry "height" (kV 0)) (consK (fldK C_Entry "time" (kV 0)) (consK (ifK (tstK (fldK C_Entry "deleted" (kV 0))) (kC (.int 0)) (kC (.int 1))) (consK (negK (kV 1)) (consK (negK (kV 2)) (consK (callK (f_counts_of C_Entry) (gval (fldK C_Entry "vector" (kV 0)) (gnil))) (nilK)))))))))
noncomputable def f_key_of (C_Entry : Nat) : Fm := runF 1 3 (m_key_of C_Entry)
noncomputable def m_greatest (C_Entry : Nat) : En → Option SO := seqS (asgS (bop dIx (kV 0) (kC (.int 0))) (setv 1))
  (seqS (forS (listK (cutK (kV 0) (psome (kC (.int 1))) (pnone))) (setv 2) (ifS (tstK (bop dGt (callK (f_key_of C_Entry) (gval (kV 2) (gnil))) (callK (f_key_of C_Entry) (gval (kV 1) (gnil))))) (asgS (kV 2) (setv 1)) (nextS)))
  (retS (kV 1)))
noncomputable def f_greatest (C_Entry : Nat) : Fm := runF 1 3 (m_greatest C_Entry)
noncomputable def m_winner (C_Entry : Nat) : En → Option SO := seqS (asgS (callK (f_greatest C_Entry) (gval (kV 0) (gnil))) (setv 1))
  (seqS (asgS (fldK C_Entry "vector" (kV 1)) (setv 2))
  (seqS (forS (listK (kV 0)) (setv 3) (ifS (tstK (callK (f_alike C_Entry) (gval (kV 3) (gval (kV 1) (gnil))))) (asgS (callK (f_join C_Entry) (gval (kV 2) (gval (fldK C_Entry "vector" (kV 3)) (gnil)))) (setv 2)) (nextS)))
  (retS (mkK C_Entry 8 7 [] (i_Entry C_Entry) (consK (fldK C_Entry "name" (kV 1)) (consK (kV 2) (consK (fldK C_Entry "height" (kV 1)) (consK (fldK C_Entry "maker" (kV 1)) (consK (fldK C_Entry "deleted" (kV 1)) (consK (fldK C_Entry "time" (kV 1)) (consK (fldK C_Entry "blocks" (kV 1)) (nilK))))))))))))
noncomputable def f_winner (C_Entry : Nat) : Fm := runF 1 4 (m_winner C_Entry)
noncomputable def m_is_index (C_Entry : Nat) : En → Option SO := retS (andV (tstK (isiK "int" (kV 0))) (andV (tstK (valK (notK (tstK (isiK "bool" (kV 0)))))) (chainK dLe dLt (kC (.int 0)) (kV 0) (kV 1))))
noncomputable def f_is_index (C_Entry : Nat) : Fm := runF 2 2 (m_is_index C_Entry)
noncomputable def m_less_by (C_Entry : Nat) : En → Option SO := seqS (forS (rangeK1 (consK (kC (.int 6)) (nilK))) (setv 2) (ifS (tstK (bop dNe (bop dIx (kV 0) (kV 2)) (bop dIx (kV 1) (kV 2)))) (retS (tupK (consK (kC (.str "less")) (consK (kV 2) (consK (bop dIx (kV 0) (kV 2)) (consK (bop dIx (kV 1) (kV 2)) (nilK))))))) (nextS)))
  (retS (tupK (consK (kC (.str "less")) (consK (kC (.int 6)) (consK (kC (.int 0)) (consK (kC (.int 0)) (nilK)))))))
noncomputable def f_less_by (C_Entry : Nat) : Fm := runF 2 3 (m_less_by C_Entry)
noncomputable def m_reasons (C_Entry : Nat) : En → Option SO := seqS (asgS (lcK [5] (listK (kV 0)) (setv 5) (yesK) (callK (f_key_of C_Entry) (gval (kV 5) (gnil)))) (setv 1))
  (seqS (asgS (indexK (kV 1) (b1K dMaxL (kV 1))) (setv 2))
  (seqS (asgS (lstK (nilK)) (seto 3))
  (seqS (forS (rangeK1 (consK (b1K dLen (kV 0)) (nilK))) (setv 4) (ifS (tstK (callK (f_alike C_Entry) (gval (bop dIx (kV 0) (kV 4)) (gval (bop dIx (kV 0) (kV 2)) (gnil))))) (dropS (mutK 3 muAppend (consK (tupK (consK (kC (.str "alike")) (nilK))) (nilK)))) (dropS (mutK 3 muAppend (consK (callK (f_less_by C_Entry) (gval (bop dIx (kV 1) (kV 4)) (gval (bop dIx (kV 1) (kV 2)) (gnil)))) (nilK))))))
  (frzS 3 (retS (tupK (consK (kV 2) (consK (b1K dTuple (kV 3)) (nilK)))))))))
noncomputable def f_reasons (C_Entry : Nat) : Fm := runF 1 6 (m_reasons C_Entry)
noncomputable def m_is_reason (C_Entry : Nat) : En → Option SO := seqS (ifS (tstK (bop dEq (kV 2) (tupK (consK (kC (.str "alike")) (nilK))))) (retS (andV (tstK (callK (f_alike C_Entry) (gval (kV 0) (gval (kV 1) (gnil))))) (bop dLe (callK (f_key_of C_Entry) (gval (kV 0) (gnil))) (callK (f_key_of C_Entry) (gval (kV 1) (gnil)))))) (nextS))
  (seqS (ifS (orK (tstK (callK (f_alike C_Entry) (gval (kV 0) (gval (kV 1) (gnil))))) (orK (notK (tstK (isiK "tuple" (kV 2)))) (orK (tstK (bop dNe (b1K dLen (kV 2)) (kC (.int 4)))) (tstK (bop dNe (bop dIx (kV 2) (kC (.int 0))) (kC (.str "less"))))))) (retS (kC (.bool false))) (nextS))
  (seqS (ifS (notK (tstK (callK (f_is_index C_Entry) (gval (bop dIx (kV 2) (kC (.int 1))) (gval (kC (.int 6)) (gnil)))))) (retS (kC (.bool false))) (nextS))
  (seqS (asgS (callK (f_key_of C_Entry) (gval (kV 0) (gnil))) (setv 3))
  (seqS (asgS (callK (f_key_of C_Entry) (gval (kV 1) (gnil))) (setv 4))
  (seqS (ifS (orK (tstK (bop dNe (cutK (kV 3) (pnone) (psome (bop dIx (kV 2) (kC (.int 1))))) (cutK (kV 4) (pnone) (psome (bop dIx (kV 2) (kC (.int 1))))))) (notK (tstK (bop dLt (bop dIx (kV 3) (bop dIx (kV 2) (kC (.int 1)))) (bop dIx (kV 4) (bop dIx (kV 2) (kC (.int 1)))))))) (retS (kC (.bool false))) (nextS))
  (retS (bop dEq (cutK (kV 2) (psome (kC (.int 2))) (pnone)) (tupK (consK (bop dIx (kV 3) (bop dIx (kV 2) (kC (.int 1)))) (consK (bop dIx (kV 4) (bop dIx (kV 2) (kC (.int 1)))) (nilK)))))))))))
noncomputable def f_is_reason (C_Entry : Nat) : Fm := runF 3 5 (m_is_reason C_Entry)
noncomputable def m_judge_winner (C_Entry : Nat) : En → Option SO := seqS (ifS (orK (notK (tstK (isiK "tuple" (kV 2)))) (orK (tstK (bop dNe (b1K dLen (kV 2)) (kC (.int 2)))) (notK (tstK (callK (f_is_index C_Entry) (gval (bop dIx (kV 2) (kC (.int 0))) (gval (b1K dLen (kV 0)) (gnil)))))))) (retS (kC (.bool false))) (nextS))
  (seqS (ifS (orK (notK (tstK (isiK "tuple" (bop dIx (kV 2) (kC (.int 1)))))) (tstK (bop dNe (b1K dLen (bop dIx (kV 2) (kC (.int 1)))) (b1K dLen (kV 0))))) (retS (kC (.bool false))) (nextS))
  (seqS (asgS (bop dIx (kV 0) (bop dIx (kV 2) (kC (.int 0)))) (setv 3))
  (seqS (ifS (notK (tstK (b1K dAll (lcK [4] (rangeK1 (consK (b1K dLen (kV 0)) (nilK))) (setv 4) (yesK) (callK (f_is_reason C_Entry) (gval (bop dIx (kV 0) (kV 4)) (gval (kV 3) (gval (bop dIx (bop dIx (kV 2) (kC (.int 1))) (kV 4)) (gnil))))))))) (retS (kC (.bool false))) (nextS))
  (retS (bop (dEqI C_Entry (f_Entry_eq C_Entry)) (kV 1) (callK (f_winner C_Entry) (gval (kV 0) (gnil))))))))
noncomputable def f_judge_winner (C_Entry : Nat) : Fm := runF 3 5 (m_judge_winner C_Entry)
noncomputable def m_law_draws (C_Entry : Nat) : En → Option SO := retS (lstK (consK (b1K dList (kV 0)) (consK (kC (.int 0)) (consK (kC (.int 0)) (consK (kC (.int 1)) (nilK))))))
noncomputable def f_law_draws (C_Entry : Nat) : Fm := runO 1 1 (m_law_draws C_Entry)
noncomputable def m_law_draw (C_Entry : Nat) : En → Option SO := seqS (ifS (andK (tstK (bop dEq (bopO dIx 0 (kC (.int 2))) (kC (.int 0)))) (tstK (bop dLt (bopO dIx 0 (kC (.int 1))) (b1K dLen (bopO dIx 0 (kC (.int 0))))))) (seqS (asgS (b1K dAbs (b1K dInt (bop dIx (bopO dIx 0 (kC (.int 0))) (bopO dIx 0 (kC (.int 1)))))) (setv 2))
  (seqS (setiS 0 (bop dAdd (bopO dIx 0 (kC (.int 1))) (kC (.int 1))) (kC (.int 1)))
  (seqS (ifS (tstK (bop dGe (kV 2) (bop dPow (kC (.int 10)) (kC (.int 18))))) (setiS 0 (kV 2) (kC (.int 2))) (nextS))
  (setiS 0 (bop dMod (b1K dInt (bop dAdd (bop dAdd (bop dMul (bopO dIx 0 (kC (.int 3))) (kC (.int 48271))) (kV 2)) (kC (.int 13)))) (kC (.int 2147483647))) (kC (.int 3)))))) (nextS))
  (seqS (ifS (tstK (bop dGt (bopO dIx 0 (kC (.int 2))) (kC (.int 0)))) (seqS (asgS (bop dMod (b1K dInt (bopO dIx 0 (kC (.int 2)))) (kV 1)) (setv 3))
  (seqS (setiS 0 (bop dDiv (bopO dIx 0 (kC (.int 2))) (kV 1)) (kC (.int 2)))
  (retS (kV 3)))) (nextS))
  (seqS (setiS 0 (bop dMod (b1K dInt (bop dAdd (bop dMul (bopO dIx 0 (kC (.int 3))) (kC (.int 69621))) (kC (.int 7)))) (kC (.int 2147483629))) (kC (.int 3)))
  (retS (bop dMod (b1K dInt (bop dDiv (bopO dIx 0 (kC (.int 3))) (kC (.int 11)))) (kV 1)))))
noncomputable def f_law_draw (C_Entry : Nat) : Fm := runF 2 4 (m_law_draw C_Entry)
noncomputable def m_law_vector (C_Entry : Nat) : En → Option SO := seqS (asgS (lcK [2] (tupleK (tupK (consK (kC (.int 1)) (consK (kC (.int 2)) (consK (kC (.int 9)) (nilK)))))) (setv 2) (tstK (bop dEq (callK (f_law_draw C_Entry) (gbor 0 (gval (kC (.int 2)) (gnil)))) (kC (.int 0)))) (tupK (consK (kV 2) (consK (bop dAdd (kC (.int 1)) (callK (f_law_draw C_Entry) (gbor 0 (gval (kC (.int 3)) (gnil))))) (nilK))))) (setv 1))
  (retS (b1K dTuple (bop dAdd (kV 1) (cutK (lstK (consK (tupK (consK (kC (.int 5)) (consK (kC (.int 2)) (nilK)))) (nilK))) (pnone) (psome (b1K dInt (bop dEq (b1K dLen (kV 1)) (kC (.int 0)))))))))
noncomputable def f_law_vector (C_Entry : Nat) : Fm := runF 1 3 (m_law_vector C_Entry)
noncomputable def m_law_entry (C_Entry : Nat) : En → Option SO := seqS (asgS (bop dAdd (kC (.int 1)) (callK (f_law_draw C_Entry) (gbor 0 (gval (kC (.int 2)) (gnil))))) (setv 1))
  (seqS (asgS (tupK (consK (bop dAdd (kC (.int 1)) (callK (f_law_draw C_Entry) (gbor 0 (gval (kC (.int 2)) (gnil))))) (consK (bop dAdd (kC (.int 1)) (callK (f_law_draw C_Entry) (gbor 0 (gval (kC (.int 2)) (gnil))))) (nilK)))) (setv 2))
  (seqS (ifS (tstK (bop dEq (callK (f_law_draw C_Entry) (gbor 0 (gval (kC (.int 4)) (gnil)))) (kC (.int 0)))) (retS (mkK C_Entry 8 7 [] (i_Entry C_Entry) (consK (kC (.str "a")) (consK (callK (f_law_vector C_Entry) (gbor 0 (gnil))) (consK (kV 1) (consK (kV 2) (consK (kC (.bool true)) (consK (callK (f_law_draw C_Entry) (gbor 0 (gval (kC (.int 2)) (gnil)))) (consK (tupK (nilK)) (nilK)))))))))) (nextS))
  (seqS (asgS (bop dIx (lstK (consK (tupK (nilK)) (consK (tupK (consK (kC (.int 257)) (nilK))) (consK (tupK (consK (kC (.int 258)) (nilK))) (consK (tupK (consK (kC (.int 4311876356)) (consK (kC (.int 511)) (nilK)))) (nilK)))))) (callK (f_law_draw C_Entry) (gbor 0 (gval (kC (.int 4)) (gnil))))) (setv 3))
  (retS (mkK C_Entry 8 7 [] (i_Entry C_Entry) (consK (kC (.str "a")) (consK (callK (f_law_vector C_Entry) (gbor 0 (gnil))) (consK (kV 1) (consK (kV 2) (consK (kC (.bool false)) (consK (callK (f_law_draw C_Entry) (gbor 0 (gval (kC (.int 2)) (gnil)))) (consK (kV 3) (nilK)))))))))))))
noncomputable def f_law_entry (C_Entry : Nat) : Fm := runF 1 4 (m_law_entry C_Entry)
noncomputable def m_law_key (C_Entry : Nat) : En → Option SO := seqS (asgS (b1K dDict (fldK C_Entry "vector" (kV 0))) (setv 1))
  (seqS (asgS (b1K dTuple (lcK [3] (rangeK2 (consK (kC (.int 1)) (consK (kC (.int 10)) (nilK)))) (setv 3) (yesK) (getK (kV 1) (kV 3) (kC (.int 0))))) (setv 2))
  (retS (tupK (consK (fldK C_Entry "height" (kV 0)) (consK (fldK C_Entry "time" (kV 0)) (consK (b1K dInt (valK (notK (tstK (fldK C_Entry "deleted" (kV 0)))))) (consK (negK (bop dIx (fldK C_Entry "maker" (kV 0)) (kC (.int 0)))) (consK (negK (bop dIx (fldK C_Entry "maker" (kV 0)) (kC (.int 1)))) (consK (kV 2) (nilK))))))))))
noncomputable def f_law_key (C_Entry : Nat) : Fm := runF 1 4 (m_law_key C_Entry)
noncomputable def m_law_alike (C_Entry : Nat) : En → Option SO := retS (andV (tstK (bop dEq (fldK C_Entry "deleted" (kV 0)) (fldK C_Entry "deleted" (kV 1)))) (bop dEq (fldK C_Entry "blocks" (kV 0)) (fldK C_Entry "blocks" (kV 1))))
noncomputable def f_law_alike (C_Entry : Nat) : Fm := runF 2 2 (m_law_alike C_Entry)
noncomputable def m_law_due (C_Entry : Nat) : En → Option SO := seqS (asgS (lcK [5] (listK (kV 0)) (setv 5) (yesK) (callK (f_law_key C_Entry) (gval (kV 5) (gnil)))) (setv 1))
  (seqS (asgS (b1K dMinL (lcK [4] (rangeK1 (consK (b1K dLen (kV 1)) (nilK))) (setv 4) (tstK (bop dEq (bop dIx (kV 1) (kV 4)) (b1K dMaxL (kV 1)))) (kV 4))) (setv 2))
  (seqS (asgS (lstK (nilK)) (seto 3))
  (seqS (forS (rangeK1 (consK (b1K dLen (kV 0)) (nilK))) (setv 4) (ifS (tstK (callK (f_law_alike C_Entry) (gval (bop dIx (kV 0) (kV 4)) (gval (bop dIx (kV 0) (kV 2)) (gnil))))) (dropS (mutK 3 muAppend (consK (tupK (consK (kC (.str "alike")) (nilK))) (nilK)))) (seqS (asgS (b1K dMinL (bop dAdd (lcK [7] (rangeK1 (consK (kC (.int 6)) (nilK))) (setv 7) (tstK (bop dNe (bop dIx (bop dIx (kV 1) (kV 4)) (kV 7)) (bop dIx (bop dIx (kV 1) (kV 2)) (kV 7)))) (kV 7)) (lstK (consK (kC (.int 6)) (nilK))))) (setv 6))
  (seqS (ifS (tstK (bop dEq (kV 6) (kC (.int 6)))) (retS (kC .none)) (nextS))
  (dropS (mutK 3 muAppend (consK (tupK (consK (kC (.str "less")) (consK (kV 6) (consK (bop dIx (bop dIx (kV 1) (kV 4)) (kV 6)) (consK (bop dIx (bop dIx (kV 1) (kV 2)) (kV 6)) (nilK)))))) (nilK))))))))
  (frzS 3 (retS (tupK (consK (kV 2) (consK (b1K dTuple (kV 3)) (nilK)))))))))
noncomputable def f_law_due (C_Entry : Nat) : Fm := runF 1 8 (m_law_due C_Entry)
noncomputable def m_law_spoilt (C_Entry : Nat) : En → Option SO := seqS (asgS (kV 1) (tgTup 2 (tgCons (setv 6) (tgCons (setv 7) (tgNil)))))
  (seqS (asgS (callK (f_law_draw C_Entry) (gbor 0 (gval (b1K dLen (kV 7)) (gnil)))) (setv 2))
  (seqS (asgS (bop dIx (kV 7) (kV 2)) (setv 3))
  (seqS (asgS (lstK (consK (tupK (consK (kC (.str "alike")) (nilK))) (consK (tupK (consK (kC (.str "less")) (consK (kC (.int 0)) (consK (kC (.int 1)) (consK (kC (.int 2)) (nilK)))))) (consK (tupK (consK (kC (.str "less")) (consK (kC (.int 1)) (consK (kC (.int 0)) (consK (kC (.int 1)) (nilK)))))) (consK (bop dAdd (kV 3) (tupK (consK (kC (.int 0)) (nilK)))) (consK (cutK (kV 3) (pnone) (psome (negK (kC (.int 1))))) (consK (b1K dList (kV 3)) (consK (kC .none) (consK (tupK (consK (kC (.str "less")) (consK (kC (.int 5)) (consK (tupK (consK (kC (.int 0)) (nilK))) (consK (tupK (consK (kC (.int 1)) (nilK))) (nilK)))))) (consK (tupK (consK (kC (.str "less")) (consK (kC (.int 6)) (consK (kC (.int 0)) (consK (kC (.int 0)) (nilK)))))) (nilK))))))))))) (setv 4))
  (seqS (asgS (bop dIx (kV 4) (callK (f_law_draw C_Entry) (gbor 0 (gval (kC (.int 9)) (gnil))))) (setv 5))
  (seqS (ifS (tstK (bop dEq (kV 5) (kV 3))) (asgS (tupK (consK (kC (.str "more")) (nilK))) (setv 5)) (nextS))
  (retS (tupK (consK (kV 6) (consK (bop dAdd (bop dAdd (cutK (kV 7) (pnone) (psome (kV 2))) (tupK (consK (kV 5) (nilK)))) (cutK (kV 7) (psome (bop dAdd (kV 2) (kC (.int 1)))) (pnone))) (nilK))))))))))
noncomputable def f_law_spoilt (C_Entry : Nat) : Fm := runF 2 8 (m_law_spoilt C_Entry)
noncomputable def m_law (C_Entry : Nat) : En → Option SO := seqS (asgS (callK (f_law_draws C_Entry) (gval (kV 0) (gnil))) (seto 1))
  (seqS (asgS (lcK [6] (rangeK1 (consK (bop dAdd (kC (.int 1)) (callK (f_law_draw C_Entry) (gbor 1 (gval (kC (.int 7)) (gnil))))) (nilK))) (setv 6) (yesK) (callK (f_law_entry C_Entry) (gbor 1 (gnil)))) (setv 2))
  (seqS (asgS (callK (f_law_due C_Entry) (gval (kV 2) (gnil))) (setv 3))
  (seqS (ifS (tstK (bop dIs (kV 3) (kC .none))) (retS (kC (.bool true))) (nextS))
  (seqS (asgS (callK (f_reasons C_Entry) (gval (kV 2) (gnil))) (setv 4))
  (seqS (asgS (callK (f_winner C_Entry) (gval (kV 2) (gnil))) (setv 5))
  (seqS (ifS (orK (tstK (bop dNe (kV 4) (kV 3))) (tstK (bop dIsNotT (callK (f_judge_winner C_Entry) (gval (kV 2) (gval (kV 5) (gval (kV 3) (gnil))))) (kC (.bool true))))) (retS (kC (.bool false))) (nextS))
  (seqS (forS (rangeK1 (consK (b1K dLen (kV 2)) (nilK))) (setv 6) (seqS (asgS (callK (f_judge_winner C_Entry) (gval (kV 2) (gval (kV 5) (gval (tupK (consK (kV 6) (consK (bop dIx (kV 3) (kC (.int 1))) (nilK)))) (gnil))))) (setv 9))
  (seqS (ifS (andK (tstK (bop dEq (callK (f_law_key C_Entry) (gval (bop dIx (kV 2) (kV 6)) (gnil))) (callK (f_law_key C_Entry) (gval (bop dIx (kV 2) (bop dIx (kV 3) (kC (.int 0)))) (gnil))))) (tstK (bop dIsNotT (kV 9) (kC (.bool true))))) (retS (kC (.bool false))) (nextS))
  (ifS (andK (tstK (bop dNe (callK (f_law_key C_Entry) (gval (bop dIx (kV 2) (kV 6)) (gnil))) (callK (f_law_key C_Entry) (gval (bop dIx (kV 2) (bop dIx (kV 3) (kC (.int 0)))) (gnil))))) (andK (notK (tstK (callK (f_law_alike C_Entry) (gval (bop dIx (kV 2) (kV 6)) (gval (bop dIx (kV 2) (bop dIx (kV 3) (kC (.int 0)))) (gnil)))))) (tstK (bop dIsNotT (kV 9) (kC (.bool false)))))) (retS (kC (.bool false))) (nextS)))))
  (seqS (asgS (mkK C_Entry 8 7 [] (i_Entry C_Entry) (consK (kC (.str "a")) (consK (fldK C_Entry "vector" (kV 5)) (consK (bop dAdd (fldK C_Entry "height" (kV 5)) (kC (.int 1))) (consK (fldK C_Entry "maker" (kV 5)) (consK (fldK C_Entry "deleted" (kV 5)) (consK (fldK C_Entry "time" (kV 5)) (consK (fldK C_Entry "blocks" (kV 5)) (nilK))))))))) (setv 7))
  (seqS (ifS (tstK (bop dIsNotT (callK (f_judge_winner C_Entry) (gval (kV 2) (gval (kV 7) (gval (kV 3) (gnil))))) (kC (.bool false)))) (retS (kC (.bool false))) (nextS))
  (seqS (asgS (lstK (consK (kC .none) (consK (kC (.int 5)) (consK (tupK (nilK)) (consK (b1K dList (kV 3)) (consK (cutK (kV 3) (pnone) (psome (kC (.int 1)))) (consK (bop dAdd (kV 3) (tupK (consK (kC (.int 0)) (nilK)))) (consK (tupK (consK (b1K dLen (kV 2)) (consK (bop dIx (kV 3) (kC (.int 1))) (nilK)))) (consK (tupK (consK (negK (kC (.int 1))) (consK (bop dIx (kV 3) (kC (.int 1))) (nilK)))) (consK (tupK (consK (kC (.bool true)) (consK (bop dIx (kV 3) (kC (.int 1))) (nilK)))) (consK (tupK (consK (bop dIx (kV 3) (kC (.int 0))) (consK (b1K dList (bop dIx (kV 3) (kC (.int 1)))) (nilK)))) (consK (tupK (consK (bop dIx (kV 3) (kC (.int 0))) (consK (cutK (bop dIx (kV 3) (kC (.int 1))) (pnone) (psome (negK (kC (.int 1))))) (nilK)))) (nilK))))))))))))) (setv 8))
  (seqS (ifS (tstK (bop dGt (b1K dLen (lcK [10] (listK (kV 8)) (setv 10) (tstK (bop dIsNotT (callK (f_judge_winner C_Entry) (gval (kV 2) (gval (kV 5) (gval (kV 10) (gnil))))) (kC (.bool false)))) (kV 10))) (kC (.int 0)))) (retS (kC (.bool false))) (nextS))
  (retS (bop dIsT (callK (f_judge_winner C_Entry) (gval (kV 2) (gval (kV 5) (gval (callK (f_law_spoilt C_Entry) (gbor 1 (gval (kV 3) (gnil)))) (gnil))))) (kC (.bool false)))))))))))))))
noncomputable def f_law (C_Entry : Nat) : Fm := runF 1 11 (m_law C_Entry)
end K50

namespace K50
open PySem L2 Dz
def top (i : Nat) : Stmt := PySem.Challenge.pw_folderkin_k50_reasons_of_winners.main.body.getD i (.Pass ⟨0, 0, 0, 0⟩)
def inC (s : Stmt) (j : Nat) : Stmt := match s with
  | .ClassDef (body := b) .. => b.getD j (.Pass ⟨0, 0, 0, 0⟩)
  | s => s
abbrev s_Entry_fields : Stmt := inC (top 7) 1
abbrev s_Entry_eq : Stmt := inC (top 7) 2
abbrev s_count_of : Stmt := top 2
abbrev s_counts_of : Stmt := top 3
abbrev s_vector_of : Stmt := top 4
abbrev s_join : Stmt := top 5
abbrev s_alike : Stmt := top 8
abbrev s_key_of : Stmt := top 9
abbrev s_greatest : Stmt := top 10
abbrev s_winner : Stmt := top 11
abbrev s_is_index : Stmt := top 14
abbrev s_less_by : Stmt := top 15
abbrev s_reasons : Stmt := top 16
abbrev s_is_reason : Stmt := top 17
abbrev s_judge_winner : Stmt := top 18
abbrev s_law_draws : Stmt := top 20
abbrev s_law_draw : Stmt := top 21
abbrev s_law_vector : Stmt := top 22
abbrev s_law_entry : Stmt := top 23
abbrev s_law_key : Stmt := top 24
abbrev s_law_alike : Stmt := top 25
abbrev s_law_due : Stmt := top 26
abbrev s_law_spoilt : Stmt := top 27
abbrev s_law : Stmt := top 28
abbrev s_init_Entry : Stmt := inC (top 7) 0
theorem sc_Entry_fields : FnScope ["self"] ["self"] (defScope s_Entry_fields) := ⟨rfl, rfl, rfl, by decide +kernel, rfl, by decide +kernel, by decide +kernel⟩
theorem sc_Entry_eq : FnScope ["self", "other"] ["self", "other"] (defScope s_Entry_eq) := ⟨rfl, rfl, rfl, by decide +kernel, rfl, by decide +kernel, by decide +kernel⟩
theorem sc_count_of : FnScope ["vector", "device", "other", "count"] ["vector", "device"] (defScope s_count_of) := ⟨rfl, rfl, rfl, by decide +kernel, rfl, by decide +kernel, by decide +kernel⟩
theorem sc_counts_of : FnScope ["vector", "device"] ["vector"] (defScope s_counts_of) := ⟨rfl, rfl, rfl, by decide +kernel, rfl, by decide +kernel, by decide +kernel⟩
theorem sc_vector_of : FnScope ["counts", "k"] ["counts"] (defScope s_vector_of) := ⟨rfl, rfl, rfl, by decide +kernel, rfl, by decide +kernel, by decide +kernel⟩
theorem sc_join : FnScope ["first", "second", "a", "b"] ["first", "second"] (defScope s_join) := ⟨rfl, rfl, rfl, by decide +kernel, rfl, by decide +kernel, by decide +kernel⟩
theorem sc_alike : FnScope ["first", "second"] ["first", "second"] (defScope s_alike) := ⟨rfl, rfl, rfl, by decide +kernel, rfl, by decide +kernel, by decide +kernel⟩
theorem sc_key_of : FnScope ["entry", "device", "number"] ["entry"] (defScope s_key_of) := ⟨rfl, rfl, rfl, by decide +kernel, rfl, by decide +kernel, by decide +kernel⟩
theorem sc_greatest : FnScope ["entries", "best", "entry"] ["entries"] (defScope s_greatest) := ⟨rfl, rfl, rfl, by decide +kernel, rfl, by decide +kernel, by decide +kernel⟩
theorem sc_winner : FnScope ["entries", "best", "vector", "entry"] ["entries"] (defScope s_winner) := ⟨rfl, rfl, rfl, by decide +kernel, rfl, by decide +kernel, by decide +kernel⟩
theorem sc_is_index : FnScope ["value", "count"] ["value", "count"] (defScope s_is_index) := ⟨rfl, rfl, rfl, by decide +kernel, rfl, by decide +kernel, by decide +kernel⟩
theorem sc_less_by : FnScope ["key", "greatest", "at"] ["key", "greatest"] (defScope s_less_by) := ⟨rfl, rfl, rfl, by decide +kernel, rfl, by decide +kernel, by decide +kernel⟩
theorem sc_reasons : FnScope ["entries", "keys", "best", "rows", "k", "entry"] ["entries"] (defScope s_reasons) := ⟨rfl, rfl, rfl, by decide +kernel, rfl, by decide +kernel, by decide +kernel⟩
theorem sc_is_reason : FnScope ["entry", "best", "row", "key", "greatest"] ["entry", "best", "row"] (defScope s_is_reason) := ⟨rfl, rfl, rfl, by decide +kernel, rfl, by decide +kernel, by decide +kernel⟩
theorem sc_judge_winner : FnScope ["entries", "entry", "paper", "best", "k"] ["entries", "entry", "paper"] (defScope s_judge_winner) := ⟨rfl, rfl, rfl, by decide +kernel, rfl, by decide +kernel, by decide +kernel⟩
theorem sc_law_draws : FnScope ["_law_script"] ["_law_script"] (defScope s_law_draws) := ⟨rfl, rfl, rfl, by decide +kernel, rfl, by decide +kernel, by decide +kernel⟩
theorem sc_law_draw : FnScope ["_law_draws_here", "_law_limit", "_law_cell", "_law_value"] ["_law_draws_here", "_law_limit"] (defScope s_law_draw) := ⟨rfl, rfl, rfl, by decide +kernel, rfl, by decide +kernel, by decide +kernel⟩
theorem sc_law_vector : FnScope ["_law_draws_here", "_law_pairs", "_law_device"] ["_law_draws_here"] (defScope s_law_vector) := ⟨rfl, rfl, rfl, by decide +kernel, rfl, by decide +kernel, by decide +kernel⟩
theorem sc_law_entry : FnScope ["_law_draws_here", "_law_height", "_law_maker", "_law_blocks"] ["_law_draws_here"] (defScope s_law_entry) := ⟨rfl, rfl, rfl, by decide +kernel, rfl, by decide +kernel, by decide +kernel⟩
theorem sc_law_key : FnScope ["_law_entry_here", "_law_counts", "_law_tail", "_law_device"] ["_law_entry_here"] (defScope s_law_key) := ⟨rfl, rfl, rfl, by decide +kernel, rfl, by decide +kernel, by decide +kernel⟩
theorem sc_law_alike : FnScope ["_law_first", "_law_second"] ["_law_first", "_law_second"] (defScope s_law_alike) := ⟨rfl, rfl, rfl, by decide +kernel, rfl, by decide +kernel, by decide +kernel⟩
theorem sc_law_due : FnScope ["_law_entries", "_law_keys", "_law_best", "_law_rows", "_law_k", "_law_entry_here", "_law_part", "_law_at"] ["_law_entries"] (defScope s_law_due) := ⟨rfl, rfl, rfl, by decide +kernel, rfl, by decide +kernel, by decide +kernel⟩
theorem sc_law_spoilt : FnScope ["_law_draws_here", "_law_paper", "_law_at", "_law_row", "_law_odd", "_law_new", "_law_best", "_law_rows"] ["_law_draws_here", "_law_paper"] (defScope s_law_spoilt) := ⟨rfl, rfl, rfl, by decide +kernel, rfl, by decide +kernel, by decide +kernel⟩
theorem sc_law : FnScope ["_law_script", "_law_draws_here", "_law_entries", "_law_due_here", "_law_found", "_law_stands", "_law_k", "_law_other", "_law_odd", "_law_told", "_law_value"] ["_law_script"] (defScope s_law) := ⟨rfl, rfl, rfl, by decide +kernel, rfl, by decide +kernel, by decide +kernel⟩
theorem sc_init_Entry : FnScope ["self", "name", "vector", "height", "maker", "deleted", "time", "blocks"] ["self", "name", "vector", "height", "maker", "deleted", "time", "blocks"] (defScope s_init_Entry) := ⟨rfl, rfl, rfl, by decide +kernel, rfl, by decide +kernel, by decide +kernel⟩
structure Facts (c : C0) (C_Entry : Nat) : Prop where
  b_abs : c.mg "abs" = none
  b_all : c.mg "all" = none
  b_bool : c.mg "bool" = none
  b_dict : c.mg "dict" = none
  b_int : c.mg "int" = none
  b_isinstance : c.mg "isinstance" = none
  b_len : c.mg "len" = none
  b_list : c.mg "list" = none
  b_max : c.mg "max" = none
  b_min : c.mg "min" = none
  b_range : c.mg "range" = none
  b_tuple : c.mg "tuple" = none
  b_zip : c.mg "zip" = none
  k_DEVICES : ∃ t, c.mg "DEVICES" = some (.int 9 t)
  k_KEY_PARTS : ∃ t, c.mg "KEY_PARTS" = some (.int 6 t)
  cl_Entry : ClsD c "Entry" C_Entry
  na_Entry_name : NoAttr c.K C_Entry "name"
  na_Entry_vector : NoAttr c.K C_Entry "vector"
  na_Entry_height : NoAttr c.K C_Entry "height"
  na_Entry_maker : NoAttr c.K C_Entry "maker"
  na_Entry_deleted : NoAttr c.K C_Entry "deleted"
  na_Entry_time : NoAttr c.K C_Entry "time"
  na_Entry_blocks : NoAttr c.K C_Entry "blocks"
  init_Entry : MkAt c "Entry.__init__" "Entry" C_Entry s_init_Entry ["self", "name", "vector", "height", "maker", "deleted", "time", "blocks"]
  a_Entry_fields : MeAt c "fields" "Entry.fields" C_Entry s_Entry_fields ["self"]
  a_Entry_eq : EqAt c "Entry.__eq__" C_Entry s_Entry_eq ["self", "other"]
  a_count_of : At c "count_of" s_count_of ["vector", "device"]
  a_counts_of : At c "counts_of" s_counts_of ["vector"]
  a_vector_of : At c "vector_of" s_vector_of ["counts"]
  a_join : At c "join" s_join ["first", "second"]
  a_alike : At c "alike" s_alike ["first", "second"]
  a_key_of : At c "key_of" s_key_of ["entry"]
  a_greatest : At c "greatest" s_greatest ["entries"]
  a_winner : At c "winner" s_winner ["entries"]
  a_is_index : At c "is_index" s_is_index ["value", "count"]
  a_less_by : At c "less_by" s_less_by ["key", "greatest"]
  a_reasons : At c "reasons" s_reasons ["entries"]
  a_is_reason : At c "is_reason" s_is_reason ["entry", "best", "row"]
  a_judge_winner : At c "judge_winner" s_judge_winner ["entries", "entry", "paper"]
  a_law_draws : At c "_law_draws" s_law_draws ["_law_script"]
  a_law_draw : At c "_law_draw" s_law_draw ["_law_draws_here", "_law_limit"]
  a_law_vector : At c "_law_vector" s_law_vector ["_law_draws_here"]
  a_law_entry : At c "_law_entry" s_law_entry ["_law_draws_here"]
  a_law_key : At c "_law_key" s_law_key ["_law_entry_here"]
  a_law_alike : At c "_law_alike" s_law_alike ["_law_first", "_law_second"]
  a_law_due : At c "_law_due" s_law_due ["_law_entries"]
  a_law_spoilt : At c "_law_spoilt" s_law_spoilt ["_law_draws_here", "_law_paper"]
  a_law : At c "law" s_law ["_law_script"]
section
variable {c : C0} {C_Entry : Nat}
theorem ji_Entry (T : Facts c C_Entry) : JIn { c with k := 0, top := true } ["self", "name", "vector", "height", "maker", "deleted", "time", "blocks"] (defScope s_init_Entry) C_Entry (defBody s_init_Entry) (i_Entry C_Entry) :=
  jin_cons T.cl_Entry.cl T.na_Entry_name (v_ 1) (jin_cons T.cl_Entry.cl T.na_Entry_vector (v_ 2) (jin_cons T.cl_Entry.cl T.na_Entry_height (v_ 3) (jin_cons T.cl_Entry.cl T.na_Entry_maker (v_ 4) (jin_cons T.cl_Entry.cl T.na_Entry_deleted (v_ 5) (jin_cons T.cl_Entry.cl T.na_Entry_time (v_ 6) (jin_cons T.cl_Entry.cl T.na_Entry_blocks (v_ 7) (jin_nil)))))))
theorem Mp_Entry (T : Facts c C_Entry) : MkD c 1 "Entry" C_Entry 8 7 [] (i_Entry C_Entry) := T.init_Entry.mk T.cl_Entry sc_init_Entry (ji_Entry T)
theorem jb_Entry_fields (T : Facts c C_Entry) : JB { c with k := 0, top := true } ["self"] (defScope s_Entry_fields) (defBody s_Entry_fields) (m_Entry_fields C_Entry) :=
  jb_one (js_ret (je_tup (jl_cons (je_fld (v_ 0) T.cl_Entry.cl T.na_Entry_name) (jl_cons (je_fld (v_ 0) T.cl_Entry.cl T.na_Entry_vector) (jl_cons (je_fld (v_ 0) T.cl_Entry.cl T.na_Entry_height) (jl_cons (je_fld (v_ 0) T.cl_Entry.cl T.na_Entry_maker) (jl_cons (je_fld (v_ 0) T.cl_Entry.cl T.na_Entry_deleted) (jl_cons (je_fld (v_ 0) T.cl_Entry.cl T.na_Entry_time) (jl_cons (je_fld (v_ 0) T.cl_Entry.cl T.na_Entry_blocks) (jl_nil))))))))))
theorem X_Entry_fields (T : Facts c C_Entry) : MeS c 1 C_Entry "fields" (f_Entry_fields C_Entry) := T.a_Entry_fields.me sc_Entry_fields (jb_Entry_fields T)
theorem jb_Entry_eq (T : Facts c C_Entry) : JB { c with k := 1, top := true } ["self", "other"] (defScope s_Entry_eq) (defBody s_Entry_eq) (m_Entry_eq C_Entry) :=
  jb_cons (js_if (jt_not (jt_val (je_isiC T.cl_Entry.to rfl T.b_isinstance rfl (JE.ja (v_ 1))))) (jb_one (js_ret (ce_bl))) (jb_nil))
    (jb_one (js_ret (ce_cmp o_eq (je_meth0 T.cl_Entry.to (X_Entry_fields (c := c) T) (Nat.le_of_ble_eq_true rfl) (v_ 0)) (JE.ja (je_meth0 T.cl_Entry.to (X_Entry_fields (c := c) T) (Nat.le_of_ble_eq_true rfl) (v_ 1))))))
theorem Q_Entry (T : Facts c C_Entry) : EqD c 2 C_Entry (f_Entry_eq C_Entry) := T.a_Entry_eq.eq sc_Entry_eq (jb_Entry_eq T)
theorem jb_count_of (T : Facts c C_Entry) : JB { c with k := 0, top := true } ["vector", "device", "other", "count"] (defScope s_count_of) (defBody s_count_of) (m_count_of C_Entry) :=
  jb_cons (js_for (ji_tup (v_ 0)) (jtg_tup (jtgs_cons (tg_ 2 sc_count_of.nd) (jtgs_cons (tg_ 3 sc_count_of.nd) (jtgs_nil)))) (jb_one (js_if (jt_cmp o_eq (v_ 2) (JE.ja (v_ 1))) (jb_one (js_ret (v_ 3))) (jb_nil))))
    (jb_one (js_ret (ce_int)))
theorem F_count_of (T : Facts c C_Entry) : FnD c 1 "count_of" ["vector", "device"] (f_count_of C_Entry) := T.a_count_of.fn sc_count_of (jb_count_of T)
theorem jb_counts_of (T : Facts c C_Entry) (F_count_of : FnD c 1 "count_of" ["vector", "device"] (f_count_of C_Entry)) : JB { c with k := 1, top := true } ["vector", "device"] (defScope s_counts_of) (defBody s_counts_of) (m_counts_of C_Entry) :=
  jb_one (js_ret (je_t1 c_tuple rfl T.b_tuple (by decide +kernel) (JE.ja (JF.je (jf_lc (own := [("device", 1)]) sc_counts_of.nd (ji_range2 rfl T.b_range (jl_cons (ce_int) (jl_cons (ce_op o_add (g_int (hm := T.k_DEVICES)) (JE.ja (ce_int))) (jl_nil)))) (blkOk_by (by decide +kernel)) (tg_ 1 sc_counts_of.nd) (jts_nil) (je_call F_count_of (Nat.le_of_ble_eq_true rfl) rfl (jg_val (v_ 0) (jg_val (v_ 1) (jg_nil)))))))))
theorem F_counts_of (T : Facts c C_Entry) : FnD c 2 "counts_of" ["vector"] (f_counts_of C_Entry) := T.a_counts_of.fn sc_counts_of (jb_counts_of T (F_count_of T))
theorem jb_vector_of (T : Facts c C_Entry) : JB { c with k := 0, top := true } ["counts", "k"] (defScope s_vector_of) (defBody s_vector_of) (m_vector_of C_Entry) :=
  jb_one (js_ret (je_t1 c_tuple rfl T.b_tuple (by decide +kernel) (JE.ja (JF.je (jf_lc (own := [("k", 1)]) sc_vector_of.nd (ji_range1 rfl T.b_range (jl_cons (g_int (hm := T.k_DEVICES)) (jl_nil))) (blkOk_by (by decide +kernel)) (tg_ 1 sc_vector_of.nd) (jts_one (jt_cmp o_gt (je_ix o_ix (v_ 0) (JE.ja (v_ 1))) (JE.ja (ce_int)))) (je_tup (jl_cons (ce_op o_add (v_ 1) (JE.ja (ce_int))) (jl_cons (je_ix o_ix (v_ 0) (JE.ja (v_ 1))) (jl_nil)))))))))
theorem F_vector_of (T : Facts c C_Entry) : FnD c 1 "vector_of" ["counts"] (f_vector_of C_Entry) := T.a_vector_of.fn sc_vector_of (jb_vector_of T)
theorem jb_join (T : Facts c C_Entry) (F_counts_of : FnD c 2 "counts_of" ["vector"] (f_counts_of C_Entry)) (F_vector_of : FnD c 1 "vector_of" ["counts"] (f_vector_of C_Entry)) : JB { c with k := 2, top := true } ["first", "second", "a", "b"] (defScope s_join) (defBody s_join) (m_join C_Entry) :=
  jb_one (js_ret (je_call F_vector_of (Nat.le_of_ble_eq_true rfl) rfl (jg_val (JF.je (jf_lc (own := [("a", 2), ("b", 3)]) sc_join.nd (ji_zip rfl T.b_zip (jl_cons (je_call F_counts_of (Nat.le_of_ble_eq_true rfl) rfl (jg_val (v_ 0) (jg_nil))) (jl_cons (je_call F_counts_of (Nat.le_of_ble_eq_true rfl) rfl (jg_val (v_ 1) (jg_nil))) (jl_nil)))) (blkOk_by (by decide +kernel)) (jtg_tup (jtgs_cons (tg_ 2 sc_join.nd) (jtgs_cons (tg_ 3 sc_join.nd) (jtgs_nil)))) (jts_nil) (je_bn c_max2 rfl T.b_max (by decide +kernel) (jl_cons (v_ 2) (jl_cons (v_ 3) (jl_nil)))))) (jg_nil))))
theorem F_join (T : Facts c C_Entry) : FnD c 3 "join" ["first", "second"] (f_join C_Entry) := T.a_join.fn sc_join (jb_join T (F_counts_of T) (F_vector_of T))
theorem jb_alike (T : Facts c C_Entry) : JB { c with k := 0, top := true } ["first", "second"] (defScope s_alike) (defBody s_alike) (m_alike C_Entry) :=
  jb_one (js_ret (je_and (ce_cmp o_eq (je_fld (v_ 0) T.cl_Entry.cl T.na_Entry_deleted) (JE.ja (je_fld (v_ 1) T.cl_Entry.cl T.na_Entry_deleted))) (je_one (ce_cmp o_eq (je_fld (v_ 0) T.cl_Entry.cl T.na_Entry_blocks) (JE.ja (je_fld (v_ 1) T.cl_Entry.cl T.na_Entry_blocks))))))
theorem F_alike (T : Facts c C_Entry) : FnD c 1 "alike" ["first", "second"] (f_alike C_Entry) := T.a_alike.fn sc_alike (jb_alike T)
theorem jb_key_of (T : Facts c C_Entry) (F_counts_of : FnD c 2 "counts_of" ["vector"] (f_counts_of C_Entry)) : JB { c with k := 2, top := true } ["entry", "device", "number"] (defScope s_key_of) (defBody s_key_of) (m_key_of C_Entry) :=
  jb_cons (js_asg (je_fld (v_ 0) T.cl_Entry.cl T.na_Entry_maker) (jtg_tup (jtgs_cons (tg_ 1 sc_key_of.nd) (jtgs_cons (tg_ 2 sc_key_of.nd) (jtgs_nil)))))
    (jb_one (js_ret (je_tup (jl_cons (je_fld (v_ 0) T.cl_Entry.cl T.na_Entry_height) (jl_cons (je_fld (v_ 0) T.cl_Entry.cl T.na_Entry_time) (jl_cons (je_if (jt_val (je_fld (v_ 0) T.cl_Entry.cl T.na_Entry_deleted)) (ce_int) (ce_int)) (jl_cons (je_neg (v_ 1)) (jl_cons (je_neg (v_ 2)) (jl_cons (je_call F_counts_of (Nat.le_of_ble_eq_true rfl) rfl (jg_val (je_fld (v_ 0) T.cl_Entry.cl T.na_Entry_vector) (jg_nil))) (jl_nil))))))))))
theorem F_key_of (T : Facts c C_Entry) : FnD c 3 "key_of" ["entry"] (f_key_of C_Entry) := T.a_key_of.fn sc_key_of (jb_key_of T (F_counts_of T))
theorem jb_greatest (T : Facts c C_Entry) (F_key_of : FnD c 3 "key_of" ["entry"] (f_key_of C_Entry)) : JB { c with k := 3, top := true } ["entries", "best", "entry"] (defScope s_greatest) (defBody s_greatest) (m_greatest C_Entry) :=
  jb_cons (set_ 1 sc_greatest.nd (je_ix o_ix (v_ 0) (JE.ja (ce_int))))
    (jb_cons (js_for (ji_list (je_cut (v_ 0) (jp_some (ce_int)) (jp_none))) (tg_ 2 sc_greatest.nd) (jb_one (js_if (jt_cmp o_gt (je_call F_key_of (Nat.le_of_ble_eq_true rfl) rfl (jg_val (v_ 2) (jg_nil))) (JE.ja (je_call F_key_of (Nat.le_of_ble_eq_true rfl) rfl (jg_val (v_ 1) (jg_nil))))) (jb_one (set_ 1 sc_greatest.nd (v_ 2))) (jb_nil))))
    (jb_one (js_ret (v_ 1))))
theorem F_greatest (T : Facts c C_Entry) : FnD c 4 "greatest" ["entries"] (f_greatest C_Entry) := T.a_greatest.fn sc_greatest (jb_greatest T (F_key_of T))
theorem jb_winner (T : Facts c C_Entry) (F_alike : FnD c 1 "alike" ["first", "second"] (f_alike C_Entry)) (F_greatest : FnD c 4 "greatest" ["entries"] (f_greatest C_Entry)) (F_join : FnD c 3 "join" ["first", "second"] (f_join C_Entry)) : JB { c with k := 4, top := true } ["entries", "best", "vector", "entry"] (defScope s_winner) (defBody s_winner) (m_winner C_Entry) :=
  jb_cons (set_ 1 sc_winner.nd (je_call F_greatest (Nat.le_of_ble_eq_true rfl) rfl (jg_val (v_ 0) (jg_nil))))
    (jb_cons (set_ 2 sc_winner.nd (je_fld (v_ 1) T.cl_Entry.cl T.na_Entry_vector))
    (jb_cons (js_for (ji_list (v_ 0)) (tg_ 3 sc_winner.nd) (jb_one (js_if (jt_val (je_call F_alike (Nat.le_of_ble_eq_true rfl) rfl (jg_val (v_ 3) (jg_val (v_ 1) (jg_nil))))) (jb_one (set_ 2 sc_winner.nd (je_call F_join (Nat.le_of_ble_eq_true rfl) rfl (jg_val (v_ 2) (jg_val (je_fld (v_ 3) T.cl_Entry.cl T.na_Entry_vector) (jg_nil)))))) (jb_nil))))
    (jb_one (js_ret (je_mk (Mp_Entry (c := c) T) (Nat.le_of_ble_eq_true rfl) rfl (jl_cons (je_fld (v_ 1) T.cl_Entry.cl T.na_Entry_name) (jl_cons (v_ 2) (jl_cons (je_fld (v_ 1) T.cl_Entry.cl T.na_Entry_height) (jl_cons (je_fld (v_ 1) T.cl_Entry.cl T.na_Entry_maker) (jl_cons (je_fld (v_ 1) T.cl_Entry.cl T.na_Entry_deleted) (jl_cons (je_fld (v_ 1) T.cl_Entry.cl T.na_Entry_time) (jl_cons (je_fld (v_ 1) T.cl_Entry.cl T.na_Entry_blocks) (jl_nil)))))))))))))
theorem F_winner (T : Facts c C_Entry) : FnD c 5 "winner" ["entries"] (f_winner C_Entry) := T.a_winner.fn sc_winner (jb_winner T (F_alike T) (F_greatest T) (F_join T))
theorem jb_is_index (T : Facts c C_Entry) : JB { c with k := 0, top := true } ["value", "count"] (defScope s_is_index) (defBody s_is_index) (m_is_index C_Entry) :=
  jb_one (js_ret (je_and (je_isi (T := "int") rfl T.b_isinstance rfl T.b_int (by decide +kernel) (JE.ja (v_ 0))) (je_and (je_not (je_isi (T := "bool") rfl T.b_isinstance rfl T.b_bool (by decide +kernel) (JE.ja (v_ 0)))) (je_one (je_chain o_le o_lt (ce_int) (v_ 0) (v_ 1))))))
theorem F_is_index (T : Facts c C_Entry) : FnD c 1 "is_index" ["value", "count"] (f_is_index C_Entry) := T.a_is_index.fn sc_is_index (jb_is_index T)
theorem jb_less_by (T : Facts c C_Entry) : JB { c with k := 0, top := true } ["key", "greatest", "at"] (defScope s_less_by) (defBody s_less_by) (m_less_by C_Entry) :=
  jb_cons (js_for (ji_range1 rfl T.b_range (jl_cons (g_int (hm := T.k_KEY_PARTS)) (jl_nil))) (tg_ 2 sc_less_by.nd) (jb_one (js_if (jt_cmp o_ne (je_ix o_ix (v_ 0) (JE.ja (v_ 2))) (JE.ja (je_ix o_ix (v_ 1) (JE.ja (v_ 2))))) (jb_one (js_ret (je_tup (jl_cons (ce_str) (jl_cons (v_ 2) (jl_cons (je_ix o_ix (v_ 0) (JE.ja (v_ 2))) (jl_cons (je_ix o_ix (v_ 1) (JE.ja (v_ 2))) (jl_nil)))))))) (jb_nil))))
    (jb_one (js_ret (je_tup (jl_cons (ce_str) (jl_cons (g_int (hm := T.k_KEY_PARTS)) (jl_cons (ce_int) (jl_cons (ce_int) (jl_nil))))))))
theorem F_less_by (T : Facts c C_Entry) : FnD c 1 "less_by" ["key", "greatest"] (f_less_by C_Entry) := T.a_less_by.fn sc_less_by (jb_less_by T)
theorem jb_reasons (T : Facts c C_Entry) (F_alike : FnD c 1 "alike" ["first", "second"] (f_alike C_Entry)) (F_key_of : FnD c 3 "key_of" ["entry"] (f_key_of C_Entry)) (F_less_by : FnD c 1 "less_by" ["key", "greatest"] (f_less_by C_Entry)) : JB { c with k := 3, top := true } ["entries", "keys", "best", "rows", "k", "entry"] (defScope s_reasons) (defBody s_reasons) (m_reasons C_Entry) :=
  jb_cons (setLc_ 1 (own := [("entry", 5)]) sc_reasons.nd (ji_list (v_ 0)) (blkOk_by (by decide +kernel)) (tg_ 5 sc_reasons.nd) (jts_nil) (je_call F_key_of (Nat.le_of_ble_eq_true rfl) rfl (jg_val (v_ 5) (jg_nil))))
    (jb_cons (set_ 2 sc_reasons.nd (je_index (v_ 1) (je_b1 c_maxL rfl T.b_max (by decide +kernel) (JE.ja (v_ 1)))))
    (jb_cons (own_ 3 sc_reasons.nd (jf_lst (jl_nil)))
    (jb_cons (js_for (ji_range1 rfl T.b_range (jl_cons (je_b1 c_len rfl T.b_len (by decide +kernel) (JE.ja (v_ 0))) (jl_nil))) (tg_ 4 sc_reasons.nd) (jb_one (js_if (jt_val (je_call F_alike (Nat.le_of_ble_eq_true rfl) rfl (jg_val (je_ix o_ix (v_ 0) (JE.ja (v_ 4))) (jg_val (je_ix o_ix (v_ 0) (JE.ja (v_ 2))) (jg_nil))))) (jb_one (js_expr (je_mut (i := 3) mu_append PySem.F.slot_list_append PySem.F.type_list_append rfl (Or.inl rfl) (jl_cons (je_tup (jl_cons (ce_str) (jl_nil))) (jl_nil))))) (jb_one (js_expr (je_mut (i := 3) mu_append PySem.F.slot_list_append PySem.F.type_list_append rfl (Or.inl rfl) (jl_cons (je_call F_less_by (Nat.le_of_ble_eq_true rfl) rfl (jg_val (je_ix o_ix (v_ 1) (JE.ja (v_ 4))) (jg_val (je_ix o_ix (v_ 1) (JE.ja (v_ 2))) (jg_nil)))) (jl_nil))))))))
    (jb_frz (i := 3) (jb_one (js_ret (je_tup (jl_cons (v_ 2) (jl_cons (je_t1 c_tuple rfl T.b_tuple (by decide +kernel) (JE.ja (v_ 3))) (jl_nil))))))))))
theorem F_reasons (T : Facts c C_Entry) : FnD c 4 "reasons" ["entries"] (f_reasons C_Entry) := T.a_reasons.fn sc_reasons (jb_reasons T (F_alike T) (F_key_of T) (F_less_by T))
theorem jb_is_reason (T : Facts c C_Entry) (F_alike : FnD c 1 "alike" ["first", "second"] (f_alike C_Entry)) (F_is_index : FnD c 1 "is_index" ["value", "count"] (f_is_index C_Entry)) (F_key_of : FnD c 3 "key_of" ["entry"] (f_key_of C_Entry)) : JB { c with k := 3, top := true } ["entry", "best", "row", "key", "greatest"] (defScope s_is_reason) (defBody s_is_reason) (m_is_reason C_Entry) :=
  jb_cons (js_if (jt_cmp o_eq (v_ 2) (JE.ja (je_tup (jl_cons (ce_str) (jl_nil))))) (jb_one (js_ret (je_and (je_call F_alike (Nat.le_of_ble_eq_true rfl) rfl (jg_val (v_ 0) (jg_val (v_ 1) (jg_nil)))) (je_one (ce_cmp o_le (je_call F_key_of (Nat.le_of_ble_eq_true rfl) rfl (jg_val (v_ 0) (jg_nil))) (JE.ja (je_call F_key_of (Nat.le_of_ble_eq_true rfl) rfl (jg_val (v_ 1) (jg_nil))))))))) (jb_nil))
    (jb_cons (js_if (jt_w (jw_or (jt_val (je_call F_alike (Nat.le_of_ble_eq_true rfl) rfl (jg_val (v_ 0) (jg_val (v_ 1) (jg_nil))))) (jw_or (jt_not (jt_val (je_isi (T := "tuple") rfl T.b_isinstance rfl T.b_tuple (by decide +kernel) (JE.ja (v_ 2))))) (jw_or (jt_cmp o_ne (je_b1 c_len rfl T.b_len (by decide +kernel) (JE.ja (v_ 2))) (JE.ja (ce_int))) (jw_or1 (jt_cmp o_ne (je_ix o_ix (v_ 2) (JE.ja (ce_int))) (JE.ja (ce_str)))))))) (jb_one (js_ret (ce_bl))) (jb_nil))
    (jb_cons (js_if (jt_not (jt_val (je_call F_is_index (Nat.le_of_ble_eq_true rfl) rfl (jg_val (je_ix o_ix (v_ 2) (JE.ja (ce_int))) (jg_val (g_int (hm := T.k_KEY_PARTS)) (jg_nil)))))) (jb_one (js_ret (ce_bl))) (jb_nil))
    (jb_cons (set_ 3 sc_is_reason.nd (je_call F_key_of (Nat.le_of_ble_eq_true rfl) rfl (jg_val (v_ 0) (jg_nil))))
    (jb_cons (set_ 4 sc_is_reason.nd (je_call F_key_of (Nat.le_of_ble_eq_true rfl) rfl (jg_val (v_ 1) (jg_nil))))
    (jb_cons (js_if (jt_w (jw_or (jt_cmp o_ne (je_cut (v_ 3) (jp_none) (jp_some (je_ix o_ix (v_ 2) (JE.ja (ce_int))))) (JE.ja (je_cut (v_ 4) (jp_none) (jp_some (je_ix o_ix (v_ 2) (JE.ja (ce_int))))))) (jw_or1 (jt_not (jt_cmp o_lt (je_ix o_ix (v_ 3) (JE.ja (je_ix o_ix (v_ 2) (JE.ja (ce_int))))) (JE.ja (je_ix o_ix (v_ 4) (JE.ja (je_ix o_ix (v_ 2) (JE.ja (ce_int))))))))))) (jb_one (js_ret (ce_bl))) (jb_nil))
    (jb_one (js_ret (ce_cmp o_eq (je_cut (v_ 2) (jp_some (ce_int)) (jp_none)) (JE.ja (je_tup (jl_cons (je_ix o_ix (v_ 3) (JE.ja (je_ix o_ix (v_ 2) (JE.ja (ce_int))))) (jl_cons (je_ix o_ix (v_ 4) (JE.ja (je_ix o_ix (v_ 2) (JE.ja (ce_int))))) (jl_nil)))))))))))))
theorem F_is_reason (T : Facts c C_Entry) : FnD c 4 "is_reason" ["entry", "best", "row"] (f_is_reason C_Entry) := T.a_is_reason.fn sc_is_reason (jb_is_reason T (F_alike T) (F_is_index T) (F_key_of T))
theorem jb_judge_winner (T : Facts c C_Entry) (F_is_index : FnD c 1 "is_index" ["value", "count"] (f_is_index C_Entry)) (F_is_reason : FnD c 4 "is_reason" ["entry", "best", "row"] (f_is_reason C_Entry)) (F_winner : FnD c 5 "winner" ["entries"] (f_winner C_Entry)) : JB { c with k := 5, top := true } ["entries", "entry", "paper", "best", "k"] (defScope s_judge_winner) (defBody s_judge_winner) (m_judge_winner C_Entry) :=
  jb_cons (js_if (jt_w (jw_or (jt_not (jt_val (je_isi (T := "tuple") rfl T.b_isinstance rfl T.b_tuple (by decide +kernel) (JE.ja (v_ 2))))) (jw_or (jt_cmp o_ne (je_b1 c_len rfl T.b_len (by decide +kernel) (JE.ja (v_ 2))) (JE.ja (ce_int))) (jw_or1 (jt_not (jt_val (je_call F_is_index (Nat.le_of_ble_eq_true rfl) rfl (jg_val (je_ix o_ix (v_ 2) (JE.ja (ce_int))) (jg_val (je_b1 c_len rfl T.b_len (by decide +kernel) (JE.ja (v_ 0))) (jg_nil)))))))))) (jb_one (js_ret (ce_bl))) (jb_nil))
    (jb_cons (js_if (jt_w (jw_or (jt_not (jt_val (je_isi (T := "tuple") rfl T.b_isinstance rfl T.b_tuple (by decide +kernel) (JE.ja (je_ix o_ix (v_ 2) (JE.ja (ce_int))))))) (jw_or1 (jt_cmp o_ne (je_b1 c_len rfl T.b_len (by decide +kernel) (JE.ja (je_ix o_ix (v_ 2) (JE.ja (ce_int))))) (JE.ja (je_b1 c_len rfl T.b_len (by decide +kernel) (JE.ja (v_ 0)))))))) (jb_one (js_ret (ce_bl))) (jb_nil))
    (jb_cons (set_ 3 sc_judge_winner.nd (je_ix o_ix (v_ 0) (JE.ja (je_ix o_ix (v_ 2) (JE.ja (ce_int))))))
    (jb_cons (js_if (jt_not (jt_val (je_b1 c_all rfl T.b_all (by decide +kernel) (JE.ja (JF.je (jf_lc (own := [("k", 4)]) sc_judge_winner.nd (ji_range1 rfl T.b_range (jl_cons (je_b1 c_len rfl T.b_len (by decide +kernel) (JE.ja (v_ 0))) (jl_nil))) (blkOk_by (by decide +kernel)) (tg_ 4 sc_judge_winner.nd) (jts_nil) (je_call F_is_reason (Nat.le_of_ble_eq_true rfl) rfl (jg_val (je_ix o_ix (v_ 0) (JE.ja (v_ 4))) (jg_val (v_ 3) (jg_val (je_ix o_ix (je_ix o_ix (v_ 2) (JE.ja (ce_int))) (JE.ja (v_ 4))) (jg_nil))))))))))) (jb_one (js_ret (ce_bl))) (jb_nil))
    (jb_one (js_ret (ce_cmp (o_eqI T.cl_Entry.to (Q_Entry (c := c) T) (Nat.le_of_ble_eq_true rfl)) (v_ 1) (JE.ja (je_call F_winner (Nat.le_of_ble_eq_true rfl) rfl (jg_val (v_ 0) (jg_nil))))))))))
theorem F_judge_winner (T : Facts c C_Entry) : FnD c 6 "judge_winner" ["entries", "entry", "paper"] (f_judge_winner C_Entry) := T.a_judge_winner.fn sc_judge_winner (jb_judge_winner T (F_is_index T) (F_is_reason T) (F_winner T))
theorem jb_law_draws (T : Facts c C_Entry) : JBo { c with k := 0, top := true } ["_law_script"] (defScope s_law_draws) (defBody s_law_draws) (m_law_draws C_Entry) :=
  jbo_ret (jf_lst (jl_cons (JF.je (jf_t1 cf_list rfl T.b_list (by decide +kernel) (JE.ja (v_ 0)))) (jl_cons (ce_int) (jl_cons (ce_int) (jl_cons (ce_int) (jl_nil))))))
theorem F_law_draws (T : Facts c C_Entry) : FnO c 1 "_law_draws" ["_law_script"] (f_law_draws C_Entry) := T.a_law_draws.fno sc_law_draws (jb_law_draws T)
theorem jb_law_draw (T : Facts c C_Entry) : JB { c with k := 0, top := true } ["_law_draws_here", "_law_limit", "_law_cell", "_law_value"] (defScope s_law_draw) (defBody s_law_draw) (m_law_draw C_Entry) :=
  jb_cons (js_if (jt_w (jw_and (jt_cmp o_eq (ixO_ 0 o_ix (JE.ja (ce_int))) (JE.ja (ce_int))) (jw_and1 (jt_cmp o_lt (ixO_ 0 o_ix (JE.ja (ce_int))) (JE.ja (je_b1 c_len rfl T.b_len (by decide +kernel) (JE.ja (ixO_ 0 o_ix (JE.ja (ce_int)))))))))) (jb_cons (set_ 2 sc_law_draw.nd (je_b1 c_abs rfl T.b_abs (by decide +kernel) (JE.ja (je_t1 c_int rfl T.b_int (by decide +kernel) (JE.ja (je_ix o_ix (ixO_ 0 o_ix (JE.ja (ce_int))) (JE.ja (ixO_ 0 o_ix (JE.ja (ce_int))))))))))
    (jb_cons (seti_ 0 (ce_op o_add (ixO_ 0 o_ix (JE.ja (ce_int))) (JE.ja (ce_int))) (ce_int))
    (jb_cons (js_if (jt_cmp o_ge (v_ 2) (JE.ja (ce_op o_pow (ce_int) (JE.ja (ce_int))))) (jb_one (seti_ 0 (v_ 2) (ce_int))) (jb_nil))
    (jb_one (seti_ 0 (ce_op o_mod (je_t1 c_int rfl T.b_int (by decide +kernel) (JE.ja (ce_op o_add (ce_op o_add (ce_op o_mul (ixO_ 0 o_ix (JE.ja (ce_int))) (JE.ja (ce_int))) (JE.ja (v_ 2))) (JE.ja (ce_int))))) (JE.ja (ce_int))) (ce_int)))))) (jb_nil))
    (jb_cons (js_if (jt_cmp o_gt (ixO_ 0 o_ix (JE.ja (ce_int))) (JE.ja (ce_int))) (jb_cons (set_ 3 sc_law_draw.nd (ce_op o_mod (je_t1 c_int rfl T.b_int (by decide +kernel) (JE.ja (ixO_ 0 o_ix (JE.ja (ce_int))))) (JE.ja (v_ 1))))
    (jb_cons (seti_ 0 (ce_op o_div (ixO_ 0 o_ix (JE.ja (ce_int))) (JE.ja (v_ 1))) (ce_int))
    (jb_one (js_ret (v_ 3))))) (jb_nil))
    (jb_cons (seti_ 0 (ce_op o_mod (je_t1 c_int rfl T.b_int (by decide +kernel) (JE.ja (ce_op o_add (ce_op o_mul (ixO_ 0 o_ix (JE.ja (ce_int))) (JE.ja (ce_int))) (JE.ja (ce_int))))) (JE.ja (ce_int))) (ce_int))
    (jb_one (js_ret (ce_op o_mod (je_t1 c_int rfl T.b_int (by decide +kernel) (JE.ja (ce_op o_div (ixO_ 0 o_ix (JE.ja (ce_int))) (JE.ja (ce_int))))) (JE.ja (v_ 1)))))))
theorem F_law_draw (T : Facts c C_Entry) : FnD c 1 "_law_draw" ["_law_draws_here", "_law_limit"] (f_law_draw C_Entry) := T.a_law_draw.fn sc_law_draw (jb_law_draw T)
theorem jb_law_vector (T : Facts c C_Entry) (F_law_draw : FnD c 1 "_law_draw" ["_law_draws_here", "_law_limit"] (f_law_draw C_Entry)) : JB { c with k := 1, top := true } ["_law_draws_here", "_law_pairs", "_law_device"] (defScope s_law_vector) (defBody s_law_vector) (m_law_vector C_Entry) :=
  jb_cons (setLc_ 1 (own := [("_law_device", 2)]) sc_law_vector.nd (ji_tup (je_tup (jl_cons (ce_int) (jl_cons (ce_int) (jl_cons (ce_int) (jl_nil)))))) (blkOk_by (by decide +kernel)) (tg_ 2 sc_law_vector.nd) (jts_one (jt_cmp o_eq (je_call F_law_draw (Nat.le_of_ble_eq_true rfl) rfl (bor_ 0 (jg_val (ce_int) (jg_nil)))) (JE.ja (ce_int)))) (je_tup (jl_cons (v_ 2) (jl_cons (ce_op o_add (ce_int) (JE.ja (je_call F_law_draw (Nat.le_of_ble_eq_true rfl) rfl (bor_ 0 (jg_val (ce_int) (jg_nil)))))) (jl_nil)))))
    (jb_one (js_ret (je_t1 c_tuple rfl T.b_tuple (by decide +kernel) (JE.ja (ce_op o_add (v_ 1) (JE.ja (je_cut (JF.je (jf_lst (jl_cons (je_tup (jl_cons (ce_int) (jl_cons (ce_int) (jl_nil)))) (jl_nil)))) (jp_none) (jp_some (je_t1 c_int rfl T.b_int (by decide +kernel) (JE.ja (ce_cmp o_eq (je_b1 c_len rfl T.b_len (by decide +kernel) (JE.ja (v_ 1))) (JE.ja (ce_int)))))))))))))
theorem F_law_vector (T : Facts c C_Entry) : FnD c 2 "_law_vector" ["_law_draws_here"] (f_law_vector C_Entry) := T.a_law_vector.fn sc_law_vector (jb_law_vector T (F_law_draw T))
theorem jb_law_entry (T : Facts c C_Entry) (F_law_draw : FnD c 1 "_law_draw" ["_law_draws_here", "_law_limit"] (f_law_draw C_Entry)) (F_law_vector : FnD c 2 "_law_vector" ["_law_draws_here"] (f_law_vector C_Entry)) : JB { c with k := 2, top := true } ["_law_draws_here", "_law_height", "_law_maker", "_law_blocks"] (defScope s_law_entry) (defBody s_law_entry) (m_law_entry C_Entry) :=
  jb_cons (set_ 1 sc_law_entry.nd (ce_op o_add (ce_int) (JE.ja (je_call F_law_draw (Nat.le_of_ble_eq_true rfl) rfl (bor_ 0 (jg_val (ce_int) (jg_nil)))))))
    (jb_cons (set_ 2 sc_law_entry.nd (je_tup (jl_cons (ce_op o_add (ce_int) (JE.ja (je_call F_law_draw (Nat.le_of_ble_eq_true rfl) rfl (bor_ 0 (jg_val (ce_int) (jg_nil)))))) (jl_cons (ce_op o_add (ce_int) (JE.ja (je_call F_law_draw (Nat.le_of_ble_eq_true rfl) rfl (bor_ 0 (jg_val (ce_int) (jg_nil)))))) (jl_nil)))))
    (jb_cons (js_if (jt_cmp o_eq (je_call F_law_draw (Nat.le_of_ble_eq_true rfl) rfl (bor_ 0 (jg_val (ce_int) (jg_nil)))) (JE.ja (ce_int))) (jb_one (js_ret (je_mk (Mp_Entry (c := c) T) (Nat.le_of_ble_eq_true rfl) rfl (jl_cons (ce_str) (jl_cons (je_call F_law_vector (Nat.le_of_ble_eq_true rfl) rfl (bor_ 0 (jg_nil))) (jl_cons (v_ 1) (jl_cons (v_ 2) (jl_cons (ce_bl) (jl_cons (je_call F_law_draw (Nat.le_of_ble_eq_true rfl) rfl (bor_ 0 (jg_val (ce_int) (jg_nil)))) (jl_cons (je_tup (jl_nil)) (jl_nil))))))))))) (jb_nil))
    (jb_cons (set_ 3 sc_law_entry.nd (je_ix o_ix (JF.je (jf_lst (jl_cons (je_tup (jl_nil)) (jl_cons (je_tup (jl_cons (ce_int) (jl_nil))) (jl_cons (je_tup (jl_cons (ce_int) (jl_nil))) (jl_cons (je_tup (jl_cons (ce_int) (jl_cons (ce_int) (jl_nil)))) (jl_nil))))))) (JE.ja (je_call F_law_draw (Nat.le_of_ble_eq_true rfl) rfl (bor_ 0 (jg_val (ce_int) (jg_nil)))))))
    (jb_one (js_ret (je_mk (Mp_Entry (c := c) T) (Nat.le_of_ble_eq_true rfl) rfl (jl_cons (ce_str) (jl_cons (je_call F_law_vector (Nat.le_of_ble_eq_true rfl) rfl (bor_ 0 (jg_nil))) (jl_cons (v_ 1) (jl_cons (v_ 2) (jl_cons (ce_bl) (jl_cons (je_call F_law_draw (Nat.le_of_ble_eq_true rfl) rfl (bor_ 0 (jg_val (ce_int) (jg_nil)))) (jl_cons (v_ 3) (jl_nil))))))))))))))
theorem F_law_entry (T : Facts c C_Entry) : FnD c 3 "_law_entry" ["_law_draws_here"] (f_law_entry C_Entry) := T.a_law_entry.fn sc_law_entry (jb_law_entry T (F_law_draw T) (F_law_vector T))
theorem jb_law_key (T : Facts c C_Entry) : JB { c with k := 0, top := true } ["_law_entry_here", "_law_counts", "_law_tail", "_law_device"] (defScope s_law_key) (defBody s_law_key) (m_law_key C_Entry) :=
  jb_cons (set_ 1 sc_law_key.nd (je_t1 c_dict rfl T.b_dict (by decide +kernel) (JE.ja (je_fld (v_ 0) T.cl_Entry.cl T.na_Entry_vector))))
    (jb_cons (set_ 2 sc_law_key.nd (je_t1 c_tuple rfl T.b_tuple (by decide +kernel) (JE.ja (JF.je (jf_lc (own := [("_law_device", 3)]) sc_law_key.nd (ji_range2 rfl T.b_range (jl_cons (ce_int) (jl_cons (ce_int) (jl_nil)))) (blkOk_by (by decide +kernel)) (tg_ 3 sc_law_key.nd) (jts_nil) (je_get (v_ 1) (v_ 3) (ce_int)))))))
    (jb_one (js_ret (je_tup (jl_cons (je_fld (v_ 0) T.cl_Entry.cl T.na_Entry_height) (jl_cons (je_fld (v_ 0) T.cl_Entry.cl T.na_Entry_time) (jl_cons (je_t1 c_int rfl T.b_int (by decide +kernel) (JE.ja (je_not (je_fld (v_ 0) T.cl_Entry.cl T.na_Entry_deleted)))) (jl_cons (je_neg (je_ix o_ix (je_fld (v_ 0) T.cl_Entry.cl T.na_Entry_maker) (JE.ja (ce_int)))) (jl_cons (je_neg (je_ix o_ix (je_fld (v_ 0) T.cl_Entry.cl T.na_Entry_maker) (JE.ja (ce_int)))) (jl_cons (v_ 2) (jl_nil)))))))))))
theorem F_law_key (T : Facts c C_Entry) : FnD c 1 "_law_key" ["_law_entry_here"] (f_law_key C_Entry) := T.a_law_key.fn sc_law_key (jb_law_key T)
theorem jb_law_alike (T : Facts c C_Entry) : JB { c with k := 0, top := true } ["_law_first", "_law_second"] (defScope s_law_alike) (defBody s_law_alike) (m_law_alike C_Entry) :=
  jb_one (js_ret (je_and (ce_cmp o_eq (je_fld (v_ 0) T.cl_Entry.cl T.na_Entry_deleted) (JE.ja (je_fld (v_ 1) T.cl_Entry.cl T.na_Entry_deleted))) (je_one (ce_cmp o_eq (je_fld (v_ 0) T.cl_Entry.cl T.na_Entry_blocks) (JE.ja (je_fld (v_ 1) T.cl_Entry.cl T.na_Entry_blocks))))))
theorem F_law_alike (T : Facts c C_Entry) : FnD c 1 "_law_alike" ["_law_first", "_law_second"] (f_law_alike C_Entry) := T.a_law_alike.fn sc_law_alike (jb_law_alike T)
theorem jb_law_due (T : Facts c C_Entry) (F_law_alike : FnD c 1 "_law_alike" ["_law_first", "_law_second"] (f_law_alike C_Entry)) (F_law_key : FnD c 1 "_law_key" ["_law_entry_here"] (f_law_key C_Entry)) : JB { c with k := 1, top := true } ["_law_entries", "_law_keys", "_law_best", "_law_rows", "_law_k", "_law_entry_here", "_law_part", "_law_at"] (defScope s_law_due) (defBody s_law_due) (m_law_due C_Entry) :=
  jb_cons (setC_ 1 sc_law_due.nd (JF.je (jf_lc (own := [("_law_entry_here", 5)]) sc_law_due.nd (ji_list (v_ 0)) (blkOk_by (by decide +kernel)) (tg_ 5 sc_law_due.nd) (jts_nil) (je_call F_law_key (Nat.le_of_ble_eq_true rfl) rfl (jg_val (v_ 5) (jg_nil))))))
    (jb_cons (set_ 2 sc_law_due.nd (je_b1 c_minL rfl T.b_min (by decide +kernel) (JE.ja (JF.je (jf_lc (own := [("_law_k", 4)]) sc_law_due.nd (ji_range1 rfl T.b_range (jl_cons (je_b1 c_len rfl T.b_len (by decide +kernel) (JE.ja (v_ 1))) (jl_nil))) (blkOk_by (by decide +kernel)) (tg_ 4 sc_law_due.nd) (jts_one (jt_cmp o_eq (je_ix o_ix (v_ 1) (JE.ja (v_ 4))) (JE.ja (je_b1 c_maxL rfl T.b_max (by decide +kernel) (JE.ja (v_ 1)))))) (v_ 4))))))
    (jb_cons (own_ 3 sc_law_due.nd (jf_lst (jl_nil)))
    (jb_cons (js_for (ji_range1 rfl T.b_range (jl_cons (je_b1 c_len rfl T.b_len (by decide +kernel) (JE.ja (v_ 0))) (jl_nil))) (tg_ 4 sc_law_due.nd) (jb_one (js_if (jt_val (je_call F_law_alike (Nat.le_of_ble_eq_true rfl) rfl (jg_val (je_ix o_ix (v_ 0) (JE.ja (v_ 4))) (jg_val (je_ix o_ix (v_ 0) (JE.ja (v_ 2))) (jg_nil))))) (jb_one (js_expr (je_mut (i := 3) mu_append PySem.F.slot_list_append PySem.F.type_list_append rfl (Or.inl rfl) (jl_cons (je_tup (jl_cons (ce_str) (jl_nil))) (jl_nil))))) (jb_cons (set_ 6 sc_law_due.nd (je_b1 c_minL rfl T.b_min (by decide +kernel) (JE.ja (ce_op o_add (JF.je (jf_lc (own := [("_law_at", 7)]) sc_law_due.nd (ji_range1 rfl T.b_range (jl_cons (ce_int) (jl_nil))) (blkOk_by (by decide +kernel)) (tg_ 7 sc_law_due.nd) (jts_one (jt_cmp o_ne (je_ix o_ix (je_ix o_ix (v_ 1) (JE.ja (v_ 4))) (JE.ja (v_ 7))) (JE.ja (je_ix o_ix (je_ix o_ix (v_ 1) (JE.ja (v_ 2))) (JE.ja (v_ 7)))))) (v_ 7))) (JE.ja (JF.je (jf_lst (jl_cons (ce_int) (jl_nil)))))))))
    (jb_cons (js_if (jt_cmp o_eq (v_ 6) (JE.ja (ce_int))) (jb_one (js_ret (ce_non))) (jb_nil))
    (jb_one (js_expr (je_mut (i := 3) mu_append PySem.F.slot_list_append PySem.F.type_list_append rfl (Or.inl rfl) (jl_cons (je_tup (jl_cons (ce_str) (jl_cons (v_ 6) (jl_cons (je_ix o_ix (je_ix o_ix (v_ 1) (JE.ja (v_ 4))) (JE.ja (v_ 6))) (jl_cons (je_ix o_ix (je_ix o_ix (v_ 1) (JE.ja (v_ 2))) (JE.ja (v_ 6))) (jl_nil)))))) (jl_nil))))))))))
    (jb_frz (i := 3) (jb_one (js_ret (je_tup (jl_cons (v_ 2) (jl_cons (je_t1 c_tuple rfl T.b_tuple (by decide +kernel) (JE.ja (v_ 3))) (jl_nil))))))))))
theorem F_law_due (T : Facts c C_Entry) : FnD c 2 "_law_due" ["_law_entries"] (f_law_due C_Entry) := T.a_law_due.fn sc_law_due (jb_law_due T (F_law_alike T) (F_law_key T))
theorem jb_law_spoilt (T : Facts c C_Entry) (F_law_draw : FnD c 1 "_law_draw" ["_law_draws_here", "_law_limit"] (f_law_draw C_Entry)) : JB { c with k := 1, top := true } ["_law_draws_here", "_law_paper", "_law_at", "_law_row", "_law_odd", "_law_new", "_law_best", "_law_rows"] (defScope s_law_spoilt) (defBody s_law_spoilt) (m_law_spoilt C_Entry) :=
  jb_cons (js_asg (v_ 1) (jtg_tup (jtgs_cons (tg_ 6 sc_law_spoilt.nd) (jtgs_cons (tg_ 7 sc_law_spoilt.nd) (jtgs_nil)))))
    (jb_cons (set_ 2 sc_law_spoilt.nd (je_call F_law_draw (Nat.le_of_ble_eq_true rfl) rfl (bor_ 0 (jg_val (je_b1 c_len rfl T.b_len (by decide +kernel) (JE.ja (v_ 7))) (jg_nil)))))
    (jb_cons (set_ 3 sc_law_spoilt.nd (je_ix o_ix (v_ 7) (JE.ja (v_ 2))))
    (jb_cons (set_ 4 sc_law_spoilt.nd (JF.je (jf_lst (jl_cons (je_tup (jl_cons (ce_str) (jl_nil))) (jl_cons (je_tup (jl_cons (ce_str) (jl_cons (ce_int) (jl_cons (ce_int) (jl_cons (ce_int) (jl_nil)))))) (jl_cons (je_tup (jl_cons (ce_str) (jl_cons (ce_int) (jl_cons (ce_int) (jl_cons (ce_int) (jl_nil)))))) (jl_cons (ce_op o_add (v_ 3) (JE.ja (je_tup (jl_cons (ce_int) (jl_nil))))) (jl_cons (je_cut (v_ 3) (jp_none) (jp_some (je_neg (ce_int)))) (jl_cons (JF.je (jf_t1 cf_list rfl T.b_list (by decide +kernel) (JE.ja (v_ 3)))) (jl_cons (ce_non) (jl_cons (je_tup (jl_cons (ce_str) (jl_cons (ce_int) (jl_cons (je_tup (jl_cons (ce_int) (jl_nil))) (jl_cons (je_tup (jl_cons (ce_int) (jl_nil))) (jl_nil)))))) (jl_cons (je_tup (jl_cons (ce_str) (jl_cons (ce_int) (jl_cons (ce_int) (jl_cons (ce_int) (jl_nil)))))) (jl_nil)))))))))))))
    (jb_cons (set_ 5 sc_law_spoilt.nd (je_ix o_ix (v_ 4) (JE.ja (je_call F_law_draw (Nat.le_of_ble_eq_true rfl) rfl (bor_ 0 (jg_val (ce_int) (jg_nil)))))))
    (jb_cons (js_if (jt_cmp o_eq (v_ 5) (JE.ja (v_ 3))) (jb_one (set_ 5 sc_law_spoilt.nd (je_tup (jl_cons (ce_str) (jl_nil))))) (jb_nil))
    (jb_one (js_ret (je_tup (jl_cons (v_ 6) (jl_cons (ce_op o_add (ce_op o_add (je_cut (v_ 7) (jp_none) (jp_some (v_ 2))) (JE.ja (je_tup (jl_cons (v_ 5) (jl_nil))))) (JE.ja (je_cut (v_ 7) (jp_some (ce_op o_add (v_ 2) (JE.ja (ce_int)))) (jp_none)))) (jl_nil)))))))))))
theorem F_law_spoilt (T : Facts c C_Entry) : FnD c 2 "_law_spoilt" ["_law_draws_here", "_law_paper"] (f_law_spoilt C_Entry) := T.a_law_spoilt.fn sc_law_spoilt (jb_law_spoilt T (F_law_draw T))
theorem jb_law (T : Facts c C_Entry) (F_law_alike : FnD c 1 "_law_alike" ["_law_first", "_law_second"] (f_law_alike C_Entry)) (F_law_draw : FnD c 1 "_law_draw" ["_law_draws_here", "_law_limit"] (f_law_draw C_Entry)) (F_law_draws : FnO c 1 "_law_draws" ["_law_script"] (f_law_draws C_Entry)) (F_law_due : FnD c 2 "_law_due" ["_law_entries"] (f_law_due C_Entry)) (F_law_entry : FnD c 3 "_law_entry" ["_law_draws_here"] (f_law_entry C_Entry)) (F_law_key : FnD c 1 "_law_key" ["_law_entry_here"] (f_law_key C_Entry)) (F_law_spoilt : FnD c 2 "_law_spoilt" ["_law_draws_here", "_law_paper"] (f_law_spoilt C_Entry)) (F_judge_winner : FnD c 6 "judge_winner" ["entries", "entry", "paper"] (f_judge_winner C_Entry)) (F_reasons : FnD c 4 "reasons" ["entries"] (f_reasons C_Entry)) (F_winner : FnD c 5 "winner" ["entries"] (f_winner C_Entry)) : JB { c with k := 6, top := true } ["_law_script", "_law_draws_here", "_law_entries", "_law_due_here", "_law_found", "_law_stands", "_law_k", "_law_other", "_law_odd", "_law_told", "_law_value"] (defScope s_law) (defBody s_law) (m_law C_Entry) :=
  jb_cons (own_ 1 sc_law.nd (jf_call F_law_draws (Nat.le_of_ble_eq_true rfl) rfl (jg_val (v_ 0) (jg_nil))))
    (jb_cons (setC_ 2 sc_law.nd (JF.je (jf_lc (own := [("_law_k", 6)]) sc_law.nd (ji_range1 rfl T.b_range (jl_cons (ce_op o_add (ce_int) (JE.ja (je_call F_law_draw (Nat.le_of_ble_eq_true rfl) rfl (bor_ 1 (jg_val (ce_int) (jg_nil)))))) (jl_nil))) (blkOk_by (by decide +kernel)) (tg_ 6 sc_law.nd) (jts_nil) (je_call F_law_entry (Nat.le_of_ble_eq_true rfl) rfl (bor_ 1 (jg_nil))))))
    (jb_cons (set_ 3 sc_law.nd (je_call F_law_due (Nat.le_of_ble_eq_true rfl) rfl (jg_val (v_ 2) (jg_nil))))
    (jb_cons (js_if (jt_cmp o_is (v_ 3) (JE.ja (ce_non))) (jb_one (js_ret (ce_bl))) (jb_nil))
    (jb_cons (set_ 4 sc_law.nd (je_call F_reasons (Nat.le_of_ble_eq_true rfl) rfl (jg_val (v_ 2) (jg_nil))))
    (jb_cons (set_ 5 sc_law.nd (je_call F_winner (Nat.le_of_ble_eq_true rfl) rfl (jg_val (v_ 2) (jg_nil))))
    (jb_cons (js_if (jt_w (jw_or (jt_cmp o_ne (v_ 4) (JE.ja (v_ 3))) (jw_or1 (jt_cmp o_isNotT (je_call F_judge_winner (Nat.le_of_ble_eq_true rfl) rfl (jg_val (v_ 2) (jg_val (v_ 5) (jg_val (v_ 3) (jg_nil))))) (JE.ja (ce_bl)))))) (jb_one (js_ret (ce_bl))) (jb_nil))
    (jb_cons (js_for (ji_range1 rfl T.b_range (jl_cons (je_b1 c_len rfl T.b_len (by decide +kernel) (JE.ja (v_ 2))) (jl_nil))) (tg_ 6 sc_law.nd) (jb_cons (set_ 9 sc_law.nd (je_call F_judge_winner (Nat.le_of_ble_eq_true rfl) rfl (jg_val (v_ 2) (jg_val (v_ 5) (jg_val (je_tup (jl_cons (v_ 6) (jl_cons (je_ix o_ix (v_ 3) (JE.ja (ce_int))) (jl_nil)))) (jg_nil))))))
    (jb_cons (js_if (jt_w (jw_and (jt_cmp o_eq (je_call F_law_key (Nat.le_of_ble_eq_true rfl) rfl (jg_val (je_ix o_ix (v_ 2) (JE.ja (v_ 6))) (jg_nil))) (JE.ja (je_call F_law_key (Nat.le_of_ble_eq_true rfl) rfl (jg_val (je_ix o_ix (v_ 2) (JE.ja (je_ix o_ix (v_ 3) (JE.ja (ce_int))))) (jg_nil))))) (jw_and1 (jt_cmp o_isNotT (v_ 9) (JE.ja (ce_bl)))))) (jb_one (js_ret (ce_bl))) (jb_nil))
    (jb_one (js_if (jt_w (jw_and (jt_cmp o_ne (je_call F_law_key (Nat.le_of_ble_eq_true rfl) rfl (jg_val (je_ix o_ix (v_ 2) (JE.ja (v_ 6))) (jg_nil))) (JE.ja (je_call F_law_key (Nat.le_of_ble_eq_true rfl) rfl (jg_val (je_ix o_ix (v_ 2) (JE.ja (je_ix o_ix (v_ 3) (JE.ja (ce_int))))) (jg_nil))))) (jw_and (jt_not (jt_val (je_call F_law_alike (Nat.le_of_ble_eq_true rfl) rfl (jg_val (je_ix o_ix (v_ 2) (JE.ja (v_ 6))) (jg_val (je_ix o_ix (v_ 2) (JE.ja (je_ix o_ix (v_ 3) (JE.ja (ce_int))))) (jg_nil)))))) (jw_and1 (jt_cmp o_isNotT (v_ 9) (JE.ja (ce_bl))))))) (jb_one (js_ret (ce_bl))) (jb_nil))))))
    (jb_cons (set_ 7 sc_law.nd (je_mk (Mp_Entry (c := c) T) (Nat.le_of_ble_eq_true rfl) rfl (jl_cons (ce_str) (jl_cons (je_fld (v_ 5) T.cl_Entry.cl T.na_Entry_vector) (jl_cons (ce_op o_add (je_fld (v_ 5) T.cl_Entry.cl T.na_Entry_height) (JE.ja (ce_int))) (jl_cons (je_fld (v_ 5) T.cl_Entry.cl T.na_Entry_maker) (jl_cons (je_fld (v_ 5) T.cl_Entry.cl T.na_Entry_deleted) (jl_cons (je_fld (v_ 5) T.cl_Entry.cl T.na_Entry_time) (jl_cons (je_fld (v_ 5) T.cl_Entry.cl T.na_Entry_blocks) (jl_nil))))))))))
    (jb_cons (js_if (jt_cmp o_isNotT (je_call F_judge_winner (Nat.le_of_ble_eq_true rfl) rfl (jg_val (v_ 2) (jg_val (v_ 7) (jg_val (v_ 3) (jg_nil))))) (JE.ja (ce_bl))) (jb_one (js_ret (ce_bl))) (jb_nil))
    (jb_cons (set_ 8 sc_law.nd (JF.je (jf_lst (jl_cons (ce_non) (jl_cons (ce_int) (jl_cons (je_tup (jl_nil)) (jl_cons (JF.je (jf_t1 cf_list rfl T.b_list (by decide +kernel) (JE.ja (v_ 3)))) (jl_cons (je_cut (v_ 3) (jp_none) (jp_some (ce_int))) (jl_cons (ce_op o_add (v_ 3) (JE.ja (je_tup (jl_cons (ce_int) (jl_nil))))) (jl_cons (je_tup (jl_cons (je_b1 c_len rfl T.b_len (by decide +kernel) (JE.ja (v_ 2))) (jl_cons (je_ix o_ix (v_ 3) (JE.ja (ce_int))) (jl_nil)))) (jl_cons (je_tup (jl_cons (je_neg (ce_int)) (jl_cons (je_ix o_ix (v_ 3) (JE.ja (ce_int))) (jl_nil)))) (jl_cons (je_tup (jl_cons (ce_bl) (jl_cons (je_ix o_ix (v_ 3) (JE.ja (ce_int))) (jl_nil)))) (jl_cons (je_tup (jl_cons (je_ix o_ix (v_ 3) (JE.ja (ce_int))) (jl_cons (JF.je (jf_t1 cf_list rfl T.b_list (by decide +kernel) (JE.ja (je_ix o_ix (v_ 3) (JE.ja (ce_int)))))) (jl_nil)))) (jl_cons (je_tup (jl_cons (je_ix o_ix (v_ 3) (JE.ja (ce_int))) (jl_cons (je_cut (je_ix o_ix (v_ 3) (JE.ja (ce_int))) (jp_none) (jp_some (je_neg (ce_int)))) (jl_nil)))) (jl_nil)))))))))))))))
    (jb_cons (js_if (jt_cmp o_gt (je_b1 c_len rfl T.b_len (by decide +kernel) (JE.ja (JF.je (jf_lc (own := [("_law_value", 10)]) sc_law.nd (ji_list (v_ 8)) (blkOk_by (by decide +kernel)) (tg_ 10 sc_law.nd) (jts_one (jt_cmp o_isNotT (je_call F_judge_winner (Nat.le_of_ble_eq_true rfl) rfl (jg_val (v_ 2) (jg_val (v_ 5) (jg_val (v_ 10) (jg_nil))))) (JE.ja (ce_bl)))) (v_ 10))))) (JE.ja (ce_int))) (jb_one (js_ret (ce_bl))) (jb_nil))
    (jb_one (js_ret (ce_cmp o_isT (je_call F_judge_winner (Nat.le_of_ble_eq_true rfl) rfl (jg_val (v_ 2) (jg_val (v_ 5) (jg_val (je_call F_law_spoilt (Nat.le_of_ble_eq_true rfl) rfl (bor_ 1 (jg_val (v_ 3) (jg_nil)))) (jg_nil))))) (JE.ja (ce_bl))))))))))))))))
theorem F_law (T : Facts c C_Entry) : FnD c 7 "law" ["_law_script"] (f_law C_Entry) := T.a_law.fn sc_law (jb_law T (F_law_alike T) (F_law_draw T) (F_law_draws T) (F_law_due T) (F_law_entry T) (F_law_key T) (F_law_spoilt T) (F_judge_winner T) (F_reasons T) (F_winner T))
end
theorem all_mk {l : PySem.W.OpenLaw} {w : World} {K : PySem.W.Frag} {h : Heap} {mg : Str → Option Value} {fa f0 f1 f2 f3 f4 f5 f6 f7 f8 f9 f10 f11 f12 f13 f14 f15 f16 f17 f18 f19 f20 f21 f22 f23 f24 C_Entry : Addr} (X : K.In h) (G : h.Ns mainGlobals mg) (hfa : mg "law" = some (.ref fa))
    {od0 an0 od1 an1 od2 an2 od3 an3 od4 an4 od5 an5 od6 an6 od7 an7 od8 an8 od9 an9 od10 an10 od11 an11 od12 an12 od13 an13 od14 an14 od15 an15 od16 an16 od17 an17 od18 an18 od19 an19 od20 an20 od21 an21 od22 an22 od23 an23 od24 an24 : Option Addr} {sl0 sl1 sl2 sl3 sl4 sl5 sl6 sl7 sl8 sl9 sl10 sl11 sl12 sl13 sl14 sl15 sl16 sl17 sl18 sl19 sl20 sl21 sl22 sl23 sl24 : Array (Option Value)} {oc0 kV0 dc0 pm0 cd0 ct0 oc1 kV1 dc1 pm1 cd1 ct1 oc2 kV2 dc2 pm2 cd2 ct2 oc3 kV3 dc3 pm3 cd3 ct3 oc4 kV4 dc4 pm4 cd4 ct4 oc5 kV5 dc5 pm5 cd5 ct5 oc6 kV6 dc6 pm6 cd6 ct6 oc7 kV7 dc7 pm7 cd7 ct7 oc8 kV8 dc8 pm8 cd8 ct8 oc9 kV9 dc9 pm9 cd9 ct9 oc10 kV10 dc10 pm10 cd10 ct10 oc11 kV11 dc11 pm11 cd11 ct11 oc12 kV12 dc12 pm12 cd12 ct12 oc13 kV13 dc13 pm13 cd13 ct13 oc14 kV14 dc14 pm14 cd14 ct14 oc15 kV15 dc15 pm15 cd15 ct15 oc16 kV16 dc16 pm16 cd16 ct16 oc17 kV17 dc17 pm17 cd17 ct17 oc18 kV18 dc18 pm18 cd18 ct18 oc19 kV19 dc19 pm19 cd19 ct19 oc20 kV20 dc20 pm20 cd20 ct20 oc21 kV21 dc21 pm21 cd21 ct21 oc22 kV22 dc22 pm22 cd22 ct22 oc23 kV23 dc23 pm23 cd23 ct23 oc24 kV24 dc24 pm24 cd24 ct24 : Value} {t_DEVICES t_KEY_PARTS : Tok}
    (aC_Entry : PySem.W.nsIn K mainGlobals "Entry" = some (some (.ref C_Entry)))
    (a0 : PySem.W.findIn K (.ref C_Entry) "fields" = some (some (.ref f0))) (i0 : PySem.W.isFn K (.ref f0) = true)
    (l0 : K.lookup f0 = some ⟨oc0, od0, .func (PySem.W.fnOf "fields" "Entry.fields" (defArgs s_Entry_fields) (defBody s_Entry_fields) (defScope s_Entry_fields) .none kV0 dc0 pm0 an0 cd0 ct0), sl0⟩) (c0 : PySem.W.codeIn K cd0 "Entry.fields" = true) (k0 : PySem.W.keepIn K (.ref f0) = true)
    (a1 : PySem.W.findIn K (.ref C_Entry) "__eq__" = some (some (.ref f1))) (i1 : PySem.W.isFn K (.ref f1) = true)
    (l1 : K.lookup f1 = some ⟨oc1, od1, .func (PySem.W.fnOf "__eq__" "Entry.__eq__" (defArgs s_Entry_eq) (defBody s_Entry_eq) (defScope s_Entry_eq) .none kV1 dc1 pm1 an1 cd1 ct1), sl1⟩) (c1 : PySem.W.codeIn K cd1 "Entry.__eq__" = true) (k1 : PySem.W.keepIn K (.ref f1) = true)
    (a2 : PySem.W.nsIn K mainGlobals "count_of" = some (some (.ref f2)))
    (l2 : K.lookup f2 = some ⟨oc2, od2, .func (PySem.W.fnOf "count_of" "count_of" (defArgs s_count_of) (defBody s_count_of) (defScope s_count_of) .none kV2 dc2 pm2 an2 cd2 ct2), sl2⟩) (c2 : PySem.W.codeIn K cd2 "count_of" = true) (k2 : PySem.W.keepIn K (.ref f2) = true)
    (a3 : PySem.W.nsIn K mainGlobals "counts_of" = some (some (.ref f3)))
    (l3 : K.lookup f3 = some ⟨oc3, od3, .func (PySem.W.fnOf "counts_of" "counts_of" (defArgs s_counts_of) (defBody s_counts_of) (defScope s_counts_of) .none kV3 dc3 pm3 an3 cd3 ct3), sl3⟩) (c3 : PySem.W.codeIn K cd3 "counts_of" = true) (k3 : PySem.W.keepIn K (.ref f3) = true)
    (a4 : PySem.W.nsIn K mainGlobals "vector_of" = some (some (.ref f4)))
    (l4 : K.lookup f4 = some ⟨oc4, od4, .func (PySem.W.fnOf "vector_of" "vector_of" (defArgs s_vector_of) (defBody s_vector_of) (defScope s_vector_of) .none kV4 dc4 pm4 an4 cd4 ct4), sl4⟩) (c4 : PySem.W.codeIn K cd4 "vector_of" = true) (k4 : PySem.W.keepIn K (.ref f4) = true)
    (a5 : PySem.W.nsIn K mainGlobals "join" = some (some (.ref f5)))
    (l5 : K.lookup f5 = some ⟨oc5, od5, .func (PySem.W.fnOf "join" "join" (defArgs s_join) (defBody s_join) (defScope s_join) .none kV5 dc5 pm5 an5 cd5 ct5), sl5⟩) (c5 : PySem.W.codeIn K cd5 "join" = true) (k5 : PySem.W.keepIn K (.ref f5) = true)
    (a6 : PySem.W.nsIn K mainGlobals "alike" = some (some (.ref f6)))
    (l6 : K.lookup f6 = some ⟨oc6, od6, .func (PySem.W.fnOf "alike" "alike" (defArgs s_alike) (defBody s_alike) (defScope s_alike) .none kV6 dc6 pm6 an6 cd6 ct6), sl6⟩) (c6 : PySem.W.codeIn K cd6 "alike" = true) (k6 : PySem.W.keepIn K (.ref f6) = true)
    (a7 : PySem.W.nsIn K mainGlobals "key_of" = some (some (.ref f7)))
    (l7 : K.lookup f7 = some ⟨oc7, od7, .func (PySem.W.fnOf "key_of" "key_of" (defArgs s_key_of) (defBody s_key_of) (defScope s_key_of) .none kV7 dc7 pm7 an7 cd7 ct7), sl7⟩) (c7 : PySem.W.codeIn K cd7 "key_of" = true) (k7 : PySem.W.keepIn K (.ref f7) = true)
    (a8 : PySem.W.nsIn K mainGlobals "greatest" = some (some (.ref f8)))
    (l8 : K.lookup f8 = some ⟨oc8, od8, .func (PySem.W.fnOf "greatest" "greatest" (defArgs s_greatest) (defBody s_greatest) (defScope s_greatest) .none kV8 dc8 pm8 an8 cd8 ct8), sl8⟩) (c8 : PySem.W.codeIn K cd8 "greatest" = true) (k8 : PySem.W.keepIn K (.ref f8) = true)
    (a9 : PySem.W.nsIn K mainGlobals "winner" = some (some (.ref f9)))
    (l9 : K.lookup f9 = some ⟨oc9, od9, .func (PySem.W.fnOf "winner" "winner" (defArgs s_winner) (defBody s_winner) (defScope s_winner) .none kV9 dc9 pm9 an9 cd9 ct9), sl9⟩) (c9 : PySem.W.codeIn K cd9 "winner" = true) (k9 : PySem.W.keepIn K (.ref f9) = true)
    (a10 : PySem.W.nsIn K mainGlobals "is_index" = some (some (.ref f10)))
    (l10 : K.lookup f10 = some ⟨oc10, od10, .func (PySem.W.fnOf "is_index" "is_index" (defArgs s_is_index) (defBody s_is_index) (defScope s_is_index) .none kV10 dc10 pm10 an10 cd10 ct10), sl10⟩) (c10 : PySem.W.codeIn K cd10 "is_index" = true) (k10 : PySem.W.keepIn K (.ref f10) = true)
    (a11 : PySem.W.nsIn K mainGlobals "less_by" = some (some (.ref f11)))
    (l11 : K.lookup f11 = some ⟨oc11, od11, .func (PySem.W.fnOf "less_by" "less_by" (defArgs s_less_by) (defBody s_less_by) (defScope s_less_by) .none kV11 dc11 pm11 an11 cd11 ct11), sl11⟩) (c11 : PySem.W.codeIn K cd11 "less_by" = true) (k11 : PySem.W.keepIn K (.ref f11) = true)
    (a12 : PySem.W.nsIn K mainGlobals "reasons" = some (some (.ref f12)))
    (l12 : K.lookup f12 = some ⟨oc12, od12, .func (PySem.W.fnOf "reasons" "reasons" (defArgs s_reasons) (defBody s_reasons) (defScope s_reasons) .none kV12 dc12 pm12 an12 cd12 ct12), sl12⟩) (c12 : PySem.W.codeIn K cd12 "reasons" = true) (k12 : PySem.W.keepIn K (.ref f12) = true)
    (a13 : PySem.W.nsIn K mainGlobals "is_reason" = some (some (.ref f13)))
    (l13 : K.lookup f13 = some ⟨oc13, od13, .func (PySem.W.fnOf "is_reason" "is_reason" (defArgs s_is_reason) (defBody s_is_reason) (defScope s_is_reason) .none kV13 dc13 pm13 an13 cd13 ct13), sl13⟩) (c13 : PySem.W.codeIn K cd13 "is_reason" = true) (k13 : PySem.W.keepIn K (.ref f13) = true)
    (a14 : PySem.W.nsIn K mainGlobals "judge_winner" = some (some (.ref f14)))
    (l14 : K.lookup f14 = some ⟨oc14, od14, .func (PySem.W.fnOf "judge_winner" "judge_winner" (defArgs s_judge_winner) (defBody s_judge_winner) (defScope s_judge_winner) .none kV14 dc14 pm14 an14 cd14 ct14), sl14⟩) (c14 : PySem.W.codeIn K cd14 "judge_winner" = true) (k14 : PySem.W.keepIn K (.ref f14) = true)
    (a15 : PySem.W.nsIn K mainGlobals "_law_draws" = some (some (.ref f15)))
    (l15 : K.lookup f15 = some ⟨oc15, od15, .func (PySem.W.fnOf "_law_draws" "_law_draws" (defArgs s_law_draws) (defBody s_law_draws) (defScope s_law_draws) .none kV15 dc15 pm15 an15 cd15 ct15), sl15⟩) (c15 : PySem.W.codeIn K cd15 "_law_draws" = true) (k15 : PySem.W.keepIn K (.ref f15) = true)
    (a16 : PySem.W.nsIn K mainGlobals "_law_draw" = some (some (.ref f16)))
    (l16 : K.lookup f16 = some ⟨oc16, od16, .func (PySem.W.fnOf "_law_draw" "_law_draw" (defArgs s_law_draw) (defBody s_law_draw) (defScope s_law_draw) .none kV16 dc16 pm16 an16 cd16 ct16), sl16⟩) (c16 : PySem.W.codeIn K cd16 "_law_draw" = true) (k16 : PySem.W.keepIn K (.ref f16) = true)
    (a17 : PySem.W.nsIn K mainGlobals "_law_vector" = some (some (.ref f17)))
    (l17 : K.lookup f17 = some ⟨oc17, od17, .func (PySem.W.fnOf "_law_vector" "_law_vector" (defArgs s_law_vector) (defBody s_law_vector) (defScope s_law_vector) .none kV17 dc17 pm17 an17 cd17 ct17), sl17⟩) (c17 : PySem.W.codeIn K cd17 "_law_vector" = true) (k17 : PySem.W.keepIn K (.ref f17) = true)
    (a18 : PySem.W.nsIn K mainGlobals "_law_entry" = some (some (.ref f18)))
    (l18 : K.lookup f18 = some ⟨oc18, od18, .func (PySem.W.fnOf "_law_entry" "_law_entry" (defArgs s_law_entry) (defBody s_law_entry) (defScope s_law_entry) .none kV18 dc18 pm18 an18 cd18 ct18), sl18⟩) (c18 : PySem.W.codeIn K cd18 "_law_entry" = true) (k18 : PySem.W.keepIn K (.ref f18) = true)
    (a19 : PySem.W.nsIn K mainGlobals "_law_key" = some (some (.ref f19)))
    (l19 : K.lookup f19 = some ⟨oc19, od19, .func (PySem.W.fnOf "_law_key" "_law_key" (defArgs s_law_key) (defBody s_law_key) (defScope s_law_key) .none kV19 dc19 pm19 an19 cd19 ct19), sl19⟩) (c19 : PySem.W.codeIn K cd19 "_law_key" = true) (k19 : PySem.W.keepIn K (.ref f19) = true)
    (a20 : PySem.W.nsIn K mainGlobals "_law_alike" = some (some (.ref f20)))
    (l20 : K.lookup f20 = some ⟨oc20, od20, .func (PySem.W.fnOf "_law_alike" "_law_alike" (defArgs s_law_alike) (defBody s_law_alike) (defScope s_law_alike) .none kV20 dc20 pm20 an20 cd20 ct20), sl20⟩) (c20 : PySem.W.codeIn K cd20 "_law_alike" = true) (k20 : PySem.W.keepIn K (.ref f20) = true)
    (a21 : PySem.W.nsIn K mainGlobals "_law_due" = some (some (.ref f21)))
    (l21 : K.lookup f21 = some ⟨oc21, od21, .func (PySem.W.fnOf "_law_due" "_law_due" (defArgs s_law_due) (defBody s_law_due) (defScope s_law_due) .none kV21 dc21 pm21 an21 cd21 ct21), sl21⟩) (c21 : PySem.W.codeIn K cd21 "_law_due" = true) (k21 : PySem.W.keepIn K (.ref f21) = true)
    (a22 : PySem.W.nsIn K mainGlobals "_law_spoilt" = some (some (.ref f22)))
    (l22 : K.lookup f22 = some ⟨oc22, od22, .func (PySem.W.fnOf "_law_spoilt" "_law_spoilt" (defArgs s_law_spoilt) (defBody s_law_spoilt) (defScope s_law_spoilt) .none kV22 dc22 pm22 an22 cd22 ct22), sl22⟩) (c22 : PySem.W.codeIn K cd22 "_law_spoilt" = true) (k22 : PySem.W.keepIn K (.ref f22) = true)
    (a23 : PySem.W.nsIn K mainGlobals "law" = some (some (.ref f23)))
    (l23 : K.lookup f23 = some ⟨oc23, od23, .func (PySem.W.fnOf "law" "law" (defArgs s_law) (defBody s_law) (defScope s_law) .none kV23 dc23 pm23 an23 cd23 ct23), sl23⟩) (c23 : PySem.W.codeIn K cd23 "law" = true) (k23 : PySem.W.keepIn K (.ref f23) = true)
    (a24 : PySem.W.findIn K (.ref C_Entry) "__init__" = some (some (.ref f24))) (i24 : PySem.W.isFn K (.ref f24) = true)
    (l24 : K.lookup f24 = some ⟨oc24, od24, .func (PySem.W.fnOf "__init__" "Entry.__init__" (defArgs s_init_Entry) (defBody s_init_Entry) (defScope s_init_Entry) .none kV24 dc24 pm24 an24 cd24 ct24), sl24⟩) (c24 : PySem.W.codeIn K cd24 "Entry.__init__" = true) (k24 : PySem.W.keepIn K (.ref f24) = true)
    (pg_Entry : PySem.W.plainGet K C_Entry Str.empty = true)
    (hd_Entry : PySem.W.hasDictIn K C_Entry = true)
    (po_Entry : PySem.W.plainOver K C_Entry = true)
    (sa_Entry : PySem.W.findIn K (.ref C_Entry) "__setattr__" = some (some (.builtin "object.__setattr__")))
    (mk_Entry : PySem.W.makesIn K C_Entry = true)
    (kc_Entry : PySem.W.keepIn K (.ref C_Entry) = true)
    (cha_Entry : PySem.W.findIn K (.ref C_Entry) "__class__" = some (some (.builtin "object.__class__")))
    (chn_Entry : PySem.W.specialIn K (.builtin "object.__class__") "__get__" = some (some (.builtin "getset_descriptor.__get__")))
    (cht_Entry : PySem.W.takesIn K (.builtin "object.__class__") = some true)
    (chm_Entry : PySem.W.mroIn K C_Entry (.type "object") = some true)
    (cic_Entry : PySem.W.isClsIn K C_Entry = true)
    (cty_Entry : PySem.W.typeIn K (.ref C_Entry) = some (.type "type"))
    (nNoneType_Entry : PySem.W.notFirst K C_Entry (.type "NoneType") = true)
    (nbool_Entry : PySem.W.notFirst K C_Entry (.type "bool") = true)
    (nint_Entry : PySem.W.notFirst K C_Entry (.type "int") = true)
    (nstr_Entry : PySem.W.notFirst K C_Entry (.type "str") = true)
    (nlist_Entry : PySem.W.notFirst K C_Entry (.type "list") = true)
    (ntuple_Entry : PySem.W.notFirst K C_Entry (.type "tuple") = true)
    (na_name_Entry : PySem.W.findIn K (.ref C_Entry) "name" = some none)
    (na_vector_Entry : PySem.W.findIn K (.ref C_Entry) "vector" = some none)
    (na_height_Entry : PySem.W.findIn K (.ref C_Entry) "height" = some none)
    (na_maker_Entry : PySem.W.findIn K (.ref C_Entry) "maker" = some none)
    (na_deleted_Entry : PySem.W.findIn K (.ref C_Entry) "deleted" = some none)
    (na_time_Entry : PySem.W.findIn K (.ref C_Entry) "time" = some none)
    (na_blocks_Entry : PySem.W.findIn K (.ref C_Entry) "blocks" = some none)
    (z_abs : PySem.W.nsIn K mainGlobals "abs" = some none)
    (z_all : PySem.W.nsIn K mainGlobals "all" = some none)
    (z_bool : PySem.W.nsIn K mainGlobals "bool" = some none)
    (z_dict : PySem.W.nsIn K mainGlobals "dict" = some none)
    (z_int : PySem.W.nsIn K mainGlobals "int" = some none)
    (z_isinstance : PySem.W.nsIn K mainGlobals "isinstance" = some none)
    (z_len : PySem.W.nsIn K mainGlobals "len" = some none)
    (z_list : PySem.W.nsIn K mainGlobals "list" = some none)
    (z_max : PySem.W.nsIn K mainGlobals "max" = some none)
    (z_min : PySem.W.nsIn K mainGlobals "min" = some none)
    (z_range : PySem.W.nsIn K mainGlobals "range" = some none)
    (z_tuple : PySem.W.nsIn K mainGlobals "tuple" = some none)
    (z_zip : PySem.W.nsIn K mainGlobals "zip" = some none)
    (y_DEVICES : PySem.W.nsIn K mainGlobals "DEVICES" = some (some (.int 9 t_DEVICES)))
    (y_KEY_PARTS : PySem.W.nsIn K mainGlobals "KEY_PARTS" = some (some (.int 6 t_KEY_PARTS)))
    (hm : ∀ (C_Entry : Nat) (ns : List Int), ns.length ≤ 63 → ∃ as, (f_law C_Entry) [.val (scriptD ns)] = some (.bool true, as)) :
    ∃ fd : FuncData, (∀ (s : Shared) (v : Value), BindsTo s fd ⟨[v], []⟩ [("_law_script", v)]) ∧ ∀ base : Heap, K.In base → base.Ns mainGlobals mg → FnOk l.prog w K mg base CX0 7 fa fd ["_law_script"] (fun vs H Q _ => ∃ (a : Addr) (ns : List Int), vs = [.ref a] ∧ SqL K H a (ns.map V.int) ∧ ns.length ≤ 63 ∧ ∀ H', Q (.bl true) H') := by
  have e := hfa.symm.trans (PySem.W.mg_of X G a23)
  cases e
  have F0 := fun_mk (st := s_Entry_fields) l0 c0 k0
  have b0 := F0.binds (ps := ["self"]) fun _ _ _ _ _ _ us hl => match us, hl with | [_], _ => rfl
  have F1 := fun_mk (st := s_Entry_eq) l1 c1 k1
  have b1 := F1.binds (ps := ["self", "other"]) fun _ _ _ _ _ _ us hl => match us, hl with | [_, _], _ => rfl
  have F2 := fun_mk (st := s_count_of) l2 c2 k2
  have b2 := F2.binds (ps := ["vector", "device"]) fun _ _ _ _ _ _ us hl => match us, hl with | [_, _], _ => rfl
  have F3 := fun_mk (st := s_counts_of) l3 c3 k3
  have b3 := F3.binds (ps := ["vector"]) fun _ _ _ _ _ _ us hl => match us, hl with | [_], _ => rfl
  have F4 := fun_mk (st := s_vector_of) l4 c4 k4
  have b4 := F4.binds (ps := ["counts"]) fun _ _ _ _ _ _ us hl => match us, hl with | [_], _ => rfl
  have F5 := fun_mk (st := s_join) l5 c5 k5
  have b5 := F5.binds (ps := ["first", "second"]) fun _ _ _ _ _ _ us hl => match us, hl with | [_, _], _ => rfl
  have F6 := fun_mk (st := s_alike) l6 c6 k6
  have b6 := F6.binds (ps := ["first", "second"]) fun _ _ _ _ _ _ us hl => match us, hl with | [_, _], _ => rfl
  have F7 := fun_mk (st := s_key_of) l7 c7 k7
  have b7 := F7.binds (ps := ["entry"]) fun _ _ _ _ _ _ us hl => match us, hl with | [_], _ => rfl
  have F8 := fun_mk (st := s_greatest) l8 c8 k8
  have b8 := F8.binds (ps := ["entries"]) fun _ _ _ _ _ _ us hl => match us, hl with | [_], _ => rfl
  have F9 := fun_mk (st := s_winner) l9 c9 k9
  have b9 := F9.binds (ps := ["entries"]) fun _ _ _ _ _ _ us hl => match us, hl with | [_], _ => rfl
  have F10 := fun_mk (st := s_is_index) l10 c10 k10
  have b10 := F10.binds (ps := ["value", "count"]) fun _ _ _ _ _ _ us hl => match us, hl with | [_, _], _ => rfl
  have F11 := fun_mk (st := s_less_by) l11 c11 k11
  have b11 := F11.binds (ps := ["key", "greatest"]) fun _ _ _ _ _ _ us hl => match us, hl with | [_, _], _ => rfl
  have F12 := fun_mk (st := s_reasons) l12 c12 k12
  have b12 := F12.binds (ps := ["entries"]) fun _ _ _ _ _ _ us hl => match us, hl with | [_], _ => rfl
  have F13 := fun_mk (st := s_is_reason) l13 c13 k13
  have b13 := F13.binds (ps := ["entry", "best", "row"]) fun _ _ _ _ _ _ us hl => match us, hl with | [_, _, _], _ => rfl
  have F14 := fun_mk (st := s_judge_winner) l14 c14 k14
  have b14 := F14.binds (ps := ["entries", "entry", "paper"]) fun _ _ _ _ _ _ us hl => match us, hl with | [_, _, _], _ => rfl
  have F15 := fun_mk (st := s_law_draws) l15 c15 k15
  have b15 := F15.binds (ps := ["_law_script"]) fun _ _ _ _ _ _ us hl => match us, hl with | [_], _ => rfl
  have F16 := fun_mk (st := s_law_draw) l16 c16 k16
  have b16 := F16.binds (ps := ["_law_draws_here", "_law_limit"]) fun _ _ _ _ _ _ us hl => match us, hl with | [_, _], _ => rfl
  have F17 := fun_mk (st := s_law_vector) l17 c17 k17
  have b17 := F17.binds (ps := ["_law_draws_here"]) fun _ _ _ _ _ _ us hl => match us, hl with | [_], _ => rfl
  have F18 := fun_mk (st := s_law_entry) l18 c18 k18
  have b18 := F18.binds (ps := ["_law_draws_here"]) fun _ _ _ _ _ _ us hl => match us, hl with | [_], _ => rfl
  have F19 := fun_mk (st := s_law_key) l19 c19 k19
  have b19 := F19.binds (ps := ["_law_entry_here"]) fun _ _ _ _ _ _ us hl => match us, hl with | [_], _ => rfl
  have F20 := fun_mk (st := s_law_alike) l20 c20 k20
  have b20 := F20.binds (ps := ["_law_first", "_law_second"]) fun _ _ _ _ _ _ us hl => match us, hl with | [_, _], _ => rfl
  have F21 := fun_mk (st := s_law_due) l21 c21 k21
  have b21 := F21.binds (ps := ["_law_entries"]) fun _ _ _ _ _ _ us hl => match us, hl with | [_], _ => rfl
  have F22 := fun_mk (st := s_law_spoilt) l22 c22 k22
  have b22 := F22.binds (ps := ["_law_draws_here", "_law_paper"]) fun _ _ _ _ _ _ us hl => match us, hl with | [_, _], _ => rfl
  have F23 := fun_mk (st := s_law) l23 c23 k23
  have b23 := F23.binds (ps := ["_law_script"]) fun _ _ _ _ _ _ us hl => match us, hl with | [_], _ => rfl
  have F24 := fun_mk (st := s_init_Entry) l24 c24 k24
  have b24 := F24.binds (ps := ["self", "name", "vector", "height", "maker", "deleted", "time", "blocks"]) fun _ _ _ _ _ _ us hl => match us, hl with | [_, _, _, _, _, _, _, _], _ => rfl
  have T : ∀ base : Heap, Facts ⟨l.prog, w, K, mg, base, 0, true⟩ C_Entry := fun base => ⟨PySem.W.mg_none_of X G z_abs, PySem.W.mg_none_of X G z_all, PySem.W.mg_none_of X G z_bool, PySem.W.mg_none_of X G z_dict, PySem.W.mg_none_of X G z_int, PySem.W.mg_none_of X G z_isinstance, PySem.W.mg_none_of X G z_len, PySem.W.mg_none_of X G z_list, PySem.W.mg_none_of X G z_max, PySem.W.mg_none_of X G z_min, PySem.W.mg_none_of X G z_range, PySem.W.mg_none_of X G z_tuple, PySem.W.mg_none_of X G z_zip, ⟨_, PySem.W.mg_of X G y_DEVICES⟩, ⟨_, PySem.W.mg_of X G y_KEY_PARTS⟩, ⟨PySem.W.mg_of X G aC_Entry, ⟨pg_Entry, hd_Entry, po_Entry, sa_Entry⟩, cha_Entry, chn_Entry, cht_Entry, chm_Entry, kit_self, kit_other cic_Entry cty_Entry nNoneType_Entry, kit_other cic_Entry cty_Entry nbool_Entry, kit_other cic_Entry cty_Entry nint_Entry, kit_other cic_Entry cty_Entry nstr_Entry, kit_other cic_Entry cty_Entry nlist_Entry, kit_other cic_Entry cty_Entry ntuple_Entry, nlist_Entry, ntuple_Entry⟩, na_name_Entry, na_vector_Entry, na_height_Entry, na_maker_Entry, na_deleted_Entry, na_time_Entry, na_blocks_Entry, ⟨_, _, F24, ⟨mk_Entry, a24, i24, kc_Entry⟩, b24⟩, ⟨_, _, F0, ⟨a0, i0, k0⟩, b0⟩, ⟨_, _, F1, a1, i1, b1⟩, ⟨_, _, F2, PySem.W.mg_of X G a2, b2⟩, ⟨_, _, F3, PySem.W.mg_of X G a3, b3⟩, ⟨_, _, F4, PySem.W.mg_of X G a4, b4⟩, ⟨_, _, F5, PySem.W.mg_of X G a5, b5⟩, ⟨_, _, F6, PySem.W.mg_of X G a6, b6⟩, ⟨_, _, F7, PySem.W.mg_of X G a7, b7⟩, ⟨_, _, F8, PySem.W.mg_of X G a8, b8⟩, ⟨_, _, F9, PySem.W.mg_of X G a9, b9⟩, ⟨_, _, F10, PySem.W.mg_of X G a10, b10⟩, ⟨_, _, F11, PySem.W.mg_of X G a11, b11⟩, ⟨_, _, F12, PySem.W.mg_of X G a12, b12⟩, ⟨_, _, F13, PySem.W.mg_of X G a13, b13⟩, ⟨_, _, F14, PySem.W.mg_of X G a14, b14⟩, ⟨_, _, F15, PySem.W.mg_of X G a15, b15⟩, ⟨_, _, F16, PySem.W.mg_of X G a16, b16⟩, ⟨_, _, F17, PySem.W.mg_of X G a17, b17⟩, ⟨_, _, F18, PySem.W.mg_of X G a18, b18⟩, ⟨_, _, F19, PySem.W.mg_of X G a19, b19⟩, ⟨_, _, F20, PySem.W.mg_of X G a20, b20⟩, ⟨_, _, F21, PySem.W.mg_of X G a21, b21⟩, ⟨_, _, F22, PySem.W.mg_of X G a22, b22⟩, ⟨_, _, F23, PySem.W.mg_of X G a23, b23⟩⟩
  refine ⟨PySem.W.fnOf "law" "law" (defArgs s_law) (defBody s_law) (defScope s_law) .none kV23 dc23 pm23 an23 cd23 ct23, fun s v => .of_eq rfl, fun base _ _ => ?_⟩
  exact law_fn (c := ⟨l.prog, w, K, mg, base, 0, true⟩) (fn_ok (c := ⟨l.prog, w, K, mg, base, 0, true⟩) F23 sc_law (jb_law (T base) (F_law_alike (T base)) (F_law_draw (T base)) (F_law_draws (T base)) (F_law_due (T base)) (F_law_entry (T base)) (F_law_key (T base)) (F_law_spoilt (T base)) (F_judge_winner (T base)) (F_reasons (T base)) (F_winner (T base)))) (hm C_Entry)
end K50

namespace K50
open PySem L2 Dz
variable {C : Nat}
def Vn (x : Option Sl) : Prop := x = none ∨ ∃ d : D, x = some (.val d)
abbrev Vec := List (Int × Int)
def VL (v : Vec) : List D := v.map fun p => .tuple [.int p.1, .int p.2]
def VD (v : Vec) : D := .tuple (VL v)
structure Ent where
  name : Str
  vec : Vec
  h : Int
  m1 : Int
  m2 : Int
  del : Bool
  time : Int
  bl : List Int
def fldsG (a b c d e f g : D) : List (D × D) := [(.str "name", a), (.str "vector", b), (.str "height", c), (.str "maker", d), (.str "deleted", e), (.str "time", f), (.str "blocks", g)]
def fE (e : Ent) : List (D × D) := fldsG (.str e.name) (VD e.vec) (.int e.h) (.tuple [.int e.m1, .int e.m2]) (.bool e.del) (.int e.time) (.tuple (e.bl.map PyData.int))
def eD (C : Nat) (e : Ent) : D := oD C (fE e)
section
variable {a b c d e f g : D}
theorem nv : ¬ ("vector" : Str) = "name" := by decide +kernel
theorem nh : ¬ ("height" : Str) = "name" ∧ ¬ ("height" : Str) = "vector" := by decide +kernel
theorem nm : ¬ ("maker" : Str) = "name" ∧ ¬ ("maker" : Str) = "vector" ∧ ¬ ("maker" : Str) = "height" := by decide +kernel
theorem nd : ¬ ("deleted" : Str) = "name" ∧ ¬ ("deleted" : Str) = "vector" ∧ ¬ ("deleted" : Str) = "height" ∧ ¬ ("deleted" : Str) = "maker" := by decide +kernel
theorem nt : ¬ ("time" : Str) = "name" ∧ ¬ ("time" : Str) = "vector" ∧ ¬ ("time" : Str) = "height" ∧ ¬ ("time" : Str) = "maker" ∧ ¬ ("time" : Str) = "deleted" := by decide +kernel
theorem nb : ¬ ("blocks" : Str) = "name" ∧ ¬ ("blocks" : Str) = "vector" ∧ ¬ ("blocks" : Str) = "height" ∧ ¬ ("blocks" : Str) = "maker" ∧ ¬ ("blocks" : Str) = "deleted" ∧ ¬ ("blocks" : Str) = "time" := by decide +kernel
theorem lk_skip {f g : Str} {d : D} {r : List (D × D)} (h : ¬ f = g) : lookF f ((.str g, d) :: r) = lookF f r := if_neg h
theorem lk_hit {f : Str} {d : D} {r : List (D × D)} : lookF f ((.str f, d) :: r) = some d := if_pos rfl
theorem lk_n : lookF "name" (fldsG a b c d e f g) = some a := lk_hit
theorem lk_v : lookF "vector" (fldsG a b c d e f g) = some b := (lk_skip nv).trans lk_hit
theorem lk_h : lookF "height" (fldsG a b c d e f g) = some c := (lk_skip nh.1).trans ((lk_skip nh.2).trans lk_hit)
theorem lk_m : lookF "maker" (fldsG a b c d e f g) = some d := (lk_skip nm.1).trans ((lk_skip nm.2.1).trans ((lk_skip nm.2.2).trans lk_hit))
theorem lk_d : lookF "deleted" (fldsG a b c d e f g) = some e := (lk_skip nd.1).trans ((lk_skip nd.2.1).trans ((lk_skip nd.2.2.1).trans ((lk_skip nd.2.2.2).trans lk_hit)))
theorem lk_t : lookF "time" (fldsG a b c d e f g) = some f := (lk_skip nt.1).trans ((lk_skip nt.2.1).trans ((lk_skip nt.2.2.1).trans ((lk_skip nt.2.2.2.1).trans ((lk_skip nt.2.2.2.2).trans lk_hit))))
theorem lk_b : lookF "blocks" (fldsG a b c d e f g) = some g := (lk_skip nb.1).trans ((lk_skip nb.2.1).trans ((lk_skip nb.2.2.1).trans ((lk_skip nb.2.2.2.1).trans ((lk_skip nb.2.2.2.2.1).trans ((lk_skip nb.2.2.2.2.2).trans lk_hit)))))
theorem mk_ok {R : List (D × D) → Prop} (r : R (fldsG a b c d e f g)) : inw (i_Entry C) [] [none, some (.val a), some (.val b), some (.val c), some (.val d), some (.val e), some (.val f), some (.val g)] R := by
  unfold i_Entry
  refine inw_cons ⟨rfl, by decide⟩ ?_
  (repeat' (first | (with_reducible first | refine wp_kC ?_ | refine wp_bop ?_ | refine wp_tst ?_ | refine wp_val ?_ | refine wp_andK ?_ | refine wp_orK ?_ | refine wp_notK ?_ | refine wp_andV ?_ | refine wp_orV ?_ | refine wp_chain ?_ | refine wp_ifK ?_ | refine wp_nil ?_ | refine wp_cons ?_ | refine wp_gnil ?_ | refine wp_gval ?_ | refine wp_call ?_ | refine wp_neg ?_ | refine wp_b1 ?_ | refine wp_bn ?_ | refine wp_isi ?_ | refine wp_met ?_ | refine wp_pnone ?_ | refine wp_psome ?_ | refine wp_cut ?_ | refine wp_listK ?_ | refine wp_tupleK ?_ | refine wp_strK ?_ | refine wp_yes ?_ | refine wp_tup ?_ | refine wp_lst ?_ | refine tb_b ?_ | refine ti_b ?_ | refine tl_b ?_ | refine tt_b ?_ | refine ts_b ?_ | refine thn_nx ?_ | refine thn_rt ?_ | refine thn_bk ?_ | refine thn_ct ?_ | refine fin_rt ?_ | refine fin_nx ?_ | refine wps_seq ?_ | refine wps_next ?_ | refine wps_break ?_ | refine wps_cont ?_ | refine wps_drop ?_ | refine wps_ret ?_ | refine wps_retN ?_ | refine wps_if ?_ | refine wps_asg ?_ | refine oq_tgNil ?_ | refine oq_tgCons ?_ | refine it2_t ?_ | refine it2_f ?_ | refine it2_not ?_ | refine oq_add_i ?_ | refine oq_sub ?_ | refine oq_lt ?_ | refine oq_le ?_ | refine oq_gt ?_ | refine oq_ge ?_ | refine oq_eq_i ?_ | refine oq_ne_i ?_ | refine oq_eq_s ?_ | refine oq_ne_s ?_ | refine oq_eq_b ?_ | refine oq_ne_b ?_ | refine oq_is ?_ | refine oq_isNot ?_ | refine oq_in_s ?_ | refine oq_notIn_s ?_ | refine oq_len_l ?_ | refine oq_len_t ?_ | refine oq_int ?_ | refine oq_abs ?_ | refine oq_ord ?_ | refine oq_cut_l ?_ | refine oq_cut_t ?_ | refine oq_list_l ?_ | refine oq_list_t ?_ | refine oq_tuple_l ?_ | refine oq_tuple_t ?_ | refine oq_max2 ?_ | refine oq_min2 ?_ | refine oq_some ?_ | refine oq_len_sc ?_ | refine fq_nx ?_ | refine fq_ct ?_ | refine fq_bk ?_ | refine fq_rt ?_ | refine wfd_nil ?_ | refine wfd_cons ?_ | refine oq_eq_il ?_ | refine oq_ne_il ?_ | refine oq_eq_it ?_ | refine oq_ne_it ?_ | refine oq_lt_il ?_ | refine oq_lt_it ?_ | refine wp_isiC ?_ | refine wp_rev ?_ | refine wp_callF ?_ | refine wp_consF ?_ | refine wp_oneF ?_ | refine wp_cat ?_ | refine oq_isiC_ob ?_ | refine oq_isiC_t ?_ | refine oq_isiC_l ?_ | refine oq_eqI ?_ | refine oq_eqI_t ?_ | refine inw_nil ?_ | refine oq_isiE ?_ | refine oq_eqE ?_ | refine oq_eqEl ?_) | ((with_reducible apply fv_n); exact rfl) | ((with_reducible apply fv_v); exact rfl) | ((with_reducible apply fv_h); exact rfl) | ((with_reducible apply fv_m); exact rfl) | ((with_reducible apply fv_d); exact rfl) | ((with_reducible apply fv_t); exact rfl) | ((with_reducible apply fv_b); exact rfl) | ((with_reducible apply wp_kV); exact rfl) | ((with_reducible apply wp_kO_bor); exact rfl) | ((with_reducible apply wp_kO_own); exact rfl) | ((with_reducible apply wp_kO_val); exact rfl) | ((with_reducible apply wp_bopO); exact rfl) | ((with_reducible apply wp_cutO); exact rfl) | ((with_reducible apply wps_frz); exact rfl) | ((with_reducible apply wps_aug); exact rfl) | ((with_reducible apply oq_mutL_bor); exact rfl) | ((with_reducible apply oq_mutL_own); exact rfl) | ((with_reducible apply oq_tgTup); exact rfl) | ((with_reducible apply oq_ix_lk); exact rfl) | ((with_reducible apply oq_ix_tk); exact rfl) | ((with_reducible apply oq_setv); exact rfl; simp only [List.set]) | ((with_reducible apply oq_seto); exact rfl; simp only [List.set]) | ((with_reducible apply wp_gbor); exact rfl; exact rfl) | ((with_reducible apply wp_mut); exact rfl; exact ⟨_, rfl⟩) | ((with_reducible apply wps_seti); exact ⟨_, rfl⟩) | ((with_reducible apply cwp_of); exact rfl; exact rfl; try simp only [giveBack, setd, Sl.d]) | ((with_reducible apply oq_ixN_k); exact rfl; simp only [Sl.d, Sl.wi, List.set]) | ((with_reducible apply oq_mod); (first | omega | decide)) | ((with_reducible apply oq_div); (first | omega | decide)) | ((with_reducible apply oq_mul); (first | omega | decide)) | ((with_reducible apply oq_pow); (first | omega | decide)) | ((with_reducible apply oq_shl); (first | omega | decide)) | ((with_reducible apply oq_shr); (first | omega | decide)) | ((with_reducible apply oq_add_s); (first | omega | decide)) | ((with_reducible apply oq_len_s); (first | omega | decide)) | ((with_reducible apply oq_cut_s); (first | omega | decide)) | ((with_reducible apply oq_append); (first | omega | decide)) | ((with_reducible apply oq_insert); (first | omega | decide)) | ((with_reducible apply oq_extend); (first | omega | decide)) | ((with_reducible apply oq_rep); (first | omega | decide)) | ((with_reducible apply oq_cat); (first | omega | decide)) | ((with_reducible apply lok); exact rfl) | ((with_reducible refine it2_dec ?_ ?_) <;> intro)))
  refine inw_cons ⟨lk_skip nv, by simp⟩ ?_
  (repeat' (first | (with_reducible first | refine wp_kC ?_ | refine wp_bop ?_ | refine wp_tst ?_ | refine wp_val ?_ | refine wp_andK ?_ | refine wp_orK ?_ | refine wp_notK ?_ | refine wp_andV ?_ | refine wp_orV ?_ | refine wp_chain ?_ | refine wp_ifK ?_ | refine wp_nil ?_ | refine wp_cons ?_ | refine wp_gnil ?_ | refine wp_gval ?_ | refine wp_call ?_ | refine wp_neg ?_ | refine wp_b1 ?_ | refine wp_bn ?_ | refine wp_isi ?_ | refine wp_met ?_ | refine wp_pnone ?_ | refine wp_psome ?_ | refine wp_cut ?_ | refine wp_listK ?_ | refine wp_tupleK ?_ | refine wp_strK ?_ | refine wp_yes ?_ | refine wp_tup ?_ | refine wp_lst ?_ | refine tb_b ?_ | refine ti_b ?_ | refine tl_b ?_ | refine tt_b ?_ | refine ts_b ?_ | refine thn_nx ?_ | refine thn_rt ?_ | refine thn_bk ?_ | refine thn_ct ?_ | refine fin_rt ?_ | refine fin_nx ?_ | refine wps_seq ?_ | refine wps_next ?_ | refine wps_break ?_ | refine wps_cont ?_ | refine wps_drop ?_ | refine wps_ret ?_ | refine wps_retN ?_ | refine wps_if ?_ | refine wps_asg ?_ | refine oq_tgNil ?_ | refine oq_tgCons ?_ | refine it2_t ?_ | refine it2_f ?_ | refine it2_not ?_ | refine oq_add_i ?_ | refine oq_sub ?_ | refine oq_lt ?_ | refine oq_le ?_ | refine oq_gt ?_ | refine oq_ge ?_ | refine oq_eq_i ?_ | refine oq_ne_i ?_ | refine oq_eq_s ?_ | refine oq_ne_s ?_ | refine oq_eq_b ?_ | refine oq_ne_b ?_ | refine oq_is ?_ | refine oq_isNot ?_ | refine oq_in_s ?_ | refine oq_notIn_s ?_ | refine oq_len_l ?_ | refine oq_len_t ?_ | refine oq_int ?_ | refine oq_abs ?_ | refine oq_ord ?_ | refine oq_cut_l ?_ | refine oq_cut_t ?_ | refine oq_list_l ?_ | refine oq_list_t ?_ | refine oq_tuple_l ?_ | refine oq_tuple_t ?_ | refine oq_max2 ?_ | refine oq_min2 ?_ | refine oq_some ?_ | refine oq_len_sc ?_ | refine fq_nx ?_ | refine fq_ct ?_ | refine fq_bk ?_ | refine fq_rt ?_ | refine wfd_nil ?_ | refine wfd_cons ?_ | refine oq_eq_il ?_ | refine oq_ne_il ?_ | refine oq_eq_it ?_ | refine oq_ne_it ?_ | refine oq_lt_il ?_ | refine oq_lt_it ?_ | refine wp_isiC ?_ | refine wp_rev ?_ | refine wp_callF ?_ | refine wp_consF ?_ | refine wp_oneF ?_ | refine wp_cat ?_ | refine oq_isiC_ob ?_ | refine oq_isiC_t ?_ | refine oq_isiC_l ?_ | refine oq_eqI ?_ | refine oq_eqI_t ?_ | refine inw_nil ?_ | refine oq_isiE ?_ | refine oq_eqE ?_ | refine oq_eqEl ?_) | ((with_reducible apply fv_n); exact rfl) | ((with_reducible apply fv_v); exact rfl) | ((with_reducible apply fv_h); exact rfl) | ((with_reducible apply fv_m); exact rfl) | ((with_reducible apply fv_d); exact rfl) | ((with_reducible apply fv_t); exact rfl) | ((with_reducible apply fv_b); exact rfl) | ((with_reducible apply wp_kV); exact rfl) | ((with_reducible apply wp_kO_bor); exact rfl) | ((with_reducible apply wp_kO_own); exact rfl) | ((with_reducible apply wp_kO_val); exact rfl) | ((with_reducible apply wp_bopO); exact rfl) | ((with_reducible apply wp_cutO); exact rfl) | ((with_reducible apply wps_frz); exact rfl) | ((with_reducible apply wps_aug); exact rfl) | ((with_reducible apply oq_mutL_bor); exact rfl) | ((with_reducible apply oq_mutL_own); exact rfl) | ((with_reducible apply oq_tgTup); exact rfl) | ((with_reducible apply oq_ix_lk); exact rfl) | ((with_reducible apply oq_ix_tk); exact rfl) | ((with_reducible apply oq_setv); exact rfl; simp only [List.set]) | ((with_reducible apply oq_seto); exact rfl; simp only [List.set]) | ((with_reducible apply wp_gbor); exact rfl; exact rfl) | ((with_reducible apply wp_mut); exact rfl; exact ⟨_, rfl⟩) | ((with_reducible apply wps_seti); exact ⟨_, rfl⟩) | ((with_reducible apply cwp_of); exact rfl; exact rfl; try simp only [giveBack, setd, Sl.d]) | ((with_reducible apply oq_ixN_k); exact rfl; simp only [Sl.d, Sl.wi, List.set]) | ((with_reducible apply oq_mod); (first | omega | decide)) | ((with_reducible apply oq_div); (first | omega | decide)) | ((with_reducible apply oq_mul); (first | omega | decide)) | ((with_reducible apply oq_pow); (first | omega | decide)) | ((with_reducible apply oq_shl); (first | omega | decide)) | ((with_reducible apply oq_shr); (first | omega | decide)) | ((with_reducible apply oq_add_s); (first | omega | decide)) | ((with_reducible apply oq_len_s); (first | omega | decide)) | ((with_reducible apply oq_cut_s); (first | omega | decide)) | ((with_reducible apply oq_append); (first | omega | decide)) | ((with_reducible apply oq_insert); (first | omega | decide)) | ((with_reducible apply oq_extend); (first | omega | decide)) | ((with_reducible apply oq_rep); (first | omega | decide)) | ((with_reducible apply oq_cat); (first | omega | decide)) | ((with_reducible apply lok); exact rfl) | ((with_reducible refine it2_dec ?_ ?_) <;> intro)))
  refine inw_cons ⟨(lk_skip nh.1).trans (lk_skip nh.2), by simp⟩ ?_
  (repeat' (first | (with_reducible first | refine wp_kC ?_ | refine wp_bop ?_ | refine wp_tst ?_ | refine wp_val ?_ | refine wp_andK ?_ | refine wp_orK ?_ | refine wp_notK ?_ | refine wp_andV ?_ | refine wp_orV ?_ | refine wp_chain ?_ | refine wp_ifK ?_ | refine wp_nil ?_ | refine wp_cons ?_ | refine wp_gnil ?_ | refine wp_gval ?_ | refine wp_call ?_ | refine wp_neg ?_ | refine wp_b1 ?_ | refine wp_bn ?_ | refine wp_isi ?_ | refine wp_met ?_ | refine wp_pnone ?_ | refine wp_psome ?_ | refine wp_cut ?_ | refine wp_listK ?_ | refine wp_tupleK ?_ | refine wp_strK ?_ | refine wp_yes ?_ | refine wp_tup ?_ | refine wp_lst ?_ | refine tb_b ?_ | refine ti_b ?_ | refine tl_b ?_ | refine tt_b ?_ | refine ts_b ?_ | refine thn_nx ?_ | refine thn_rt ?_ | refine thn_bk ?_ | refine thn_ct ?_ | refine fin_rt ?_ | refine fin_nx ?_ | refine wps_seq ?_ | refine wps_next ?_ | refine wps_break ?_ | refine wps_cont ?_ | refine wps_drop ?_ | refine wps_ret ?_ | refine wps_retN ?_ | refine wps_if ?_ | refine wps_asg ?_ | refine oq_tgNil ?_ | refine oq_tgCons ?_ | refine it2_t ?_ | refine it2_f ?_ | refine it2_not ?_ | refine oq_add_i ?_ | refine oq_sub ?_ | refine oq_lt ?_ | refine oq_le ?_ | refine oq_gt ?_ | refine oq_ge ?_ | refine oq_eq_i ?_ | refine oq_ne_i ?_ | refine oq_eq_s ?_ | refine oq_ne_s ?_ | refine oq_eq_b ?_ | refine oq_ne_b ?_ | refine oq_is ?_ | refine oq_isNot ?_ | refine oq_in_s ?_ | refine oq_notIn_s ?_ | refine oq_len_l ?_ | refine oq_len_t ?_ | refine oq_int ?_ | refine oq_abs ?_ | refine oq_ord ?_ | refine oq_cut_l ?_ | refine oq_cut_t ?_ | refine oq_list_l ?_ | refine oq_list_t ?_ | refine oq_tuple_l ?_ | refine oq_tuple_t ?_ | refine oq_max2 ?_ | refine oq_min2 ?_ | refine oq_some ?_ | refine oq_len_sc ?_ | refine fq_nx ?_ | refine fq_ct ?_ | refine fq_bk ?_ | refine fq_rt ?_ | refine wfd_nil ?_ | refine wfd_cons ?_ | refine oq_eq_il ?_ | refine oq_ne_il ?_ | refine oq_eq_it ?_ | refine oq_ne_it ?_ | refine oq_lt_il ?_ | refine oq_lt_it ?_ | refine wp_isiC ?_ | refine wp_rev ?_ | refine wp_callF ?_ | refine wp_consF ?_ | refine wp_oneF ?_ | refine wp_cat ?_ | refine oq_isiC_ob ?_ | refine oq_isiC_t ?_ | refine oq_isiC_l ?_ | refine oq_eqI ?_ | refine oq_eqI_t ?_ | refine inw_nil ?_ | refine oq_isiE ?_ | refine oq_eqE ?_ | refine oq_eqEl ?_) | ((with_reducible apply fv_n); exact rfl) | ((with_reducible apply fv_v); exact rfl) | ((with_reducible apply fv_h); exact rfl) | ((with_reducible apply fv_m); exact rfl) | ((with_reducible apply fv_d); exact rfl) | ((with_reducible apply fv_t); exact rfl) | ((with_reducible apply fv_b); exact rfl) | ((with_reducible apply wp_kV); exact rfl) | ((with_reducible apply wp_kO_bor); exact rfl) | ((with_reducible apply wp_kO_own); exact rfl) | ((with_reducible apply wp_kO_val); exact rfl) | ((with_reducible apply wp_bopO); exact rfl) | ((with_reducible apply wp_cutO); exact rfl) | ((with_reducible apply wps_frz); exact rfl) | ((with_reducible apply wps_aug); exact rfl) | ((with_reducible apply oq_mutL_bor); exact rfl) | ((with_reducible apply oq_mutL_own); exact rfl) | ((with_reducible apply oq_tgTup); exact rfl) | ((with_reducible apply oq_ix_lk); exact rfl) | ((with_reducible apply oq_ix_tk); exact rfl) | ((with_reducible apply oq_setv); exact rfl; simp only [List.set]) | ((with_reducible apply oq_seto); exact rfl; simp only [List.set]) | ((with_reducible apply wp_gbor); exact rfl; exact rfl) | ((with_reducible apply wp_mut); exact rfl; exact ⟨_, rfl⟩) | ((with_reducible apply wps_seti); exact ⟨_, rfl⟩) | ((with_reducible apply cwp_of); exact rfl; exact rfl; try simp only [giveBack, setd, Sl.d]) | ((with_reducible apply oq_ixN_k); exact rfl; simp only [Sl.d, Sl.wi, List.set]) | ((with_reducible apply oq_mod); (first | omega | decide)) | ((with_reducible apply oq_div); (first | omega | decide)) | ((with_reducible apply oq_mul); (first | omega | decide)) | ((with_reducible apply oq_pow); (first | omega | decide)) | ((with_reducible apply oq_shl); (first | omega | decide)) | ((with_reducible apply oq_shr); (first | omega | decide)) | ((with_reducible apply oq_add_s); (first | omega | decide)) | ((with_reducible apply oq_len_s); (first | omega | decide)) | ((with_reducible apply oq_cut_s); (first | omega | decide)) | ((with_reducible apply oq_append); (first | omega | decide)) | ((with_reducible apply oq_insert); (first | omega | decide)) | ((with_reducible apply oq_extend); (first | omega | decide)) | ((with_reducible apply oq_rep); (first | omega | decide)) | ((with_reducible apply oq_cat); (first | omega | decide)) | ((with_reducible apply lok); exact rfl) | ((with_reducible refine it2_dec ?_ ?_) <;> intro)))
  refine inw_cons ⟨(lk_skip nm.1).trans ((lk_skip nm.2.1).trans (lk_skip nm.2.2)), by simp⟩ ?_
  (repeat' (first | (with_reducible first | refine wp_kC ?_ | refine wp_bop ?_ | refine wp_tst ?_ | refine wp_val ?_ | refine wp_andK ?_ | refine wp_orK ?_ | refine wp_notK ?_ | refine wp_andV ?_ | refine wp_orV ?_ | refine wp_chain ?_ | refine wp_ifK ?_ | refine wp_nil ?_ | refine wp_cons ?_ | refine wp_gnil ?_ | refine wp_gval ?_ | refine wp_call ?_ | refine wp_neg ?_ | refine wp_b1 ?_ | refine wp_bn ?_ | refine wp_isi ?_ | refine wp_met ?_ | refine wp_pnone ?_ | refine wp_psome ?_ | refine wp_cut ?_ | refine wp_listK ?_ | refine wp_tupleK ?_ | refine wp_strK ?_ | refine wp_yes ?_ | refine wp_tup ?_ | refine wp_lst ?_ | refine tb_b ?_ | refine ti_b ?_ | refine tl_b ?_ | refine tt_b ?_ | refine ts_b ?_ | refine thn_nx ?_ | refine thn_rt ?_ | refine thn_bk ?_ | refine thn_ct ?_ | refine fin_rt ?_ | refine fin_nx ?_ | refine wps_seq ?_ | refine wps_next ?_ | refine wps_break ?_ | refine wps_cont ?_ | refine wps_drop ?_ | refine wps_ret ?_ | refine wps_retN ?_ | refine wps_if ?_ | refine wps_asg ?_ | refine oq_tgNil ?_ | refine oq_tgCons ?_ | refine it2_t ?_ | refine it2_f ?_ | refine it2_not ?_ | refine oq_add_i ?_ | refine oq_sub ?_ | refine oq_lt ?_ | refine oq_le ?_ | refine oq_gt ?_ | refine oq_ge ?_ | refine oq_eq_i ?_ | refine oq_ne_i ?_ | refine oq_eq_s ?_ | refine oq_ne_s ?_ | refine oq_eq_b ?_ | refine oq_ne_b ?_ | refine oq_is ?_ | refine oq_isNot ?_ | refine oq_in_s ?_ | refine oq_notIn_s ?_ | refine oq_len_l ?_ | refine oq_len_t ?_ | refine oq_int ?_ | refine oq_abs ?_ | refine oq_ord ?_ | refine oq_cut_l ?_ | refine oq_cut_t ?_ | refine oq_list_l ?_ | refine oq_list_t ?_ | refine oq_tuple_l ?_ | refine oq_tuple_t ?_ | refine oq_max2 ?_ | refine oq_min2 ?_ | refine oq_some ?_ | refine oq_len_sc ?_ | refine fq_nx ?_ | refine fq_ct ?_ | refine fq_bk ?_ | refine fq_rt ?_ | refine wfd_nil ?_ | refine wfd_cons ?_ | refine oq_eq_il ?_ | refine oq_ne_il ?_ | refine oq_eq_it ?_ | refine oq_ne_it ?_ | refine oq_lt_il ?_ | refine oq_lt_it ?_ | refine wp_isiC ?_ | refine wp_rev ?_ | refine wp_callF ?_ | refine wp_consF ?_ | refine wp_oneF ?_ | refine wp_cat ?_ | refine oq_isiC_ob ?_ | refine oq_isiC_t ?_ | refine oq_isiC_l ?_ | refine oq_eqI ?_ | refine oq_eqI_t ?_ | refine inw_nil ?_ | refine oq_isiE ?_ | refine oq_eqE ?_ | refine oq_eqEl ?_) | ((with_reducible apply fv_n); exact rfl) | ((with_reducible apply fv_v); exact rfl) | ((with_reducible apply fv_h); exact rfl) | ((with_reducible apply fv_m); exact rfl) | ((with_reducible apply fv_d); exact rfl) | ((with_reducible apply fv_t); exact rfl) | ((with_reducible apply fv_b); exact rfl) | ((with_reducible apply wp_kV); exact rfl) | ((with_reducible apply wp_kO_bor); exact rfl) | ((with_reducible apply wp_kO_own); exact rfl) | ((with_reducible apply wp_kO_val); exact rfl) | ((with_reducible apply wp_bopO); exact rfl) | ((with_reducible apply wp_cutO); exact rfl) | ((with_reducible apply wps_frz); exact rfl) | ((with_reducible apply wps_aug); exact rfl) | ((with_reducible apply oq_mutL_bor); exact rfl) | ((with_reducible apply oq_mutL_own); exact rfl) | ((with_reducible apply oq_tgTup); exact rfl) | ((with_reducible apply oq_ix_lk); exact rfl) | ((with_reducible apply oq_ix_tk); exact rfl) | ((with_reducible apply oq_setv); exact rfl; simp only [List.set]) | ((with_reducible apply oq_seto); exact rfl; simp only [List.set]) | ((with_reducible apply wp_gbor); exact rfl; exact rfl) | ((with_reducible apply wp_mut); exact rfl; exact ⟨_, rfl⟩) | ((with_reducible apply wps_seti); exact ⟨_, rfl⟩) | ((with_reducible apply cwp_of); exact rfl; exact rfl; try simp only [giveBack, setd, Sl.d]) | ((with_reducible apply oq_ixN_k); exact rfl; simp only [Sl.d, Sl.wi, List.set]) | ((with_reducible apply oq_mod); (first | omega | decide)) | ((with_reducible apply oq_div); (first | omega | decide)) | ((with_reducible apply oq_mul); (first | omega | decide)) | ((with_reducible apply oq_pow); (first | omega | decide)) | ((with_reducible apply oq_shl); (first | omega | decide)) | ((with_reducible apply oq_shr); (first | omega | decide)) | ((with_reducible apply oq_add_s); (first | omega | decide)) | ((with_reducible apply oq_len_s); (first | omega | decide)) | ((with_reducible apply oq_cut_s); (first | omega | decide)) | ((with_reducible apply oq_append); (first | omega | decide)) | ((with_reducible apply oq_insert); (first | omega | decide)) | ((with_reducible apply oq_extend); (first | omega | decide)) | ((with_reducible apply oq_rep); (first | omega | decide)) | ((with_reducible apply oq_cat); (first | omega | decide)) | ((with_reducible apply lok); exact rfl) | ((with_reducible refine it2_dec ?_ ?_) <;> intro)))
  refine inw_cons ⟨(lk_skip nd.1).trans ((lk_skip nd.2.1).trans ((lk_skip nd.2.2.1).trans (lk_skip nd.2.2.2))), by simp⟩ ?_
  (repeat' (first | (with_reducible first | refine wp_kC ?_ | refine wp_bop ?_ | refine wp_tst ?_ | refine wp_val ?_ | refine wp_andK ?_ | refine wp_orK ?_ | refine wp_notK ?_ | refine wp_andV ?_ | refine wp_orV ?_ | refine wp_chain ?_ | refine wp_ifK ?_ | refine wp_nil ?_ | refine wp_cons ?_ | refine wp_gnil ?_ | refine wp_gval ?_ | refine wp_call ?_ | refine wp_neg ?_ | refine wp_b1 ?_ | refine wp_bn ?_ | refine wp_isi ?_ | refine wp_met ?_ | refine wp_pnone ?_ | refine wp_psome ?_ | refine wp_cut ?_ | refine wp_listK ?_ | refine wp_tupleK ?_ | refine wp_strK ?_ | refine wp_yes ?_ | refine wp_tup ?_ | refine wp_lst ?_ | refine tb_b ?_ | refine ti_b ?_ | refine tl_b ?_ | refine tt_b ?_ | refine ts_b ?_ | refine thn_nx ?_ | refine thn_rt ?_ | refine thn_bk ?_ | refine thn_ct ?_ | refine fin_rt ?_ | refine fin_nx ?_ | refine wps_seq ?_ | refine wps_next ?_ | refine wps_break ?_ | refine wps_cont ?_ | refine wps_drop ?_ | refine wps_ret ?_ | refine wps_retN ?_ | refine wps_if ?_ | refine wps_asg ?_ | refine oq_tgNil ?_ | refine oq_tgCons ?_ | refine it2_t ?_ | refine it2_f ?_ | refine it2_not ?_ | refine oq_add_i ?_ | refine oq_sub ?_ | refine oq_lt ?_ | refine oq_le ?_ | refine oq_gt ?_ | refine oq_ge ?_ | refine oq_eq_i ?_ | refine oq_ne_i ?_ | refine oq_eq_s ?_ | refine oq_ne_s ?_ | refine oq_eq_b ?_ | refine oq_ne_b ?_ | refine oq_is ?_ | refine oq_isNot ?_ | refine oq_in_s ?_ | refine oq_notIn_s ?_ | refine oq_len_l ?_ | refine oq_len_t ?_ | refine oq_int ?_ | refine oq_abs ?_ | refine oq_ord ?_ | refine oq_cut_l ?_ | refine oq_cut_t ?_ | refine oq_list_l ?_ | refine oq_list_t ?_ | refine oq_tuple_l ?_ | refine oq_tuple_t ?_ | refine oq_max2 ?_ | refine oq_min2 ?_ | refine oq_some ?_ | refine oq_len_sc ?_ | refine fq_nx ?_ | refine fq_ct ?_ | refine fq_bk ?_ | refine fq_rt ?_ | refine wfd_nil ?_ | refine wfd_cons ?_ | refine oq_eq_il ?_ | refine oq_ne_il ?_ | refine oq_eq_it ?_ | refine oq_ne_it ?_ | refine oq_lt_il ?_ | refine oq_lt_it ?_ | refine wp_isiC ?_ | refine wp_rev ?_ | refine wp_callF ?_ | refine wp_consF ?_ | refine wp_oneF ?_ | refine wp_cat ?_ | refine oq_isiC_ob ?_ | refine oq_isiC_t ?_ | refine oq_isiC_l ?_ | refine oq_eqI ?_ | refine oq_eqI_t ?_ | refine inw_nil ?_ | refine oq_isiE ?_ | refine oq_eqE ?_ | refine oq_eqEl ?_) | ((with_reducible apply fv_n); exact rfl) | ((with_reducible apply fv_v); exact rfl) | ((with_reducible apply fv_h); exact rfl) | ((with_reducible apply fv_m); exact rfl) | ((with_reducible apply fv_d); exact rfl) | ((with_reducible apply fv_t); exact rfl) | ((with_reducible apply fv_b); exact rfl) | ((with_reducible apply wp_kV); exact rfl) | ((with_reducible apply wp_kO_bor); exact rfl) | ((with_reducible apply wp_kO_own); exact rfl) | ((with_reducible apply wp_kO_val); exact rfl) | ((with_reducible apply wp_bopO); exact rfl) | ((with_reducible apply wp_cutO); exact rfl) | ((with_reducible apply wps_frz); exact rfl) | ((with_reducible apply wps_aug); exact rfl) | ((with_reducible apply oq_mutL_bor); exact rfl) | ((with_reducible apply oq_mutL_own); exact rfl) | ((with_reducible apply oq_tgTup); exact rfl) | ((with_reducible apply oq_ix_lk); exact rfl) | ((with_reducible apply oq_ix_tk); exact rfl) | ((with_reducible apply oq_setv); exact rfl; simp only [List.set]) | ((with_reducible apply oq_seto); exact rfl; simp only [List.set]) | ((with_reducible apply wp_gbor); exact rfl; exact rfl) | ((with_reducible apply wp_mut); exact rfl; exact ⟨_, rfl⟩) | ((with_reducible apply wps_seti); exact ⟨_, rfl⟩) | ((with_reducible apply cwp_of); exact rfl; exact rfl; try simp only [giveBack, setd, Sl.d]) | ((with_reducible apply oq_ixN_k); exact rfl; simp only [Sl.d, Sl.wi, List.set]) | ((with_reducible apply oq_mod); (first | omega | decide)) | ((with_reducible apply oq_div); (first | omega | decide)) | ((with_reducible apply oq_mul); (first | omega | decide)) | ((with_reducible apply oq_pow); (first | omega | decide)) | ((with_reducible apply oq_shl); (first | omega | decide)) | ((with_reducible apply oq_shr); (first | omega | decide)) | ((with_reducible apply oq_add_s); (first | omega | decide)) | ((with_reducible apply oq_len_s); (first | omega | decide)) | ((with_reducible apply oq_cut_s); (first | omega | decide)) | ((with_reducible apply oq_append); (first | omega | decide)) | ((with_reducible apply oq_insert); (first | omega | decide)) | ((with_reducible apply oq_extend); (first | omega | decide)) | ((with_reducible apply oq_rep); (first | omega | decide)) | ((with_reducible apply oq_cat); (first | omega | decide)) | ((with_reducible apply lok); exact rfl) | ((with_reducible refine it2_dec ?_ ?_) <;> intro)))
  refine inw_cons ⟨(lk_skip nt.1).trans ((lk_skip nt.2.1).trans ((lk_skip nt.2.2.1).trans ((lk_skip nt.2.2.2.1).trans (lk_skip nt.2.2.2.2)))), by simp⟩ ?_
  (repeat' (first | (with_reducible first | refine wp_kC ?_ | refine wp_bop ?_ | refine wp_tst ?_ | refine wp_val ?_ | refine wp_andK ?_ | refine wp_orK ?_ | refine wp_notK ?_ | refine wp_andV ?_ | refine wp_orV ?_ | refine wp_chain ?_ | refine wp_ifK ?_ | refine wp_nil ?_ | refine wp_cons ?_ | refine wp_gnil ?_ | refine wp_gval ?_ | refine wp_call ?_ | refine wp_neg ?_ | refine wp_b1 ?_ | refine wp_bn ?_ | refine wp_isi ?_ | refine wp_met ?_ | refine wp_pnone ?_ | refine wp_psome ?_ | refine wp_cut ?_ | refine wp_listK ?_ | refine wp_tupleK ?_ | refine wp_strK ?_ | refine wp_yes ?_ | refine wp_tup ?_ | refine wp_lst ?_ | refine tb_b ?_ | refine ti_b ?_ | refine tl_b ?_ | refine tt_b ?_ | refine ts_b ?_ | refine thn_nx ?_ | refine thn_rt ?_ | refine thn_bk ?_ | refine thn_ct ?_ | refine fin_rt ?_ | refine fin_nx ?_ | refine wps_seq ?_ | refine wps_next ?_ | refine wps_break ?_ | refine wps_cont ?_ | refine wps_drop ?_ | refine wps_ret ?_ | refine wps_retN ?_ | refine wps_if ?_ | refine wps_asg ?_ | refine oq_tgNil ?_ | refine oq_tgCons ?_ | refine it2_t ?_ | refine it2_f ?_ | refine it2_not ?_ | refine oq_add_i ?_ | refine oq_sub ?_ | refine oq_lt ?_ | refine oq_le ?_ | refine oq_gt ?_ | refine oq_ge ?_ | refine oq_eq_i ?_ | refine oq_ne_i ?_ | refine oq_eq_s ?_ | refine oq_ne_s ?_ | refine oq_eq_b ?_ | refine oq_ne_b ?_ | refine oq_is ?_ | refine oq_isNot ?_ | refine oq_in_s ?_ | refine oq_notIn_s ?_ | refine oq_len_l ?_ | refine oq_len_t ?_ | refine oq_int ?_ | refine oq_abs ?_ | refine oq_ord ?_ | refine oq_cut_l ?_ | refine oq_cut_t ?_ | refine oq_list_l ?_ | refine oq_list_t ?_ | refine oq_tuple_l ?_ | refine oq_tuple_t ?_ | refine oq_max2 ?_ | refine oq_min2 ?_ | refine oq_some ?_ | refine oq_len_sc ?_ | refine fq_nx ?_ | refine fq_ct ?_ | refine fq_bk ?_ | refine fq_rt ?_ | refine wfd_nil ?_ | refine wfd_cons ?_ | refine oq_eq_il ?_ | refine oq_ne_il ?_ | refine oq_eq_it ?_ | refine oq_ne_it ?_ | refine oq_lt_il ?_ | refine oq_lt_it ?_ | refine wp_isiC ?_ | refine wp_rev ?_ | refine wp_callF ?_ | refine wp_consF ?_ | refine wp_oneF ?_ | refine wp_cat ?_ | refine oq_isiC_ob ?_ | refine oq_isiC_t ?_ | refine oq_isiC_l ?_ | refine oq_eqI ?_ | refine oq_eqI_t ?_ | refine inw_nil ?_ | refine oq_isiE ?_ | refine oq_eqE ?_ | refine oq_eqEl ?_) | ((with_reducible apply fv_n); exact rfl) | ((with_reducible apply fv_v); exact rfl) | ((with_reducible apply fv_h); exact rfl) | ((with_reducible apply fv_m); exact rfl) | ((with_reducible apply fv_d); exact rfl) | ((with_reducible apply fv_t); exact rfl) | ((with_reducible apply fv_b); exact rfl) | ((with_reducible apply wp_kV); exact rfl) | ((with_reducible apply wp_kO_bor); exact rfl) | ((with_reducible apply wp_kO_own); exact rfl) | ((with_reducible apply wp_kO_val); exact rfl) | ((with_reducible apply wp_bopO); exact rfl) | ((with_reducible apply wp_cutO); exact rfl) | ((with_reducible apply wps_frz); exact rfl) | ((with_reducible apply wps_aug); exact rfl) | ((with_reducible apply oq_mutL_bor); exact rfl) | ((with_reducible apply oq_mutL_own); exact rfl) | ((with_reducible apply oq_tgTup); exact rfl) | ((with_reducible apply oq_ix_lk); exact rfl) | ((with_reducible apply oq_ix_tk); exact rfl) | ((with_reducible apply oq_setv); exact rfl; simp only [List.set]) | ((with_reducible apply oq_seto); exact rfl; simp only [List.set]) | ((with_reducible apply wp_gbor); exact rfl; exact rfl) | ((with_reducible apply wp_mut); exact rfl; exact ⟨_, rfl⟩) | ((with_reducible apply wps_seti); exact ⟨_, rfl⟩) | ((with_reducible apply cwp_of); exact rfl; exact rfl; try simp only [giveBack, setd, Sl.d]) | ((with_reducible apply oq_ixN_k); exact rfl; simp only [Sl.d, Sl.wi, List.set]) | ((with_reducible apply oq_mod); (first | omega | decide)) | ((with_reducible apply oq_div); (first | omega | decide)) | ((with_reducible apply oq_mul); (first | omega | decide)) | ((with_reducible apply oq_pow); (first | omega | decide)) | ((with_reducible apply oq_shl); (first | omega | decide)) | ((with_reducible apply oq_shr); (first | omega | decide)) | ((with_reducible apply oq_add_s); (first | omega | decide)) | ((with_reducible apply oq_len_s); (first | omega | decide)) | ((with_reducible apply oq_cut_s); (first | omega | decide)) | ((with_reducible apply oq_append); (first | omega | decide)) | ((with_reducible apply oq_insert); (first | omega | decide)) | ((with_reducible apply oq_extend); (first | omega | decide)) | ((with_reducible apply oq_rep); (first | omega | decide)) | ((with_reducible apply oq_cat); (first | omega | decide)) | ((with_reducible apply lok); exact rfl) | ((with_reducible refine it2_dec ?_ ?_) <;> intro)))
  refine inw_cons ⟨(lk_skip nb.1).trans ((lk_skip nb.2.1).trans ((lk_skip nb.2.2.1).trans ((lk_skip nb.2.2.2.1).trans ((lk_skip nb.2.2.2.2.1).trans (lk_skip nb.2.2.2.2.2))))), by simp⟩ ?_
  (repeat' (first | (with_reducible first | refine wp_kC ?_ | refine wp_bop ?_ | refine wp_tst ?_ | refine wp_val ?_ | refine wp_andK ?_ | refine wp_orK ?_ | refine wp_notK ?_ | refine wp_andV ?_ | refine wp_orV ?_ | refine wp_chain ?_ | refine wp_ifK ?_ | refine wp_nil ?_ | refine wp_cons ?_ | refine wp_gnil ?_ | refine wp_gval ?_ | refine wp_call ?_ | refine wp_neg ?_ | refine wp_b1 ?_ | refine wp_bn ?_ | refine wp_isi ?_ | refine wp_met ?_ | refine wp_pnone ?_ | refine wp_psome ?_ | refine wp_cut ?_ | refine wp_listK ?_ | refine wp_tupleK ?_ | refine wp_strK ?_ | refine wp_yes ?_ | refine wp_tup ?_ | refine wp_lst ?_ | refine tb_b ?_ | refine ti_b ?_ | refine tl_b ?_ | refine tt_b ?_ | refine ts_b ?_ | refine thn_nx ?_ | refine thn_rt ?_ | refine thn_bk ?_ | refine thn_ct ?_ | refine fin_rt ?_ | refine fin_nx ?_ | refine wps_seq ?_ | refine wps_next ?_ | refine wps_break ?_ | refine wps_cont ?_ | refine wps_drop ?_ | refine wps_ret ?_ | refine wps_retN ?_ | refine wps_if ?_ | refine wps_asg ?_ | refine oq_tgNil ?_ | refine oq_tgCons ?_ | refine it2_t ?_ | refine it2_f ?_ | refine it2_not ?_ | refine oq_add_i ?_ | refine oq_sub ?_ | refine oq_lt ?_ | refine oq_le ?_ | refine oq_gt ?_ | refine oq_ge ?_ | refine oq_eq_i ?_ | refine oq_ne_i ?_ | refine oq_eq_s ?_ | refine oq_ne_s ?_ | refine oq_eq_b ?_ | refine oq_ne_b ?_ | refine oq_is ?_ | refine oq_isNot ?_ | refine oq_in_s ?_ | refine oq_notIn_s ?_ | refine oq_len_l ?_ | refine oq_len_t ?_ | refine oq_int ?_ | refine oq_abs ?_ | refine oq_ord ?_ | refine oq_cut_l ?_ | refine oq_cut_t ?_ | refine oq_list_l ?_ | refine oq_list_t ?_ | refine oq_tuple_l ?_ | refine oq_tuple_t ?_ | refine oq_max2 ?_ | refine oq_min2 ?_ | refine oq_some ?_ | refine oq_len_sc ?_ | refine fq_nx ?_ | refine fq_ct ?_ | refine fq_bk ?_ | refine fq_rt ?_ | refine wfd_nil ?_ | refine wfd_cons ?_ | refine oq_eq_il ?_ | refine oq_ne_il ?_ | refine oq_eq_it ?_ | refine oq_ne_it ?_ | refine oq_lt_il ?_ | refine oq_lt_it ?_ | refine wp_isiC ?_ | refine wp_rev ?_ | refine wp_callF ?_ | refine wp_consF ?_ | refine wp_oneF ?_ | refine wp_cat ?_ | refine oq_isiC_ob ?_ | refine oq_isiC_t ?_ | refine oq_isiC_l ?_ | refine oq_eqI ?_ | refine oq_eqI_t ?_ | refine inw_nil ?_ | refine oq_isiE ?_ | refine oq_eqE ?_ | refine oq_eqEl ?_) | ((with_reducible apply fv_n); exact rfl) | ((with_reducible apply fv_v); exact rfl) | ((with_reducible apply fv_h); exact rfl) | ((with_reducible apply fv_m); exact rfl) | ((with_reducible apply fv_d); exact rfl) | ((with_reducible apply fv_t); exact rfl) | ((with_reducible apply fv_b); exact rfl) | ((with_reducible apply wp_kV); exact rfl) | ((with_reducible apply wp_kO_bor); exact rfl) | ((with_reducible apply wp_kO_own); exact rfl) | ((with_reducible apply wp_kO_val); exact rfl) | ((with_reducible apply wp_bopO); exact rfl) | ((with_reducible apply wp_cutO); exact rfl) | ((with_reducible apply wps_frz); exact rfl) | ((with_reducible apply wps_aug); exact rfl) | ((with_reducible apply oq_mutL_bor); exact rfl) | ((with_reducible apply oq_mutL_own); exact rfl) | ((with_reducible apply oq_tgTup); exact rfl) | ((with_reducible apply oq_ix_lk); exact rfl) | ((with_reducible apply oq_ix_tk); exact rfl) | ((with_reducible apply oq_setv); exact rfl; simp only [List.set]) | ((with_reducible apply oq_seto); exact rfl; simp only [List.set]) | ((with_reducible apply wp_gbor); exact rfl; exact rfl) | ((with_reducible apply wp_mut); exact rfl; exact ⟨_, rfl⟩) | ((with_reducible apply wps_seti); exact ⟨_, rfl⟩) | ((with_reducible apply cwp_of); exact rfl; exact rfl; try simp only [giveBack, setd, Sl.d]) | ((with_reducible apply oq_ixN_k); exact rfl; simp only [Sl.d, Sl.wi, List.set]) | ((with_reducible apply oq_mod); (first | omega | decide)) | ((with_reducible apply oq_div); (first | omega | decide)) | ((with_reducible apply oq_mul); (first | omega | decide)) | ((with_reducible apply oq_pow); (first | omega | decide)) | ((with_reducible apply oq_shl); (first | omega | decide)) | ((with_reducible apply oq_shr); (first | omega | decide)) | ((with_reducible apply oq_add_s); (first | omega | decide)) | ((with_reducible apply oq_len_s); (first | omega | decide)) | ((with_reducible apply oq_cut_s); (first | omega | decide)) | ((with_reducible apply oq_append); (first | omega | decide)) | ((with_reducible apply oq_insert); (first | omega | decide)) | ((with_reducible apply oq_extend); (first | omega | decide)) | ((with_reducible apply oq_rep); (first | omega | decide)) | ((with_reducible apply oq_cat); (first | omega | decide)) | ((with_reducible apply lok); exact rfl) | ((with_reducible refine it2_dec ?_ ?_) <;> intro)))
  exact r
end
section
variable {ρ : En} {Q : D → En → Prop} {i : Nat} {e : Ent}
theorem fv_n (k : ρ[i]? = some (some (.val (eD C e)))) (h : Q (.str e.name) ρ) : wp (fldK C "name" (Dz.kV i)) ρ Q := wp_fld (wp_kV k ⟨_, _, rfl, lk_n, h⟩)
theorem fv_v (k : ρ[i]? = some (some (.val (eD C e)))) (h : Q (VD e.vec) ρ) : wp (fldK C "vector" (Dz.kV i)) ρ Q := wp_fld (wp_kV k ⟨_, _, rfl, lk_v, h⟩)
theorem fv_h (k : ρ[i]? = some (some (.val (eD C e)))) (h : Q (.int e.h) ρ) : wp (fldK C "height" (Dz.kV i)) ρ Q := wp_fld (wp_kV k ⟨_, _, rfl, lk_h, h⟩)
theorem fv_m (k : ρ[i]? = some (some (.val (eD C e)))) (h : Q (.tuple [.int e.m1, .int e.m2]) ρ) : wp (fldK C "maker" (Dz.kV i)) ρ Q := wp_fld (wp_kV k ⟨_, _, rfl, lk_m, h⟩)
theorem fv_d (k : ρ[i]? = some (some (.val (eD C e)))) (h : Q (.bool e.del) ρ) : wp (fldK C "deleted" (Dz.kV i)) ρ Q := wp_fld (wp_kV k ⟨_, _, rfl, lk_d, h⟩)
theorem fv_t (k : ρ[i]? = some (some (.val (eD C e)))) (h : Q (.int e.time) ρ) : wp (fldK C "time" (Dz.kV i)) ρ Q := wp_fld (wp_kV k ⟨_, _, rfl, lk_t, h⟩)
theorem fv_b (k : ρ[i]? = some (some (.val (eD C e)))) (h : Q (.tuple (e.bl.map PyData.int)) ρ) : wp (fldK C "blocks" (Dz.kV i)) ρ Q := wp_fld (wp_kV k ⟨_, _, rfl, lk_b, h⟩)
end
theorem oq_isiE {C : Nat} {e : Ent} {Q : Bool → Prop} (h : Q true) : oq (isiCB C (eD C e)) Q := oq_isiC_ob h
theorem oq_eqE {C : Nat} {e e' : Ent} {fm : Fm} {Q : D → Prop} (h : fwp fm [.val (eD C e), .val (eD C e')] fun d _ => tb d fun b => Q (.bool b)) : oq (dEqI C fm (eD C e) (eD C e')) Q := oq_eqI h
theorem oq_eqEl {C : Nat} {e : Ent} {es : List D} {fm : Fm} {Q : D → Prop} (h : fwp fm [.val (eD C e), .val (.list es)] fun d _ => tb d fun b => Q (.bool b)) : oq (dEqI C fm (eD C e) (.list es)) Q := oq_eqI_l h
--R1 oq_isiE oq_eqE oq_eqEl
--R2 fv_n fv_v fv_h fv_m fv_d fv_t fv_b
local macro_rules | `(tactic| array_mem_dec) => `(tactic| (repeat' (first | (with_reducible first | refine wp_kC ?_ | refine wp_bop ?_ | refine wp_tst ?_ | refine wp_val ?_ | refine wp_andK ?_ | refine wp_orK ?_ | refine wp_notK ?_ | refine wp_andV ?_ | refine wp_orV ?_ | refine wp_chain ?_ | refine wp_ifK ?_ | refine wp_nil ?_ | refine wp_cons ?_ | refine wp_gnil ?_ | refine wp_gval ?_ | refine wp_call ?_ | refine wp_neg ?_ | refine wp_b1 ?_ | refine wp_bn ?_ | refine wp_isi ?_ | refine wp_met ?_ | refine wp_pnone ?_ | refine wp_psome ?_ | refine wp_cut ?_ | refine wp_listK ?_ | refine wp_tupleK ?_ | refine wp_strK ?_ | refine wp_yes ?_ | refine wp_tup ?_ | refine wp_lst ?_ | refine tb_b ?_ | refine ti_b ?_ | refine tl_b ?_ | refine tt_b ?_ | refine ts_b ?_ | refine thn_nx ?_ | refine thn_rt ?_ | refine thn_bk ?_ | refine thn_ct ?_ | refine fin_rt ?_ | refine fin_nx ?_ | refine wps_seq ?_ | refine wps_next ?_ | refine wps_break ?_ | refine wps_cont ?_ | refine wps_drop ?_ | refine wps_ret ?_ | refine wps_retN ?_ | refine wps_if ?_ | refine wps_asg ?_ | refine oq_tgNil ?_ | refine oq_tgCons ?_ | refine it2_t ?_ | refine it2_f ?_ | refine it2_not ?_ | refine oq_add_i ?_ | refine oq_sub ?_ | refine oq_lt ?_ | refine oq_le ?_ | refine oq_gt ?_ | refine oq_ge ?_ | refine oq_eq_i ?_ | refine oq_ne_i ?_ | refine oq_eq_s ?_ | refine oq_ne_s ?_ | refine oq_eq_b ?_ | refine oq_ne_b ?_ | refine oq_is ?_ | refine oq_isNot ?_ | refine oq_in_s ?_ | refine oq_notIn_s ?_ | refine oq_len_l ?_ | refine oq_len_t ?_ | refine oq_int ?_ | refine oq_abs ?_ | refine oq_ord ?_ | refine oq_cut_l ?_ | refine oq_cut_t ?_ | refine oq_list_l ?_ | refine oq_list_t ?_ | refine oq_tuple_l ?_ | refine oq_tuple_t ?_ | refine oq_max2 ?_ | refine oq_min2 ?_ | refine oq_some ?_ | refine oq_len_sc ?_ | refine fq_nx ?_ | refine fq_ct ?_ | refine fq_bk ?_ | refine fq_rt ?_ | refine wfd_nil ?_ | refine wfd_cons ?_ | refine oq_eq_il ?_ | refine oq_ne_il ?_ | refine oq_eq_it ?_ | refine oq_ne_it ?_ | refine oq_lt_il ?_ | refine oq_lt_it ?_ | refine wp_isiC ?_ | refine wp_rev ?_ | refine wp_callF ?_ | refine wp_consF ?_ | refine wp_oneF ?_ | refine wp_cat ?_ | refine oq_isiC_ob ?_ | refine oq_isiC_t ?_ | refine oq_isiC_l ?_ | refine oq_eqI ?_ | refine oq_eqI_t ?_ | refine inw_nil ?_ | refine oq_isiE ?_ | refine oq_eqE ?_ | refine oq_eqEl ?_) | ((with_reducible apply fv_n); exact rfl) | ((with_reducible apply fv_v); exact rfl) | ((with_reducible apply fv_h); exact rfl) | ((with_reducible apply fv_m); exact rfl) | ((with_reducible apply fv_d); exact rfl) | ((with_reducible apply fv_t); exact rfl) | ((with_reducible apply fv_b); exact rfl) | ((with_reducible apply wp_kV); exact rfl) | ((with_reducible apply wp_kO_bor); exact rfl) | ((with_reducible apply wp_kO_own); exact rfl) | ((with_reducible apply wp_kO_val); exact rfl) | ((with_reducible apply wp_bopO); exact rfl) | ((with_reducible apply wp_cutO); exact rfl) | ((with_reducible apply wps_frz); exact rfl) | ((with_reducible apply wps_aug); exact rfl) | ((with_reducible apply oq_mutL_bor); exact rfl) | ((with_reducible apply oq_mutL_own); exact rfl) | ((with_reducible apply oq_tgTup); exact rfl) | ((with_reducible apply oq_ix_lk); exact rfl) | ((with_reducible apply oq_ix_tk); exact rfl) | ((with_reducible apply oq_setv); exact rfl; simp only [List.set]) | ((with_reducible apply oq_seto); exact rfl; simp only [List.set]) | ((with_reducible apply wp_gbor); exact rfl; exact rfl) | ((with_reducible apply wp_mut); exact rfl; exact ⟨_, rfl⟩) | ((with_reducible apply wps_seti); exact ⟨_, rfl⟩) | ((with_reducible apply cwp_of); exact rfl; exact rfl; try simp only [giveBack, setd, Sl.d]) | ((with_reducible apply oq_ixN_k); exact rfl; simp only [Sl.d, Sl.wi, List.set]) | ((with_reducible apply oq_mod); (first | omega | decide)) | ((with_reducible apply oq_div); (first | omega | decide)) | ((with_reducible apply oq_mul); (first | omega | decide)) | ((with_reducible apply oq_pow); (first | omega | decide)) | ((with_reducible apply oq_shl); (first | omega | decide)) | ((with_reducible apply oq_shr); (first | omega | decide)) | ((with_reducible apply oq_add_s); (first | omega | decide)) | ((with_reducible apply oq_len_s); (first | omega | decide)) | ((with_reducible apply oq_cut_s); (first | omega | decide)) | ((with_reducible apply oq_append); (first | omega | decide)) | ((with_reducible apply oq_insert); (first | omega | decide)) | ((with_reducible apply oq_extend); (first | omega | decide)) | ((with_reducible apply oq_rep); (first | omega | decide)) | ((with_reducible apply oq_cat); (first | omega | decide)) | ((with_reducible apply lok); exact rfl) | ((with_reducible refine it2_dec ?_ ?_) <;> intro))))
local macro_rules | `(tactic| array_get_dec) => `(tactic| (repeat' (first | (with_reducible first | refine wp_kC ?_ | refine wp_bop ?_ | refine wp_tst ?_ | refine wp_val ?_ | refine wp_andK ?_ | refine wp_orK ?_ | refine wp_notK ?_ | refine wp_andV ?_ | refine wp_orV ?_ | refine wp_chain ?_ | refine wp_ifK ?_ | refine wp_nil ?_ | refine wp_cons ?_ | refine wp_gnil ?_ | refine wp_gval ?_ | refine wp_call ?_ | refine wp_neg ?_ | refine wp_b1 ?_ | refine wp_bn ?_ | refine wp_isi ?_ | refine wp_met ?_ | refine wp_pnone ?_ | refine wp_psome ?_ | refine wp_cut ?_ | refine wp_listK ?_ | refine wp_tupleK ?_ | refine wp_strK ?_ | refine wp_yes ?_ | refine wp_tup ?_ | refine wp_lst ?_ | refine tb_b ?_ | refine ti_b ?_ | refine tl_b ?_ | refine tt_b ?_ | refine ts_b ?_ | refine thn_rt ?_ | refine thn_bk ?_ | refine thn_ct ?_ | refine fin_rt ?_ | refine fin_nx ?_ | refine wps_seq ?_ | refine wps_next ?_ | refine wps_break ?_ | refine wps_cont ?_ | refine wps_drop ?_ | refine wps_ret ?_ | refine wps_retN ?_ | refine wps_if ?_ | refine wps_asg ?_ | refine oq_tgNil ?_ | refine oq_tgCons ?_ | refine it2_t ?_ | refine it2_f ?_ | refine it2_not ?_ | refine oq_add_i ?_ | refine oq_sub ?_ | refine oq_lt ?_ | refine oq_le ?_ | refine oq_gt ?_ | refine oq_ge ?_ | refine oq_eq_i ?_ | refine oq_ne_i ?_ | refine oq_eq_s ?_ | refine oq_ne_s ?_ | refine oq_eq_b ?_ | refine oq_ne_b ?_ | refine oq_is ?_ | refine oq_isNot ?_ | refine oq_in_s ?_ | refine oq_notIn_s ?_ | refine oq_len_l ?_ | refine oq_len_t ?_ | refine oq_int ?_ | refine oq_abs ?_ | refine oq_ord ?_ | refine oq_cut_l ?_ | refine oq_cut_t ?_ | refine oq_list_l ?_ | refine oq_list_t ?_ | refine oq_tuple_l ?_ | refine oq_tuple_t ?_ | refine oq_max2 ?_ | refine oq_min2 ?_ | refine oq_some ?_ | refine oq_len_sc ?_ | refine fq_nx ?_ | refine fq_ct ?_ | refine fq_bk ?_ | refine fq_rt ?_ | refine wfd_nil ?_ | refine wfd_cons ?_ | refine oq_eq_il ?_ | refine oq_ne_il ?_ | refine oq_eq_it ?_ | refine oq_ne_it ?_ | refine oq_lt_il ?_ | refine oq_lt_it ?_ | refine wp_isiC ?_ | refine wp_rev ?_ | refine wp_callF ?_ | refine wp_consF ?_ | refine wp_oneF ?_ | refine wp_cat ?_ | refine oq_isiC_ob ?_ | refine oq_isiC_t ?_ | refine oq_isiC_l ?_ | refine oq_eqI ?_ | refine oq_eqI_t ?_ | refine inw_nil ?_ | refine oq_isiE ?_ | refine oq_eqE ?_ | refine oq_eqEl ?_) | ((with_reducible apply fv_n); exact rfl) | ((with_reducible apply fv_v); exact rfl) | ((with_reducible apply fv_h); exact rfl) | ((with_reducible apply fv_m); exact rfl) | ((with_reducible apply fv_d); exact rfl) | ((with_reducible apply fv_t); exact rfl) | ((with_reducible apply fv_b); exact rfl) | ((with_reducible apply wp_kV); exact rfl) | ((with_reducible apply wp_kO_bor); exact rfl) | ((with_reducible apply wp_kO_own); exact rfl) | ((with_reducible apply wp_kO_val); exact rfl) | ((with_reducible apply wp_bopO); exact rfl) | ((with_reducible apply wp_cutO); exact rfl) | ((with_reducible apply wps_frz); exact rfl) | ((with_reducible apply wps_aug); exact rfl) | ((with_reducible apply oq_mutL_bor); exact rfl) | ((with_reducible apply oq_mutL_own); exact rfl) | ((with_reducible apply oq_tgTup); exact rfl) | ((with_reducible apply oq_ix_lk); exact rfl) | ((with_reducible apply oq_ix_tk); exact rfl) | ((with_reducible apply oq_setv); exact rfl; simp only [List.set]) | ((with_reducible apply oq_seto); exact rfl; simp only [List.set]) | ((with_reducible apply wp_gbor); exact rfl; exact rfl) | ((with_reducible apply wp_mut); exact rfl; exact ⟨_, rfl⟩) | ((with_reducible apply wps_seti); exact ⟨_, rfl⟩) | ((with_reducible apply cwp_of); exact rfl; exact rfl; try simp only [giveBack, setd, Sl.d]) | ((with_reducible apply oq_ixN_k); exact rfl; simp only [Sl.d, Sl.wi, List.set]) | ((with_reducible apply oq_mod); (first | omega | decide)) | ((with_reducible apply oq_div); (first | omega | decide)) | ((with_reducible apply oq_mul); (first | omega | decide)) | ((with_reducible apply oq_pow); (first | omega | decide)) | ((with_reducible apply oq_shl); (first | omega | decide)) | ((with_reducible apply oq_shr); (first | omega | decide)) | ((with_reducible apply oq_add_s); (first | omega | decide)) | ((with_reducible apply oq_len_s); (first | omega | decide)) | ((with_reducible apply oq_cut_s); (first | omega | decide)) | ((with_reducible apply oq_append); (first | omega | decide)) | ((with_reducible apply oq_insert); (first | omega | decide)) | ((with_reducible apply oq_extend); (first | omega | decide)) | ((with_reducible apply oq_rep); (first | omega | decide)) | ((with_reducible apply oq_cat); (first | omega | decide)) | ((with_reducible apply lok); exact rfl) | ((with_reducible refine it2_dec ?_ ?_) <;> intro))))
local macro_rules | `(tactic| sizeOf_list_dec) => `(tactic| (try simp only [List.set, Sl.wi, Sl.d, List.map_cons, List.map_nil, Nat.reduceSub, List.reduceReplicate, List.cons_append, List.nil_append, finA, giveBack, setd, wipeA, unw, List.getElem?_cons_zero, List.getElem?_cons_succ, Option.getD_some, Option.getD_none]))
def FT (e : Ent) : D := .tuple [.str e.name, VD e.vec, .int e.h, .tuple [.int e.m1, .int e.m2], .bool e.del, .int e.time, .tuple (e.bl.map PyData.int)]
theorem fields_ok {e : Ent} {Q : D → List Sl → Prop} (q : Q (FT e) [.val (eD C e)]) : fwp (f_Entry_fields C) [.val (eD C e)] Q := by
  unfold f_Entry_fields m_Entry_fields
  refine fwp_run rfl rfl ?_
  sizeOf_list_dec
  array_mem_dec
  sizeOf_list_dec
  exact q
theorem noFields {e : Ent} : noF C "fields" (eD C e) = true := noF_self (by
  have : ¬ ("fields" : Str) = "name" ∧ ¬ ("fields" : Str) = "vector" ∧ ¬ ("fields" : Str) = "height" ∧ ¬ ("fields" : Str) = "maker" ∧ ¬ ("fields" : Str) = "deleted" ∧ ¬ ("fields" : Str) = "time" ∧ ¬ ("fields" : Str) = "blocks" := by decide +kernel
  exact (lk_skip this.1).trans ((lk_skip this.2.1).trans ((lk_skip this.2.2.1).trans ((lk_skip this.2.2.2.1).trans ((lk_skip this.2.2.2.2.1).trans ((lk_skip this.2.2.2.2.2.1).trans (lk_skip this.2.2.2.2.2.2)))))))
theorem okD_VD (k : Nat) (v : Vec) : okD (k + 2) (VD v) = true := by
  show (VL v).all (okD (k + 1)) = true
  rw [List.all_eq_true]
  intro d hd
  obtain ⟨p, _, rfl⟩ := List.mem_map.mp hd
  show [PyData.int p.1, PyData.int p.2].all (okD k) = true
  cases k <;> rfl
def gdN (s : Str) : Prop := PyData.strOk s = true
theorem okD_FT {e : Ent} (h : gdN e.name) : okD 60 (FT e) = true := by
  have h' : PyData.strOk e.name = true := h
  show [PyData.str e.name, VD e.vec, .int e.h, .tuple [.int e.m1, .int e.m2], .bool e.del, .int e.time, .tuple (e.bl.map PyData.int)].all (okD 59) = true
  have h1 : okD 59 (VD e.vec) = true := okD_VD 57 e.vec
  have h2 : okD 59 (.tuple (e.bl.map PyData.int)) = true := okD_ints 58 e.bl
  simp only [List.all_cons, List.all_nil, h1, h2, Bool.and_true, Bool.true_and]
  simp [okD, h']
theorem eq_FT {e e' : Ent} (h : gdN e.name) (h' : gdN e'.name) : dEqB (FT e) (FT e') = some (PyData.eqv (FT e) (FT e')) := by
  show (if okD 60 (FT e) = true ∧ okD 60 (FT e') = true then _ else _) = _
  rw [if_pos ⟨okD_FT h, okD_FT h'⟩]
theorem eqI_ok {e e' : Ent} (h : gdN e.name) (h' : gdN e'.name) {Q : D → List Sl → Prop} (q : Q (.bool (PyData.eqv (FT e) (FT e'))) [.val (eD C e), .val (eD C e')]) : fwp (f_Entry_eq C) [.val (eD C e), .val (eD C e')] Q := by
  unfold f_Entry_eq m_Entry_eq
  refine fwp_run rfl rfl ?_
  sizeOf_list_dec
  array_mem_dec
  refine wp_meth ?_
  array_mem_dec
  refine ⟨noFields, ?_⟩
  array_mem_dec
  refine fields_ok ?_
  sizeOf_list_dec
  array_mem_dec
  refine wp_meth ?_
  array_mem_dec
  refine ⟨noFields, ?_⟩
  array_mem_dec
  refine fields_ok ?_
  sizeOf_list_dec
  array_mem_dec
  refine oq_eq_d (eq_FT h h') ?_
  sizeOf_list_dec
  exact q
theorem eqIl_ok {e : Ent} {ds : List D} {Q : D → List Sl → Prop} (q : Q (.bool false) [.val (eD C e), .val (.list ds)]) : fwp (f_Entry_eq C) [.val (eD C e), .val (.list ds)] Q := by
  unfold f_Entry_eq m_Entry_eq
  refine fwp_run rfl rfl ?_
  sizeOf_list_dec
  array_mem_dec
  sizeOf_list_dec
  exact q
/-! ### vectors -/
def cnt : Vec → Int → Int
  | [], _ => 0
  | p :: v, d => if p.1 = d then p.2 else cnt v d
theorem count_ok {v : Vec} {d : Int} {Q : D → List Sl → Prop} (q : Q (.int (cnt v d)) [.val (VD v), .val (.int d)]) : fwp (f_count_of C) [.val (VD v), .val (.int d)] Q := by
  unfold f_count_of m_count_of VD at *
  refine fwp_run rfl rfl ?_
  sizeOf_list_dec
  array_mem_dec
  refine wps_for (wp_tupleK ?_)
  array_mem_dec
  refine ⟨fun ds ρ => ∃ (as bs : Vec) (x y : Option Sl), v = as ++ bs ∧ cnt v d = cnt bs d ∧ ds = VL bs ∧ Vn x ∧ Vn y ∧ ρ = [some (.val (.tuple (VL v))), some (.val (.int d)), x, y], ⟨[], v, none, none, rfl, rfl, rfl, .inl rfl, .inl rfl, rfl⟩, ?_, ?_⟩
  · rintro z ds ρ ⟨as, bs, x, y, e1, e2, e3, hx, hy, rfl⟩
    cases bs with
    | nil => cases e3
    | cons p bs =>
      simp only [VL, List.map_cons, List.cons.injEq] at e3
      obtain ⟨rfl, rfl⟩ := e3
      array_mem_dec
      refine oq_setv_nb rfl hx ?_
      simp only [List.set]
      array_mem_dec
      refine oq_setv_nb rfl hy ?_
      simp only [List.set]
      array_mem_dec
      · rename_i h
        sizeOf_list_dec
        rw [e2] at q
        unfold cnt at q
        rw [if_pos h] at q
        exact q
      · rename_i h
        refine ⟨as ++ [p], bs, _, _, by simp [e1], ?_, rfl, .inr ⟨_, rfl⟩, .inr ⟨_, rfl⟩, rfl⟩
        rw [e2]
        show (if _ then _ else _) = _
        rw [if_neg h]
  · rintro ρ ⟨as, bs, x, y, e1, e2, e3, hx, hy, rfl⟩
    cases bs with
    | cons p bs => cases e3
    | nil =>
      array_mem_dec
      sizeOf_list_dec
      rw [e2] at q
      exact q
def LF (f : Nat → Int) : List D := (List.range 9).map fun i => .int (f i)
theorem LF_len {f : Nat → Int} : (LF f).length = 9 := by unfold LF; simp
theorem LF_ints {f : Nat → Int} : LF f = ((List.range 9).map f).map PyData.int := by
  unfold LF
  rw [List.map_map]
  rfl
def cs (v : Vec) : Nat → Int := fun i => cnt v ((i : Nat) + 1)
theorem counts_ok {v : Vec} {Q : D → List Sl → Prop} (q : Q (.tuple (LF (cs v))) [.val (VD v)]) : fwp (f_counts_of C) [.val (VD v)] Q := by
  unfold f_counts_of m_counts_of
  refine fwp_run rfl rfl ?_
  sizeOf_list_dec
  array_mem_dec
  refine wp_map (List.range 9) (fun i => .int (1 + (i : Nat))) (fun i => .int (cs v i)) (wp_range2 ?_)
  array_mem_dec
  refine ⟨1, 10, rfl, by decide, nums_map _ _, by simp, fun i hi => ?_, ?_⟩
  · sizeOf_list_dec
    array_mem_dec
    refine count_ok ?_
    sizeOf_list_dec
    rw [show (1 : Int) + (i : Nat) = (i : Nat) + 1 by omega]
    exact ⟨rfl, trivial⟩
  · array_mem_dec
    sizeOf_list_dec
    exact q
theorem LF_ix {f : Nat → Int} {k : Int} (h0 : 0 ≤ k) (h1 : k < 9) {Q : D → Prop} (q : Q (.int (f k.toNat))) : oq (dIx (.list (LF f)) (.int k)) Q := by
  refine oq_ix_l h0 (by rw [LF_len]; omega) fun z hz => ?_
  unfold LF at hz
  rw [List.getElem?_map, List.getElem?_range (by omega)] at hz
  cases hz
  exact q
def vo (f : Nat → Int) : Vec := ((List.range 9).filter fun i => decide (0 < f i)).map fun i => (((i : Nat) : Int) + 1, f i)
theorem vector_of_ok {f : Nat → Int} {Q : D → List Sl → Prop} (q : Q (VD (vo f)) [.val (.list (LF f))]) : fwp (f_vector_of C) [.val (.list (LF f))] Q := by
  unfold f_vector_of m_vector_of
  refine fwp_run rfl rfl ?_
  sizeOf_list_dec
  array_mem_dec
  refine wp_fmap (List.range 9) (fun i => .int (0 + (i : Nat))) (fun i => decide (0 < f i)) (fun i => .tuple [.int (((i : Nat) : Int) + 1), .int (f i)]) (wp_range1 ?_)
  array_mem_dec
  refine ⟨9, rfl, by decide, nums_map _ _, by simp, fun i hi => ?_, ?_⟩
  · have hi := List.mem_range.mp hi
    rw [Int.zero_add]
    sizeOf_list_dec
    array_mem_dec
    refine LF_ix (by omega) (by omega) ?_
    array_mem_dec
    refine ⟨rfl, fun _ => ?_, fun _ => rfl⟩
    array_mem_dec
    refine LF_ix (by omega) (by omega) ?_
    array_mem_dec
    exact ⟨rfl, rfl⟩
  · array_mem_dec
    sizeOf_list_dec
    unfold VD VL vo at q
    rw [List.map_map] at q
    exact q
theorem zip_LF {f g : Nat → Int} : zipD (LF f) (LF g) = (List.range 9).map fun i => .tuple [.int (f i), .int (g i)] := by
  unfold zipD LF
  rw [List.zip_map', List.map_map]
  rfl
theorem zip_nx {f g : Nat → Int} : (zipD (LF f) (LF g)).all noXd = true := by
  rw [zip_LF]
  rfl
def mx (f g : Nat → Int) : Nat → Int := fun i => if g i > f i then g i else f i
theorem join_ok {v w : Vec} {Q : D → List Sl → Prop} (q : Q (VD (vo (mx (cs v) (cs w)))) [.val (VD v), .val (VD w)]) : fwp (f_join C) [.val (VD v), .val (VD w)] Q := by
  unfold f_join m_join
  refine fwp_run rfl rfl ?_
  sizeOf_list_dec
  array_mem_dec
  refine wp_map (List.range 9) (fun i => .tuple [.int (cs v i), .int (cs w i)]) (fun i => .int (mx (cs v) (cs w) i)) (wp_zipT ?_)
  array_mem_dec
  refine counts_ok ?_
  sizeOf_list_dec
  array_mem_dec
  refine counts_ok ?_
  sizeOf_list_dec
  array_mem_dec
  refine ⟨_, _, rfl, zip_nx, zip_LF, by simp, fun i hi => ?_, ?_⟩
  · sizeOf_list_dec
    array_mem_dec
    exact ⟨rfl, by first | rfl | trivial⟩
  · array_mem_dec
    refine vector_of_ok (f := mx (cs v) (cs w)) ?_
    sizeOf_list_dec
    array_mem_dec
    sizeOf_list_dec
    exact q
def KD (e : Ent) : D := .tuple [.int e.h, .int e.time, .int (if e.del then 0 else 1), .int (-e.m1), .int (-e.m2), .tuple (LF (cs e.vec))]
theorem key_ok {e : Ent} {Q : D → List Sl → Prop} (q : Q (KD e) [.val (eD C e)]) : fwp (f_key_of C) [.val (eD C e)] Q := by
  unfold f_key_of m_key_of
  refine fwp_run rfl rfl ?_
  sizeOf_list_dec
  array_mem_dec
  have fin' : ∀ l, l = (if e.del then (0 : Int) else 1) → Q (.tuple [.int e.h, .int e.time, .int l, .int (-e.m1), .int (-e.m2), .tuple (LF (cs e.vec))]) [.val (eD C e)] := fun l h => by
    subst h
    exact q
  refine it2_b (fun hd => ?_) (fun hd => ?_)
  all_goals array_mem_dec
  all_goals refine counts_ok ?_
  all_goals sizeOf_list_dec
  all_goals array_mem_dec
  all_goals sizeOf_list_dec
  all_goals refine fin' _ ?_
  all_goals rw [hd]
  all_goals rfl
/-- vectors as they are drawn -/
def VOk (v : Vec) : Prop := (v.map (·.1)).Nodup ∧ ∀ p, p ∈ v → 1 ≤ p.1 ∧ p.1 ≤ 9 ∧ 1 ≤ p.2
theorem cs_out {v : Vec} {i : Nat} (h : ¬ ((i : Nat) : Int) + 1 ∈ v.map (·.1)) : cs v i = 0 := by
  unfold cs
  induction v with
  | nil => rfl
  | cons p v ih =>
    simp at h
    show (if p.1 = _ then _ else _) = _
    rw [if_neg fun z => h.1 z.symm]
    exact ih (by simp; exact h.2)
theorem LF_congr {f g : Nat → Int} (h : ∀ i, i < 9 → f i = g i) : LF f = LF g := by
  unfold LF
  refine List.map_congr_left fun i hi => ?_
  rw [h i (List.mem_range.mp hi)]
theorem dInt_b {b : Bool} {Q : D → Prop} (q : Q (.int (if b then 1 else 0))) : oq (dInt [.bool b]) Q := ⟨_, rfl, q⟩
/-! ### the winner -/
def al (e e' : Ent) : Bool := decide (e.del = e'.del) && decide (e.bl = e'.bl)
theorem alike_ok {e e' : Ent} {Q : D → List Sl → Prop} (q : Q (.bool (al e e')) [.val (eD C e), .val (eD C e')]) : fwp (f_alike C) [.val (eD C e), .val (eD C e')] Q := by
  unfold f_alike m_alike
  unfold al at q
  refine fwp_run rfl rfl ?_
  sizeOf_list_dec
  array_mem_dec
  · rename_i h
    sizeOf_list_dec
    rw [decide_eq_true h, Bool.true_and] at q
    exact q
  · rename_i h
    sizeOf_list_dec
    rw [decide_eq_false h, Bool.false_and] at q
    exact q
theorem okC_KD (e e' : Ent) : okC (KD e) (KD e') = true := by
  have h1 : ∀ e : Ent, okD 60 (KD e) = true := fun e => by
    show [PyData.int e.h, .int e.time, .int (if e.del then 0 else 1), .int (-e.m1), .int (-e.m2), .tuple (LF (cs e.vec))].all (okD 59) = true
    have h2 : okD 59 (.tuple (LF (cs e.vec))) = true := by
      rw [LF_ints]
      exact okD_ints 58 _
    simp only [List.all_cons, List.all_nil, h2]
    rfl
  unfold okC
  rw [h1 e, h1 e']
  unfold KD
  simp only [PySem.W.alike, PySem.W.alikeAll]
  rw [LF_ints, LF_ints, alike_ints]
  rfl
def gtK (e e' : Ent) : Bool := PySem.W.dataLt (KD e') (KD e)
theorem gtK_self (e : Ent) : gtK e e = false := PySem.W.dataLt_self _
theorem oq_gtK {e e' : Ent} {Q : D → Prop} (q : Q (.bool (gtK e e'))) : oq (dGt (KD e) (KD e')) Q := by
  have h : dGt (KD e) (KD e') = if okC (KD e) (KD e') = true then some (.bool (PySem.W.dataLt (KD e') (KD e))) else none := rfl
  rw [if_pos (okC_KD e e')] at h
  exact ⟨_, h, q⟩
def EL (C : Nat) (es : List Ent) : List D := es.map (eD C)
theorem EL_ix {es : List Ent} {k : Nat} (h : k < es.length) {Q : D → Prop} (q : ∀ e, es[k]? = some e → Q (eD C e)) : oq (dIx (.list (EL C es)) (.int (k : Nat))) Q := by
  refine oq_ix_l (by omega) (by unfold EL; rw [List.length_map]; omega) fun z hz => ?_
  unfold EL at hz
  rw [Int.toNat_natCast, List.getElem?_map, List.getElem?_eq_getElem h] at hz
  cases hz
  exact q _ (List.getElem?_eq_getElem h)
theorem EL_ix0 {b : Ent} {es : List Ent} {Q : D → Prop} (q : Q (eD C b)) : oq (dIx (.list (EL C (b :: es))) (.int 0)) Q := EL_ix (k := 0) (by simp) fun e he => by
  cases he
  exact q
def best (b : Ent) (es : List Ent) : Ent := es.foldl (fun b e => if gtK e b = true then e else b) b
theorem best_mem : ∀ (es : List Ent) (b : Ent), best b es = b ∨ best b es ∈ es
  | [], b => .inl rfl
  | e :: es, b => by
    show best (if gtK e b = true then e else b) es = b ∨ _
    rcases best_mem es (if gtK e b = true then e else b) with h | h
    · rw [h]
      split
      · exact .inr (by show best (if gtK e b = true then e else b) es ∈ _; rw [h, if_pos (by assumption)]; simp)
      · exact .inl rfl
    · exact .inr (List.mem_cons_of_mem _ h)
theorem greatest_ok {b : Ent} {es : List Ent} {Q : D → List Sl → Prop} (q : Q (eD C (best b es)) [.val (.list (EL C (b :: es)))]) : fwp (f_greatest C) [.val (.list (EL C (b :: es)))] Q := by
  unfold f_greatest m_greatest
  refine fwp_run rfl rfl ?_
  sizeOf_list_dec
  array_mem_dec
  refine EL_ix0 ?_
  array_mem_dec
  refine wps_for (wp_listK ?_)
  array_mem_dec
  have ec : cutD (EL C (b :: es)) (some 1) none = EL C es := by
    unfold cutD
    rw [show HT.sIx (EL C (b :: es)).length 0 (some 1) = 1 by rw [show (1 : Int) = ((1 : Nat) : Int) from rfl, HT.sIx_nat]; simp [EL], HT.sIx_none]
    show (EL C es).take _ = _
    rw [List.take_of_length_le (by simp [EL])]
  rw [ec]
  refine ⟨fun ds ρ => ∃ (as bs : List Ent) (x : Option Sl), es = as ++ bs ∧ ds = EL C bs ∧ Vn x ∧ ρ = [some (.val (.list (EL C (b :: es)))), some (.val (eD C (best b as))), x], ⟨[], es, none, rfl, rfl, .inl rfl, rfl⟩, ?_, ?_⟩
  · rintro z ds ρ ⟨as, bs, x, e1, e3, hx, rfl⟩
    cases bs with
    | nil => cases e3
    | cons p bs =>
      simp only [EL, List.map_cons, List.cons.injEq] at e3
      obtain ⟨rfl, rfl⟩ := e3
      have hb : best b (as ++ [p]) = if gtK p (best b as) = true then p else best b as := by
        unfold best
        rw [List.foldl_append]
        rfl
      (refine oq_setv_nb rfl hx ?_; simp only [List.set])
      array_mem_dec
      refine key_ok ?_
      sizeOf_list_dec
      array_mem_dec
      refine key_ok ?_
      sizeOf_list_dec
      array_mem_dec
      refine oq_gtK ?_
      array_mem_dec
      refine it2_b (fun h => ?_) (fun h => ?_)
      · array_mem_dec
        rw [if_pos h] at hb
        rw [← hb]
        exact ⟨as ++ [p], bs, some (.val (eD C p)), by simp [e1], rfl, .inr ⟨_, rfl⟩, by rw [hb]⟩
      · array_mem_dec
        rw [if_neg (by rw [h]; exact Bool.false_ne_true)] at hb
        rw [← hb]
        exact ⟨as ++ [p], bs, some (.val (eD C p)), by simp [e1], rfl, .inr ⟨_, rfl⟩, rfl⟩
  · rintro ρ ⟨as, bs, x, e1, e3, hx, rfl⟩
    cases bs with
    | cons p bs => cases e3
    | nil =>
      rw [List.append_nil] at e1
      subst e1
      array_mem_dec
      sizeOf_list_dec
      exact q
/-- the counts of those alike -/
def joined (b : Ent) (es : List Ent) (f : Nat → Int) : Nat → Int := es.foldl (fun g e => if al e b = true then mx g (cs e.vec) else g) f
theorem cs_vo {f : Nat → Int} (h : ∀ i, i < 9 → 0 ≤ f i) {i : Nat} (hi : i < 9) : cs (vo f) i = f i := by
  have key : ∀ (l : List Nat), l.Nodup → (∀ j, j ∈ l → 0 ≤ f j) → cnt ((l.filter fun i => decide (0 < f i)).map fun i => (((i : Nat) : Int) + 1, f i)) ((i : Nat) + 1) = if i ∈ l then f i else 0 := by
    intro l
    induction l with
    | nil => intro _ _; rfl
    | cons j l ih =>
      intro nd hp
      obtain ⟨n1, n2⟩ := List.nodup_cons.mp nd
      have ih := ih n2 fun k hk => hp k (List.mem_cons_of_mem _ hk)
      by_cases e : j = i
      · subst e
        by_cases p : 0 < f j
        · rw [List.filter_cons_of_pos (by simpa using p), List.map_cons, if_pos (by simp)]
          show (if _ then _ else _) = _
          rw [if_pos rfl]
        · rw [List.filter_cons_of_neg (by simpa using p), ih, if_neg n1, if_pos (by simp)]
          have := hp j (by simp)
          omega
      · have er : (if i ∈ j :: l then f i else 0) = if i ∈ l then f i else 0 := by
          by_cases m : i ∈ l
          · rw [if_pos m, if_pos (List.mem_cons_of_mem _ m)]
          · rw [if_neg m, if_neg (by simp [m]; exact fun z => e z.symm)]
        rw [er, ← ih]
        by_cases p : 0 < f j
        · rw [List.filter_cons_of_pos (by simpa using p), List.map_cons]
          show (if _ then _ else _) = _
          rw [if_neg (by omega)]
        · rw [List.filter_cons_of_neg (by simpa using p)]
  unfold cs vo
  rw [key _ List.nodup_range fun j hj => h j (List.mem_range.mp hj), if_pos (List.mem_range.mpr hi)]
theorem cs_nn {v : Vec} (h : VOk v) (i : Nat) : 0 ≤ cs v i := by
  unfold cs
  have key : ∀ v : Vec, (∀ p, p ∈ v → 1 ≤ p.2) → 0 ≤ cnt v ((i : Nat) + 1) := by
    intro v
    induction v with
    | nil => intro _; exact Int.le_refl 0
    | cons p v ih =>
      intro hv
      show 0 ≤ (if p.1 = ((i : Nat) : Int) + 1 then p.2 else cnt v ((i : Nat) + 1))
      split
      · have := hv p (by simp)
        omega
      · exact ih fun q hq => hv q (List.mem_cons_of_mem _ hq)
  exact key v fun p hp => (h.2 p hp).2.2
def stepJ (b e : Ent) (g : Nat → Int) : Nat → Int := if al e b = true then mx g (cs e.vec) else g
theorem joined_cons {b e : Ent} {es : List Ent} {f : Nat → Int} : joined b (e :: es) f = joined b es (stepJ b e f) := rfl
theorem stepJ_nn {b e : Ent} {g : Nat → Int} {i : Nat} (h : 0 ≤ g i) : 0 ≤ stepJ b e g i := by
  unfold stepJ
  split
  · unfold mx
    split <;> omega
  · exact h
theorem joined_max {b : Ent} : ∀ (es : List Ent) (f : Nat → Int) (i : Nat), 0 ≤ f i → joined b es f i = mx f (joined b es fun _ => 0) i
  | [], f, i, h => by
    show f i = if (0 : Int) > f i then 0 else f i
    rw [if_neg (by omega)]
  | e :: es, f, i, h => by
    have h1 : joined b es (stepJ b e f) i = if joined b es (fun _ => 0) i > stepJ b e f i then joined b es (fun _ => 0) i else stepJ b e f i := joined_max es _ i (stepJ_nn h)
    have h2 : joined b es (stepJ b e fun _ => 0) i = if joined b es (fun _ => 0) i > stepJ b e (fun _ => 0) i then joined b es (fun _ => 0) i else stepJ b e (fun _ => 0) i := joined_max es _ i (stepJ_nn (Int.le_refl 0))
    rw [joined_cons, joined_cons]
    show _ = if joined b es (stepJ b e fun _ => 0) i > f i then joined b es (stepJ b e fun _ => 0) i else f i
    rw [h1, h2]
    by_cases ha : al e b = true
    · have s1 : stepJ b e f i = if cs e.vec i > f i then cs e.vec i else f i := by
        unfold stepJ
        rw [if_pos ha]
        rfl
      have s2 : stepJ b e (fun _ => 0) i = if cs e.vec i > 0 then cs e.vec i else 0 := by
        unfold stepJ
        rw [if_pos ha]
        rfl
      rw [s1, s2]
      generalize joined b es (fun _ => 0) i = j
      generalize cs e.vec i = k
      generalize f i = a at h
      by_cases c1 : k > a <;> by_cases c2 : k > 0 <;> simp only [c1, c2, if_true, if_false] <;> (repeat' split) <;> omega
    · have s1 : stepJ b e f i = f i := by
        unfold stepJ
        rw [if_neg ha]
      have s2 : stepJ b e (fun _ => 0) i = 0 := by
        unfold stepJ
        rw [if_neg ha]
      rw [s1, s2]
      generalize joined b es (fun _ => 0) i = j
      generalize f i = a at h
      (repeat' split) <;> omega
theorem joined_ge {b : Ent} : ∀ (es : List Ent) (i : Nat), b ∈ es → cs b.vec i ≤ joined b es (fun _ => 0) i
  | e :: es, i, h => by
    rw [joined_cons, joined_max es _ i (stepJ_nn (Int.le_refl 0))]
    rcases List.mem_cons.mp h with rfl | h
    · have : al b b = true := by unfold al; simp
      unfold stepJ
      rw [if_pos this]
      unfold mx
      split <;> split <;> omega
    · have ih := joined_ge es i h
      unfold mx
      split <;> omega
def jv (b : Ent) (es : List Ent) (V : Vec) : Vec := es.foldl (fun V e => if al e b = true then vo (mx (cs V) (cs e.vec)) else V) V
theorem vo_congr {f g : Nat → Int} (h : ∀ i, i < 9 → f i = g i) : vo f = vo g := by
  unfold vo
  have e1 : ((List.range 9).filter fun i => decide (0 < f i)) = (List.range 9).filter fun i => decide (0 < g i) := List.filter_congr fun i hi => by rw [h i (List.mem_range.mp hi)]
  rw [e1]
  refine List.map_congr_left fun i hi => ?_
  rw [h i (List.mem_range.mp (List.mem_filter.mp hi).1)]
theorem jv_snoc {b e : Ent} {es : List Ent} {V : Vec} : jv b (es ++ [e]) V = if al e b = true then vo (mx (cs (jv b es V)) (cs e.vec)) else jv b es V := by
  unfold jv
  rw [List.foldl_append]
  rfl
theorem joined_snoc {b e : Ent} {es : List Ent} {f : Nat → Int} : joined b (es ++ [e]) f = stepJ b e (joined b es f) := by
  unfold joined
  rw [List.foldl_append]
  rfl
theorem joined_nn {b : Ent} {es : List Ent} {f : Nat → Int} {i : Nat} (h : 0 ≤ f i) : 0 ≤ joined b es f i := by
  rw [joined_max es f i h]
  unfold mx
  split
  · omega
  · exact h
theorem rev_ind {α : Type} {P : List α → Prop} (h0 : P []) (h1 : ∀ l a, P l → P (l ++ [a])) (l : List α) : P l := by
  have k : ∀ m : List α, P m.reverse := by
    intro m
    induction m with
    | nil => exact h0
    | cons a m ih =>
      rw [List.reverse_cons]
      exact h1 _ _ ih
  have h := k l.reverse
  rw [List.reverse_reverse] at h
  exact h
theorem jv_cs {b : Ent} {V : Vec} (hV : ∀ i, 0 ≤ cs V i) : ∀ (es : List Ent), (∀ i, i < 9 → cs (jv b es V) i = joined b es (cs V) i) ∧ ((∃ e, e ∈ es ∧ al e b = true) → jv b es V = vo (joined b es (cs V))) := by
  intro es
  refine rev_ind (P := fun es => (∀ i, i < 9 → cs (jv b es V) i = joined b es (cs V) i) ∧ ((∃ e, e ∈ es ∧ al e b = true) → jv b es V = vo (joined b es (cs V)))) ⟨fun i _ => rfl, fun ⟨e, h, _⟩ => nomatch h⟩ ?_ es
  · intro es e ih
    obtain ⟨i1, i2⟩ := ih
    rw [jv_snoc, joined_snoc]
    unfold stepJ
    by_cases h : al e b = true
    · rw [if_pos h, if_pos h]
      have hm : ∀ i, i < 9 → mx (cs (jv b es V)) (cs e.vec) i = mx (joined b es (cs V)) (cs e.vec) i := fun i hi => by
        unfold mx
        rw [i1 i hi]
      refine ⟨fun i hi => ?_, fun _ => vo_congr hm⟩
      rw [cs_vo (fun j hj => ?_) hi, hm i hi]
      rw [hm j hj]
      have := joined_nn (b := b) (es := es) (hV j)
      unfold mx
      split <;> omega
    · rw [if_neg h, if_neg h]
      refine ⟨i1, fun ⟨x, hx, hx2⟩ => i2 ⟨x, ?_, hx2⟩⟩
      rcases List.mem_append.mp hx with hx | hx
      · exact hx
      · rw [List.mem_singleton.mp hx] at hx2
        exact absurd hx2 h
def wnr (b : Ent) (es : List Ent) : Ent := { b with vec := vo (joined b es fun _ => 0) }
theorem jv_wnr {b : Ent} {es : List Ent} (hb : b ∈ es) (hv : VOk b.vec) : jv b es b.vec = vo (joined b es fun _ => 0) := by
  have h := (jv_cs (b := b) (V := b.vec) (cs_nn hv) es).2 ⟨b, hb, by unfold al; simp⟩
  rw [h]
  refine vo_congr fun i hi => ?_
  rw [joined_max es _ i (cs_nn hv i)]
  have := joined_ge es i hb
  unfold mx
  split <;> omega
theorem winner_ok {b0 b : Ent} {r es : List Ent} (ee : es = b0 :: r) (eb : b = best b0 r) (hv : ∀ e, e ∈ es → VOk e.vec) {Q : D → List Sl → Prop} (q : Q (eD C (wnr b es)) [.val (.list (EL C es))]) : fwp (f_winner C) [.val (.list (EL C es))] Q := by
  have bm : b ∈ es := by
    rw [ee, eb]
    rcases best_mem r b0 with h | h
    · rw [h]; simp
    · exact List.mem_cons_of_mem _ h
  unfold f_winner m_winner
  refine fwp_run rfl rfl ?_
  sizeOf_list_dec
  array_mem_dec
  rw [ee]
  refine greatest_ok ?_
  rw [← eb, ← ee]
  sizeOf_list_dec
  array_mem_dec
  refine wps_for (wp_listK ?_)
  array_mem_dec
  refine ⟨fun ds ρ => ∃ (as bs : List Ent) (x : Option Sl), es = as ++ bs ∧ ds = EL C bs ∧ Vn x ∧ ρ = [some (.val (.list (EL C es))), some (.val (eD C b)), some (.val (VD (jv b as b.vec))), x], ⟨[], es, none, rfl, rfl, .inl rfl, rfl⟩, ?_, ?_⟩
  · rintro z ds ρ ⟨as, bs, x, e1, e3, hx, rfl⟩
    cases bs with
    | nil => cases e3
    | cons p bs =>
      simp only [EL, List.map_cons, List.cons.injEq] at e3
      obtain ⟨rfl, rfl⟩ := e3
      have hb := jv_snoc (b := b) (e := p) (es := as) (V := b.vec)
      (refine oq_setv_nb rfl hx ?_; simp only [List.set])
      array_mem_dec
      refine alike_ok ?_
      sizeOf_list_dec
      array_mem_dec
      refine it2_b (fun h => ?_) (fun h => ?_)
      · array_mem_dec
        refine join_ok ?_
        sizeOf_list_dec
        array_mem_dec
        rw [if_pos h] at hb
        rw [← hb]
        exact ⟨as ++ [p], bs, some (.val (eD C p)), by simp [e1], rfl, .inr ⟨_, rfl⟩, rfl⟩
      · array_mem_dec
        rw [if_neg (by rw [h]; exact Bool.false_ne_true)] at hb
        rw [← hb]
        exact ⟨as ++ [p], bs, some (.val (eD C p)), by simp [e1], rfl, .inr ⟨_, rfl⟩, rfl⟩
  · rintro ρ ⟨as, bs, x, e1, e3, hx, rfl⟩
    cases bs with
    | cons p bs => cases e3
    | nil =>
      rw [List.append_nil] at e1
      subst e1
      rw [jv_wnr bm (hv b bm)]
      array_mem_dec
      refine wp_mk ?_
      array_mem_dec
      refine ⟨rfl, ?_⟩
      sizeOf_list_dec
      refine mk_ok ?_
      array_mem_dec
      sizeOf_list_dec
      exact q
end K50

namespace K50
open PySem L2 Dz
variable {C : Nat}
--R1 oq_isiE oq_eqE oq_eqEl
--R2 fv_n fv_v fv_h fv_m fv_d fv_t fv_b
local macro_rules | `(tactic| array_mem_dec) => `(tactic| (repeat' (first | (with_reducible first | refine wp_kC ?_ | refine wp_bop ?_ | refine wp_tst ?_ | refine wp_val ?_ | refine wp_andK ?_ | refine wp_orK ?_ | refine wp_notK ?_ | refine wp_andV ?_ | refine wp_orV ?_ | refine wp_chain ?_ | refine wp_ifK ?_ | refine wp_nil ?_ | refine wp_cons ?_ | refine wp_gnil ?_ | refine wp_gval ?_ | refine wp_call ?_ | refine wp_neg ?_ | refine wp_b1 ?_ | refine wp_bn ?_ | refine wp_isi ?_ | refine wp_met ?_ | refine wp_pnone ?_ | refine wp_psome ?_ | refine wp_cut ?_ | refine wp_listK ?_ | refine wp_tupleK ?_ | refine wp_strK ?_ | refine wp_yes ?_ | refine wp_tup ?_ | refine wp_lst ?_ | refine tb_b ?_ | refine ti_b ?_ | refine tl_b ?_ | refine tt_b ?_ | refine ts_b ?_ | refine thn_nx ?_ | refine thn_rt ?_ | refine thn_bk ?_ | refine thn_ct ?_ | refine fin_rt ?_ | refine fin_nx ?_ | refine wps_seq ?_ | refine wps_next ?_ | refine wps_break ?_ | refine wps_cont ?_ | refine wps_drop ?_ | refine wps_ret ?_ | refine wps_retN ?_ | refine wps_if ?_ | refine wps_asg ?_ | refine oq_tgNil ?_ | refine oq_tgCons ?_ | refine it2_t ?_ | refine it2_f ?_ | refine it2_not ?_ | refine oq_add_i ?_ | refine oq_sub ?_ | refine oq_lt ?_ | refine oq_le ?_ | refine oq_gt ?_ | refine oq_ge ?_ | refine oq_eq_i ?_ | refine oq_ne_i ?_ | refine oq_eq_s ?_ | refine oq_ne_s ?_ | refine oq_eq_b ?_ | refine oq_ne_b ?_ | refine oq_is ?_ | refine oq_isNot ?_ | refine oq_in_s ?_ | refine oq_notIn_s ?_ | refine oq_len_l ?_ | refine oq_len_t ?_ | refine oq_int ?_ | refine oq_abs ?_ | refine oq_ord ?_ | refine oq_cut_l ?_ | refine oq_cut_t ?_ | refine oq_list_l ?_ | refine oq_list_t ?_ | refine oq_tuple_l ?_ | refine oq_tuple_t ?_ | refine oq_max2 ?_ | refine oq_min2 ?_ | refine oq_some ?_ | refine oq_len_sc ?_ | refine fq_nx ?_ | refine fq_ct ?_ | refine fq_bk ?_ | refine fq_rt ?_ | refine wfd_nil ?_ | refine wfd_cons ?_ | refine oq_eq_il ?_ | refine oq_ne_il ?_ | refine oq_eq_it ?_ | refine oq_ne_it ?_ | refine oq_lt_il ?_ | refine oq_lt_it ?_ | refine wp_isiC ?_ | refine wp_rev ?_ | refine wp_callF ?_ | refine wp_consF ?_ | refine wp_oneF ?_ | refine wp_cat ?_ | refine oq_isiC_ob ?_ | refine oq_isiC_t ?_ | refine oq_isiC_l ?_ | refine oq_eqI ?_ | refine oq_eqI_t ?_ | refine inw_nil ?_ | refine oq_isiE ?_ | refine oq_eqE ?_ | refine oq_eqEl ?_) | ((with_reducible apply fv_n); exact rfl) | ((with_reducible apply fv_v); exact rfl) | ((with_reducible apply fv_h); exact rfl) | ((with_reducible apply fv_m); exact rfl) | ((with_reducible apply fv_d); exact rfl) | ((with_reducible apply fv_t); exact rfl) | ((with_reducible apply fv_b); exact rfl) | ((with_reducible apply wp_kV); exact rfl) | ((with_reducible apply wp_kO_bor); exact rfl) | ((with_reducible apply wp_kO_own); exact rfl) | ((with_reducible apply wp_kO_val); exact rfl) | ((with_reducible apply wp_bopO); exact rfl) | ((with_reducible apply wp_cutO); exact rfl) | ((with_reducible apply wps_frz); exact rfl) | ((with_reducible apply wps_aug); exact rfl) | ((with_reducible apply oq_mutL_bor); exact rfl) | ((with_reducible apply oq_mutL_own); exact rfl) | ((with_reducible apply oq_tgTup); exact rfl) | ((with_reducible apply oq_ix_lk); exact rfl) | ((with_reducible apply oq_ix_tk); exact rfl) | ((with_reducible apply oq_setv); exact rfl; simp only [List.set]) | ((with_reducible apply oq_seto); exact rfl; simp only [List.set]) | ((with_reducible apply wp_gbor); exact rfl; exact rfl) | ((with_reducible apply wp_mut); exact rfl; exact ⟨_, rfl⟩) | ((with_reducible apply wps_seti); exact ⟨_, rfl⟩) | ((with_reducible apply cwp_of); exact rfl; exact rfl; try simp only [giveBack, setd, Sl.d]) | ((with_reducible apply oq_ixN_k); exact rfl; simp only [Sl.d, Sl.wi, List.set]) | ((with_reducible apply oq_mod); (first | omega | decide)) | ((with_reducible apply oq_div); (first | omega | decide)) | ((with_reducible apply oq_mul); (first | omega | decide)) | ((with_reducible apply oq_pow); (first | omega | decide)) | ((with_reducible apply oq_shl); (first | omega | decide)) | ((with_reducible apply oq_shr); (first | omega | decide)) | ((with_reducible apply oq_add_s); (first | omega | decide)) | ((with_reducible apply oq_len_s); (first | omega | decide)) | ((with_reducible apply oq_cut_s); (first | omega | decide)) | ((with_reducible apply oq_append); (first | omega | decide)) | ((with_reducible apply oq_insert); (first | omega | decide)) | ((with_reducible apply oq_extend); (first | omega | decide)) | ((with_reducible apply oq_rep); (first | omega | decide)) | ((with_reducible apply oq_cat); (first | omega | decide)) | ((with_reducible apply lok); exact rfl) | ((with_reducible refine it2_dec ?_ ?_) <;> intro))))
local macro_rules | `(tactic| array_get_dec) => `(tactic| (repeat' (first | (with_reducible first | refine wp_kC ?_ | refine wp_bop ?_ | refine wp_tst ?_ | refine wp_val ?_ | refine wp_andK ?_ | refine wp_orK ?_ | refine wp_notK ?_ | refine wp_andV ?_ | refine wp_orV ?_ | refine wp_chain ?_ | refine wp_ifK ?_ | refine wp_nil ?_ | refine wp_cons ?_ | refine wp_gnil ?_ | refine wp_gval ?_ | refine wp_call ?_ | refine wp_neg ?_ | refine wp_b1 ?_ | refine wp_bn ?_ | refine wp_isi ?_ | refine wp_met ?_ | refine wp_pnone ?_ | refine wp_psome ?_ | refine wp_cut ?_ | refine wp_listK ?_ | refine wp_tupleK ?_ | refine wp_strK ?_ | refine wp_yes ?_ | refine wp_tup ?_ | refine wp_lst ?_ | refine tb_b ?_ | refine ti_b ?_ | refine tl_b ?_ | refine tt_b ?_ | refine ts_b ?_ | refine thn_rt ?_ | refine thn_bk ?_ | refine thn_ct ?_ | refine fin_rt ?_ | refine fin_nx ?_ | refine wps_seq ?_ | refine wps_next ?_ | refine wps_break ?_ | refine wps_cont ?_ | refine wps_drop ?_ | refine wps_ret ?_ | refine wps_retN ?_ | refine wps_if ?_ | refine wps_asg ?_ | refine oq_tgNil ?_ | refine oq_tgCons ?_ | refine it2_t ?_ | refine it2_f ?_ | refine it2_not ?_ | refine oq_add_i ?_ | refine oq_sub ?_ | refine oq_lt ?_ | refine oq_le ?_ | refine oq_gt ?_ | refine oq_ge ?_ | refine oq_eq_i ?_ | refine oq_ne_i ?_ | refine oq_eq_s ?_ | refine oq_ne_s ?_ | refine oq_eq_b ?_ | refine oq_ne_b ?_ | refine oq_is ?_ | refine oq_isNot ?_ | refine oq_in_s ?_ | refine oq_notIn_s ?_ | refine oq_len_l ?_ | refine oq_len_t ?_ | refine oq_int ?_ | refine oq_abs ?_ | refine oq_ord ?_ | refine oq_cut_l ?_ | refine oq_cut_t ?_ | refine oq_list_l ?_ | refine oq_list_t ?_ | refine oq_tuple_l ?_ | refine oq_tuple_t ?_ | refine oq_max2 ?_ | refine oq_min2 ?_ | refine oq_some ?_ | refine oq_len_sc ?_ | refine fq_nx ?_ | refine fq_ct ?_ | refine fq_bk ?_ | refine fq_rt ?_ | refine wfd_nil ?_ | refine wfd_cons ?_ | refine oq_eq_il ?_ | refine oq_ne_il ?_ | refine oq_eq_it ?_ | refine oq_ne_it ?_ | refine oq_lt_il ?_ | refine oq_lt_it ?_ | refine wp_isiC ?_ | refine wp_rev ?_ | refine wp_callF ?_ | refine wp_consF ?_ | refine wp_oneF ?_ | refine wp_cat ?_ | refine oq_isiC_ob ?_ | refine oq_isiC_t ?_ | refine oq_isiC_l ?_ | refine oq_eqI ?_ | refine oq_eqI_t ?_ | refine inw_nil ?_ | refine oq_isiE ?_ | refine oq_eqE ?_ | refine oq_eqEl ?_) | ((with_reducible apply fv_n); exact rfl) | ((with_reducible apply fv_v); exact rfl) | ((with_reducible apply fv_h); exact rfl) | ((with_reducible apply fv_m); exact rfl) | ((with_reducible apply fv_d); exact rfl) | ((with_reducible apply fv_t); exact rfl) | ((with_reducible apply fv_b); exact rfl) | ((with_reducible apply wp_kV); exact rfl) | ((with_reducible apply wp_kO_bor); exact rfl) | ((with_reducible apply wp_kO_own); exact rfl) | ((with_reducible apply wp_kO_val); exact rfl) | ((with_reducible apply wp_bopO); exact rfl) | ((with_reducible apply wp_cutO); exact rfl) | ((with_reducible apply wps_frz); exact rfl) | ((with_reducible apply wps_aug); exact rfl) | ((with_reducible apply oq_mutL_bor); exact rfl) | ((with_reducible apply oq_mutL_own); exact rfl) | ((with_reducible apply oq_tgTup); exact rfl) | ((with_reducible apply oq_ix_lk); exact rfl) | ((with_reducible apply oq_ix_tk); exact rfl) | ((with_reducible apply oq_setv); exact rfl; simp only [List.set]) | ((with_reducible apply oq_seto); exact rfl; simp only [List.set]) | ((with_reducible apply wp_gbor); exact rfl; exact rfl) | ((with_reducible apply wp_mut); exact rfl; exact ⟨_, rfl⟩) | ((with_reducible apply wps_seti); exact ⟨_, rfl⟩) | ((with_reducible apply cwp_of); exact rfl; exact rfl; try simp only [giveBack, setd, Sl.d]) | ((with_reducible apply oq_ixN_k); exact rfl; simp only [Sl.d, Sl.wi, List.set]) | ((with_reducible apply oq_mod); (first | omega | decide)) | ((with_reducible apply oq_div); (first | omega | decide)) | ((with_reducible apply oq_mul); (first | omega | decide)) | ((with_reducible apply oq_pow); (first | omega | decide)) | ((with_reducible apply oq_shl); (first | omega | decide)) | ((with_reducible apply oq_shr); (first | omega | decide)) | ((with_reducible apply oq_add_s); (first | omega | decide)) | ((with_reducible apply oq_len_s); (first | omega | decide)) | ((with_reducible apply oq_cut_s); (first | omega | decide)) | ((with_reducible apply oq_append); (first | omega | decide)) | ((with_reducible apply oq_insert); (first | omega | decide)) | ((with_reducible apply oq_extend); (first | omega | decide)) | ((with_reducible apply oq_rep); (first | omega | decide)) | ((with_reducible apply oq_cat); (first | omega | decide)) | ((with_reducible apply lok); exact rfl) | ((with_reducible refine it2_dec ?_ ?_) <;> intro))))
local macro_rules | `(tactic| sizeOf_list_dec) => `(tactic| (try simp only [List.set, Sl.wi, Sl.d, List.map_cons, List.map_nil, Nat.reduceSub, List.reduceReplicate, List.cons_append, List.nil_append, finA, giveBack, setd, wipeA, unw, List.getElem?_cons_zero, List.getElem?_cons_succ, Option.getD_some, Option.getD_none]))
/-! ### the order of data that are alike -/
abbrev lt := PySem.W.dataLt
theorem lt_self (x : D) : lt x x = false := PySem.W.dataLt_self x
theorem lt_trans {x y z : D} (h : lt x y = true) (k : lt y z = true) : lt x z = true := PyProof.Rows.lex_trans _ _ _ h k
theorem lt_neg {x y z : D} (h : lt x z = true) : lt x y = true ∨ lt y z = true := PyProof.Rows.lex_negTrans _ _ _ h
theorem lt_asymm {x y : D} (h : lt x y = true) : lt y x = false := by
  cases q : lt y x with
  | false => rfl
  | true =>
    have := lt_trans h q
    rw [lt_self] at this
    cases this
theorem eqv_toks {x y : D} (al : PySem.W.alike x y = true) : PyData.eqv x y = true ↔ PySem.W.keyToks x = PySem.W.keyToks y := by
  obtain ⟨h1, h2⟩ := PySem.W.toks_eqv x y al
  refine ⟨h1, fun e => ?_⟩
  cases q : PyData.eqv x y with
  | true => rfl
  | false =>
    have h := h2 q [] [.inl 1]
    have e0 : PyProof.Rows.lexLt PyProof.Rows.itemOrd (PySem.W.keyToks y) (PySem.W.keyToks y) = false := PyProof.Rows.lex_irrefl _
    rw [e, PySem.W.lex_pre, e0] at h
    exact absurd h (by decide)
theorem lt_total {x y : D} (al : PySem.W.alike x y = true) (h : PyData.eqv x y = false) : lt x y = true ∨ lt y x = true := by
  cases q : lt x y with
  | true => exact .inl rfl
  | false =>
    cases q2 : lt y x with
    | true => exact .inr rfl
    | false =>
      have := (eqv_toks al).mpr (PyProof.Rows.lex_total _ _ q q2)
      rw [h] at this
      cases this
theorem lt_eqv {x y : D} (al : PySem.W.alike x y = true) (h : PyData.eqv x y = true) : lt x y = false := by
  have e := (eqv_toks al).mp h
  unfold lt PySem.W.dataLt
  rw [e]
  exact PyProof.Rows.lex_irrefl _
theorem lt_cons {x y : D} {xs ys : List D} (h : PySem.W.alike x y = true) : PyProof.Rows.lexLt PyProof.Rows.itemOrd (PySem.W.keyToksAll (x :: xs)) (PySem.W.keyToksAll (y :: ys)) = if PyData.eqv x y = true then PyProof.Rows.lexLt PyProof.Rows.itemOrd (PySem.W.keyToksAll xs) (PySem.W.keyToksAll ys) else lt x y := by
  cases e : PyData.eqv x y with
  | true => exact (PySem.W.dataLt_all_yes h e).trans (if_pos rfl).symm
  | false => exact (PySem.W.dataLt_all_no h e).trans (if_neg Bool.false_ne_true).symm
/-! ### the parts of keys -/
def kp (e : Ent) : Nat → D
  | 0 => .int e.h
  | 1 => .int e.time
  | 2 => .int (if e.del then 0 else 1)
  | 3 => .int (-e.m1)
  | 4 => .int (-e.m2)
  | _ => .tuple (LF (cs e.vec))
def KP (e : Ent) : List D := [kp e 0, kp e 1, kp e 2, kp e 3, kp e 4, kp e 5]
theorem KD_KP (e : Ent) : KD e = .tuple (KP e) := rfl
theorem okT (e : Ent) : okD 58 (.tuple (LF (cs e.vec))) = true := by
  rw [LF_ints]
  exact okD_ints 57 _
theorem ok_kp (e : Ent) (p : Nat) : okD 58 (kp e p) = true := by
  unfold kp
  split
  · rfl
  · rfl
  · rfl
  · rfl
  · rfl
  · exact okT e
theorem al_kp (x y : Ent) (p : Nat) : PySem.W.alike (kp x p) (kp y p) = true := by
  unfold kp
  split
  · rfl
  · rfl
  · rfl
  · rfl
  · rfl
  · show PySem.W.alikeAll _ _ = true
    rw [LF_ints, LF_ints]
    exact alike_ints _ _
theorem al_KD (x y : Ent) : PySem.W.alike (KD x) (KD y) = true := by
  have h := okC_KD x y
  unfold okC at h
  simp only [Bool.and_eq_true] at h
  first | exact h.2 | exact h.2.1 | exact h.1.2
/-- alike at a part -/
def sp (x y : Ent) (p : Nat) : Bool := PyData.eqv (kp x p) (kp y p)
/-- where they differ first -/
def dif (x y : Ent) : List Nat := (List.range 6).filter fun p => !sp x y p
def df (x y : Ent) : Nat := (dif x y ++ [6]).headD 6
theorem eqv_KD (x y : Ent) : PyData.eqv (KD x) (KD y) = (sp x y 0 && (sp x y 1 && (sp x y 2 && (sp x y 3 && (sp x y 4 && sp x y 5))))) := by
  rw [KD_KP, KD_KP]
  simp only [KP, PyData.eqv, PyData.eqvAll, sp, Bool.and_true]
theorem lt_KD (x y : Ent) : lt (KD x) (KD y) = if sp x y 0 = true then (if sp x y 1 = true then (if sp x y 2 = true then (if sp x y 3 = true then (if sp x y 4 = true then (if sp x y 5 = true then false else lt (kp x 5) (kp y 5)) else lt (kp x 4) (kp y 4)) else lt (kp x 3) (kp y 3)) else lt (kp x 2) (kp y 2)) else lt (kp x 1) (kp y 1)) else lt (kp x 0) (kp y 0) := by
  have e0 : PyProof.Rows.lexLt PyProof.Rows.itemOrd (PySem.W.keyToksAll []) (PySem.W.keyToksAll []) = false := PyProof.Rows.lex_irrefl _
  rw [KD_KP, KD_KP]
  unfold KP lt
  rw [PySem.W.dataLt_tuple, lt_cons (al_kp x y 0), lt_cons (al_kp x y 1), lt_cons (al_kp x y 2), lt_cons (al_kp x y 3), lt_cons (al_kp x y 4), lt_cons (al_kp x y 5), e0]
  rfl
theorem df_ex (x y : Ent) : dif x y = [] ∧ df x y = 6 ∧ PyData.eqv (KD x) (KD y) = true ∧ lt (KD x) (KD y) = false ∨
    ∃ p, p < 6 ∧ df x y = p ∧ sp x y p = false ∧ (∀ q, q < p → sp x y q = true) ∧ PyData.eqv (KD x) (KD y) = false ∧ lt (KD x) (KD y) = lt (kp x p) (kp y p) := by
  rw [eqv_KD, lt_KD]
  unfold df dif
  have er : List.range 6 = [0, 1, 2, 3, 4, 5] := rfl
  rw [er]
  generalize sp x y = f
  cases h0 : f 0
  · exact .inr ⟨0, by decide, by simp [h0], h0, fun q hq => absurd hq (by omega), by simp, by simp⟩
  cases h1 : f 1
  · exact .inr ⟨1, by decide, by simp [h0, h1], h1, fun q hq => by rw [show q = 0 by omega]; exact h0, by simp, by simp⟩
  cases h2 : f 2
  · exact .inr ⟨2, by decide, by simp [h0, h1, h2], h2, fun q hq => by rcases (by omega : q = 0 ∨ q = 1) with rfl | rfl <;> assumption, by simp, by simp⟩
  cases h3 : f 3
  · exact .inr ⟨3, by decide, by simp [h0, h1, h2, h3], h3, fun q hq => by rcases (by omega : q = 0 ∨ q = 1 ∨ q = 2) with rfl | rfl | rfl <;> assumption, by simp, by simp⟩
  cases h4 : f 4
  · exact .inr ⟨4, by decide, by simp [h0, h1, h2, h3, h4], h4, fun q hq => by rcases (by omega : q = 0 ∨ q = 1 ∨ q = 2 ∨ q = 3) with rfl | rfl | rfl | rfl <;> assumption, by simp, by simp⟩
  cases h5 : f 5
  · exact .inr ⟨5, by decide, by simp [h0, h1, h2, h3, h4, h5], h5, fun q hq => by rcases (by omega : q = 0 ∨ q = 1 ∨ q = 2 ∨ q = 3 ∨ q = 4) with rfl | rfl | rfl | rfl | rfl <;> assumption, by simp, by simp⟩
  · exact .inl ⟨by simp [h0, h1, h2, h3, h4, h5], by simp [h0, h1, h2, h3, h4, h5], by simp, by simp⟩
/-! ### the greatest -/
def sk (x y : Ent) : Bool := PyData.eqv (KD x) (KD y)
theorem sk_toks {x y : Ent} : sk x y = true ↔ PySem.W.keyToks (KD x) = PySem.W.keyToks (KD y) := eqv_toks (al_KD x y)
/-- no key of the list is greater; i is the first place of those that are as great -/
structure First (es : List Ent) (b : Ent) (i : Nat) : Prop where
  at_ : es[i]? = some b
  top : ∀ e, e ∈ es → lt (KD b) (KD e) = false
  less : ∀ (j : Nat) e, j < i → es[j]? = some e → lt (KD e) (KD b) = true
theorem best_first (b0 : Ent) (r : List Ent) : ∃ i, First (b0 :: r) (best b0 r) i := by
  refine rev_ind (P := fun r => ∃ i, First (b0 :: r) (best b0 r) i) ⟨0, rfl, fun e he => ?_, fun j e h => absurd h (by omega)⟩ (fun r x ih => ?_) r
  · rw [List.mem_singleton.mp he]
    exact lt_self _
  · obtain ⟨i, F⟩ := ih
    have hb : best b0 (r ++ [x]) = if gtK x (best b0 r) = true then x else best b0 r := by
      unfold best
      rw [List.foldl_append]
      rfl
    have li : i < (b0 :: r).length := (List.getElem?_eq_some_iff.mp F.at_).1
    rw [hb]
    cases g : gtK x (best b0 r) with
    | true =>
      have g' : lt (KD (best b0 r)) (KD x) = true := g
      rw [if_pos rfl]
      refine ⟨(b0 :: r).length, ?_, fun e he => ?_, fun j e hj ej => ?_⟩
      · rw [← List.cons_append, List.getElem?_append_right (Nat.le_refl _), Nat.sub_self]
        rfl
      · rw [← List.cons_append] at he
        rcases List.mem_append.mp he with h | h
        · cases q : lt (KD x) (KD e) with
          | false => rfl
          | true =>
            have := lt_trans g' q
            rw [F.top e h] at this
            cases this
        · rw [List.mem_singleton.mp h]
          exact lt_self _
      · rw [← List.cons_append, List.getElem?_append_left hj] at ej
        rcases lt_neg (y := KD e) g' with h | h
        · rw [F.top e (List.mem_of_getElem? ej)] at h
          cases h
        · exact h
    | false =>
      have g' : lt (KD (best b0 r)) (KD x) = false := g
      rw [if_neg Bool.false_ne_true]
      refine ⟨i, ?_, fun e he => ?_, fun j e hj ej => ?_⟩
      · rw [← List.cons_append, List.getElem?_append_left li]
        exact F.at_
      · rw [← List.cons_append] at he
        rcases List.mem_append.mp he with h | h
        · exact F.top e h
        · rw [List.mem_singleton.mp h]
          exact g'
      · rw [← List.cons_append, List.getElem?_append_left (by omega)] at ej
        exact F.less j e hj ej
end K50

namespace K50
open PySem L2 Dz
variable {C : Nat}
--R1 oq_isiE oq_eqE oq_eqEl
--R2 fv_n fv_v fv_h fv_m fv_d fv_t fv_b
local macro_rules | `(tactic| array_mem_dec) => `(tactic| (repeat' (first | (with_reducible first | refine wp_kC ?_ | refine wp_bop ?_ | refine wp_tst ?_ | refine wp_val ?_ | refine wp_andK ?_ | refine wp_orK ?_ | refine wp_notK ?_ | refine wp_andV ?_ | refine wp_orV ?_ | refine wp_chain ?_ | refine wp_ifK ?_ | refine wp_nil ?_ | refine wp_cons ?_ | refine wp_gnil ?_ | refine wp_gval ?_ | refine wp_call ?_ | refine wp_neg ?_ | refine wp_b1 ?_ | refine wp_bn ?_ | refine wp_isi ?_ | refine wp_met ?_ | refine wp_pnone ?_ | refine wp_psome ?_ | refine wp_cut ?_ | refine wp_listK ?_ | refine wp_tupleK ?_ | refine wp_strK ?_ | refine wp_yes ?_ | refine wp_tup ?_ | refine wp_lst ?_ | refine tb_b ?_ | refine ti_b ?_ | refine tl_b ?_ | refine tt_b ?_ | refine ts_b ?_ | refine thn_nx ?_ | refine thn_rt ?_ | refine thn_bk ?_ | refine thn_ct ?_ | refine fin_rt ?_ | refine fin_nx ?_ | refine wps_seq ?_ | refine wps_next ?_ | refine wps_break ?_ | refine wps_cont ?_ | refine wps_drop ?_ | refine wps_ret ?_ | refine wps_retN ?_ | refine wps_if ?_ | refine wps_asg ?_ | refine oq_tgNil ?_ | refine oq_tgCons ?_ | refine it2_t ?_ | refine it2_f ?_ | refine it2_not ?_ | refine oq_add_i ?_ | refine oq_sub ?_ | refine oq_lt ?_ | refine oq_le ?_ | refine oq_gt ?_ | refine oq_ge ?_ | refine oq_eq_i ?_ | refine oq_ne_i ?_ | refine oq_eq_s ?_ | refine oq_ne_s ?_ | refine oq_eq_b ?_ | refine oq_ne_b ?_ | refine oq_is ?_ | refine oq_isNot ?_ | refine oq_in_s ?_ | refine oq_notIn_s ?_ | refine oq_len_l ?_ | refine oq_len_t ?_ | refine oq_int ?_ | refine oq_abs ?_ | refine oq_ord ?_ | refine oq_cut_l ?_ | refine oq_cut_t ?_ | refine oq_list_l ?_ | refine oq_list_t ?_ | refine oq_tuple_l ?_ | refine oq_tuple_t ?_ | refine oq_max2 ?_ | refine oq_min2 ?_ | refine oq_some ?_ | refine oq_len_sc ?_ | refine fq_nx ?_ | refine fq_ct ?_ | refine fq_bk ?_ | refine fq_rt ?_ | refine wfd_nil ?_ | refine wfd_cons ?_ | refine oq_eq_il ?_ | refine oq_ne_il ?_ | refine oq_eq_it ?_ | refine oq_ne_it ?_ | refine oq_lt_il ?_ | refine oq_lt_it ?_ | refine wp_isiC ?_ | refine wp_rev ?_ | refine wp_callF ?_ | refine wp_consF ?_ | refine wp_oneF ?_ | refine wp_cat ?_ | refine oq_isiC_ob ?_ | refine oq_isiC_t ?_ | refine oq_isiC_l ?_ | refine oq_eqI ?_ | refine oq_eqI_t ?_ | refine inw_nil ?_ | refine oq_isiE ?_ | refine oq_eqE ?_ | refine oq_eqEl ?_) | ((with_reducible apply fv_n); exact rfl) | ((with_reducible apply fv_v); exact rfl) | ((with_reducible apply fv_h); exact rfl) | ((with_reducible apply fv_m); exact rfl) | ((with_reducible apply fv_d); exact rfl) | ((with_reducible apply fv_t); exact rfl) | ((with_reducible apply fv_b); exact rfl) | ((with_reducible apply wp_kV); exact rfl) | ((with_reducible apply wp_kO_bor); exact rfl) | ((with_reducible apply wp_kO_own); exact rfl) | ((with_reducible apply wp_kO_val); exact rfl) | ((with_reducible apply wp_bopO); exact rfl) | ((with_reducible apply wp_cutO); exact rfl) | ((with_reducible apply wps_frz); exact rfl) | ((with_reducible apply wps_aug); exact rfl) | ((with_reducible apply oq_mutL_bor); exact rfl) | ((with_reducible apply oq_mutL_own); exact rfl) | ((with_reducible apply oq_tgTup); exact rfl) | ((with_reducible apply oq_ix_lk); exact rfl) | ((with_reducible apply oq_ix_tk); exact rfl) | ((with_reducible apply oq_setv); exact rfl; simp only [List.set]) | ((with_reducible apply oq_seto); exact rfl; simp only [List.set]) | ((with_reducible apply wp_gbor); exact rfl; exact rfl) | ((with_reducible apply wp_mut); exact rfl; exact ⟨_, rfl⟩) | ((with_reducible apply wps_seti); exact ⟨_, rfl⟩) | ((with_reducible apply cwp_of); exact rfl; exact rfl; try simp only [giveBack, setd, Sl.d]) | ((with_reducible apply oq_ixN_k); exact rfl; simp only [Sl.d, Sl.wi, List.set]) | ((with_reducible apply oq_mod); (first | omega | decide)) | ((with_reducible apply oq_div); (first | omega | decide)) | ((with_reducible apply oq_mul); (first | omega | decide)) | ((with_reducible apply oq_pow); (first | omega | decide)) | ((with_reducible apply oq_shl); (first | omega | decide)) | ((with_reducible apply oq_shr); (first | omega | decide)) | ((with_reducible apply oq_add_s); (first | omega | decide)) | ((with_reducible apply oq_len_s); (first | omega | decide)) | ((with_reducible apply oq_cut_s); (first | omega | decide)) | ((with_reducible apply oq_append); (first | omega | decide)) | ((with_reducible apply oq_insert); (first | omega | decide)) | ((with_reducible apply oq_extend); (first | omega | decide)) | ((with_reducible apply oq_rep); (first | omega | decide)) | ((with_reducible apply oq_cat); (first | omega | decide)) | ((with_reducible apply lok); exact rfl) | ((with_reducible refine it2_dec ?_ ?_) <;> intro))))
local macro_rules | `(tactic| array_get_dec) => `(tactic| (repeat' (first | (with_reducible first | refine wp_kC ?_ | refine wp_bop ?_ | refine wp_tst ?_ | refine wp_val ?_ | refine wp_andK ?_ | refine wp_orK ?_ | refine wp_notK ?_ | refine wp_andV ?_ | refine wp_orV ?_ | refine wp_chain ?_ | refine wp_ifK ?_ | refine wp_nil ?_ | refine wp_cons ?_ | refine wp_gnil ?_ | refine wp_gval ?_ | refine wp_call ?_ | refine wp_neg ?_ | refine wp_b1 ?_ | refine wp_bn ?_ | refine wp_isi ?_ | refine wp_met ?_ | refine wp_pnone ?_ | refine wp_psome ?_ | refine wp_cut ?_ | refine wp_listK ?_ | refine wp_tupleK ?_ | refine wp_strK ?_ | refine wp_yes ?_ | refine wp_tup ?_ | refine wp_lst ?_ | refine tb_b ?_ | refine ti_b ?_ | refine tl_b ?_ | refine tt_b ?_ | refine ts_b ?_ | refine thn_rt ?_ | refine thn_bk ?_ | refine thn_ct ?_ | refine fin_rt ?_ | refine fin_nx ?_ | refine wps_seq ?_ | refine wps_next ?_ | refine wps_break ?_ | refine wps_cont ?_ | refine wps_drop ?_ | refine wps_ret ?_ | refine wps_retN ?_ | refine wps_if ?_ | refine wps_asg ?_ | refine oq_tgNil ?_ | refine oq_tgCons ?_ | refine it2_t ?_ | refine it2_f ?_ | refine it2_not ?_ | refine oq_add_i ?_ | refine oq_sub ?_ | refine oq_lt ?_ | refine oq_le ?_ | refine oq_gt ?_ | refine oq_ge ?_ | refine oq_eq_i ?_ | refine oq_ne_i ?_ | refine oq_eq_s ?_ | refine oq_ne_s ?_ | refine oq_eq_b ?_ | refine oq_ne_b ?_ | refine oq_is ?_ | refine oq_isNot ?_ | refine oq_in_s ?_ | refine oq_notIn_s ?_ | refine oq_len_l ?_ | refine oq_len_t ?_ | refine oq_int ?_ | refine oq_abs ?_ | refine oq_ord ?_ | refine oq_cut_l ?_ | refine oq_cut_t ?_ | refine oq_list_l ?_ | refine oq_list_t ?_ | refine oq_tuple_l ?_ | refine oq_tuple_t ?_ | refine oq_max2 ?_ | refine oq_min2 ?_ | refine oq_some ?_ | refine oq_len_sc ?_ | refine fq_nx ?_ | refine fq_ct ?_ | refine fq_bk ?_ | refine fq_rt ?_ | refine wfd_nil ?_ | refine wfd_cons ?_ | refine oq_eq_il ?_ | refine oq_ne_il ?_ | refine oq_eq_it ?_ | refine oq_ne_it ?_ | refine oq_lt_il ?_ | refine oq_lt_it ?_ | refine wp_isiC ?_ | refine wp_rev ?_ | refine wp_callF ?_ | refine wp_consF ?_ | refine wp_oneF ?_ | refine wp_cat ?_ | refine oq_isiC_ob ?_ | refine oq_isiC_t ?_ | refine oq_isiC_l ?_ | refine oq_eqI ?_ | refine oq_eqI_t ?_ | refine inw_nil ?_ | refine oq_isiE ?_ | refine oq_eqE ?_ | refine oq_eqEl ?_) | ((with_reducible apply fv_n); exact rfl) | ((with_reducible apply fv_v); exact rfl) | ((with_reducible apply fv_h); exact rfl) | ((with_reducible apply fv_m); exact rfl) | ((with_reducible apply fv_d); exact rfl) | ((with_reducible apply fv_t); exact rfl) | ((with_reducible apply fv_b); exact rfl) | ((with_reducible apply wp_kV); exact rfl) | ((with_reducible apply wp_kO_bor); exact rfl) | ((with_reducible apply wp_kO_own); exact rfl) | ((with_reducible apply wp_kO_val); exact rfl) | ((with_reducible apply wp_bopO); exact rfl) | ((with_reducible apply wp_cutO); exact rfl) | ((with_reducible apply wps_frz); exact rfl) | ((with_reducible apply wps_aug); exact rfl) | ((with_reducible apply oq_mutL_bor); exact rfl) | ((with_reducible apply oq_mutL_own); exact rfl) | ((with_reducible apply oq_tgTup); exact rfl) | ((with_reducible apply oq_ix_lk); exact rfl) | ((with_reducible apply oq_ix_tk); exact rfl) | ((with_reducible apply oq_setv); exact rfl; simp only [List.set]) | ((with_reducible apply oq_seto); exact rfl; simp only [List.set]) | ((with_reducible apply wp_gbor); exact rfl; exact rfl) | ((with_reducible apply wp_mut); exact rfl; exact ⟨_, rfl⟩) | ((with_reducible apply wps_seti); exact ⟨_, rfl⟩) | ((with_reducible apply cwp_of); exact rfl; exact rfl; try simp only [giveBack, setd, Sl.d]) | ((with_reducible apply oq_ixN_k); exact rfl; simp only [Sl.d, Sl.wi, List.set]) | ((with_reducible apply oq_mod); (first | omega | decide)) | ((with_reducible apply oq_div); (first | omega | decide)) | ((with_reducible apply oq_mul); (first | omega | decide)) | ((with_reducible apply oq_pow); (first | omega | decide)) | ((with_reducible apply oq_shl); (first | omega | decide)) | ((with_reducible apply oq_shr); (first | omega | decide)) | ((with_reducible apply oq_add_s); (first | omega | decide)) | ((with_reducible apply oq_len_s); (first | omega | decide)) | ((with_reducible apply oq_cut_s); (first | omega | decide)) | ((with_reducible apply oq_append); (first | omega | decide)) | ((with_reducible apply oq_insert); (first | omega | decide)) | ((with_reducible apply oq_extend); (first | omega | decide)) | ((with_reducible apply oq_rep); (first | omega | decide)) | ((with_reducible apply oq_cat); (first | omega | decide)) | ((with_reducible apply lok); exact rfl) | ((with_reducible refine it2_dec ?_ ?_) <;> intro))))
local macro_rules | `(tactic| sizeOf_list_dec) => `(tactic| (try simp only [List.set, Sl.wi, Sl.d, List.map_cons, List.map_nil, Nat.reduceSub, List.reduceReplicate, List.cons_append, List.nil_append, finA, giveBack, setd, wipeA, unw, List.getElem?_cons_zero, List.getElem?_cons_succ, Option.getD_some, Option.getD_none]))
theorem ok_kpn (k : Nat) (e : Ent) (p : Nat) : okD (k + 1) (kp e p) = true := by
  unfold kp
  split
  · rfl
  · rfl
  · rfl
  · rfl
  · rfl
  · rw [LF_ints]
    exact okD_ints k _
theorem ok_KDn (k : Nat) (e : Ent) : okD (k + 2) (KD e) = true := by
  show (KP e).all (okD (k + 1)) = true
  simp only [KP, List.all_cons, List.all_nil, ok_kpn k, Bool.and_true, Bool.and_self]
theorem ok_KL (es : List Ent) : okD 60 (.list (es.map KD)) = true := by
  show (es.map KD).all (okD 59) = true
  rw [List.all_eq_true]
  intro d hd
  obtain ⟨e, _, rfl⟩ := List.mem_map.mp hd
  exact ok_KDn 57 e
theorem okMx_KL (b : Ent) (r : List Ent) : okMx (KD b :: r.map KD) = true := by
  have e : KD b :: r.map KD = (b :: r).map KD := rfl
  rw [e]
  generalize b :: r = es
  unfold okMx
  simp only [Bool.and_eq_true, List.all_eq_true]
  refine ⟨fun d hd => ?_, fun d hd d2 hd2 => ?_, fun d hd => ?_⟩
  · obtain ⟨e, _, rfl⟩ := List.mem_map.mp hd
    exact ok_KDn 56 e
  · obtain ⟨e, _, rfl⟩ := List.mem_map.mp hd
    obtain ⟨e2, _, rfl⟩ := List.mem_map.mp hd2
    exact al_KD e e2
  · obtain ⟨e, _, rfl⟩ := List.mem_map.mp hd
    rfl
theorem maxD_best (b : Ent) (r : List Ent) : PySem.W.maxD (KD b) (r.map KD) = KD (best b r) := by
  unfold PySem.W.maxD best
  induction r generalizing b with
  | nil => rfl
  | cons x r ih =>
    rw [List.map_cons, List.foldl_cons, List.foldl_cons, ← ih]
    show List.foldl _ (if lt (KD b) (KD x) = true then KD x else KD b) _ = _
    have : (if lt (KD b) (KD x) = true then KD x else KD b) = KD (if gtK x b = true then x else b) := by
      show _ = KD (if lt (KD b) (KD x) = true then x else b)
      split <;> rfl
    rw [this]
theorem max_ok {b : Ent} {r : List Ent} {Q : D → Prop} (q : Q (KD (best b r))) : oq (dMaxL [.list ((b :: r).map KD)]) Q := oq_maxL (okMx_KL b r) (by rw [maxD_best]; exact q)
theorem eqv_self (e : Ent) : PyData.eqv (KD e) (KD e) = true := (eqv_toks (al_KD e e)).mpr rfl
theorem First.idx {es : List Ent} {b : Ent} {i : Nat} (F : First es b i) : ((es.map KD).findIdx? fun z => PyData.eqv z (KD b)) = some i := by
  have li : i < es.length := (List.getElem?_eq_some_iff.mp F.at_).1
  rw [List.findIdx?_eq_some_iff_getElem]
  refine ⟨by simpa using li, ?_, fun j hj => ?_⟩
  · have := (List.getElem?_eq_some_iff.mp F.at_).2
    rw [List.getElem_map, this]
    exact eqv_self b
  · have lj : j < es.length := by omega
    have h := F.less j _ hj (List.getElem?_eq_getElem lj)
    rw [List.getElem_map]
    intro z
    rw [lt_eqv (al_KD _ _) z] at h
    cases h
theorem minD_first (a : Int) : ∀ r : List Int, (∀ x, x ∈ r → a ≤ x) → PySem.W.minD (.int a) (r.map PyData.int) = .int a := by
  intro r
  unfold PySem.W.minD
  induction r with
  | nil => intro _; rfl
  | cons x r ih =>
    intro h
    rw [List.map_cons, List.foldl_cons, PySem.W.dataLt_int, decide_eq_false (by have := h x (by simp); omega), if_neg Bool.false_ne_true]
    exact ih fun y hy => h y (List.mem_cons_of_mem _ hy)
theorem okMx_ints (a : Int) (r : List Int) : okMx (.int a :: r.map PyData.int) = true := by
  have e : PyData.int a :: r.map PyData.int = (a :: r).map PyData.int := rfl
  rw [e]
  generalize a :: r = l
  unfold okMx
  simp only [Bool.and_eq_true, List.all_eq_true]
  refine ⟨fun d hd => ?_, fun d hd d2 hd2 => ?_, fun d hd => ?_⟩
  · obtain ⟨e, _, rfl⟩ := List.mem_map.mp hd
    rfl
  · obtain ⟨e, _, rfl⟩ := List.mem_map.mp hd
    obtain ⟨e2, _, rfl⟩ := List.mem_map.mp hd2
    rfl
  · obtain ⟨e, _, rfl⟩ := List.mem_map.mp hd
    rfl
/-- the least of rising whole numbers -/
theorem min_ok {a : Nat} {r : List Nat} (h : ∀ x, x ∈ r → a ≤ x) {Q : D → Prop} (q : Q (.int (a : Nat))) : oq (dMinL [.list ((a :: r).map fun (k : Nat) => PyData.int k)]) Q := by
  have e : (a :: r).map (fun (k : Nat) => PyData.int k) = PyData.int (a : Nat) :: (r.map fun (k : Nat) => (k : Int)).map PyData.int := by
    rw [List.map_map]
    rfl
  rw [e]
  refine oq_minL (okMx_ints _ _) ?_
  rw [minD_first _ _ fun x hx => by
    obtain ⟨k, hk, rfl⟩ := List.mem_map.mp hx
    exact Int.ofNat_le.mpr (h k hk)]
  exact q
theorem range_head {n i : Nat} {p : Nat → Bool} (hi : i < n) (hp : p i = true) (hl : ∀ j, j < i → p j = false) : ∃ r, (List.range n).filter p = i :: r ∧ ∀ x, x ∈ r → i ≤ x := by
  have hs : ((List.range n).filter p).Pairwise (· < ·) := List.Pairwise.filter _ List.pairwise_lt_range
  have hm : i ∈ (List.range n).filter p := List.mem_filter.mpr ⟨List.mem_range.mpr hi, hp⟩
  cases e : (List.range n).filter p with
  | nil => rw [e] at hm; cases hm
  | cons a r =>
    rw [e] at hm hs
    obtain ⟨h1, h2⟩ := List.pairwise_cons.mp hs
    have pa : p a = true := (List.mem_filter.mp (by rw [e]; exact List.mem_cons_self)).2
    have : a = i := by
      rcases List.mem_cons.mp hm with h | h
      · exact h.symm
      · have := hl a (h1 i h)
        rw [pa] at this
        cases this
    subst this
    exact ⟨r, rfl, fun x hx => Nat.le_of_lt (h1 x hx)⟩
/-! ### the law's keys -/
def pr (v : Vec) : List (Key × D) := v.map fun p => (.inl p.1, .int p.2)
theorem pairs_VL : ∀ v : Vec, pairsD (VL v) = some (pr v)
  | [] => rfl
  | p :: v => by
    show (pairD (.tuple [.int p.1, .int p.2])).bind (fun q => (pairsD (VL v)).map fun ps => q :: ps) = _
    rw [pairs_VL v]
    rfl
theorem look_cnt (d : Int) : ∀ v : Vec, (lookD (asD (pr v)) (.inl d)).getD (.int 0) = .int (cnt v d)
  | [] => rfl
  | p :: v => by
    have ih := look_cnt d v
    by_cases e : p.1 = d
    · have : lookD (asD (pr (p :: v))) (.inl d) = some (.int p.2) := by simp [lookD, asD, pr, kD, keyD, e]
      rw [this]
      show _ = PyData.int (if p.1 = d then p.2 else cnt v d)
      rw [if_pos e]
      rfl
    · have : lookD (asD (pr (p :: v))) (.inl d) = lookD (asD (pr v)) (.inl d) := by simp [lookD, asD, pr, kD, keyD, e]
      rw [this, ih]
      show _ = PyData.int (if p.1 = d then p.2 else cnt v d)
      rw [if_neg e]
theorem dict_VD {v : Vec} (hn : v ≠ []) (hv : (v.map (·.1)).Nodup) {Q : D → Prop} (q : Q (.dict (asD (pr v)))) : oq (dDict [VD v]) Q := by
  refine ⟨_, ?_, q⟩
  have nx : needX (VL v) = true := by
    cases v with
    | nil => exact absurd rfl hn
    | cons p v => rfl
  have nd : ((pr v).map (·.1)).Nodup := by
    have e : (pr v).map (·.1) = (v.map (·.1)).map Sum.inl := by
      unfold pr
      rw [List.map_map, List.map_map]
      rfl
    rw [e]
    exact List.Pairwise.map _ (fun a b h e => h (Sum.inl.inj e)) hv
  show (if needX (VL v) = true then (pairsD (VL v)).bind fun ps => if (ps.map (·.1)).Nodup then some (PyData.dict (asD ps)) else none else none) = _
  rw [if_pos nx, pairs_VL, Option.bind_some, if_pos nd]
theorem lkey_ok {e : Ent} (hn : e.vec ≠ []) (hv : VOk e.vec) {Q : D → List Sl → Prop} (q : Q (KD e) [.val (eD C e)]) : fwp (f_law_key C) [.val (eD C e)] Q := by
  unfold f_law_key m_law_key
  refine fwp_run rfl rfl ?_
  sizeOf_list_dec
  array_mem_dec
  refine dict_VD hn hv.1 ?_
  array_mem_dec
  refine wp_map (List.range 9) (fun i => .int (1 + (i : Nat))) (fun i => .int (cs e.vec i)) (wp_range2 ?_)
  array_mem_dec
  refine ⟨1, 10, rfl, by decide, nums_map _ _, by simp, fun i hi => ?_, ?_⟩
  · sizeOf_list_dec
    array_mem_dec
    refine wp_get ?_
    array_mem_dec
    refine ⟨_, rfl, ?_, ?_⟩
    · unfold asD pr
      rw [List.map_map, List.all_map]
      exact List.all_eq_true.mpr fun p _ => rfl
    array_mem_dec
    refine ⟨.inl (1 + (i : Nat)), rfl, ?_⟩
    array_mem_dec
    rw [look_cnt]
    refine ⟨?_, ?_⟩
    · rw [Int.add_comm]
      rfl
    · first | rfl | trivial
  · array_mem_dec
    sizeOf_list_dec
    array_mem_dec
    refine dInt_b ?_
    array_mem_dec
    sizeOf_list_dec
    have e1 : (if (!e.del) = true then (1 : Int) else 0) = if e.del = true then 0 else 1 := by cases e.del <;> rfl
    rw [e1]
    exact q
end K50

namespace K50
open PySem L2 Dz
variable {C : Nat}
--R1 oq_isiE oq_eqE oq_eqEl
--R2 fv_n fv_v fv_h fv_m fv_d fv_t fv_b
local macro_rules | `(tactic| array_mem_dec) => `(tactic| (repeat' (first | (with_reducible first | refine wp_kC ?_ | refine wp_bop ?_ | refine wp_tst ?_ | refine wp_val ?_ | refine wp_andK ?_ | refine wp_orK ?_ | refine wp_notK ?_ | refine wp_andV ?_ | refine wp_orV ?_ | refine wp_chain ?_ | refine wp_ifK ?_ | refine wp_nil ?_ | refine wp_cons ?_ | refine wp_gnil ?_ | refine wp_gval ?_ | refine wp_call ?_ | refine wp_neg ?_ | refine wp_b1 ?_ | refine wp_bn ?_ | refine wp_isi ?_ | refine wp_met ?_ | refine wp_pnone ?_ | refine wp_psome ?_ | refine wp_cut ?_ | refine wp_listK ?_ | refine wp_tupleK ?_ | refine wp_strK ?_ | refine wp_yes ?_ | refine wp_tup ?_ | refine wp_lst ?_ | refine tb_b ?_ | refine ti_b ?_ | refine tl_b ?_ | refine tt_b ?_ | refine ts_b ?_ | refine thn_nx ?_ | refine thn_rt ?_ | refine thn_bk ?_ | refine thn_ct ?_ | refine fin_rt ?_ | refine fin_nx ?_ | refine wps_seq ?_ | refine wps_next ?_ | refine wps_break ?_ | refine wps_cont ?_ | refine wps_drop ?_ | refine wps_ret ?_ | refine wps_retN ?_ | refine wps_if ?_ | refine wps_asg ?_ | refine oq_tgNil ?_ | refine oq_tgCons ?_ | refine it2_t ?_ | refine it2_f ?_ | refine it2_not ?_ | refine oq_add_i ?_ | refine oq_sub ?_ | refine oq_lt ?_ | refine oq_le ?_ | refine oq_gt ?_ | refine oq_ge ?_ | refine oq_eq_i ?_ | refine oq_ne_i ?_ | refine oq_eq_s ?_ | refine oq_ne_s ?_ | refine oq_eq_b ?_ | refine oq_ne_b ?_ | refine oq_is ?_ | refine oq_isNot ?_ | refine oq_in_s ?_ | refine oq_notIn_s ?_ | refine oq_len_l ?_ | refine oq_len_t ?_ | refine oq_int ?_ | refine oq_abs ?_ | refine oq_ord ?_ | refine oq_cut_l ?_ | refine oq_cut_t ?_ | refine oq_list_l ?_ | refine oq_list_t ?_ | refine oq_tuple_l ?_ | refine oq_tuple_t ?_ | refine oq_max2 ?_ | refine oq_min2 ?_ | refine oq_some ?_ | refine oq_len_sc ?_ | refine fq_nx ?_ | refine fq_ct ?_ | refine fq_bk ?_ | refine fq_rt ?_ | refine wfd_nil ?_ | refine wfd_cons ?_ | refine oq_eq_il ?_ | refine oq_ne_il ?_ | refine oq_eq_it ?_ | refine oq_ne_it ?_ | refine oq_lt_il ?_ | refine oq_lt_it ?_ | refine wp_isiC ?_ | refine wp_rev ?_ | refine wp_callF ?_ | refine wp_consF ?_ | refine wp_oneF ?_ | refine wp_cat ?_ | refine oq_isiC_ob ?_ | refine oq_isiC_t ?_ | refine oq_isiC_l ?_ | refine oq_eqI ?_ | refine oq_eqI_t ?_ | refine inw_nil ?_ | refine oq_isiE ?_ | refine oq_eqE ?_ | refine oq_eqEl ?_) | ((with_reducible apply fv_n); exact rfl) | ((with_reducible apply fv_v); exact rfl) | ((with_reducible apply fv_h); exact rfl) | ((with_reducible apply fv_m); exact rfl) | ((with_reducible apply fv_d); exact rfl) | ((with_reducible apply fv_t); exact rfl) | ((with_reducible apply fv_b); exact rfl) | ((with_reducible apply wp_kV); exact rfl) | ((with_reducible apply wp_kO_bor); exact rfl) | ((with_reducible apply wp_kO_own); exact rfl) | ((with_reducible apply wp_kO_val); exact rfl) | ((with_reducible apply wp_bopO); exact rfl) | ((with_reducible apply wp_cutO); exact rfl) | ((with_reducible apply wps_frz); exact rfl) | ((with_reducible apply wps_aug); exact rfl) | ((with_reducible apply oq_mutL_bor); exact rfl) | ((with_reducible apply oq_mutL_own); exact rfl) | ((with_reducible apply oq_tgTup); exact rfl) | ((with_reducible apply oq_ix_lk); exact rfl) | ((with_reducible apply oq_ix_tk); exact rfl) | ((with_reducible apply oq_setv); exact rfl; simp only [List.set]) | ((with_reducible apply oq_seto); exact rfl; simp only [List.set]) | ((with_reducible apply wp_gbor); exact rfl; exact rfl) | ((with_reducible apply wp_mut); exact rfl; exact ⟨_, rfl⟩) | ((with_reducible apply wps_seti); exact ⟨_, rfl⟩) | ((with_reducible apply cwp_of); exact rfl; exact rfl; try simp only [giveBack, setd, Sl.d]) | ((with_reducible apply oq_ixN_k); exact rfl; simp only [Sl.d, Sl.wi, List.set]) | ((with_reducible apply oq_mod); (first | omega | decide)) | ((with_reducible apply oq_div); (first | omega | decide)) | ((with_reducible apply oq_mul); (first | omega | decide)) | ((with_reducible apply oq_pow); (first | omega | decide)) | ((with_reducible apply oq_shl); (first | omega | decide)) | ((with_reducible apply oq_shr); (first | omega | decide)) | ((with_reducible apply oq_add_s); (first | omega | decide)) | ((with_reducible apply oq_len_s); (first | omega | decide)) | ((with_reducible apply oq_cut_s); (first | omega | decide)) | ((with_reducible apply oq_append); (first | omega | decide)) | ((with_reducible apply oq_insert); (first | omega | decide)) | ((with_reducible apply oq_extend); (first | omega | decide)) | ((with_reducible apply oq_rep); (first | omega | decide)) | ((with_reducible apply oq_cat); (first | omega | decide)) | ((with_reducible apply lok); exact rfl) | ((with_reducible refine it2_dec ?_ ?_) <;> intro))))
local macro_rules | `(tactic| array_get_dec) => `(tactic| (repeat' (first | (with_reducible first | refine wp_kC ?_ | refine wp_bop ?_ | refine wp_tst ?_ | refine wp_val ?_ | refine wp_andK ?_ | refine wp_orK ?_ | refine wp_notK ?_ | refine wp_andV ?_ | refine wp_orV ?_ | refine wp_chain ?_ | refine wp_ifK ?_ | refine wp_nil ?_ | refine wp_cons ?_ | refine wp_gnil ?_ | refine wp_gval ?_ | refine wp_call ?_ | refine wp_neg ?_ | refine wp_b1 ?_ | refine wp_bn ?_ | refine wp_isi ?_ | refine wp_met ?_ | refine wp_pnone ?_ | refine wp_psome ?_ | refine wp_cut ?_ | refine wp_listK ?_ | refine wp_tupleK ?_ | refine wp_strK ?_ | refine wp_yes ?_ | refine wp_tup ?_ | refine wp_lst ?_ | refine tb_b ?_ | refine ti_b ?_ | refine tl_b ?_ | refine tt_b ?_ | refine ts_b ?_ | refine thn_rt ?_ | refine thn_bk ?_ | refine thn_ct ?_ | refine fin_rt ?_ | refine fin_nx ?_ | refine wps_seq ?_ | refine wps_next ?_ | refine wps_break ?_ | refine wps_cont ?_ | refine wps_drop ?_ | refine wps_ret ?_ | refine wps_retN ?_ | refine wps_if ?_ | refine wps_asg ?_ | refine oq_tgNil ?_ | refine oq_tgCons ?_ | refine it2_t ?_ | refine it2_f ?_ | refine it2_not ?_ | refine oq_add_i ?_ | refine oq_sub ?_ | refine oq_lt ?_ | refine oq_le ?_ | refine oq_gt ?_ | refine oq_ge ?_ | refine oq_eq_i ?_ | refine oq_ne_i ?_ | refine oq_eq_s ?_ | refine oq_ne_s ?_ | refine oq_eq_b ?_ | refine oq_ne_b ?_ | refine oq_is ?_ | refine oq_isNot ?_ | refine oq_in_s ?_ | refine oq_notIn_s ?_ | refine oq_len_l ?_ | refine oq_len_t ?_ | refine oq_int ?_ | refine oq_abs ?_ | refine oq_ord ?_ | refine oq_cut_l ?_ | refine oq_cut_t ?_ | refine oq_list_l ?_ | refine oq_list_t ?_ | refine oq_tuple_l ?_ | refine oq_tuple_t ?_ | refine oq_max2 ?_ | refine oq_min2 ?_ | refine oq_some ?_ | refine oq_len_sc ?_ | refine fq_nx ?_ | refine fq_ct ?_ | refine fq_bk ?_ | refine fq_rt ?_ | refine wfd_nil ?_ | refine wfd_cons ?_ | refine oq_eq_il ?_ | refine oq_ne_il ?_ | refine oq_eq_it ?_ | refine oq_ne_it ?_ | refine oq_lt_il ?_ | refine oq_lt_it ?_ | refine wp_isiC ?_ | refine wp_rev ?_ | refine wp_callF ?_ | refine wp_consF ?_ | refine wp_oneF ?_ | refine wp_cat ?_ | refine oq_isiC_ob ?_ | refine oq_isiC_t ?_ | refine oq_isiC_l ?_ | refine oq_eqI ?_ | refine oq_eqI_t ?_ | refine inw_nil ?_ | refine oq_isiE ?_ | refine oq_eqE ?_ | refine oq_eqEl ?_) | ((with_reducible apply fv_n); exact rfl) | ((with_reducible apply fv_v); exact rfl) | ((with_reducible apply fv_h); exact rfl) | ((with_reducible apply fv_m); exact rfl) | ((with_reducible apply fv_d); exact rfl) | ((with_reducible apply fv_t); exact rfl) | ((with_reducible apply fv_b); exact rfl) | ((with_reducible apply wp_kV); exact rfl) | ((with_reducible apply wp_kO_bor); exact rfl) | ((with_reducible apply wp_kO_own); exact rfl) | ((with_reducible apply wp_kO_val); exact rfl) | ((with_reducible apply wp_bopO); exact rfl) | ((with_reducible apply wp_cutO); exact rfl) | ((with_reducible apply wps_frz); exact rfl) | ((with_reducible apply wps_aug); exact rfl) | ((with_reducible apply oq_mutL_bor); exact rfl) | ((with_reducible apply oq_mutL_own); exact rfl) | ((with_reducible apply oq_tgTup); exact rfl) | ((with_reducible apply oq_ix_lk); exact rfl) | ((with_reducible apply oq_ix_tk); exact rfl) | ((with_reducible apply oq_setv); exact rfl; simp only [List.set]) | ((with_reducible apply oq_seto); exact rfl; simp only [List.set]) | ((with_reducible apply wp_gbor); exact rfl; exact rfl) | ((with_reducible apply wp_mut); exact rfl; exact ⟨_, rfl⟩) | ((with_reducible apply wps_seti); exact ⟨_, rfl⟩) | ((with_reducible apply cwp_of); exact rfl; exact rfl; try simp only [giveBack, setd, Sl.d]) | ((with_reducible apply oq_ixN_k); exact rfl; simp only [Sl.d, Sl.wi, List.set]) | ((with_reducible apply oq_mod); (first | omega | decide)) | ((with_reducible apply oq_div); (first | omega | decide)) | ((with_reducible apply oq_mul); (first | omega | decide)) | ((with_reducible apply oq_pow); (first | omega | decide)) | ((with_reducible apply oq_shl); (first | omega | decide)) | ((with_reducible apply oq_shr); (first | omega | decide)) | ((with_reducible apply oq_add_s); (first | omega | decide)) | ((with_reducible apply oq_len_s); (first | omega | decide)) | ((with_reducible apply oq_cut_s); (first | omega | decide)) | ((with_reducible apply oq_append); (first | omega | decide)) | ((with_reducible apply oq_insert); (first | omega | decide)) | ((with_reducible apply oq_extend); (first | omega | decide)) | ((with_reducible apply oq_rep); (first | omega | decide)) | ((with_reducible apply oq_cat); (first | omega | decide)) | ((with_reducible apply lok); exact rfl) | ((with_reducible refine it2_dec ?_ ?_) <;> intro))))
local macro_rules | `(tactic| sizeOf_list_dec) => `(tactic| (try simp only [List.set, Sl.wi, Sl.d, List.map_cons, List.map_nil, Nat.reduceSub, List.reduceReplicate, List.cons_append, List.nil_append, finA, giveBack, setd, wipeA, unw, List.getElem?_cons_zero, List.getElem?_cons_succ, Option.getD_some, Option.getD_none]))
theorem KP_at (x : Ent) : ∀ p, p < 6 → (KP x)[p]? = some (kp x p)
  | 0, _ => rfl
  | 1, _ => rfl
  | 2, _ => rfl
  | 3, _ => rfl
  | 4, _ => rfl
  | 5, _ => rfl
  | p + 6, h => absurd h (by omega)
theorem kp_ix {x : Ent} {p : Nat} (h : p < 6) {Q : D → Prop} (q : Q (kp x p)) : oq (dIx (KD x) (.int (p : Nat))) Q := by
  rw [KD_KP]
  refine oq_ix_t (by omega) (by show ((p : Nat) : Int) < ((6 : Nat) : Int); omega) fun z hz => ?_
  rw [Int.toNat_natCast, KP_at x p h] at hz
  cases hz
  exact q
theorem eqv_int (a b : Int) : PyData.eqv (.int a) (.int b) = decide (a = b) := by
  simp only [PyData.eqv]
  exact PySem.W.beq_decide a b
theorem eq_kp (x y : Ent) (p : Nat) : dEqB (kp x p) (kp y p) = some (sp x y p) := by
  unfold sp kp
  split
  · rw [eqv_int]; rfl
  · rw [eqv_int]; rfl
  · rw [eqv_int]; rfl
  · rw [eqv_int]; rfl
  · rw [eqv_int]; rfl
  · have h : ∀ e : Ent, okD 60 (.tuple (LF (cs e.vec))) = true := fun e => by
      rw [LF_ints]
      exact okD_ints 59 _
    show (if okD 60 (.tuple (LF (cs x.vec))) = true ∧ okD 60 (.tuple (LF (cs y.vec))) = true then some _ else none) = _
    rw [if_pos ⟨h x, h y⟩]
theorem ne_kp {x y : Ent} {p : Nat} {Q : D → Prop} (q : Q (.bool (!sp x y p))) : oq (dNe (kp x p) (kp y p)) Q := oq_ne_d (eq_kp x y p) q
def A1 : D := .tuple [.str "alike"]
def LR (x b : Ent) (p : Nat) : D := .tuple [.str "less", .int (p : Nat), kp x p, kp b p]
def lessR (x b : Ent) : D := if df x b < 6 then LR x b (df x b) else .tuple [.str "less", .int 6, .int 0, .int 0]
theorem less_by_ok {x y : Ent} {Q : D → List Sl → Prop} (q : Q (lessR x y) [.val (KD x), .val (KD y)]) : fwp (f_less_by C) [.val (KD x), .val (KD y)] Q := by
  have dx := df_ex x y
  unfold f_less_by m_less_by
  refine fwp_run rfl rfl ?_
  sizeOf_list_dec
  array_mem_dec
  refine wps_for (wp_range1 ?_)
  array_mem_dec
  refine ⟨6, rfl, by decide, fun ds ρ => ∃ (k : Nat) (a : Option Sl), ds = nums (k : Nat) (6 - k) ∧ k ≤ 6 ∧ (∀ p, p < k → sp x y p = true) ∧ Vn a ∧ ρ = [some (.val (KD x)), some (.val (KD y)), a], ⟨0, none, rfl, Nat.zero_le _, (fun p h => absurd h (by omega)), .inl rfl, rfl⟩, ?_, ?_⟩
  · rintro d ds ρ ⟨k, a, e, hk, hs, hx, rfl⟩
    rcases Nat.lt_or_ge k 6 with hk | hk
    · rw [show 6 - k = (6 - (k + 1)) + 1 by omega] at e
      simp only [nums, List.cons.injEq] at e
      obtain ⟨rfl, rfl⟩ := e
      have e1 : ((k : Nat) : Int) + 1 = ((k + 1 : Nat) : Int) := by omega
      rw [e1]
      (refine oq_setv_nb rfl hx ?_; simp only [List.set])
      array_mem_dec
      refine kp_ix hk ?_
      array_mem_dec
      refine kp_ix hk ?_
      array_mem_dec
      refine ne_kp ?_
      array_mem_dec
      cases h : sp x y k with
      | true =>
        array_mem_dec
        exact ⟨k + 1, _, rfl, hk, fun p hp => by
          rcases Nat.lt_or_ge p k with h' | h'
          · exact hs p h'
          · rw [show p = k by omega]; exact h, .inr ⟨_, rfl⟩, rfl⟩
      | false =>
        array_mem_dec
        refine kp_ix hk ?_
        array_mem_dec
        refine kp_ix hk ?_
        array_mem_dec
        sizeOf_list_dec
        have ed : df x y = k := by
          rcases dx with ⟨z1, z2, z3, _⟩ | ⟨p, p1, p2, p3, p4, _⟩
          · exfalso
            have : k ∈ dif x y := List.mem_filter.mpr ⟨List.mem_range.mpr hk, by rw [h]; rfl⟩
            rw [z1] at this
            cases this
          · rcases Nat.lt_trichotomy p k with l | l | l
            · rw [hs p l] at p3; cases p3
            · rw [p2, l]
            · rw [p4 k l] at h; cases h
        have er : lessR x y = LR x y k := by
          unfold lessR
          rw [ed, if_pos hk]
        rw [er] at q
        exact q
    · rw [show 6 - k = 0 by omega] at e
      cases e
  · rintro ρ ⟨k, a, e, hk, hs, hx, rfl⟩
    have k6 : k = 6 := by
      rcases Nat.lt_or_ge k 6 with h | h
      · rw [show 6 - k = (6 - (k + 1)) + 1 by omega] at e
        cases e
      · omega
    subst k6
    array_mem_dec
    sizeOf_list_dec
    have ed : df x y = 6 := by
      rcases dx with ⟨_, z2, _⟩ | ⟨p, p1, p2, p3, p4, _⟩
      · exact z2
      · rw [hs p p1] at p3; cases p3
    have er : lessR x y = .tuple [.str "less", .int 6, .int 0, .int 0] := by
      unfold lessR
      rw [ed]
      rfl
    rw [er] at q
    exact q
def rowR (b x : Ent) : D := if al x b = true then A1 else lessR x b
def RL (b : Ent) (es : List Ent) : List D := es.map (rowR b)
def PD (i : Nat) (b : Ent) (es : List Ent) : D := .tuple [.int (i : Nat), .tuple (RL b es)]
theorem KL_ix {es : List Ent} {k : Nat} {e : Ent} (h : es[k]? = some e) {Q : D → Prop} (q : Q (KD e)) : oq (dIx (.list (es.map KD)) (.int (k : Nat))) Q := by
  have lk := (List.getElem?_eq_some_iff.mp h).1
  refine oq_ix_l (by omega) (by rw [List.length_map]; omega) fun z hz => ?_
  rw [Int.toNat_natCast, List.getElem?_map, h] at hz
  cases hz
  exact q
theorem EL_at {es : List Ent} {k : Nat} {e : Ent} (h : es[k]? = some e) {Q : D → Prop} (q : Q (eD C e)) : oq (dIx (.list (EL C es)) (.int (k : Nat))) Q :=
  EL_ix (List.getElem?_eq_some_iff.mp h).1 fun e' h' => by
    rw [h] at h'
    cases h'
    exact q
theorem reasons_ok {b0 b : Ent} {r es : List Ent} {i : Nat} (ee : es = b0 :: r) (eb : b = best b0 r) (F : First es b i) (hl : es.length ≤ 1000) {Q : D → List Sl → Prop} (q : Q (PD i b es) [.val (.list (EL C es))]) : fwp (f_reasons C) [.val (.list (EL C es))] Q := by
  unfold f_reasons m_reasons
  refine fwp_run rfl rfl ?_
  sizeOf_list_dec
  array_mem_dec
  refine wp_map es (eD C) KD (wp_listK ?_)
  array_mem_dec
  refine ⟨rfl, by omega, fun e he => ?_, ?_⟩
  · sizeOf_list_dec
    array_mem_dec
    refine key_ok ?_
    sizeOf_list_dec
    array_mem_dec
    refine ⟨?_, ?_⟩ <;> first | rfl | trivial
  array_mem_dec
  refine wp_index ?_
  array_mem_dec
  have mx : ∀ {Q : D → Prop}, Q (KD b) → oq (dMaxL [.list (es.map KD)]) Q := fun q => by
    rw [ee]
    exact max_ok (by rw [← eb]; exact q)
  refine mx ?_
  refine oq_index (ok_KL es) (ok_KDn 58 b) F.idx ?_
  array_mem_dec
  refine wps_for (wp_range1 ?_)
  array_mem_dec
  have lE : (EL C es).length = es.length := by unfold EL; rw [List.length_map]
  rw [lE]
  refine ⟨(es.length : Nat), rfl, by omega, fun ds ρ => ∃ (as bs : List Ent) (x : Option Sl), es = as ++ bs ∧ ds = nums ((as.length : Nat) : Int) bs.length ∧ Vn x ∧ ρ = [some (.val (.list (EL C es))), some (.val (.list (es.map KD))), some (.val (.int (i : Nat))), some (.own (.list (RL b as))), x, none], ⟨[], es, none, rfl, by rw [Int.toNat_natCast]; rfl, .inl rfl, rfl⟩, ?_, ?_⟩
  · rintro d ds ρ ⟨as, bs, x, e1, e2, hx, rfl⟩
    cases bs with
    | nil => cases e2
    | cons p bs =>
      simp only [nums, List.length_cons, List.cons.injEq] at e2
      obtain ⟨rfl, rfl⟩ := e2
      have ap : es[as.length]? = some p := by
        rw [e1, List.getElem?_append_right (Nat.le_refl _), Nat.sub_self]
        rfl
      have lR : (RL b as).length < 100000 := by
        have : as.length ≤ es.length := by rw [e1]; simp
        unfold RL
        rw [List.length_map]
        omega
      have hR : RL b (as ++ [p]) = RL b as ++ [rowR b p] := by unfold RL; simp
      have e3 : ((as.length : Nat) : Int) + 1 = (((as ++ [p]).length : Nat) : Int) := by simp
      rw [e3]
      (refine oq_setv_nb rfl hx ?_; simp only [List.set])
      array_mem_dec
      refine EL_at ap ?_
      array_mem_dec
      refine EL_at F.at_ ?_
      array_mem_dec
      refine alike_ok ?_
      sizeOf_list_dec
      array_mem_dec
      cases h : al p b with
      | true =>
        array_mem_dec
        sizeOf_list_dec
        have hR' : RL b as ++ [.tuple [.str "alike"]] = RL b (as ++ [p]) := by
          rw [hR]
          unfold rowR
          rw [if_pos h]
          rfl
        rw [hR']
        exact ⟨as ++ [p], bs, _, by simp [e1], rfl, .inr ⟨_, rfl⟩, rfl⟩
      | false =>
        array_mem_dec
        refine KL_ix ap ?_
        array_mem_dec
        refine KL_ix F.at_ ?_
        array_mem_dec
        refine less_by_ok ?_
        sizeOf_list_dec
        array_mem_dec
        sizeOf_list_dec
        have hR' : RL b as ++ [lessR p b] = RL b (as ++ [p]) := by
          rw [hR]
          unfold rowR
          rw [if_neg (by rw [h]; exact Bool.false_ne_true)]
        rw [hR']
        exact ⟨as ++ [p], bs, _, by simp [e1], rfl, .inr ⟨_, rfl⟩, rfl⟩
  · rintro ρ ⟨as, bs, x, e1, e2, hx, rfl⟩
    cases bs with
    | cons p bs => cases e2
    | nil =>
      rw [List.append_nil] at e1
      subst e1
      array_mem_dec
      sizeOf_list_dec
      array_mem_dec
      sizeOf_list_dec
      exact q
end K50

namespace K50
open PySem L2 Dz
variable {C : Nat}
--R1 oq_isiE oq_eqE oq_eqEl
--R2 fv_n fv_v fv_h fv_m fv_d fv_t fv_b
local macro_rules | `(tactic| array_mem_dec) => `(tactic| (repeat' (first | (with_reducible first | refine wp_kC ?_ | refine wp_bop ?_ | refine wp_tst ?_ | refine wp_val ?_ | refine wp_andK ?_ | refine wp_orK ?_ | refine wp_notK ?_ | refine wp_andV ?_ | refine wp_orV ?_ | refine wp_chain ?_ | refine wp_ifK ?_ | refine wp_nil ?_ | refine wp_cons ?_ | refine wp_gnil ?_ | refine wp_gval ?_ | refine wp_call ?_ | refine wp_neg ?_ | refine wp_b1 ?_ | refine wp_bn ?_ | refine wp_isi ?_ | refine wp_met ?_ | refine wp_pnone ?_ | refine wp_psome ?_ | refine wp_cut ?_ | refine wp_listK ?_ | refine wp_tupleK ?_ | refine wp_strK ?_ | refine wp_yes ?_ | refine wp_tup ?_ | refine wp_lst ?_ | refine tb_b ?_ | refine ti_b ?_ | refine tl_b ?_ | refine tt_b ?_ | refine ts_b ?_ | refine thn_nx ?_ | refine thn_rt ?_ | refine thn_bk ?_ | refine thn_ct ?_ | refine fin_rt ?_ | refine fin_nx ?_ | refine wps_seq ?_ | refine wps_next ?_ | refine wps_break ?_ | refine wps_cont ?_ | refine wps_drop ?_ | refine wps_ret ?_ | refine wps_retN ?_ | refine wps_if ?_ | refine wps_asg ?_ | refine oq_tgNil ?_ | refine oq_tgCons ?_ | refine it2_t ?_ | refine it2_f ?_ | refine it2_not ?_ | refine oq_add_i ?_ | refine oq_sub ?_ | refine oq_lt ?_ | refine oq_le ?_ | refine oq_gt ?_ | refine oq_ge ?_ | refine oq_eq_i ?_ | refine oq_ne_i ?_ | refine oq_eq_s ?_ | refine oq_ne_s ?_ | refine oq_eq_b ?_ | refine oq_ne_b ?_ | refine oq_is ?_ | refine oq_isNot ?_ | refine oq_in_s ?_ | refine oq_notIn_s ?_ | refine oq_len_l ?_ | refine oq_len_t ?_ | refine oq_int ?_ | refine oq_abs ?_ | refine oq_ord ?_ | refine oq_cut_l ?_ | refine oq_cut_t ?_ | refine oq_list_l ?_ | refine oq_list_t ?_ | refine oq_tuple_l ?_ | refine oq_tuple_t ?_ | refine oq_max2 ?_ | refine oq_min2 ?_ | refine oq_some ?_ | refine oq_len_sc ?_ | refine fq_nx ?_ | refine fq_ct ?_ | refine fq_bk ?_ | refine fq_rt ?_ | refine wfd_nil ?_ | refine wfd_cons ?_ | refine oq_eq_il ?_ | refine oq_ne_il ?_ | refine oq_eq_it ?_ | refine oq_ne_it ?_ | refine oq_lt_il ?_ | refine oq_lt_it ?_ | refine wp_isiC ?_ | refine wp_rev ?_ | refine wp_callF ?_ | refine wp_consF ?_ | refine wp_oneF ?_ | refine wp_cat ?_ | refine oq_isiC_ob ?_ | refine oq_isiC_t ?_ | refine oq_isiC_l ?_ | refine oq_eqI ?_ | refine oq_eqI_t ?_ | refine inw_nil ?_ | refine oq_isiE ?_ | refine oq_eqE ?_ | refine oq_eqEl ?_) | ((with_reducible apply fv_n); exact rfl) | ((with_reducible apply fv_v); exact rfl) | ((with_reducible apply fv_h); exact rfl) | ((with_reducible apply fv_m); exact rfl) | ((with_reducible apply fv_d); exact rfl) | ((with_reducible apply fv_t); exact rfl) | ((with_reducible apply fv_b); exact rfl) | ((with_reducible apply wp_kV); exact rfl) | ((with_reducible apply wp_kO_bor); exact rfl) | ((with_reducible apply wp_kO_own); exact rfl) | ((with_reducible apply wp_kO_val); exact rfl) | ((with_reducible apply wp_bopO); exact rfl) | ((with_reducible apply wp_cutO); exact rfl) | ((with_reducible apply wps_frz); exact rfl) | ((with_reducible apply wps_aug); exact rfl) | ((with_reducible apply oq_mutL_bor); exact rfl) | ((with_reducible apply oq_mutL_own); exact rfl) | ((with_reducible apply oq_tgTup); exact rfl) | ((with_reducible apply oq_ix_lk); exact rfl) | ((with_reducible apply oq_ix_tk); exact rfl) | ((with_reducible apply oq_setv); exact rfl; simp only [List.set]) | ((with_reducible apply oq_seto); exact rfl; simp only [List.set]) | ((with_reducible apply wp_gbor); exact rfl; exact rfl) | ((with_reducible apply wp_mut); exact rfl; exact ⟨_, rfl⟩) | ((with_reducible apply wps_seti); exact ⟨_, rfl⟩) | ((with_reducible apply cwp_of); exact rfl; exact rfl; try simp only [giveBack, setd, Sl.d]) | ((with_reducible apply oq_ixN_k); exact rfl; simp only [Sl.d, Sl.wi, List.set]) | ((with_reducible apply oq_mod); (first | omega | decide)) | ((with_reducible apply oq_div); (first | omega | decide)) | ((with_reducible apply oq_mul); (first | omega | decide)) | ((with_reducible apply oq_pow); (first | omega | decide)) | ((with_reducible apply oq_shl); (first | omega | decide)) | ((with_reducible apply oq_shr); (first | omega | decide)) | ((with_reducible apply oq_add_s); (first | omega | decide)) | ((with_reducible apply oq_len_s); (first | omega | decide)) | ((with_reducible apply oq_cut_s); (first | omega | decide)) | ((with_reducible apply oq_append); (first | omega | decide)) | ((with_reducible apply oq_insert); (first | omega | decide)) | ((with_reducible apply oq_extend); (first | omega | decide)) | ((with_reducible apply oq_rep); (first | omega | decide)) | ((with_reducible apply oq_cat); (first | omega | decide)) | ((with_reducible apply lok); exact rfl) | ((with_reducible refine it2_dec ?_ ?_) <;> intro))))
local macro_rules | `(tactic| array_get_dec) => `(tactic| (repeat' (first | (with_reducible first | refine wp_kC ?_ | refine wp_bop ?_ | refine wp_tst ?_ | refine wp_val ?_ | refine wp_andK ?_ | refine wp_orK ?_ | refine wp_notK ?_ | refine wp_andV ?_ | refine wp_orV ?_ | refine wp_chain ?_ | refine wp_ifK ?_ | refine wp_nil ?_ | refine wp_cons ?_ | refine wp_gnil ?_ | refine wp_gval ?_ | refine wp_call ?_ | refine wp_neg ?_ | refine wp_b1 ?_ | refine wp_bn ?_ | refine wp_isi ?_ | refine wp_met ?_ | refine wp_pnone ?_ | refine wp_psome ?_ | refine wp_cut ?_ | refine wp_listK ?_ | refine wp_tupleK ?_ | refine wp_strK ?_ | refine wp_yes ?_ | refine wp_tup ?_ | refine wp_lst ?_ | refine tb_b ?_ | refine ti_b ?_ | refine tl_b ?_ | refine tt_b ?_ | refine ts_b ?_ | refine thn_rt ?_ | refine thn_bk ?_ | refine thn_ct ?_ | refine fin_rt ?_ | refine fin_nx ?_ | refine wps_seq ?_ | refine wps_next ?_ | refine wps_break ?_ | refine wps_cont ?_ | refine wps_drop ?_ | refine wps_ret ?_ | refine wps_retN ?_ | refine wps_if ?_ | refine wps_asg ?_ | refine oq_tgNil ?_ | refine oq_tgCons ?_ | refine it2_t ?_ | refine it2_f ?_ | refine it2_not ?_ | refine oq_add_i ?_ | refine oq_sub ?_ | refine oq_lt ?_ | refine oq_le ?_ | refine oq_gt ?_ | refine oq_ge ?_ | refine oq_eq_i ?_ | refine oq_ne_i ?_ | refine oq_eq_s ?_ | refine oq_ne_s ?_ | refine oq_eq_b ?_ | refine oq_ne_b ?_ | refine oq_is ?_ | refine oq_isNot ?_ | refine oq_in_s ?_ | refine oq_notIn_s ?_ | refine oq_len_l ?_ | refine oq_len_t ?_ | refine oq_int ?_ | refine oq_abs ?_ | refine oq_ord ?_ | refine oq_cut_l ?_ | refine oq_cut_t ?_ | refine oq_list_l ?_ | refine oq_list_t ?_ | refine oq_tuple_l ?_ | refine oq_tuple_t ?_ | refine oq_max2 ?_ | refine oq_min2 ?_ | refine oq_some ?_ | refine oq_len_sc ?_ | refine fq_nx ?_ | refine fq_ct ?_ | refine fq_bk ?_ | refine fq_rt ?_ | refine wfd_nil ?_ | refine wfd_cons ?_ | refine oq_eq_il ?_ | refine oq_ne_il ?_ | refine oq_eq_it ?_ | refine oq_ne_it ?_ | refine oq_lt_il ?_ | refine oq_lt_it ?_ | refine wp_isiC ?_ | refine wp_rev ?_ | refine wp_callF ?_ | refine wp_consF ?_ | refine wp_oneF ?_ | refine wp_cat ?_ | refine oq_isiC_ob ?_ | refine oq_isiC_t ?_ | refine oq_isiC_l ?_ | refine oq_eqI ?_ | refine oq_eqI_t ?_ | refine inw_nil ?_ | refine oq_isiE ?_ | refine oq_eqE ?_ | refine oq_eqEl ?_) | ((with_reducible apply fv_n); exact rfl) | ((with_reducible apply fv_v); exact rfl) | ((with_reducible apply fv_h); exact rfl) | ((with_reducible apply fv_m); exact rfl) | ((with_reducible apply fv_d); exact rfl) | ((with_reducible apply fv_t); exact rfl) | ((with_reducible apply fv_b); exact rfl) | ((with_reducible apply wp_kV); exact rfl) | ((with_reducible apply wp_kO_bor); exact rfl) | ((with_reducible apply wp_kO_own); exact rfl) | ((with_reducible apply wp_kO_val); exact rfl) | ((with_reducible apply wp_bopO); exact rfl) | ((with_reducible apply wp_cutO); exact rfl) | ((with_reducible apply wps_frz); exact rfl) | ((with_reducible apply wps_aug); exact rfl) | ((with_reducible apply oq_mutL_bor); exact rfl) | ((with_reducible apply oq_mutL_own); exact rfl) | ((with_reducible apply oq_tgTup); exact rfl) | ((with_reducible apply oq_ix_lk); exact rfl) | ((with_reducible apply oq_ix_tk); exact rfl) | ((with_reducible apply oq_setv); exact rfl; simp only [List.set]) | ((with_reducible apply oq_seto); exact rfl; simp only [List.set]) | ((with_reducible apply wp_gbor); exact rfl; exact rfl) | ((with_reducible apply wp_mut); exact rfl; exact ⟨_, rfl⟩) | ((with_reducible apply wps_seti); exact ⟨_, rfl⟩) | ((with_reducible apply cwp_of); exact rfl; exact rfl; try simp only [giveBack, setd, Sl.d]) | ((with_reducible apply oq_ixN_k); exact rfl; simp only [Sl.d, Sl.wi, List.set]) | ((with_reducible apply oq_mod); (first | omega | decide)) | ((with_reducible apply oq_div); (first | omega | decide)) | ((with_reducible apply oq_mul); (first | omega | decide)) | ((with_reducible apply oq_pow); (first | omega | decide)) | ((with_reducible apply oq_shl); (first | omega | decide)) | ((with_reducible apply oq_shr); (first | omega | decide)) | ((with_reducible apply oq_add_s); (first | omega | decide)) | ((with_reducible apply oq_len_s); (first | omega | decide)) | ((with_reducible apply oq_cut_s); (first | omega | decide)) | ((with_reducible apply oq_append); (first | omega | decide)) | ((with_reducible apply oq_insert); (first | omega | decide)) | ((with_reducible apply oq_extend); (first | omega | decide)) | ((with_reducible apply oq_rep); (first | omega | decide)) | ((with_reducible apply oq_cat); (first | omega | decide)) | ((with_reducible apply lok); exact rfl) | ((with_reducible refine it2_dec ?_ ?_) <;> intro))))
local macro_rules | `(tactic| sizeOf_list_dec) => `(tactic| (try simp only [List.set, Sl.wi, Sl.d, List.map_cons, List.map_nil, Nat.reduceSub, List.reduceReplicate, List.cons_append, List.nil_append, finA, giveBack, setd, wipeA, unw, List.getElem?_cons_zero, List.getElem?_cons_succ, Option.getD_some, Option.getD_none]))
theorem dif_min (x y : Ent) : ∃ r, dif x y ++ [6] = df x y :: r ∧ ∀ z, z ∈ r → df x y ≤ z := by
  rcases df_ex x y with ⟨z1, z2, _⟩ | ⟨p, p1, p2, p3, p4, _⟩
  · rw [z1, z2]
    exact ⟨[], rfl, fun z h => nomatch h⟩
  · obtain ⟨r, e1, e2⟩ := range_head (p := fun p => !sp x y p) p1 (by rw [p3]; rfl) fun j hj => by rw [p4 j hj]; rfl
    rw [p2]
    refine ⟨r ++ [6], ?_, fun z hz => ?_⟩
    · unfold dif
      rw [e1]
      rfl
    · rcases List.mem_append.mp hz with h | h
      · exact e2 z h
      · rw [List.mem_singleton.mp h]
        omega
theorem eq_KD {x y : Ent} {Q : D → Prop} (q : Q (.bool (sk x y))) : oq (dEq (KD x) (KD y)) Q := by
  refine oq_eq_d (b := sk x y) ?_ q
  show (if okD 60 (KD x) = true ∧ okD 60 (KD y) = true then some (PyData.eqv (KD x) (KD y)) else none) = _
  rw [if_pos ⟨ok_KDn 58 x, ok_KDn 58 y⟩]
  rfl
theorem ne_KD {x y : Ent} {Q : D → Prop} (q : Q (.bool (!sk x y))) : oq (dNe (KD x) (KD y)) Q := by
  refine oq_ne_d (b := sk x y) ?_ q
  show (if okD 60 (KD x) = true ∧ okD 60 (KD y) = true then some (PyData.eqv (KD x) (KD y)) else none) = _
  rw [if_pos ⟨ok_KDn 58 x, ok_KDn 58 y⟩]
  rfl
def good (b : Ent) (es : List Ent) : Bool := es.all fun e => al e b || decide (df e b < 6)
def skAt (es : List Ent) (b : Ent) (k : Nat) : Bool := match es[k]? with
  | some e => sk e b
  | none => false
theorem First.head {es : List Ent} {b : Ent} {i : Nat} (F : First es b i) : ∃ r, (List.range es.length).filter (skAt es b) = i :: r ∧ ∀ x, x ∈ r → i ≤ x := by
  refine range_head (List.getElem?_eq_some_iff.mp F.at_).1 ?_ fun j hj => ?_
  · unfold skAt
    rw [F.at_]
    exact eqv_self b
  · have li := (List.getElem?_eq_some_iff.mp F.at_).1
    have ej : es[j]? = some (es[j]'(by omega)) := List.getElem?_eq_getElem (by omega)
    have h := F.less j _ hj ej
    unfold skAt
    rw [ej]
    cases z : sk (es[j]'(by omega)) b with
    | false => exact z
    | true =>
      rw [lt_eqv (al_KD _ _) z] at h
      cases h
theorem lalike_ok {e e' : Ent} {Q : D → List Sl → Prop} (q : Q (.bool (al e e')) [.val (eD C e), .val (eD C e')]) : fwp (f_law_alike C) [.val (eD C e), .val (eD C e')] Q := by
  unfold f_law_alike m_law_alike
  unfold al at q
  refine fwp_run rfl rfl ?_
  sizeOf_list_dec
  array_mem_dec
  · rename_i h
    sizeOf_list_dec
    rw [decide_eq_true h, Bool.true_and] at q
    exact q
  · rename_i h
    sizeOf_list_dec
    rw [decide_eq_false h, Bool.false_and] at q
    exact q
theorem due_ok {b0 b : Ent} {r es : List Ent} {i : Nat} (ee : es = b0 :: r) (eb : b = best b0 r) (F : First es b i) (hl : es.length ≤ 1000) (hv : ∀ e, e ∈ es → e.vec ≠ [] ∧ VOk e.vec) {Q : D → List Sl → Prop} (q1 : good b es = true → Q (PD i b es) [.val (.list (EL C es))]) (q2 : Q .none [.val (.list (EL C es))]) : fwp (f_law_due C) [.val (.list (EL C es))] Q := by
  unfold f_law_due m_law_due
  refine fwp_run rfl rfl ?_
  sizeOf_list_dec
  array_mem_dec
  refine wp_map es (eD C) KD (wp_listK ?_)
  array_mem_dec
  refine ⟨rfl, by omega, fun e he => ?_, ?_⟩
  · sizeOf_list_dec
    array_mem_dec
    refine lkey_ok (hv e he).1 (hv e he).2 ?_
    sizeOf_list_dec
    array_mem_dec
    refine ⟨?_, ?_⟩ <;> first | rfl | trivial
  array_mem_dec
  have mx : ∀ {Q : D → Prop}, Q (KD b) → oq (dMaxL [.list (es.map KD)]) Q := fun q => by
    rw [ee]
    exact max_ok (by rw [← eb]; exact q)
  obtain ⟨rr, eF, hF⟩ := F.head
  refine wp_fmap (List.range es.length) (fun i => .int (0 + (i : Nat))) (skAt es b) (fun i => .int ((i : Nat) : Int)) (wp_range1 ?_)
  array_mem_dec
  rw [List.length_map]
  refine ⟨(es.length : Nat), rfl, by omega, by rw [Int.toNat_natCast]; exact nums_map _ _, by rw [List.length_range]; omega, fun k hk => ?_, ?_⟩
  · have hk := List.mem_range.mp hk
    have ek : es[k]? = some (es[k]'hk) := List.getElem?_eq_getElem hk
    have es1 : skAt es b k = sk (es[k]'hk) b := by unfold skAt; rw [ek]
    rw [Int.zero_add]
    sizeOf_list_dec
    array_mem_dec
    refine KL_ix ek ?_
    array_mem_dec
    refine mx ?_
    array_mem_dec
    refine eq_KD ?_
    array_mem_dec
    refine ⟨es1.symm, fun _ => ?_, fun _ => rfl⟩
    array_mem_dec
    exact ⟨rfl, rfl⟩
  rw [eF]
  array_mem_dec
  refine min_ok hF ?_
  array_mem_dec
  refine wps_for (wp_range1 ?_)
  array_mem_dec
  have lE : (EL C es).length = es.length := by unfold EL; rw [List.length_map]
  rw [lE]
  refine ⟨(es.length : Nat), rfl, by omega, fun ds ρ => ∃ (as bs : List Ent) (x y : Option Sl), es = as ++ bs ∧ ds = nums ((as.length : Nat) : Int) bs.length ∧ good b as = true ∧ Vn x ∧ Vn y ∧ ρ = [some (.val (.list (EL C es))), some (.val (.list (es.map KD))), some (.val (.int (i : Nat))), some (.own (.list (RL b as))), x, none, y, none], ⟨[], es, none, none, rfl, by rw [Int.toNat_natCast]; rfl, rfl, .inl rfl, .inl rfl, rfl⟩, ?_, ?_⟩
  · rintro d ds ρ ⟨as, bs, x, y, e1, e2, hg, hx, hy, rfl⟩
    cases bs with
    | nil => cases e2
    | cons p bs =>
      simp only [nums, List.length_cons, List.cons.injEq] at e2
      obtain ⟨rfl, rfl⟩ := e2
      have ap : es[as.length]? = some p := by
        rw [e1, List.getElem?_append_right (Nat.le_refl _), Nat.sub_self]
        rfl
      have lR : (RL b as).length < 100000 := by
        have : as.length ≤ es.length := by rw [e1]; simp
        unfold RL
        rw [List.length_map]
        omega
      have hR : RL b (as ++ [p]) = RL b as ++ [rowR b p] := by unfold RL; simp
      have hG : good b (as ++ [p]) = (good b as && (al p b || decide (df p b < 6))) := by unfold good; simp
      have e3 : ((as.length : Nat) : Int) + 1 = (((as ++ [p]).length : Nat) : Int) := by simp
      rw [e3]
      (refine oq_setv_nb rfl hx ?_; simp only [List.set])
      array_mem_dec
      refine EL_at ap ?_
      array_mem_dec
      refine EL_at F.at_ ?_
      array_mem_dec
      refine lalike_ok ?_
      sizeOf_list_dec
      array_mem_dec
      cases h : al p b with
      | true =>
        array_mem_dec
        sizeOf_list_dec
        have hR' : RL b as ++ [.tuple [.str "alike"]] = RL b (as ++ [p]) := by
          rw [hR]
          unfold rowR
          rw [if_pos h]
          rfl
        rw [hR']
        exact ⟨as ++ [p], bs, _, _, by simp [e1], rfl, by rw [hG, hg, h]; rfl, .inr ⟨_, rfl⟩, hy, rfl⟩
      | false =>
        array_mem_dec
        refine wp_fmap (List.range 6) (fun i => .int (0 + (i : Nat))) (fun k => !sp p b k) (fun i => .int ((i : Nat) : Int)) (wp_range1 ?_)
        array_mem_dec
        refine ⟨6, rfl, by decide, nums_map _ _, by simp, fun k hk => ?_, ?_⟩
        · have hk := List.mem_range.mp hk
          rw [Int.zero_add]
          sizeOf_list_dec
          array_mem_dec
          refine KL_ix ap ?_
          array_mem_dec
          refine kp_ix hk ?_
          array_mem_dec
          refine KL_ix F.at_ ?_
          array_mem_dec
          refine kp_ix hk ?_
          array_mem_dec
          refine ne_kp ?_
          array_mem_dec
          refine ⟨rfl, fun _ => ?_, fun _ => rfl⟩
          array_mem_dec
          exact ⟨rfl, rfl⟩
        obtain ⟨rd, eD, hD⟩ := dif_min p b
        have el : (((List.range 6).filter fun k => !sp p b k).map fun (i : Nat) => PyData.int ((i : Nat) : Int)) ++ [.int 6] = (df p b :: rd).map fun (k : Nat) => PyData.int k := by
          rw [← eD, List.map_append]
          rfl
        have ll : ((((List.range 6).filter fun k => !sp p b k).map fun (i : Nat) => PyData.int ((i : Nat) : Int)).length + [PyData.int 6].length) ≤ 100000 := by
          have := List.length_filter_le (fun k => !sp p b k) (List.range 6)
          simp at this ⊢
          omega
        array_mem_dec
        refine oq_add_l ll ?_
        rw [el]
        refine min_ok hD ?_
        refine oq_setv_nb rfl hy ?_
        simp only [List.set]
        array_mem_dec
        · sizeOf_list_dec
          exact q2
        · rename_i hne
          have hlt : df p b < 6 := by
            rcases df_ex p b with ⟨_, z2, _⟩ | ⟨k, k1, k2, _⟩
            · exact absurd (by rw [z2]; rfl) hne
            · omega
          refine KL_ix ap ?_
          array_mem_dec
          refine kp_ix hlt ?_
          array_mem_dec
          refine KL_ix F.at_ ?_
          array_mem_dec
          refine kp_ix hlt ?_
          array_mem_dec
          sizeOf_list_dec
          have hR' : RL b as ++ [.tuple [.str "less", .int (df p b : Nat), kp p (df p b), kp b (df p b)]] = RL b (as ++ [p]) := by
            rw [hR]
            unfold rowR lessR
            rw [if_neg (by rw [h]; exact Bool.false_ne_true), if_pos hlt]
            rfl
          rw [hR']
          exact ⟨as ++ [p], bs, _, _, by simp [e1], rfl, by rw [hG, hg, h, decide_eq_true hlt]; rfl, .inr ⟨_, rfl⟩, .inr ⟨_, rfl⟩, rfl⟩
  · rintro ρ ⟨as, bs, x, y, e1, e2, hg, hx, hy, rfl⟩
    cases bs with
    | cons p bs => cases e2
    | nil =>
      rw [List.append_nil] at e1
      subst e1
      array_mem_dec
      sizeOf_list_dec
      array_mem_dec
      sizeOf_list_dec
      exact q1 hg
end K50

namespace K50
open PySem L2 Dz
variable {C : Nat}
--R1 oq_isiE oq_eqE oq_eqEl
--R2 fv_n fv_v fv_h fv_m fv_d fv_t fv_b
local macro_rules | `(tactic| array_mem_dec) => `(tactic| (repeat' (first | (with_reducible first | refine wp_kC ?_ | refine wp_bop ?_ | refine wp_tst ?_ | refine wp_val ?_ | refine wp_andK ?_ | refine wp_orK ?_ | refine wp_notK ?_ | refine wp_andV ?_ | refine wp_orV ?_ | refine wp_chain ?_ | refine wp_ifK ?_ | refine wp_nil ?_ | refine wp_cons ?_ | refine wp_gnil ?_ | refine wp_gval ?_ | refine wp_call ?_ | refine wp_neg ?_ | refine wp_b1 ?_ | refine wp_bn ?_ | refine wp_isi ?_ | refine wp_met ?_ | refine wp_pnone ?_ | refine wp_psome ?_ | refine wp_cut ?_ | refine wp_listK ?_ | refine wp_tupleK ?_ | refine wp_strK ?_ | refine wp_yes ?_ | refine wp_tup ?_ | refine wp_lst ?_ | refine tb_b ?_ | refine ti_b ?_ | refine tl_b ?_ | refine tt_b ?_ | refine ts_b ?_ | refine thn_nx ?_ | refine thn_rt ?_ | refine thn_bk ?_ | refine thn_ct ?_ | refine fin_rt ?_ | refine fin_nx ?_ | refine wps_seq ?_ | refine wps_next ?_ | refine wps_break ?_ | refine wps_cont ?_ | refine wps_drop ?_ | refine wps_ret ?_ | refine wps_retN ?_ | refine wps_if ?_ | refine wps_asg ?_ | refine oq_tgNil ?_ | refine oq_tgCons ?_ | refine it2_t ?_ | refine it2_f ?_ | refine it2_not ?_ | refine oq_add_i ?_ | refine oq_sub ?_ | refine oq_lt ?_ | refine oq_le ?_ | refine oq_gt ?_ | refine oq_ge ?_ | refine oq_eq_i ?_ | refine oq_ne_i ?_ | refine oq_eq_s ?_ | refine oq_ne_s ?_ | refine oq_eq_b ?_ | refine oq_ne_b ?_ | refine oq_is ?_ | refine oq_isNot ?_ | refine oq_in_s ?_ | refine oq_notIn_s ?_ | refine oq_len_l ?_ | refine oq_len_t ?_ | refine oq_int ?_ | refine oq_abs ?_ | refine oq_ord ?_ | refine oq_cut_l ?_ | refine oq_cut_t ?_ | refine oq_list_l ?_ | refine oq_list_t ?_ | refine oq_tuple_l ?_ | refine oq_tuple_t ?_ | refine oq_max2 ?_ | refine oq_min2 ?_ | refine oq_some ?_ | refine oq_len_sc ?_ | refine fq_nx ?_ | refine fq_ct ?_ | refine fq_bk ?_ | refine fq_rt ?_ | refine wfd_nil ?_ | refine wfd_cons ?_ | refine oq_eq_il ?_ | refine oq_ne_il ?_ | refine oq_eq_it ?_ | refine oq_ne_it ?_ | refine oq_lt_il ?_ | refine oq_lt_it ?_ | refine wp_isiC ?_ | refine wp_rev ?_ | refine wp_callF ?_ | refine wp_consF ?_ | refine wp_oneF ?_ | refine wp_cat ?_ | refine oq_isiC_ob ?_ | refine oq_isiC_t ?_ | refine oq_isiC_l ?_ | refine oq_eqI ?_ | refine oq_eqI_t ?_ | refine inw_nil ?_ | refine oq_isiE ?_ | refine oq_eqE ?_ | refine oq_eqEl ?_) | ((with_reducible apply fv_n); exact rfl) | ((with_reducible apply fv_v); exact rfl) | ((with_reducible apply fv_h); exact rfl) | ((with_reducible apply fv_m); exact rfl) | ((with_reducible apply fv_d); exact rfl) | ((with_reducible apply fv_t); exact rfl) | ((with_reducible apply fv_b); exact rfl) | ((with_reducible apply wp_kV); exact rfl) | ((with_reducible apply wp_kO_bor); exact rfl) | ((with_reducible apply wp_kO_own); exact rfl) | ((with_reducible apply wp_kO_val); exact rfl) | ((with_reducible apply wp_bopO); exact rfl) | ((with_reducible apply wp_cutO); exact rfl) | ((with_reducible apply wps_frz); exact rfl) | ((with_reducible apply wps_aug); exact rfl) | ((with_reducible apply oq_mutL_bor); exact rfl) | ((with_reducible apply oq_mutL_own); exact rfl) | ((with_reducible apply oq_tgTup); exact rfl) | ((with_reducible apply oq_ix_lk); exact rfl) | ((with_reducible apply oq_ix_tk); exact rfl) | ((with_reducible apply oq_setv); exact rfl; simp only [List.set]) | ((with_reducible apply oq_seto); exact rfl; simp only [List.set]) | ((with_reducible apply wp_gbor); exact rfl; exact rfl) | ((with_reducible apply wp_mut); exact rfl; exact ⟨_, rfl⟩) | ((with_reducible apply wps_seti); exact ⟨_, rfl⟩) | ((with_reducible apply cwp_of); exact rfl; exact rfl; try simp only [giveBack, setd, Sl.d]) | ((with_reducible apply oq_ixN_k); exact rfl; simp only [Sl.d, Sl.wi, List.set]) | ((with_reducible apply oq_mod); (first | omega | decide)) | ((with_reducible apply oq_div); (first | omega | decide)) | ((with_reducible apply oq_mul); (first | omega | decide)) | ((with_reducible apply oq_pow); (first | omega | decide)) | ((with_reducible apply oq_shl); (first | omega | decide)) | ((with_reducible apply oq_shr); (first | omega | decide)) | ((with_reducible apply oq_add_s); (first | omega | decide)) | ((with_reducible apply oq_len_s); (first | omega | decide)) | ((with_reducible apply oq_cut_s); (first | omega | decide)) | ((with_reducible apply oq_append); (first | omega | decide)) | ((with_reducible apply oq_insert); (first | omega | decide)) | ((with_reducible apply oq_extend); (first | omega | decide)) | ((with_reducible apply oq_rep); (first | omega | decide)) | ((with_reducible apply oq_cat); (first | omega | decide)) | ((with_reducible apply lok); exact rfl) | ((with_reducible refine it2_dec ?_ ?_) <;> intro))))
local macro_rules | `(tactic| array_get_dec) => `(tactic| (repeat' (first | (with_reducible first | refine wp_kC ?_ | refine wp_bop ?_ | refine wp_tst ?_ | refine wp_val ?_ | refine wp_andK ?_ | refine wp_orK ?_ | refine wp_notK ?_ | refine wp_andV ?_ | refine wp_orV ?_ | refine wp_chain ?_ | refine wp_ifK ?_ | refine wp_nil ?_ | refine wp_cons ?_ | refine wp_gnil ?_ | refine wp_gval ?_ | refine wp_call ?_ | refine wp_neg ?_ | refine wp_b1 ?_ | refine wp_bn ?_ | refine wp_isi ?_ | refine wp_met ?_ | refine wp_pnone ?_ | refine wp_psome ?_ | refine wp_cut ?_ | refine wp_listK ?_ | refine wp_tupleK ?_ | refine wp_strK ?_ | refine wp_yes ?_ | refine wp_tup ?_ | refine wp_lst ?_ | refine tb_b ?_ | refine ti_b ?_ | refine tl_b ?_ | refine tt_b ?_ | refine ts_b ?_ | refine thn_rt ?_ | refine thn_bk ?_ | refine thn_ct ?_ | refine fin_rt ?_ | refine fin_nx ?_ | refine wps_seq ?_ | refine wps_next ?_ | refine wps_break ?_ | refine wps_cont ?_ | refine wps_drop ?_ | refine wps_ret ?_ | refine wps_retN ?_ | refine wps_if ?_ | refine wps_asg ?_ | refine oq_tgNil ?_ | refine oq_tgCons ?_ | refine it2_t ?_ | refine it2_f ?_ | refine it2_not ?_ | refine oq_add_i ?_ | refine oq_sub ?_ | refine oq_lt ?_ | refine oq_le ?_ | refine oq_gt ?_ | refine oq_ge ?_ | refine oq_eq_i ?_ | refine oq_ne_i ?_ | refine oq_eq_s ?_ | refine oq_ne_s ?_ | refine oq_eq_b ?_ | refine oq_ne_b ?_ | refine oq_is ?_ | refine oq_isNot ?_ | refine oq_in_s ?_ | refine oq_notIn_s ?_ | refine oq_len_l ?_ | refine oq_len_t ?_ | refine oq_int ?_ | refine oq_abs ?_ | refine oq_ord ?_ | refine oq_cut_l ?_ | refine oq_cut_t ?_ | refine oq_list_l ?_ | refine oq_list_t ?_ | refine oq_tuple_l ?_ | refine oq_tuple_t ?_ | refine oq_max2 ?_ | refine oq_min2 ?_ | refine oq_some ?_ | refine oq_len_sc ?_ | refine fq_nx ?_ | refine fq_ct ?_ | refine fq_bk ?_ | refine fq_rt ?_ | refine wfd_nil ?_ | refine wfd_cons ?_ | refine oq_eq_il ?_ | refine oq_ne_il ?_ | refine oq_eq_it ?_ | refine oq_ne_it ?_ | refine oq_lt_il ?_ | refine oq_lt_it ?_ | refine wp_isiC ?_ | refine wp_rev ?_ | refine wp_callF ?_ | refine wp_consF ?_ | refine wp_oneF ?_ | refine wp_cat ?_ | refine oq_isiC_ob ?_ | refine oq_isiC_t ?_ | refine oq_isiC_l ?_ | refine oq_eqI ?_ | refine oq_eqI_t ?_ | refine inw_nil ?_ | refine oq_isiE ?_ | refine oq_eqE ?_ | refine oq_eqEl ?_) | ((with_reducible apply fv_n); exact rfl) | ((with_reducible apply fv_v); exact rfl) | ((with_reducible apply fv_h); exact rfl) | ((with_reducible apply fv_m); exact rfl) | ((with_reducible apply fv_d); exact rfl) | ((with_reducible apply fv_t); exact rfl) | ((with_reducible apply fv_b); exact rfl) | ((with_reducible apply wp_kV); exact rfl) | ((with_reducible apply wp_kO_bor); exact rfl) | ((with_reducible apply wp_kO_own); exact rfl) | ((with_reducible apply wp_kO_val); exact rfl) | ((with_reducible apply wp_bopO); exact rfl) | ((with_reducible apply wp_cutO); exact rfl) | ((with_reducible apply wps_frz); exact rfl) | ((with_reducible apply wps_aug); exact rfl) | ((with_reducible apply oq_mutL_bor); exact rfl) | ((with_reducible apply oq_mutL_own); exact rfl) | ((with_reducible apply oq_tgTup); exact rfl) | ((with_reducible apply oq_ix_lk); exact rfl) | ((with_reducible apply oq_ix_tk); exact rfl) | ((with_reducible apply oq_setv); exact rfl; simp only [List.set]) | ((with_reducible apply oq_seto); exact rfl; simp only [List.set]) | ((with_reducible apply wp_gbor); exact rfl; exact rfl) | ((with_reducible apply wp_mut); exact rfl; exact ⟨_, rfl⟩) | ((with_reducible apply wps_seti); exact ⟨_, rfl⟩) | ((with_reducible apply cwp_of); exact rfl; exact rfl; try simp only [giveBack, setd, Sl.d]) | ((with_reducible apply oq_ixN_k); exact rfl; simp only [Sl.d, Sl.wi, List.set]) | ((with_reducible apply oq_mod); (first | omega | decide)) | ((with_reducible apply oq_div); (first | omega | decide)) | ((with_reducible apply oq_mul); (first | omega | decide)) | ((with_reducible apply oq_pow); (first | omega | decide)) | ((with_reducible apply oq_shl); (first | omega | decide)) | ((with_reducible apply oq_shr); (first | omega | decide)) | ((with_reducible apply oq_add_s); (first | omega | decide)) | ((with_reducible apply oq_len_s); (first | omega | decide)) | ((with_reducible apply oq_cut_s); (first | omega | decide)) | ((with_reducible apply oq_append); (first | omega | decide)) | ((with_reducible apply oq_insert); (first | omega | decide)) | ((with_reducible apply oq_extend); (first | omega | decide)) | ((with_reducible apply oq_rep); (first | omega | decide)) | ((with_reducible apply oq_cat); (first | omega | decide)) | ((with_reducible apply lok); exact rfl) | ((with_reducible refine it2_dec ?_ ?_) <;> intro))))
local macro_rules | `(tactic| sizeOf_list_dec) => `(tactic| (try simp only [List.set, Sl.wi, Sl.d, List.map_cons, List.map_nil, Nat.reduceSub, List.reduceReplicate, List.cons_append, List.nil_append, finA, giveBack, setd, wipeA, unw, List.getElem?_cons_zero, List.getElem?_cons_succ, Option.getD_some, Option.getD_none]))
theorem isi_ii {k : Int} : isiB "int" (.int k) = some true := rfl
theorem isi_bi {k : Int} : isiB "bool" (.int k) = some false := rfl
theorem isi_ib {b : Bool} : isiB "int" (.bool b) = some true := rfl
theorem isi_bb {b : Bool} : isiB "bool" (.bool b) = some true := rfl
theorem isi_tt {ds : List D} : isiB "tuple" (.tuple ds) = some true := rfl
theorem isi_tl {ds : List D} : isiB "tuple" (.list ds) = some false := rfl
theorem isi_tn : isiB "tuple" .none = some false := rfl
theorem isi_ti {k : Int} : isiB "tuple" (.int k) = some false := rfl
theorem index_ok {k n : Int} {Q : D → List Sl → Prop} (q : Q (.bool (decide (0 ≤ k ∧ k < n))) [.val (.int k), .val (.int n)]) : fwp (f_is_index C) [.val (.int k), .val (.int n)] Q := by
  unfold f_is_index m_is_index
  refine fwp_run rfl rfl ?_
  sizeOf_list_dec
  array_mem_dec
  refine oq_of isi_ii ?_
  array_mem_dec
  refine oq_of isi_bi ?_
  array_mem_dec
  · rename_i h
    sizeOf_list_dec
    have e : decide (0 ≤ k ∧ k < n) = decide (k < n) := by simp [h]
    rw [e] at q
    exact q
  · rename_i h
    sizeOf_list_dec
    rw [decide_eq_false (fun z => h z.1)] at q
    exact q
theorem index_b {b : Bool} {n : Int} {Q : D → List Sl → Prop} (q : Q (.bool false) [.val (.bool b), .val (.int n)]) : fwp (f_is_index C) [.val (.bool b), .val (.int n)] Q := by
  unfold f_is_index m_is_index
  refine fwp_run rfl rfl ?_
  sizeOf_list_dec
  array_mem_dec
  refine oq_of isi_ib ?_
  array_mem_dec
  refine oq_of isi_bb ?_
  array_mem_dec
  sizeOf_list_dec
  exact q
theorem ok_A1 : okD 60 A1 = true := by decide +kernel
theorem le_KD {x y : Ent} {Q : D → Prop} (q : Q (.bool (!lt (KD y) (KD x)))) : oq (dLe (KD x) (KD y)) Q := by
  have h : dLe (KD x) (KD y) = if okC (KD x) (KD y) = true then some (.bool (!PySem.W.dataLt (KD y) (KD x))) else none := rfl
  rw [if_pos (okC_KD x y)] at h
  exact ⟨_, h, q⟩
theorem lt_kp {x y : Ent} {p : Nat} {Q : D → Prop} (q : Q (.bool (lt (kp x p) (kp y p)))) : oq (dLt (kp x p) (kp y p)) Q := by
  have key : dLt (kp x p) (kp y p) = some (.bool (lt (kp x p) (kp y p))) := by
    unfold lt kp
    split
    · rw [PySem.W.dataLt_int]; rfl
    · rw [PySem.W.dataLt_int]; rfl
    · rw [PySem.W.dataLt_int]; rfl
    · rw [PySem.W.dataLt_int]; rfl
    · rw [PySem.W.dataLt_int]; rfl
    · have h : ∀ e : Ent, okD 60 (.tuple (LF (cs e.vec))) = true := fun e => by
        rw [LF_ints]
        exact okD_ints 59 _
      have hc : okC (.tuple (LF (cs x.vec))) (.tuple (LF (cs y.vec))) = true := by
        unfold okC
        rw [h x, h y]
        simp only [PySem.W.alike]
        rw [LF_ints, LF_ints, alike_ints]
        rfl
      have hd : dLt (.tuple (LF (cs x.vec))) (.tuple (LF (cs y.vec))) = if okC (.tuple (LF (cs x.vec))) (.tuple (LF (cs y.vec))) = true then some (.bool (PySem.W.dataLt (.tuple (LF (cs x.vec))) (.tuple (LF (cs y.vec))))) else none := rfl
      rw [if_pos hc] at hd
      exact hd
  exact ⟨_, key, q⟩
/-- row A1 -/
theorem isr1 {x y : Ent} {Q : D → List Sl → Prop} (q : Q (.bool (al x y && !lt (KD y) (KD x))) [.val (eD C x), .val (eD C y), .val A1]) : fwp (f_is_reason C) [.val (eD C x), .val (eD C y), .val A1] Q := by
  have e1 : dEqB A1 A1 = some true := dEqB_self ok_A1 rfl
  unfold f_is_reason m_is_reason
  refine fwp_run rfl rfl ?_
  sizeOf_list_dec
  array_mem_dec
  refine oq_eq_d e1 ?_
  array_mem_dec
  refine alike_ok ?_
  sizeOf_list_dec
  array_mem_dec
  cases h : al x y with
  | true =>
    rw [h, Bool.true_and] at q
    array_mem_dec
    refine key_ok ?_
    sizeOf_list_dec
    array_mem_dec
    refine key_ok ?_
    sizeOf_list_dec
    array_mem_dec
    refine le_KD ?_
    array_mem_dec
    sizeOf_list_dec
    exact q
  | false =>
    rw [h, Bool.false_and] at q
    array_mem_dec
    sizeOf_list_dec
    exact q
/-- another row: what is alike is no reason -/
theorem isr_al {x y : Ent} {d : D} (h : al x y = true) (ne : dEqB d A1 = some false) {Q : D → List Sl → Prop} (q : Q (.bool false) [.val (eD C x), .val (eD C y), .val d]) : fwp (f_is_reason C) [.val (eD C x), .val (eD C y), .val d] Q := by
  unfold f_is_reason m_is_reason
  refine fwp_run rfl rfl ?_
  sizeOf_list_dec
  array_mem_dec
  refine oq_eq_d ne ?_
  array_mem_dec
  refine alike_ok ?_
  rw [h]
  sizeOf_list_dec
  array_mem_dec
  sizeOf_list_dec
  exact q
theorem isr_nt {x y : Ent} {d : D} (h : al x y = false) (ne : dEqB d A1 = some false) (nt : isiB "tuple" d = some false) {Q : D → List Sl → Prop} (q : Q (.bool false) [.val (eD C x), .val (eD C y), .val d]) : fwp (f_is_reason C) [.val (eD C x), .val (eD C y), .val d] Q := by
  unfold f_is_reason m_is_reason
  refine fwp_run rfl rfl ?_
  sizeOf_list_dec
  array_mem_dec
  refine oq_eq_d ne ?_
  array_mem_dec
  refine alike_ok ?_
  rw [h]
  sizeOf_list_dec
  array_mem_dec
  refine oq_of nt ?_
  array_mem_dec
  sizeOf_list_dec
  exact q
theorem isr_len {x y : Ent} {ds : List D} (h : al x y = false) (ne : dEqB (.tuple ds) A1 = some false) (nl : ds.length ≠ 4) {Q : D → List Sl → Prop} (q : Q (.bool false) [.val (eD C x), .val (eD C y), .val (.tuple ds)]) : fwp (f_is_reason C) [.val (eD C x), .val (eD C y), .val (.tuple ds)] Q := by
  unfold f_is_reason m_is_reason
  refine fwp_run rfl rfl ?_
  sizeOf_list_dec
  array_mem_dec
  refine oq_eq_d ne ?_
  array_mem_dec
  refine alike_ok ?_
  rw [h]
  sizeOf_list_dec
  array_mem_dec
  refine oq_of isi_tt ?_
  array_mem_dec
  · rename_i h4
    exact absurd (by omega) nl
  · sizeOf_list_dec
    exact q
def L4 (p : Int) (u v : D) : D := .tuple [.str "less", .int p, u, v]
def spUp (x y : Ent) (p : Nat) : Bool := PyData.eqvAll ((KP x).take p) ((KP y).take p)
theorem spUp_all (x y : Ent) : ∀ p, p < 6 → (spUp x y p = true ↔ ∀ q, q < p → sp x y q = true) := by
  have e : ∀ p, p < 6 → spUp x y p = (List.range p).all fun q => sp x y q := by
    intro p hp
    have : p = 0 ∨ p = 1 ∨ p = 2 ∨ p = 3 ∨ p = 4 ∨ p = 5 := by omega
    rcases this with rfl | rfl | rfl | rfl | rfl | rfl <;> simp [spUp, KP, PyData.eqvAll, sp, List.range_succ, Bool.and_assoc]
  intro p hp
  rw [e p hp, List.all_eq_true]
  exact ⟨fun h q hq => h q (List.mem_range.mpr hq), fun h q hq => h q (List.mem_range.mp hq)⟩
theorem cut_KP (x : Ent) {p : Nat} (h : p < 6) : cutD (KP x) none (some (p : Nat)) = (KP x).take p := by
  unfold cutD
  rw [HT.sIx_none, HT.sIx_nat]
  have : min p (KP x).length = p := by
    have : (KP x).length = 6 := rfl
    omega
  first
    | simp [this]
    | (rw [this]; simp)
/-- what four parts say -/
def r4 (x y : Ent) (p : Nat) (u v : D) : Bool := spUp x y p && (lt (kp x p) (kp y p) && (PyData.eqv u (kp x p) && PyData.eqv v (kp y p)))
theorem isr_out {x y : Ent} {p : Int} {u v : D} (h : al x y = false) (ne : dEqB (L4 p u v) A1 = some false) (hp : ¬ (0 ≤ p ∧ p < 6)) {Q : D → List Sl → Prop} (q : Q (.bool false) [.val (eD C x), .val (eD C y), .val (L4 p u v)]) : fwp (f_is_reason C) [.val (eD C x), .val (eD C y), .val (L4 p u v)] Q := by
  unfold f_is_reason m_is_reason
  unfold L4 at ne q ⊢
  refine fwp_run rfl rfl ?_
  sizeOf_list_dec
  array_mem_dec
  refine oq_eq_d ne ?_
  array_mem_dec
  refine alike_ok ?_
  rw [h]
  sizeOf_list_dec
  array_mem_dec
  refine oq_of isi_tt ?_
  array_mem_dec
  · refine index_ok ?_
    rw [decide_eq_false hp]
    sizeOf_list_dec
    array_mem_dec
    sizeOf_list_dec
    exact q
  · rename_i h1
    exact absurd rfl h1
  · rename_i h1
    exact absurd rfl h1
theorem cut_ok {x : Ent} {p : Nat} (h : p < 6) {Q : D → Prop} (q : Q (.tuple ((KP x).take p))) : oq (dCut (KD x) none (some (p : Nat))) Q := by
  rw [KD_KP]
  refine oq_cut_t ?_
  rw [cut_KP x h]
  exact q
theorem ne_take {x y : Ent} {p : Nat} {Q : D → Prop} (q : Q (.bool (!spUp x y p))) : oq (dNe (.tuple ((KP x).take p)) (.tuple ((KP y).take p))) Q := by
  have ok : ∀ e : Ent, okD 60 (.tuple ((KP e).take p)) = true := fun e => by
    show ((KP e).take p).all (okD 59) = true
    rw [List.all_eq_true]
    intro d hd
    have hd := List.mem_of_mem_take hd
    have : (KP e).all (okD 59) = true := ok_KDn 58 e
    exact List.all_eq_true.mp this d hd
  refine oq_ne_d (b := spUp x y p) ?_ q
  show (if okD 60 (.tuple ((KP x).take p)) = true ∧ okD 60 (.tuple ((KP y).take p)) = true then some (PyData.eqv (.tuple ((KP x).take p)) (.tuple ((KP y).take p))) else none) = _
  rw [if_pos ⟨ok x, ok y⟩]
  rfl
theorem eq_two {u v a b : D} (h : okD 59 u = true ∧ okD 59 v = true ∧ okD 59 a = true ∧ okD 59 b = true) {Q : D → Prop} (q : Q (.bool (PyData.eqv u a && PyData.eqv v b))) : oq (dEq (.tuple [u, v]) (.tuple [a, b])) Q := by
  obtain ⟨h1, h2, h3, h4⟩ := h
  refine oq_eq_d (b := PyData.eqv u a && PyData.eqv v b) ?_ q
  show (if [u, v].all (okD 59) = true ∧ [a, b].all (okD 59) = true then some (PyData.eqv (.tuple [u, v]) (.tuple [a, b])) else none) = _
  rw [if_pos ⟨by simp [h1, h2], by simp [h3, h4]⟩]
  simp [PyData.eqv, PyData.eqvAll]
theorem isr4 {x y : Ent} {p : Nat} {u v : D} (h : al x y = false) (ne : dEqB (L4 p u v) A1 = some false) (hp : p < 6) (hu : okD 59 u = true) (hv : okD 59 v = true) {Q : D → List Sl → Prop} (q : Q (.bool (r4 x y p u v)) [.val (eD C x), .val (eD C y), .val (L4 p u v)]) : fwp (f_is_reason C) [.val (eD C x), .val (eD C y), .val (L4 p u v)] Q := by
  unfold f_is_reason m_is_reason
  unfold L4 at ne q ⊢
  refine fwp_run rfl rfl ?_
  sizeOf_list_dec
  array_mem_dec
  refine oq_eq_d ne ?_
  array_mem_dec
  refine alike_ok ?_
  rw [h]
  sizeOf_list_dec
  array_mem_dec
  refine oq_of isi_tt ?_
  array_mem_dec
  · refine index_ok ?_
    rw [decide_eq_true (by omega)]
    sizeOf_list_dec
    array_mem_dec
    refine key_ok ?_
    sizeOf_list_dec
    array_mem_dec
    refine key_ok ?_
    sizeOf_list_dec
    array_mem_dec
    refine cut_ok hp ?_
    array_mem_dec
    refine cut_ok hp ?_
    array_mem_dec
    refine ne_take ?_
    unfold r4 at q
    cases hs : spUp x y p with
    | false =>
      rw [hs, Bool.false_and] at q
      array_mem_dec
      sizeOf_list_dec
      exact q
    | true =>
      rw [hs, Bool.true_and] at q
      array_mem_dec
      refine kp_ix hp ?_
      array_mem_dec
      refine kp_ix hp ?_
      array_mem_dec
      refine lt_kp ?_
      cases hl : lt (kp x p) (kp y p) with
      | false =>
        rw [hl, Bool.false_and] at q
        array_mem_dec
        sizeOf_list_dec
        exact q
      | true =>
        rw [hl, Bool.true_and] at q
        array_mem_dec
        refine kp_ix hp ?_
        array_mem_dec
        refine kp_ix hp ?_
        array_mem_dec
        have ec : cutD [.str "less", .int (p : Nat), u, v] (some 2) none = [u, v] := rfl
        rw [ec]
        refine eq_two ⟨hu, hv, ok_kpn 58 x p, ok_kpn 58 y p⟩ ?_
        array_mem_dec
        sizeOf_list_dec
        exact q
  · rename_i h1
    exact absurd rfl h1
  · rename_i h1
    exact absurd rfl h1
end K50

namespace K50
open PySem L2 Dz
variable {C : Nat}
--R1 oq_isiE oq_eqE oq_eqEl
--R2 fv_n fv_v fv_h fv_m fv_d fv_t fv_b
local macro_rules | `(tactic| array_mem_dec) => `(tactic| (repeat' (first | (with_reducible first | refine wp_kC ?_ | refine wp_bop ?_ | refine wp_tst ?_ | refine wp_val ?_ | refine wp_andK ?_ | refine wp_orK ?_ | refine wp_notK ?_ | refine wp_andV ?_ | refine wp_orV ?_ | refine wp_chain ?_ | refine wp_ifK ?_ | refine wp_nil ?_ | refine wp_cons ?_ | refine wp_gnil ?_ | refine wp_gval ?_ | refine wp_call ?_ | refine wp_neg ?_ | refine wp_b1 ?_ | refine wp_bn ?_ | refine wp_isi ?_ | refine wp_met ?_ | refine wp_pnone ?_ | refine wp_psome ?_ | refine wp_cut ?_ | refine wp_listK ?_ | refine wp_tupleK ?_ | refine wp_strK ?_ | refine wp_yes ?_ | refine wp_tup ?_ | refine wp_lst ?_ | refine tb_b ?_ | refine ti_b ?_ | refine tl_b ?_ | refine tt_b ?_ | refine ts_b ?_ | refine thn_nx ?_ | refine thn_rt ?_ | refine thn_bk ?_ | refine thn_ct ?_ | refine fin_rt ?_ | refine fin_nx ?_ | refine wps_seq ?_ | refine wps_next ?_ | refine wps_break ?_ | refine wps_cont ?_ | refine wps_drop ?_ | refine wps_ret ?_ | refine wps_retN ?_ | refine wps_if ?_ | refine wps_asg ?_ | refine oq_tgNil ?_ | refine oq_tgCons ?_ | refine it2_t ?_ | refine it2_f ?_ | refine it2_not ?_ | refine oq_add_i ?_ | refine oq_sub ?_ | refine oq_lt ?_ | refine oq_le ?_ | refine oq_gt ?_ | refine oq_ge ?_ | refine oq_eq_i ?_ | refine oq_ne_i ?_ | refine oq_eq_s ?_ | refine oq_ne_s ?_ | refine oq_eq_b ?_ | refine oq_ne_b ?_ | refine oq_is ?_ | refine oq_isNot ?_ | refine oq_in_s ?_ | refine oq_notIn_s ?_ | refine oq_len_l ?_ | refine oq_len_t ?_ | refine oq_int ?_ | refine oq_abs ?_ | refine oq_ord ?_ | refine oq_cut_l ?_ | refine oq_cut_t ?_ | refine oq_list_l ?_ | refine oq_list_t ?_ | refine oq_tuple_l ?_ | refine oq_tuple_t ?_ | refine oq_max2 ?_ | refine oq_min2 ?_ | refine oq_some ?_ | refine oq_len_sc ?_ | refine fq_nx ?_ | refine fq_ct ?_ | refine fq_bk ?_ | refine fq_rt ?_ | refine wfd_nil ?_ | refine wfd_cons ?_ | refine oq_eq_il ?_ | refine oq_ne_il ?_ | refine oq_eq_it ?_ | refine oq_ne_it ?_ | refine oq_lt_il ?_ | refine oq_lt_it ?_ | refine wp_isiC ?_ | refine wp_rev ?_ | refine wp_callF ?_ | refine wp_consF ?_ | refine wp_oneF ?_ | refine wp_cat ?_ | refine oq_isiC_ob ?_ | refine oq_isiC_t ?_ | refine oq_isiC_l ?_ | refine oq_eqI ?_ | refine oq_eqI_t ?_ | refine inw_nil ?_ | refine oq_isiE ?_ | refine oq_eqE ?_ | refine oq_eqEl ?_) | ((with_reducible apply fv_n); exact rfl) | ((with_reducible apply fv_v); exact rfl) | ((with_reducible apply fv_h); exact rfl) | ((with_reducible apply fv_m); exact rfl) | ((with_reducible apply fv_d); exact rfl) | ((with_reducible apply fv_t); exact rfl) | ((with_reducible apply fv_b); exact rfl) | ((with_reducible apply wp_kV); exact rfl) | ((with_reducible apply wp_kO_bor); exact rfl) | ((with_reducible apply wp_kO_own); exact rfl) | ((with_reducible apply wp_kO_val); exact rfl) | ((with_reducible apply wp_bopO); exact rfl) | ((with_reducible apply wp_cutO); exact rfl) | ((with_reducible apply wps_frz); exact rfl) | ((with_reducible apply wps_aug); exact rfl) | ((with_reducible apply oq_mutL_bor); exact rfl) | ((with_reducible apply oq_mutL_own); exact rfl) | ((with_reducible apply oq_tgTup); exact rfl) | ((with_reducible apply oq_ix_lk); exact rfl) | ((with_reducible apply oq_ix_tk); exact rfl) | ((with_reducible apply oq_setv); exact rfl; simp only [List.set]) | ((with_reducible apply oq_seto); exact rfl; simp only [List.set]) | ((with_reducible apply wp_gbor); exact rfl; exact rfl) | ((with_reducible apply wp_mut); exact rfl; exact ⟨_, rfl⟩) | ((with_reducible apply wps_seti); exact ⟨_, rfl⟩) | ((with_reducible apply cwp_of); exact rfl; exact rfl; try simp only [giveBack, setd, Sl.d]) | ((with_reducible apply oq_ixN_k); exact rfl; simp only [Sl.d, Sl.wi, List.set]) | ((with_reducible apply oq_mod); (first | omega | decide)) | ((with_reducible apply oq_div); (first | omega | decide)) | ((with_reducible apply oq_mul); (first | omega | decide)) | ((with_reducible apply oq_pow); (first | omega | decide)) | ((with_reducible apply oq_shl); (first | omega | decide)) | ((with_reducible apply oq_shr); (first | omega | decide)) | ((with_reducible apply oq_add_s); (first | omega | decide)) | ((with_reducible apply oq_len_s); (first | omega | decide)) | ((with_reducible apply oq_cut_s); (first | omega | decide)) | ((with_reducible apply oq_append); (first | omega | decide)) | ((with_reducible apply oq_insert); (first | omega | decide)) | ((with_reducible apply oq_extend); (first | omega | decide)) | ((with_reducible apply oq_rep); (first | omega | decide)) | ((with_reducible apply oq_cat); (first | omega | decide)) | ((with_reducible apply lok); exact rfl) | ((with_reducible refine it2_dec ?_ ?_) <;> intro))))
local macro_rules | `(tactic| array_get_dec) => `(tactic| (repeat' (first | (with_reducible first | refine wp_kC ?_ | refine wp_bop ?_ | refine wp_tst ?_ | refine wp_val ?_ | refine wp_andK ?_ | refine wp_orK ?_ | refine wp_notK ?_ | refine wp_andV ?_ | refine wp_orV ?_ | refine wp_chain ?_ | refine wp_ifK ?_ | refine wp_nil ?_ | refine wp_cons ?_ | refine wp_gnil ?_ | refine wp_gval ?_ | refine wp_call ?_ | refine wp_neg ?_ | refine wp_b1 ?_ | refine wp_bn ?_ | refine wp_isi ?_ | refine wp_met ?_ | refine wp_pnone ?_ | refine wp_psome ?_ | refine wp_cut ?_ | refine wp_listK ?_ | refine wp_tupleK ?_ | refine wp_strK ?_ | refine wp_yes ?_ | refine wp_tup ?_ | refine wp_lst ?_ | refine tb_b ?_ | refine ti_b ?_ | refine tl_b ?_ | refine tt_b ?_ | refine ts_b ?_ | refine thn_rt ?_ | refine thn_bk ?_ | refine thn_ct ?_ | refine fin_rt ?_ | refine fin_nx ?_ | refine wps_seq ?_ | refine wps_next ?_ | refine wps_break ?_ | refine wps_cont ?_ | refine wps_drop ?_ | refine wps_ret ?_ | refine wps_retN ?_ | refine wps_if ?_ | refine wps_asg ?_ | refine oq_tgNil ?_ | refine oq_tgCons ?_ | refine it2_t ?_ | refine it2_f ?_ | refine it2_not ?_ | refine oq_add_i ?_ | refine oq_sub ?_ | refine oq_lt ?_ | refine oq_le ?_ | refine oq_gt ?_ | refine oq_ge ?_ | refine oq_eq_i ?_ | refine oq_ne_i ?_ | refine oq_eq_s ?_ | refine oq_ne_s ?_ | refine oq_eq_b ?_ | refine oq_ne_b ?_ | refine oq_is ?_ | refine oq_isNot ?_ | refine oq_in_s ?_ | refine oq_notIn_s ?_ | refine oq_len_l ?_ | refine oq_len_t ?_ | refine oq_int ?_ | refine oq_abs ?_ | refine oq_ord ?_ | refine oq_cut_l ?_ | refine oq_cut_t ?_ | refine oq_list_l ?_ | refine oq_list_t ?_ | refine oq_tuple_l ?_ | refine oq_tuple_t ?_ | refine oq_max2 ?_ | refine oq_min2 ?_ | refine oq_some ?_ | refine oq_len_sc ?_ | refine fq_nx ?_ | refine fq_ct ?_ | refine fq_bk ?_ | refine fq_rt ?_ | refine wfd_nil ?_ | refine wfd_cons ?_ | refine oq_eq_il ?_ | refine oq_ne_il ?_ | refine oq_eq_it ?_ | refine oq_ne_it ?_ | refine oq_lt_il ?_ | refine oq_lt_it ?_ | refine wp_isiC ?_ | refine wp_rev ?_ | refine wp_callF ?_ | refine wp_consF ?_ | refine wp_oneF ?_ | refine wp_cat ?_ | refine oq_isiC_ob ?_ | refine oq_isiC_t ?_ | refine oq_isiC_l ?_ | refine oq_eqI ?_ | refine oq_eqI_t ?_ | refine inw_nil ?_ | refine oq_isiE ?_ | refine oq_eqE ?_ | refine oq_eqEl ?_) | ((with_reducible apply fv_n); exact rfl) | ((with_reducible apply fv_v); exact rfl) | ((with_reducible apply fv_h); exact rfl) | ((with_reducible apply fv_m); exact rfl) | ((with_reducible apply fv_d); exact rfl) | ((with_reducible apply fv_t); exact rfl) | ((with_reducible apply fv_b); exact rfl) | ((with_reducible apply wp_kV); exact rfl) | ((with_reducible apply wp_kO_bor); exact rfl) | ((with_reducible apply wp_kO_own); exact rfl) | ((with_reducible apply wp_kO_val); exact rfl) | ((with_reducible apply wp_bopO); exact rfl) | ((with_reducible apply wp_cutO); exact rfl) | ((with_reducible apply wps_frz); exact rfl) | ((with_reducible apply wps_aug); exact rfl) | ((with_reducible apply oq_mutL_bor); exact rfl) | ((with_reducible apply oq_mutL_own); exact rfl) | ((with_reducible apply oq_tgTup); exact rfl) | ((with_reducible apply oq_ix_lk); exact rfl) | ((with_reducible apply oq_ix_tk); exact rfl) | ((with_reducible apply oq_setv); exact rfl; simp only [List.set]) | ((with_reducible apply oq_seto); exact rfl; simp only [List.set]) | ((with_reducible apply wp_gbor); exact rfl; exact rfl) | ((with_reducible apply wp_mut); exact rfl; exact ⟨_, rfl⟩) | ((with_reducible apply wps_seti); exact ⟨_, rfl⟩) | ((with_reducible apply cwp_of); exact rfl; exact rfl; try simp only [giveBack, setd, Sl.d]) | ((with_reducible apply oq_ixN_k); exact rfl; simp only [Sl.d, Sl.wi, List.set]) | ((with_reducible apply oq_mod); (first | omega | decide)) | ((with_reducible apply oq_div); (first | omega | decide)) | ((with_reducible apply oq_mul); (first | omega | decide)) | ((with_reducible apply oq_pow); (first | omega | decide)) | ((with_reducible apply oq_shl); (first | omega | decide)) | ((with_reducible apply oq_shr); (first | omega | decide)) | ((with_reducible apply oq_add_s); (first | omega | decide)) | ((with_reducible apply oq_len_s); (first | omega | decide)) | ((with_reducible apply oq_cut_s); (first | omega | decide)) | ((with_reducible apply oq_append); (first | omega | decide)) | ((with_reducible apply oq_insert); (first | omega | decide)) | ((with_reducible apply oq_extend); (first | omega | decide)) | ((with_reducible apply oq_rep); (first | omega | decide)) | ((with_reducible apply oq_cat); (first | omega | decide)) | ((with_reducible apply lok); exact rfl) | ((with_reducible refine it2_dec ?_ ?_) <;> intro))))
local macro_rules | `(tactic| sizeOf_list_dec) => `(tactic| (try simp only [List.set, Sl.wi, Sl.d, List.map_cons, List.map_nil, Nat.reduceSub, List.reduceReplicate, List.cons_append, List.nil_append, finA, giveBack, setd, wipeA, unw, List.getElem?_cons_zero, List.getElem?_cons_succ, Option.getD_some, Option.getD_none]))
theorem EL_len (es : List Ent) : (EL C es).length = es.length := by unfold EL; rw [List.length_map]
theorem jb_nt {es : List Ent} {w d : D} (nt : isiB "tuple" d = some false) {Q : D → List Sl → Prop} (q : Q (.bool false) [.val (.list (EL C es)), .val w, .val d]) : fwp (f_judge_winner C) [.val (.list (EL C es)), .val w, .val d] Q := by
  unfold f_judge_winner m_judge_winner
  refine fwp_run rfl rfl ?_
  sizeOf_list_dec
  array_mem_dec
  refine oq_of nt ?_
  array_mem_dec
  sizeOf_list_dec
  exact q
theorem jb_len {es : List Ent} {w : D} {ds : List D} (nl : ds.length ≠ 2) {Q : D → List Sl → Prop} (q : Q (.bool false) [.val (.list (EL C es)), .val w, .val (.tuple ds)]) : fwp (f_judge_winner C) [.val (.list (EL C es)), .val w, .val (.tuple ds)] Q := by
  unfold f_judge_winner m_judge_winner
  refine fwp_run rfl rfl ?_
  sizeOf_list_dec
  array_mem_dec
  refine oq_of isi_tt ?_
  array_mem_dec
  · rename_i h2
    exact absurd (by omega) nl
  · sizeOf_list_dec
    exact q
theorem jb_out {es : List Ent} {w d : D} {k : Int} (hk : ¬ (0 ≤ k ∧ k < (es.length : Nat))) {Q : D → List Sl → Prop} (q : Q (.bool false) [.val (.list (EL C es)), .val w, .val (.tuple [.int k, d])]) : fwp (f_judge_winner C) [.val (.list (EL C es)), .val w, .val (.tuple [.int k, d])] Q := by
  unfold f_judge_winner m_judge_winner
  refine fwp_run rfl rfl ?_
  sizeOf_list_dec
  array_mem_dec
  refine oq_of isi_tt ?_
  array_mem_dec
  · rw [EL_len]
    refine index_ok ?_
    rw [decide_eq_false hk]
    sizeOf_list_dec
    array_mem_dec
    sizeOf_list_dec
    exact q
  · rename_i h1
    exact absurd rfl h1
theorem jb_bool {es : List Ent} {w d : D} {k : Bool} {Q : D → List Sl → Prop} (q : Q (.bool false) [.val (.list (EL C es)), .val w, .val (.tuple [.bool k, d])]) : fwp (f_judge_winner C) [.val (.list (EL C es)), .val w, .val (.tuple [.bool k, d])] Q := by
  unfold f_judge_winner m_judge_winner
  refine fwp_run rfl rfl ?_
  sizeOf_list_dec
  array_mem_dec
  refine oq_of isi_tt ?_
  array_mem_dec
  · refine index_b ?_
    sizeOf_list_dec
    array_mem_dec
    sizeOf_list_dec
    exact q
  · rename_i h1
    exact absurd rfl h1
theorem jb_list {es : List Ent} {w : D} {k : Nat} {ds : List D} (hk : k < es.length) {Q : D → List Sl → Prop} (q : Q (.bool false) [.val (.list (EL C es)), .val w, .val (.tuple [.int (k : Nat), .list ds])]) : fwp (f_judge_winner C) [.val (.list (EL C es)), .val w, .val (.tuple [.int (k : Nat), .list ds])] Q := by
  unfold f_judge_winner m_judge_winner
  refine fwp_run rfl rfl ?_
  sizeOf_list_dec
  array_mem_dec
  refine oq_of isi_tt ?_
  array_mem_dec
  · rw [EL_len]
    refine index_ok ?_
    rw [decide_eq_true (by omega)]
    sizeOf_list_dec
    array_mem_dec
    refine oq_of isi_tl ?_
    array_mem_dec
    sizeOf_list_dec
    exact q
  · rename_i h1
    exact absurd rfl h1
theorem jb_rows {es : List Ent} {w : D} {k : Nat} {ds : List D} (hk : k < es.length) (hl : ds.length ≠ es.length) {Q : D → List Sl → Prop} (q : Q (.bool false) [.val (.list (EL C es)), .val w, .val (.tuple [.int (k : Nat), .tuple ds])]) : fwp (f_judge_winner C) [.val (.list (EL C es)), .val w, .val (.tuple [.int (k : Nat), .tuple ds])] Q := by
  unfold f_judge_winner m_judge_winner
  refine fwp_run rfl rfl ?_
  sizeOf_list_dec
  array_mem_dec
  refine oq_of isi_tt ?_
  array_mem_dec
  · rw [EL_len]
    refine index_ok ?_
    rw [decide_eq_true (by omega)]
    sizeOf_list_dec
    array_mem_dec
    refine oq_of isi_tt ?_
    array_mem_dec
    · rename_i h1
      rw [EL_len] at h1
      exact absurd (by omega) hl
    · sizeOf_list_dec
      exact q
  · rename_i h1
    exact absurd rfl h1
theorem judge_ok {b0 b y ent : Ent} {r es : List Ent} {k : Nat} {rows : List D} {f : Nat → Bool} (ee : es = b0 :: r) (eb : b = best b0 r) (hv : ∀ e, e ∈ es → VOk e.vec) (hg : gdN ent.name) (hgb : gdN b.name) (hl : es.length ≤ 1000) (hk : es[k]? = some y) (lr : rows.length = es.length)
    (hf : ∀ j x d, es[j]? = some x → rows[j]? = some d → fwp (f_is_reason C) [.val (eD C x), .val (eD C y), .val d] fun z as => z = .bool (f j) ∧ as = [.val (eD C x), .val (eD C y), .val d])
    {Q : D → List Sl → Prop} (q1 : (List.range es.length).all f = true → Q (.bool (PyData.eqv (FT ent) (FT (wnr b es)))) [.val (.list (EL C es)), .val (eD C ent), .val (.tuple [.int (k : Nat), .tuple rows])])
    (q0 : (List.range es.length).all f = false → Q (.bool false) [.val (.list (EL C es)), .val (eD C ent), .val (.tuple [.int (k : Nat), .tuple rows])]) :
    fwp (f_judge_winner C) [.val (.list (EL C es)), .val (eD C ent), .val (.tuple [.int (k : Nat), .tuple rows])] Q := by
  have lk := (List.getElem?_eq_some_iff.mp hk).1
  unfold f_judge_winner m_judge_winner
  refine fwp_run rfl rfl ?_
  sizeOf_list_dec
  array_mem_dec
  refine oq_of isi_tt ?_
  array_mem_dec
  · rw [EL_len]
    refine index_ok ?_
    rw [decide_eq_true (by omega)]
    sizeOf_list_dec
    array_mem_dec
    refine oq_of isi_tt ?_
    array_mem_dec
    · refine EL_at hk ?_
      array_mem_dec
      refine wp_map (List.range es.length) (fun i => .int (0 + (i : Nat))) (fun j => .bool (f j)) (wp_range1 ?_)
      array_mem_dec
      rw [EL_len]
      refine ⟨(es.length : Nat), rfl, by omega, by rw [Int.toNat_natCast]; exact nums_map _ _, by rw [List.length_range]; omega, fun j hj => ?_, ?_⟩
      · have hj := List.mem_range.mp hj
        rw [Int.zero_add]
        have ex : es[j]? = some (es[j]'hj) := List.getElem?_eq_getElem hj
        have lj : j < rows.length := by omega
        have er : rows[j]? = some (rows[j]'lj) := List.getElem?_eq_getElem lj
        sizeOf_list_dec
        array_mem_dec
        refine EL_at ex ?_
        array_mem_dec
        refine oq_ix_t (by omega) (by omega) fun z hz => ?_
        rw [Int.toNat_natCast, er] at hz
        cases hz
        array_mem_dec
        refine fwp.imp (hf j _ _ ex er) ?_
        rintro z as ⟨rfl, rfl⟩
        sizeOf_list_dec
        array_mem_dec
        refine ⟨?_, ?_⟩ <;> first | rfl | trivial
      refine oq_all ?_
      cases ha : (List.range es.length).all f with
      | false =>
        array_mem_dec
        sizeOf_list_dec
        exact q0 ha
      | true =>
        array_mem_dec
        refine winner_ok ee eb hv ?_
        sizeOf_list_dec
        array_mem_dec
        have hw : gdN (wnr b es).name := hgb
        refine eqI_ok hg hw ?_
        array_mem_dec
        sizeOf_list_dec
        exact q1 ha
    · rename_i h1
      exfalso
      apply h1
      rw [EL_len, lr]
  · rename_i h1
    exact absurd rfl h1
end K50

namespace K50
open PySem L2 Dz
variable {C : Nat}
--R1 oq_isiE oq_eqE oq_eqEl
--R2 fv_n fv_v fv_h fv_m fv_d fv_t fv_b
local macro_rules | `(tactic| array_mem_dec) => `(tactic| (repeat' (first | (with_reducible first | refine wp_kC ?_ | refine wp_bop ?_ | refine wp_tst ?_ | refine wp_val ?_ | refine wp_andK ?_ | refine wp_orK ?_ | refine wp_notK ?_ | refine wp_andV ?_ | refine wp_orV ?_ | refine wp_chain ?_ | refine wp_ifK ?_ | refine wp_nil ?_ | refine wp_cons ?_ | refine wp_gnil ?_ | refine wp_gval ?_ | refine wp_call ?_ | refine wp_neg ?_ | refine wp_b1 ?_ | refine wp_bn ?_ | refine wp_isi ?_ | refine wp_met ?_ | refine wp_pnone ?_ | refine wp_psome ?_ | refine wp_cut ?_ | refine wp_listK ?_ | refine wp_tupleK ?_ | refine wp_strK ?_ | refine wp_yes ?_ | refine wp_tup ?_ | refine wp_lst ?_ | refine tb_b ?_ | refine ti_b ?_ | refine tl_b ?_ | refine tt_b ?_ | refine ts_b ?_ | refine thn_nx ?_ | refine thn_rt ?_ | refine thn_bk ?_ | refine thn_ct ?_ | refine fin_rt ?_ | refine fin_nx ?_ | refine wps_seq ?_ | refine wps_next ?_ | refine wps_break ?_ | refine wps_cont ?_ | refine wps_drop ?_ | refine wps_ret ?_ | refine wps_retN ?_ | refine wps_if ?_ | refine wps_asg ?_ | refine oq_tgNil ?_ | refine oq_tgCons ?_ | refine it2_t ?_ | refine it2_f ?_ | refine it2_not ?_ | refine oq_add_i ?_ | refine oq_sub ?_ | refine oq_lt ?_ | refine oq_le ?_ | refine oq_gt ?_ | refine oq_ge ?_ | refine oq_eq_i ?_ | refine oq_ne_i ?_ | refine oq_eq_s ?_ | refine oq_ne_s ?_ | refine oq_eq_b ?_ | refine oq_ne_b ?_ | refine oq_is ?_ | refine oq_isNot ?_ | refine oq_in_s ?_ | refine oq_notIn_s ?_ | refine oq_len_l ?_ | refine oq_len_t ?_ | refine oq_int ?_ | refine oq_abs ?_ | refine oq_ord ?_ | refine oq_cut_l ?_ | refine oq_cut_t ?_ | refine oq_list_l ?_ | refine oq_list_t ?_ | refine oq_tuple_l ?_ | refine oq_tuple_t ?_ | refine oq_max2 ?_ | refine oq_min2 ?_ | refine oq_some ?_ | refine oq_len_sc ?_ | refine fq_nx ?_ | refine fq_ct ?_ | refine fq_bk ?_ | refine fq_rt ?_ | refine wfd_nil ?_ | refine wfd_cons ?_ | refine oq_eq_il ?_ | refine oq_ne_il ?_ | refine oq_eq_it ?_ | refine oq_ne_it ?_ | refine oq_lt_il ?_ | refine oq_lt_it ?_ | refine wp_isiC ?_ | refine wp_rev ?_ | refine wp_callF ?_ | refine wp_consF ?_ | refine wp_oneF ?_ | refine wp_cat ?_ | refine oq_isiC_ob ?_ | refine oq_isiC_t ?_ | refine oq_isiC_l ?_ | refine oq_eqI ?_ | refine oq_eqI_t ?_ | refine inw_nil ?_ | refine oq_isiE ?_ | refine oq_eqE ?_ | refine oq_eqEl ?_) | ((with_reducible apply fv_n); exact rfl) | ((with_reducible apply fv_v); exact rfl) | ((with_reducible apply fv_h); exact rfl) | ((with_reducible apply fv_m); exact rfl) | ((with_reducible apply fv_d); exact rfl) | ((with_reducible apply fv_t); exact rfl) | ((with_reducible apply fv_b); exact rfl) | ((with_reducible apply wp_kV); exact rfl) | ((with_reducible apply wp_kO_bor); exact rfl) | ((with_reducible apply wp_kO_own); exact rfl) | ((with_reducible apply wp_kO_val); exact rfl) | ((with_reducible apply wp_bopO); exact rfl) | ((with_reducible apply wp_cutO); exact rfl) | ((with_reducible apply wps_frz); exact rfl) | ((with_reducible apply wps_aug); exact rfl) | ((with_reducible apply oq_mutL_bor); exact rfl) | ((with_reducible apply oq_mutL_own); exact rfl) | ((with_reducible apply oq_tgTup); exact rfl) | ((with_reducible apply oq_ix_lk); exact rfl) | ((with_reducible apply oq_ix_tk); exact rfl) | ((with_reducible apply oq_setv); exact rfl; simp only [List.set]) | ((with_reducible apply oq_seto); exact rfl; simp only [List.set]) | ((with_reducible apply wp_gbor); exact rfl; exact rfl) | ((with_reducible apply wp_mut); exact rfl; exact ⟨_, rfl⟩) | ((with_reducible apply wps_seti); exact ⟨_, rfl⟩) | ((with_reducible apply cwp_of); exact rfl; exact rfl; try simp only [giveBack, setd, Sl.d]) | ((with_reducible apply oq_ixN_k); exact rfl; simp only [Sl.d, Sl.wi, List.set]) | ((with_reducible apply oq_mod); (first | omega | decide)) | ((with_reducible apply oq_div); (first | omega | decide)) | ((with_reducible apply oq_mul); (first | omega | decide)) | ((with_reducible apply oq_pow); (first | omega | decide)) | ((with_reducible apply oq_shl); (first | omega | decide)) | ((with_reducible apply oq_shr); (first | omega | decide)) | ((with_reducible apply oq_add_s); (first | omega | decide)) | ((with_reducible apply oq_len_s); (first | omega | decide)) | ((with_reducible apply oq_cut_s); (first | omega | decide)) | ((with_reducible apply oq_append); (first | omega | decide)) | ((with_reducible apply oq_insert); (first | omega | decide)) | ((with_reducible apply oq_extend); (first | omega | decide)) | ((with_reducible apply oq_rep); (first | omega | decide)) | ((with_reducible apply oq_cat); (first | omega | decide)) | ((with_reducible apply lok); exact rfl) | ((with_reducible refine it2_dec ?_ ?_) <;> intro))))
local macro_rules | `(tactic| array_get_dec) => `(tactic| (repeat' (first | (with_reducible first | refine wp_kC ?_ | refine wp_bop ?_ | refine wp_tst ?_ | refine wp_val ?_ | refine wp_andK ?_ | refine wp_orK ?_ | refine wp_notK ?_ | refine wp_andV ?_ | refine wp_orV ?_ | refine wp_chain ?_ | refine wp_ifK ?_ | refine wp_nil ?_ | refine wp_cons ?_ | refine wp_gnil ?_ | refine wp_gval ?_ | refine wp_call ?_ | refine wp_neg ?_ | refine wp_b1 ?_ | refine wp_bn ?_ | refine wp_isi ?_ | refine wp_met ?_ | refine wp_pnone ?_ | refine wp_psome ?_ | refine wp_cut ?_ | refine wp_listK ?_ | refine wp_tupleK ?_ | refine wp_strK ?_ | refine wp_yes ?_ | refine wp_tup ?_ | refine wp_lst ?_ | refine tb_b ?_ | refine ti_b ?_ | refine tl_b ?_ | refine tt_b ?_ | refine ts_b ?_ | refine thn_rt ?_ | refine thn_bk ?_ | refine thn_ct ?_ | refine fin_rt ?_ | refine fin_nx ?_ | refine wps_seq ?_ | refine wps_next ?_ | refine wps_break ?_ | refine wps_cont ?_ | refine wps_drop ?_ | refine wps_ret ?_ | refine wps_retN ?_ | refine wps_if ?_ | refine wps_asg ?_ | refine oq_tgNil ?_ | refine oq_tgCons ?_ | refine it2_t ?_ | refine it2_f ?_ | refine it2_not ?_ | refine oq_add_i ?_ | refine oq_sub ?_ | refine oq_lt ?_ | refine oq_le ?_ | refine oq_gt ?_ | refine oq_ge ?_ | refine oq_eq_i ?_ | refine oq_ne_i ?_ | refine oq_eq_s ?_ | refine oq_ne_s ?_ | refine oq_eq_b ?_ | refine oq_ne_b ?_ | refine oq_is ?_ | refine oq_isNot ?_ | refine oq_in_s ?_ | refine oq_notIn_s ?_ | refine oq_len_l ?_ | refine oq_len_t ?_ | refine oq_int ?_ | refine oq_abs ?_ | refine oq_ord ?_ | refine oq_cut_l ?_ | refine oq_cut_t ?_ | refine oq_list_l ?_ | refine oq_list_t ?_ | refine oq_tuple_l ?_ | refine oq_tuple_t ?_ | refine oq_max2 ?_ | refine oq_min2 ?_ | refine oq_some ?_ | refine oq_len_sc ?_ | refine fq_nx ?_ | refine fq_ct ?_ | refine fq_bk ?_ | refine fq_rt ?_ | refine wfd_nil ?_ | refine wfd_cons ?_ | refine oq_eq_il ?_ | refine oq_ne_il ?_ | refine oq_eq_it ?_ | refine oq_ne_it ?_ | refine oq_lt_il ?_ | refine oq_lt_it ?_ | refine wp_isiC ?_ | refine wp_rev ?_ | refine wp_callF ?_ | refine wp_consF ?_ | refine wp_oneF ?_ | refine wp_cat ?_ | refine oq_isiC_ob ?_ | refine oq_isiC_t ?_ | refine oq_isiC_l ?_ | refine oq_eqI ?_ | refine oq_eqI_t ?_ | refine inw_nil ?_ | refine oq_isiE ?_ | refine oq_eqE ?_ | refine oq_eqEl ?_) | ((with_reducible apply fv_n); exact rfl) | ((with_reducible apply fv_v); exact rfl) | ((with_reducible apply fv_h); exact rfl) | ((with_reducible apply fv_m); exact rfl) | ((with_reducible apply fv_d); exact rfl) | ((with_reducible apply fv_t); exact rfl) | ((with_reducible apply fv_b); exact rfl) | ((with_reducible apply wp_kV); exact rfl) | ((with_reducible apply wp_kO_bor); exact rfl) | ((with_reducible apply wp_kO_own); exact rfl) | ((with_reducible apply wp_kO_val); exact rfl) | ((with_reducible apply wp_bopO); exact rfl) | ((with_reducible apply wp_cutO); exact rfl) | ((with_reducible apply wps_frz); exact rfl) | ((with_reducible apply wps_aug); exact rfl) | ((with_reducible apply oq_mutL_bor); exact rfl) | ((with_reducible apply oq_mutL_own); exact rfl) | ((with_reducible apply oq_tgTup); exact rfl) | ((with_reducible apply oq_ix_lk); exact rfl) | ((with_reducible apply oq_ix_tk); exact rfl) | ((with_reducible apply oq_setv); exact rfl; simp only [List.set]) | ((with_reducible apply oq_seto); exact rfl; simp only [List.set]) | ((with_reducible apply wp_gbor); exact rfl; exact rfl) | ((with_reducible apply wp_mut); exact rfl; exact ⟨_, rfl⟩) | ((with_reducible apply wps_seti); exact ⟨_, rfl⟩) | ((with_reducible apply cwp_of); exact rfl; exact rfl; try simp only [giveBack, setd, Sl.d]) | ((with_reducible apply oq_ixN_k); exact rfl; simp only [Sl.d, Sl.wi, List.set]) | ((with_reducible apply oq_mod); (first | omega | decide)) | ((with_reducible apply oq_div); (first | omega | decide)) | ((with_reducible apply oq_mul); (first | omega | decide)) | ((with_reducible apply oq_pow); (first | omega | decide)) | ((with_reducible apply oq_shl); (first | omega | decide)) | ((with_reducible apply oq_shr); (first | omega | decide)) | ((with_reducible apply oq_add_s); (first | omega | decide)) | ((with_reducible apply oq_len_s); (first | omega | decide)) | ((with_reducible apply oq_cut_s); (first | omega | decide)) | ((with_reducible apply oq_append); (first | omega | decide)) | ((with_reducible apply oq_insert); (first | omega | decide)) | ((with_reducible apply oq_extend); (first | omega | decide)) | ((with_reducible apply oq_rep); (first | omega | decide)) | ((with_reducible apply oq_cat); (first | omega | decide)) | ((with_reducible apply lok); exact rfl) | ((with_reducible refine it2_dec ?_ ?_) <;> intro))))
local macro_rules | `(tactic| sizeOf_list_dec) => `(tactic| (try simp only [List.set, Sl.wi, Sl.d, List.map_cons, List.map_nil, Nat.reduceSub, List.reduceReplicate, List.cons_append, List.nil_append, finA, giveBack, setd, wipeA, unw, List.getElem?_cons_zero, List.getElem?_cons_succ, Option.getD_some, Option.getD_none]))
theorem al_self (x : Ent) : al x x = true := by unfold al; simp
theorem al_iff {x y : Ent} : al x y = true ↔ x.del = y.del ∧ x.bl = y.bl := by unfold al; simp
theorem al_trans {x y z : Ent} (h : al x y = true) : al x z = al y z := by
  obtain ⟨h1, h2⟩ := al_iff.mp h
  unfold al
  rw [h1, h2]
theorem al_symm {x y : Ent} : al x y = al y x := by
  unfold al
  rw [show decide (x.del = y.del) = decide (y.del = x.del) by simp [eq_comm], show decide (x.bl = y.bl) = decide (y.bl = x.bl) by simp [eq_comm]]
theorem neA1 {p : Int} {u v : D} (hu : okD 59 u = true) (hv : okD 59 v = true) : dEqB (L4 p u v) A1 = some false := by
  have ok : okD 60 (L4 p u v) = true := by
    show [PyData.str "less", .int p, u, v].all (okD 59) = true
    have hs : okD 59 (.str "less") = true := by decide +kernel
    simp only [List.all_cons, List.all_nil, hu, hv, hs]
    rfl
  show (if okD 60 (L4 p u v) = true ∧ okD 60 A1 = true then some (PyData.eqv (L4 p u v) A1) else none) = _
  rw [if_pos ⟨ok, ok_A1⟩]
  simp [L4, A1, PyData.eqv, PyData.eqvAll]
def isrf (b x y : Ent) : Bool := if al x b = true then (al x y && !lt (KD y) (KD x)) else if al x y = true then false else r4 x y (df x b) (kp x (df x b)) (kp b (df x b))
theorem row_ok {b x y : Ent} (g : (al x b || decide (df x b < 6)) = true) : fwp (f_is_reason C) [.val (eD C x), .val (eD C y), .val (rowR b x)] fun z as => z = .bool (isrf b x y) ∧ as = [.val (eD C x), .val (eD C y), .val (rowR b x)] := by
  unfold rowR isrf
  by_cases h : al x b = true
  · rw [if_pos h, if_pos h]
    exact isr1 ⟨rfl, rfl⟩
  · have hl : df x b < 6 := by
      rw [Bool.not_eq_true] at h
      rw [h, Bool.false_or] at g
      exact of_decide_eq_true g
    rw [if_neg h, if_neg h]
    unfold lessR
    rw [if_pos hl]
    have ne : dEqB (L4 (df x b : Nat) (kp x (df x b)) (kp b (df x b))) A1 = some false := neA1 (ok_kpn 58 _ _) (ok_kpn 58 _ _)
    by_cases h2 : al x y = true
    · rw [if_pos h2]
      exact isr_al h2 ne ⟨rfl, rfl⟩
    · rw [if_neg h2]
      exact isr4 (by simpa using h2) ne hl (ok_kpn 58 _ _) (ok_kpn 58 _ _) ⟨rfl, rfl⟩
theorem sp_toks {x y : Ent} {p : Nat} : sp x y p = true ↔ PySem.W.keyToks (kp x p) = PySem.W.keyToks (kp y p) := eqv_toks (al_kp x y p)
theorem sk_sp {x y : Ent} (h : sk x y = true) {p : Nat} (hp : p < 6) : sp x y p = true := by
  have h' : PyData.eqv (KD x) (KD y) = true := h
  rw [eqv_KD] at h'
  simp only [Bool.and_eq_true] at h'
  obtain ⟨a0, a1, a2, a3, a4, a5⟩ := h'
  have : p = 0 ∨ p = 1 ∨ p = 2 ∨ p = 3 ∨ p = 4 ∨ p = 5 := by omega
  rcases this with rfl | rfl | rfl | rfl | rfl | rfl <;> assumption
theorem lt_toks {a b c : D} (h : PySem.W.keyToks b = PySem.W.keyToks c) : lt a b = lt a c := by
  unfold lt PySem.W.dataLt
  rw [h]
theorem lt_toksL {a b c : D} (h : PySem.W.keyToks b = PySem.W.keyToks c) : lt b a = lt c a := by
  unfold lt PySem.W.dataLt
  rw [h]
theorem sk_df {x b : Ent} (h : sk x b = true) : df x b = 6 := by
  rcases df_ex x b with ⟨_, z, _⟩ | ⟨p, p1, p2, p3, _⟩
  · exact z
  · rw [sk_sp h p1] at p3
    cases p3
/-- as great, and so alike: every reason stands -/
theorem isrf_true {b x y : Ent} (top : lt (KD b) (KD x) = false) (g : (al x b || decide (df x b < 6)) = true) (ky : sk y b = true) (ay : al y b = true) : isrf b x y = true := by
  have ty := sk_toks.mp ky
  unfold isrf
  have axy : al x y = al x b := by rw [al_symm (x := x) (y := y), al_trans ay, al_symm]
  rw [axy]
  by_cases h : al x b = true
  · rw [if_pos h, h, lt_toksL ty, top]
    rfl
  · have hl : df x b < 6 := by
      rw [Bool.not_eq_true] at h
      rw [h, Bool.false_or] at g
      exact of_decide_eq_true g
    rw [if_neg h, if_neg h]
    rcases df_ex x b with ⟨_, z2, _⟩ | ⟨p, p1, p2, p3, p4, p5, p6⟩
    · omega
    · rw [p2]
      have tp : ∀ q, q < 6 → PySem.W.keyToks (kp y q) = PySem.W.keyToks (kp b q) := fun q hq => sp_toks.mp (sk_sp ky hq)
      have a1 : spUp x y p = true := (spUp_all x y p p1).mpr fun q hq => sp_toks.mpr ((sp_toks.mp (p4 q hq)).trans (tp q (by omega)).symm)
      have a2 : lt (kp x p) (kp y p) = true := by
        rw [lt_toks (tp p p1), ← p6]
        rcases lt_total (al_KD x b) p5 with l | l
        · exact l
        · rw [top] at l
          cases l
      have a3 : PyData.eqv (kp x p) (kp x p) = true := (eqv_toks (al_kp x x p)).mpr rfl
      have a4 : PyData.eqv (kp b p) (kp y p) = true := (eqv_toks (al_kp b y p)).mpr (tp p p1).symm
      unfold r4
      rw [a1, a2, a3, a4]
      rfl
theorem isrf_false {b y : Ent} (ay : al y b = false) : isrf b b y = false := by
  unfold isrf
  rw [if_pos (al_self b), al_symm, ay]
  rfl
/-- four parts that stand are the row itself -/
theorem r4_row {b x : Ent} {p : Nat} {u v : D} (hp : p < 6) (h : r4 x b p u v = true) : df x b = p ∧ PyData.eqv u (kp x p) = true ∧ PyData.eqv v (kp b p) = true := by
  unfold r4 at h
  simp only [Bool.and_eq_true] at h
  obtain ⟨h1, h2, h3, h4⟩ := h
  refine ⟨?_, h3, h4⟩
  have hs := (spUp_all x b p hp).mp h1
  have hn : sp x b p = false := by
    cases z : sp x b p with
    | false => rfl
    | true =>
      rw [lt_eqv (al_kp x b p) z] at h2
      cases h2
  rcases df_ex x b with ⟨_, _, z3, _⟩ | ⟨q, q1, q2, q3, q4, _⟩
  · have : sk x b = true := z3
    rw [sk_sp this hp] at hn
    cases hn
  · rcases Nat.lt_trichotomy q p with l | l | l
    · rw [hs q l] at q3; cases q3
    · rw [q2, l]
    · rw [q4 p l] at hn; cases hn
end K50

namespace K50
open PySem L2 Dz
variable {C : Nat}
--R1 oq_isiE oq_eqE oq_eqEl
--R2 fv_n fv_v fv_h fv_m fv_d fv_t fv_b
local macro_rules | `(tactic| array_mem_dec) => `(tactic| (repeat' (first | (with_reducible first | refine wp_kC ?_ | refine wp_bop ?_ | refine wp_tst ?_ | refine wp_val ?_ | refine wp_andK ?_ | refine wp_orK ?_ | refine wp_notK ?_ | refine wp_andV ?_ | refine wp_orV ?_ | refine wp_chain ?_ | refine wp_ifK ?_ | refine wp_nil ?_ | refine wp_cons ?_ | refine wp_gnil ?_ | refine wp_gval ?_ | refine wp_call ?_ | refine wp_neg ?_ | refine wp_b1 ?_ | refine wp_bn ?_ | refine wp_isi ?_ | refine wp_met ?_ | refine wp_pnone ?_ | refine wp_psome ?_ | refine wp_cut ?_ | refine wp_listK ?_ | refine wp_tupleK ?_ | refine wp_strK ?_ | refine wp_yes ?_ | refine wp_tup ?_ | refine wp_lst ?_ | refine tb_b ?_ | refine ti_b ?_ | refine tl_b ?_ | refine tt_b ?_ | refine ts_b ?_ | refine thn_nx ?_ | refine thn_rt ?_ | refine thn_bk ?_ | refine thn_ct ?_ | refine fin_rt ?_ | refine fin_nx ?_ | refine wps_seq ?_ | refine wps_next ?_ | refine wps_break ?_ | refine wps_cont ?_ | refine wps_drop ?_ | refine wps_ret ?_ | refine wps_retN ?_ | refine wps_if ?_ | refine wps_asg ?_ | refine oq_tgNil ?_ | refine oq_tgCons ?_ | refine it2_t ?_ | refine it2_f ?_ | refine it2_not ?_ | refine oq_add_i ?_ | refine oq_sub ?_ | refine oq_lt ?_ | refine oq_le ?_ | refine oq_gt ?_ | refine oq_ge ?_ | refine oq_eq_i ?_ | refine oq_ne_i ?_ | refine oq_eq_s ?_ | refine oq_ne_s ?_ | refine oq_eq_b ?_ | refine oq_ne_b ?_ | refine oq_is ?_ | refine oq_isNot ?_ | refine oq_in_s ?_ | refine oq_notIn_s ?_ | refine oq_len_l ?_ | refine oq_len_t ?_ | refine oq_int ?_ | refine oq_abs ?_ | refine oq_ord ?_ | refine oq_cut_l ?_ | refine oq_cut_t ?_ | refine oq_list_l ?_ | refine oq_list_t ?_ | refine oq_tuple_l ?_ | refine oq_tuple_t ?_ | refine oq_max2 ?_ | refine oq_min2 ?_ | refine oq_some ?_ | refine oq_len_sc ?_ | refine fq_nx ?_ | refine fq_ct ?_ | refine fq_bk ?_ | refine fq_rt ?_ | refine wfd_nil ?_ | refine wfd_cons ?_ | refine oq_eq_il ?_ | refine oq_ne_il ?_ | refine oq_eq_it ?_ | refine oq_ne_it ?_ | refine oq_lt_il ?_ | refine oq_lt_it ?_ | refine wp_isiC ?_ | refine wp_rev ?_ | refine wp_callF ?_ | refine wp_consF ?_ | refine wp_oneF ?_ | refine wp_cat ?_ | refine oq_isiC_ob ?_ | refine oq_isiC_t ?_ | refine oq_isiC_l ?_ | refine oq_eqI ?_ | refine oq_eqI_t ?_ | refine inw_nil ?_ | refine oq_isiE ?_ | refine oq_eqE ?_ | refine oq_eqEl ?_) | ((with_reducible apply fv_n); exact rfl) | ((with_reducible apply fv_v); exact rfl) | ((with_reducible apply fv_h); exact rfl) | ((with_reducible apply fv_m); exact rfl) | ((with_reducible apply fv_d); exact rfl) | ((with_reducible apply fv_t); exact rfl) | ((with_reducible apply fv_b); exact rfl) | ((with_reducible apply wp_kV); exact rfl) | ((with_reducible apply wp_kO_bor); exact rfl) | ((with_reducible apply wp_kO_own); exact rfl) | ((with_reducible apply wp_kO_val); exact rfl) | ((with_reducible apply wp_bopO); exact rfl) | ((with_reducible apply wp_cutO); exact rfl) | ((with_reducible apply wps_frz); exact rfl) | ((with_reducible apply wps_aug); exact rfl) | ((with_reducible apply oq_mutL_bor); exact rfl) | ((with_reducible apply oq_mutL_own); exact rfl) | ((with_reducible apply oq_tgTup); exact rfl) | ((with_reducible apply oq_ix_lk); exact rfl) | ((with_reducible apply oq_ix_tk); exact rfl) | ((with_reducible apply oq_setv); exact rfl; simp only [List.set]) | ((with_reducible apply oq_seto); exact rfl; simp only [List.set]) | ((with_reducible apply wp_gbor); exact rfl; exact rfl) | ((with_reducible apply wp_mut); exact rfl; exact ⟨_, rfl⟩) | ((with_reducible apply wps_seti); exact ⟨_, rfl⟩) | ((with_reducible apply cwp_of); exact rfl; exact rfl; try simp only [giveBack, setd, Sl.d]) | ((with_reducible apply oq_ixN_k); exact rfl; simp only [Sl.d, Sl.wi, List.set]) | ((with_reducible apply oq_mod); (first | omega | decide)) | ((with_reducible apply oq_div); (first | omega | decide)) | ((with_reducible apply oq_mul); (first | omega | decide)) | ((with_reducible apply oq_pow); (first | omega | decide)) | ((with_reducible apply oq_shl); (first | omega | decide)) | ((with_reducible apply oq_shr); (first | omega | decide)) | ((with_reducible apply oq_add_s); (first | omega | decide)) | ((with_reducible apply oq_len_s); (first | omega | decide)) | ((with_reducible apply oq_cut_s); (first | omega | decide)) | ((with_reducible apply oq_append); (first | omega | decide)) | ((with_reducible apply oq_insert); (first | omega | decide)) | ((with_reducible apply oq_extend); (first | omega | decide)) | ((with_reducible apply oq_rep); (first | omega | decide)) | ((with_reducible apply oq_cat); (first | omega | decide)) | ((with_reducible apply lok); exact rfl) | ((with_reducible refine it2_dec ?_ ?_) <;> intro))))
local macro_rules | `(tactic| array_get_dec) => `(tactic| (repeat' (first | (with_reducible first | refine wp_kC ?_ | refine wp_bop ?_ | refine wp_tst ?_ | refine wp_val ?_ | refine wp_andK ?_ | refine wp_orK ?_ | refine wp_notK ?_ | refine wp_andV ?_ | refine wp_orV ?_ | refine wp_chain ?_ | refine wp_ifK ?_ | refine wp_nil ?_ | refine wp_cons ?_ | refine wp_gnil ?_ | refine wp_gval ?_ | refine wp_call ?_ | refine wp_neg ?_ | refine wp_b1 ?_ | refine wp_bn ?_ | refine wp_isi ?_ | refine wp_met ?_ | refine wp_pnone ?_ | refine wp_psome ?_ | refine wp_cut ?_ | refine wp_listK ?_ | refine wp_tupleK ?_ | refine wp_strK ?_ | refine wp_yes ?_ | refine wp_tup ?_ | refine wp_lst ?_ | refine tb_b ?_ | refine ti_b ?_ | refine tl_b ?_ | refine tt_b ?_ | refine ts_b ?_ | refine thn_rt ?_ | refine thn_bk ?_ | refine thn_ct ?_ | refine fin_rt ?_ | refine fin_nx ?_ | refine wps_seq ?_ | refine wps_next ?_ | refine wps_break ?_ | refine wps_cont ?_ | refine wps_drop ?_ | refine wps_ret ?_ | refine wps_retN ?_ | refine wps_if ?_ | refine wps_asg ?_ | refine oq_tgNil ?_ | refine oq_tgCons ?_ | refine it2_t ?_ | refine it2_f ?_ | refine it2_not ?_ | refine oq_add_i ?_ | refine oq_sub ?_ | refine oq_lt ?_ | refine oq_le ?_ | refine oq_gt ?_ | refine oq_ge ?_ | refine oq_eq_i ?_ | refine oq_ne_i ?_ | refine oq_eq_s ?_ | refine oq_ne_s ?_ | refine oq_eq_b ?_ | refine oq_ne_b ?_ | refine oq_is ?_ | refine oq_isNot ?_ | refine oq_in_s ?_ | refine oq_notIn_s ?_ | refine oq_len_l ?_ | refine oq_len_t ?_ | refine oq_int ?_ | refine oq_abs ?_ | refine oq_ord ?_ | refine oq_cut_l ?_ | refine oq_cut_t ?_ | refine oq_list_l ?_ | refine oq_list_t ?_ | refine oq_tuple_l ?_ | refine oq_tuple_t ?_ | refine oq_max2 ?_ | refine oq_min2 ?_ | refine oq_some ?_ | refine oq_len_sc ?_ | refine fq_nx ?_ | refine fq_ct ?_ | refine fq_bk ?_ | refine fq_rt ?_ | refine wfd_nil ?_ | refine wfd_cons ?_ | refine oq_eq_il ?_ | refine oq_ne_il ?_ | refine oq_eq_it ?_ | refine oq_ne_it ?_ | refine oq_lt_il ?_ | refine oq_lt_it ?_ | refine wp_isiC ?_ | refine wp_rev ?_ | refine wp_callF ?_ | refine wp_consF ?_ | refine wp_oneF ?_ | refine wp_cat ?_ | refine oq_isiC_ob ?_ | refine oq_isiC_t ?_ | refine oq_isiC_l ?_ | refine oq_eqI ?_ | refine oq_eqI_t ?_ | refine inw_nil ?_ | refine oq_isiE ?_ | refine oq_eqE ?_ | refine oq_eqEl ?_) | ((with_reducible apply fv_n); exact rfl) | ((with_reducible apply fv_v); exact rfl) | ((with_reducible apply fv_h); exact rfl) | ((with_reducible apply fv_m); exact rfl) | ((with_reducible apply fv_d); exact rfl) | ((with_reducible apply fv_t); exact rfl) | ((with_reducible apply fv_b); exact rfl) | ((with_reducible apply wp_kV); exact rfl) | ((with_reducible apply wp_kO_bor); exact rfl) | ((with_reducible apply wp_kO_own); exact rfl) | ((with_reducible apply wp_kO_val); exact rfl) | ((with_reducible apply wp_bopO); exact rfl) | ((with_reducible apply wp_cutO); exact rfl) | ((with_reducible apply wps_frz); exact rfl) | ((with_reducible apply wps_aug); exact rfl) | ((with_reducible apply oq_mutL_bor); exact rfl) | ((with_reducible apply oq_mutL_own); exact rfl) | ((with_reducible apply oq_tgTup); exact rfl) | ((with_reducible apply oq_ix_lk); exact rfl) | ((with_reducible apply oq_ix_tk); exact rfl) | ((with_reducible apply oq_setv); exact rfl; simp only [List.set]) | ((with_reducible apply oq_seto); exact rfl; simp only [List.set]) | ((with_reducible apply wp_gbor); exact rfl; exact rfl) | ((with_reducible apply wp_mut); exact rfl; exact ⟨_, rfl⟩) | ((with_reducible apply wps_seti); exact ⟨_, rfl⟩) | ((with_reducible apply cwp_of); exact rfl; exact rfl; try simp only [giveBack, setd, Sl.d]) | ((with_reducible apply oq_ixN_k); exact rfl; simp only [Sl.d, Sl.wi, List.set]) | ((with_reducible apply oq_mod); (first | omega | decide)) | ((with_reducible apply oq_div); (first | omega | decide)) | ((with_reducible apply oq_mul); (first | omega | decide)) | ((with_reducible apply oq_pow); (first | omega | decide)) | ((with_reducible apply oq_shl); (first | omega | decide)) | ((with_reducible apply oq_shr); (first | omega | decide)) | ((with_reducible apply oq_add_s); (first | omega | decide)) | ((with_reducible apply oq_len_s); (first | omega | decide)) | ((with_reducible apply oq_cut_s); (first | omega | decide)) | ((with_reducible apply oq_append); (first | omega | decide)) | ((with_reducible apply oq_insert); (first | omega | decide)) | ((with_reducible apply oq_extend); (first | omega | decide)) | ((with_reducible apply oq_rep); (first | omega | decide)) | ((with_reducible apply oq_cat); (first | omega | decide)) | ((with_reducible apply lok); exact rfl) | ((with_reducible refine it2_dec ?_ ?_) <;> intro))))
local macro_rules | `(tactic| sizeOf_list_dec) => `(tactic| (try simp only [List.set, Sl.wi, Sl.d, List.map_cons, List.map_nil, Nat.reduceSub, List.reduceReplicate, List.cons_append, List.nil_append, finA, giveBack, setd, wipeA, unw, List.getElem?_cons_zero, List.getElem?_cons_succ, Option.getD_some, Option.getD_none]))
def DS (ns : List Int) (a c s : Int) : D := .list [scriptD ns, .int a, .int c, .int s]
theorem draws_ok {ns : List Int} (hl : ns.length ≤ 63) {Q : D → List Sl → Prop} (q : Q (DS ns 0 0 1) [.val (scriptD ns)]) : fwp (f_law_draws C) [.val (scriptD ns)] Q := by
  unfold f_law_draws m_law_draws
  refine fwp_runO rfl rfl ?_
  sizeOf_list_dec
  unfold scriptD at *
  array_mem_dec
  exact q
theorem draw_ok {ns : List Int} {a c s n : Int} (ha : 0 ≤ a) (hn : 0 < n ∧ n < 2 ^ 80) {Q : D → List Sl → Prop} (q : ∀ d a' c' s', 0 ≤ a' → 0 ≤ d → d < n → Q (.int d) [.bor (DS ns a' c' s'), .val (.int n)]) :
    fwp (f_law_draw C) [.bor (DS ns a c s), .val (.int n)] Q := by
  have h0 := hn.1
  have h1 := hn.2
  unfold f_law_draw m_law_draw
  unfold DS at q ⊢
  refine fwp_run rfl rfl ?_
  sizeOf_list_dec
  refine wps_seq (wps_post (fun o => ∃ a' c' s' x, 0 ≤ a' ∧ Vn x ∧ o = .nx [some (.bor (.list [scriptD ns, .int a', .int c', .int s'])), some (.val (.int n)), x, none]) ?_ ?_)
  · array_mem_dec
    · rename_i hc hlt
      refine oq_ix_sc ha hlt fun z _ => ?_
      array_mem_dec
      all_goals exact ⟨_, _, _, _, by omega, .inr ⟨_, rfl⟩, rfl⟩
    all_goals exact ⟨_, _, _, _, ha, .inl rfl, rfl⟩
  · rintro o ⟨a', c', s', x, ha', hx, rfl⟩
    array_mem_dec
    · sizeOf_list_dec
      exact q _ _ _ _ ha' (Int.emod_nonneg _ (by omega)) (Int.emod_lt_of_pos _ h0)
    · sizeOf_list_dec
      exact q _ _ _ _ ha' (Int.emod_nonneg _ (by omega)) (Int.emod_lt_of_pos _ h0)
structure EOk (e : Ent) : Prop where
  n : e.name = Str.ofString "a"
  v : VOk e.vec
  ne : e.vec ≠ []
theorem vector_ok {ns : List Int} {a c s : Int} (ha : 0 ≤ a) {Q : D → List Sl → Prop} (q : ∀ v a' c' s', 0 ≤ a' → VOk v → v ≠ [] → Q (VD v) [.bor (DS ns a' c' s')]) : fwp (f_law_vector C) [.bor (DS ns a c s)] Q := by
  unfold f_law_vector m_law_vector
  refine fwp_run rfl rfl ?_
  sizeOf_list_dec
  array_mem_dec
  refine wp_lc (wp_tupleK ?_)
  array_mem_dec
  refine ⟨fun ds acc ρ => ∃ (done rest : List Int) (v : Vec) (a c s : Int), [1, 2, 9] = done ++ rest ∧ ds = rest.map PyData.int ∧ acc = VL v ∧ (v.map (·.1)).Sublist done ∧ (∀ p, p ∈ v → 1 ≤ p.2) ∧ 0 ≤ a ∧ ρ = [some (.bor (DS ns a c s)), none, none], ⟨[], [1, 2, 9], [], a, c, s, rfl, rfl, rfl, List.Sublist.refl _, (fun _ h => nomatch h), ha, rfl⟩, ?_, ?_⟩
  · rintro d ds acc ρ ⟨done, rest, v, a, c, s, e1, e2, rfl, hs, hp, ha, rfl⟩
    cases rest with
    | nil => cases e2
    | cons z rest =>
      simp only [List.map_cons, List.cons.injEq] at e2
      obtain ⟨rfl, rfl⟩ := e2
      have lv : (VL v).length ≤ 100 := by
        have h1 := hs.length_le
        have h2 := congrArg List.length e1
        unfold VL
        simp at h1 h2 ⊢
        omega
      sizeOf_list_dec
      array_mem_dec
      refine draw_ok ha (by decide) fun d a c s ha _ _ => ?_
      sizeOf_list_dec
      array_mem_dec
      · refine draw_ok ha (by decide) fun d a c s ha d0 _ => ?_
        sizeOf_list_dec
        array_mem_dec
        refine ⟨by omega, done ++ [z], rest, v ++ [(z, 1 + d)], a, c, s, by simp [e1], rfl, by unfold VL; simp, ?_, fun p h => ?_, ha, rfl⟩
        · rw [List.map_append]
          exact List.Sublist.append hs (List.Sublist.refl _)
        · rcases List.mem_append.mp h with h | h
          · exact hp p h
          · rw [List.mem_singleton.mp h]
            show 1 ≤ 1 + d
            omega
      · exact ⟨done ++ [z], rest, v, a, c, s, by simp [e1], rfl, rfl, hs.trans (List.sublist_append_left _ _), hp, ha, rfl⟩
  · rintro acc ρ ⟨done, rest, v, a, c, s, e1, e2, rfl, hs, hp, ha, rfl⟩
    cases rest with
    | cons z rest => cases e2
    | nil =>
      rw [List.append_nil] at e1
      subst e1
      have hv : VOk v := ⟨List.Nodup.sublist hs (by decide), fun p h => by
        have := hs.subset (List.mem_map_of_mem (f := (·.1)) h)
        have h2 := hp p h
        simp at this
        omega⟩
      have lv : (VL v).length ≤ 100 := by
        have h1 := hs.length_le
        unfold VL
        simp at h1 ⊢
        omega
      array_mem_dec
      refine dInt_b ?_
      have lV : (VL v).length = v.length := by unfold VL; simp
      cases v with
      | nil =>
        array_mem_dec
        refine oq_add_l (by decide) ?_
        array_mem_dec
        sizeOf_list_dec
        exact q [(5, 2)] a c s ha ⟨by simp, fun p h => by
          rw [List.mem_singleton.mp h]
          decide⟩ (by simp)
      | cons p v =>
        have en : decide (((VL (p :: v)).length : Int) = 0) = false := decide_eq_false (by rw [lV]; simp; omega)
        rw [en]
        array_mem_dec
        have ec : cutD [PyData.tuple [.int 5, .int 2]] none (some (if false = true then 1 else 0)) = [] := by decide +kernel
        rw [ec]
        refine oq_add_l (by simp only [List.length_nil]; omega) ?_
        rw [List.append_nil]
        array_mem_dec
        sizeOf_list_dec
        exact q (p :: v) a c s ha hv (by simp)
theorem entry_ok {ns : List Int} {a c s : Int} (ha : 0 ≤ a) {Q : D → List Sl → Prop} (q : ∀ e a' c' s', 0 ≤ a' → EOk e → Q (eD C e) [.bor (DS ns a' c' s')]) : fwp (f_law_entry C) [.bor (DS ns a c s)] Q := by
  unfold f_law_entry m_law_entry
  refine fwp_run rfl rfl ?_
  sizeOf_list_dec
  array_mem_dec
  refine draw_ok ha (by decide) fun h a c s ha _ _ => ?_
  sizeOf_list_dec
  array_mem_dec
  refine draw_ok ha (by decide) fun m1 a c s ha _ _ => ?_
  sizeOf_list_dec
  array_mem_dec
  refine draw_ok ha (by decide) fun m2 a c s ha _ _ => ?_
  sizeOf_list_dec
  array_mem_dec
  refine draw_ok ha (by decide) fun k a c s ha _ _ => ?_
  sizeOf_list_dec
  array_mem_dec
  · refine wp_mk ?_
    array_mem_dec
    refine vector_ok ha fun v a c s ha v1 v2 => ?_
    sizeOf_list_dec
    array_mem_dec
    refine draw_ok ha (by decide) fun t a c s ha _ _ => ?_
    sizeOf_list_dec
    array_mem_dec
    refine ⟨rfl, ?_⟩
    sizeOf_list_dec
    refine mk_ok ?_
    array_mem_dec
    sizeOf_list_dec
    exact q ⟨Str.ofString "a", v, 1 + h, 1 + m1, 1 + m2, true, t, []⟩ a c s ha ⟨rfl, v1, v2⟩
  · refine draw_ok ha (by decide) fun t a c s ha t0 t1 => ?_
    sizeOf_list_dec
    array_mem_dec
    refine oq_ix_l t0 (by show t < ((4 : Nat) : Int); exact t1) fun z hz => ?_
    have hb : ∃ bl : List Int, z = .tuple (bl.map PyData.int) := by
      have hm : z ∈ ([[], [257], [258], [4311876356, 511]] : List (List Int)).map fun l => PyData.tuple (l.map PyData.int) := List.mem_of_getElem? hz
      obtain ⟨l, _, rfl⟩ := List.mem_map.mp hm
      exact ⟨l, rfl⟩
    obtain ⟨bl, rfl⟩ := hb
    array_mem_dec
    refine wp_mk ?_
    array_mem_dec
    refine vector_ok ha fun v a c s ha v1 v2 => ?_
    sizeOf_list_dec
    array_mem_dec
    refine draw_ok ha (by decide) fun t a c s ha _ _ => ?_
    sizeOf_list_dec
    array_mem_dec
    refine ⟨rfl, ?_⟩
    sizeOf_list_dec
    refine mk_ok ?_
    array_mem_dec
    sizeOf_list_dec
    exact q ⟨Str.ofString "a", v, 1 + h, 1 + m1, 1 + m2, false, t, bl⟩ a c s ha ⟨rfl, v1, v2⟩
end K50

namespace K50
open PySem L2 Dz
variable {C : Nat}
--R1 oq_isiE oq_eqE oq_eqEl
--R2 fv_n fv_v fv_h fv_m fv_d fv_t fv_b
local macro_rules | `(tactic| array_mem_dec) => `(tactic| (repeat' (first | (with_reducible first | refine wp_kC ?_ | refine wp_bop ?_ | refine wp_tst ?_ | refine wp_val ?_ | refine wp_andK ?_ | refine wp_orK ?_ | refine wp_notK ?_ | refine wp_andV ?_ | refine wp_orV ?_ | refine wp_chain ?_ | refine wp_ifK ?_ | refine wp_nil ?_ | refine wp_cons ?_ | refine wp_gnil ?_ | refine wp_gval ?_ | refine wp_call ?_ | refine wp_neg ?_ | refine wp_b1 ?_ | refine wp_bn ?_ | refine wp_isi ?_ | refine wp_met ?_ | refine wp_pnone ?_ | refine wp_psome ?_ | refine wp_cut ?_ | refine wp_listK ?_ | refine wp_tupleK ?_ | refine wp_strK ?_ | refine wp_yes ?_ | refine wp_tup ?_ | refine wp_lst ?_ | refine tb_b ?_ | refine ti_b ?_ | refine tl_b ?_ | refine tt_b ?_ | refine ts_b ?_ | refine thn_nx ?_ | refine thn_rt ?_ | refine thn_bk ?_ | refine thn_ct ?_ | refine fin_rt ?_ | refine fin_nx ?_ | refine wps_seq ?_ | refine wps_next ?_ | refine wps_break ?_ | refine wps_cont ?_ | refine wps_drop ?_ | refine wps_ret ?_ | refine wps_retN ?_ | refine wps_if ?_ | refine wps_asg ?_ | refine oq_tgNil ?_ | refine oq_tgCons ?_ | refine it2_t ?_ | refine it2_f ?_ | refine it2_not ?_ | refine oq_add_i ?_ | refine oq_sub ?_ | refine oq_lt ?_ | refine oq_le ?_ | refine oq_gt ?_ | refine oq_ge ?_ | refine oq_eq_i ?_ | refine oq_ne_i ?_ | refine oq_eq_s ?_ | refine oq_ne_s ?_ | refine oq_eq_b ?_ | refine oq_ne_b ?_ | refine oq_is ?_ | refine oq_isNot ?_ | refine oq_in_s ?_ | refine oq_notIn_s ?_ | refine oq_len_l ?_ | refine oq_len_t ?_ | refine oq_int ?_ | refine oq_abs ?_ | refine oq_ord ?_ | refine oq_cut_l ?_ | refine oq_cut_t ?_ | refine oq_list_l ?_ | refine oq_list_t ?_ | refine oq_tuple_l ?_ | refine oq_tuple_t ?_ | refine oq_max2 ?_ | refine oq_min2 ?_ | refine oq_some ?_ | refine oq_len_sc ?_ | refine fq_nx ?_ | refine fq_ct ?_ | refine fq_bk ?_ | refine fq_rt ?_ | refine wfd_nil ?_ | refine wfd_cons ?_ | refine oq_eq_il ?_ | refine oq_ne_il ?_ | refine oq_eq_it ?_ | refine oq_ne_it ?_ | refine oq_lt_il ?_ | refine oq_lt_it ?_ | refine wp_isiC ?_ | refine wp_rev ?_ | refine wp_callF ?_ | refine wp_consF ?_ | refine wp_oneF ?_ | refine wp_cat ?_ | refine oq_isiC_ob ?_ | refine oq_isiC_t ?_ | refine oq_isiC_l ?_ | refine oq_eqI ?_ | refine oq_eqI_t ?_ | refine inw_nil ?_ | refine oq_isiE ?_ | refine oq_eqE ?_ | refine oq_eqEl ?_) | ((with_reducible apply fv_n); exact rfl) | ((with_reducible apply fv_v); exact rfl) | ((with_reducible apply fv_h); exact rfl) | ((with_reducible apply fv_m); exact rfl) | ((with_reducible apply fv_d); exact rfl) | ((with_reducible apply fv_t); exact rfl) | ((with_reducible apply fv_b); exact rfl) | ((with_reducible apply wp_kV); exact rfl) | ((with_reducible apply wp_kO_bor); exact rfl) | ((with_reducible apply wp_kO_own); exact rfl) | ((with_reducible apply wp_kO_val); exact rfl) | ((with_reducible apply wp_bopO); exact rfl) | ((with_reducible apply wp_cutO); exact rfl) | ((with_reducible apply wps_frz); exact rfl) | ((with_reducible apply wps_aug); exact rfl) | ((with_reducible apply oq_mutL_bor); exact rfl) | ((with_reducible apply oq_mutL_own); exact rfl) | ((with_reducible apply oq_tgTup); exact rfl) | ((with_reducible apply oq_ix_lk); exact rfl) | ((with_reducible apply oq_ix_tk); exact rfl) | ((with_reducible apply oq_setv); exact rfl; simp only [List.set]) | ((with_reducible apply oq_seto); exact rfl; simp only [List.set]) | ((with_reducible apply wp_gbor); exact rfl; exact rfl) | ((with_reducible apply wp_mut); exact rfl; exact ⟨_, rfl⟩) | ((with_reducible apply wps_seti); exact ⟨_, rfl⟩) | ((with_reducible apply cwp_of); exact rfl; exact rfl; try simp only [giveBack, setd, Sl.d]) | ((with_reducible apply oq_ixN_k); exact rfl; simp only [Sl.d, Sl.wi, List.set]) | ((with_reducible apply oq_mod); (first | omega | decide)) | ((with_reducible apply oq_div); (first | omega | decide)) | ((with_reducible apply oq_mul); (first | omega | decide)) | ((with_reducible apply oq_pow); (first | omega | decide)) | ((with_reducible apply oq_shl); (first | omega | decide)) | ((with_reducible apply oq_shr); (first | omega | decide)) | ((with_reducible apply oq_add_s); (first | omega | decide)) | ((with_reducible apply oq_len_s); (first | omega | decide)) | ((with_reducible apply oq_cut_s); (first | omega | decide)) | ((with_reducible apply oq_append); (first | omega | decide)) | ((with_reducible apply oq_insert); (first | omega | decide)) | ((with_reducible apply oq_extend); (first | omega | decide)) | ((with_reducible apply oq_rep); (first | omega | decide)) | ((with_reducible apply oq_cat); (first | omega | decide)) | ((with_reducible apply lok); exact rfl) | ((with_reducible refine it2_dec ?_ ?_) <;> intro))))
local macro_rules | `(tactic| array_get_dec) => `(tactic| (repeat' (first | (with_reducible first | refine wp_kC ?_ | refine wp_bop ?_ | refine wp_tst ?_ | refine wp_val ?_ | refine wp_andK ?_ | refine wp_orK ?_ | refine wp_notK ?_ | refine wp_andV ?_ | refine wp_orV ?_ | refine wp_chain ?_ | refine wp_ifK ?_ | refine wp_nil ?_ | refine wp_cons ?_ | refine wp_gnil ?_ | refine wp_gval ?_ | refine wp_call ?_ | refine wp_neg ?_ | refine wp_b1 ?_ | refine wp_bn ?_ | refine wp_isi ?_ | refine wp_met ?_ | refine wp_pnone ?_ | refine wp_psome ?_ | refine wp_cut ?_ | refine wp_listK ?_ | refine wp_tupleK ?_ | refine wp_strK ?_ | refine wp_yes ?_ | refine wp_tup ?_ | refine wp_lst ?_ | refine tb_b ?_ | refine ti_b ?_ | refine tl_b ?_ | refine tt_b ?_ | refine ts_b ?_ | refine thn_rt ?_ | refine thn_bk ?_ | refine thn_ct ?_ | refine fin_rt ?_ | refine fin_nx ?_ | refine wps_seq ?_ | refine wps_next ?_ | refine wps_break ?_ | refine wps_cont ?_ | refine wps_drop ?_ | refine wps_ret ?_ | refine wps_retN ?_ | refine wps_if ?_ | refine wps_asg ?_ | refine oq_tgNil ?_ | refine oq_tgCons ?_ | refine it2_t ?_ | refine it2_f ?_ | refine it2_not ?_ | refine oq_add_i ?_ | refine oq_sub ?_ | refine oq_lt ?_ | refine oq_le ?_ | refine oq_gt ?_ | refine oq_ge ?_ | refine oq_eq_i ?_ | refine oq_ne_i ?_ | refine oq_eq_s ?_ | refine oq_ne_s ?_ | refine oq_eq_b ?_ | refine oq_ne_b ?_ | refine oq_is ?_ | refine oq_isNot ?_ | refine oq_in_s ?_ | refine oq_notIn_s ?_ | refine oq_len_l ?_ | refine oq_len_t ?_ | refine oq_int ?_ | refine oq_abs ?_ | refine oq_ord ?_ | refine oq_cut_l ?_ | refine oq_cut_t ?_ | refine oq_list_l ?_ | refine oq_list_t ?_ | refine oq_tuple_l ?_ | refine oq_tuple_t ?_ | refine oq_max2 ?_ | refine oq_min2 ?_ | refine oq_some ?_ | refine oq_len_sc ?_ | refine fq_nx ?_ | refine fq_ct ?_ | refine fq_bk ?_ | refine fq_rt ?_ | refine wfd_nil ?_ | refine wfd_cons ?_ | refine oq_eq_il ?_ | refine oq_ne_il ?_ | refine oq_eq_it ?_ | refine oq_ne_it ?_ | refine oq_lt_il ?_ | refine oq_lt_it ?_ | refine wp_isiC ?_ | refine wp_rev ?_ | refine wp_callF ?_ | refine wp_consF ?_ | refine wp_oneF ?_ | refine wp_cat ?_ | refine oq_isiC_ob ?_ | refine oq_isiC_t ?_ | refine oq_isiC_l ?_ | refine oq_eqI ?_ | refine oq_eqI_t ?_ | refine inw_nil ?_ | refine oq_isiE ?_ | refine oq_eqE ?_ | refine oq_eqEl ?_) | ((with_reducible apply fv_n); exact rfl) | ((with_reducible apply fv_v); exact rfl) | ((with_reducible apply fv_h); exact rfl) | ((with_reducible apply fv_m); exact rfl) | ((with_reducible apply fv_d); exact rfl) | ((with_reducible apply fv_t); exact rfl) | ((with_reducible apply fv_b); exact rfl) | ((with_reducible apply wp_kV); exact rfl) | ((with_reducible apply wp_kO_bor); exact rfl) | ((with_reducible apply wp_kO_own); exact rfl) | ((with_reducible apply wp_kO_val); exact rfl) | ((with_reducible apply wp_bopO); exact rfl) | ((with_reducible apply wp_cutO); exact rfl) | ((with_reducible apply wps_frz); exact rfl) | ((with_reducible apply wps_aug); exact rfl) | ((with_reducible apply oq_mutL_bor); exact rfl) | ((with_reducible apply oq_mutL_own); exact rfl) | ((with_reducible apply oq_tgTup); exact rfl) | ((with_reducible apply oq_ix_lk); exact rfl) | ((with_reducible apply oq_ix_tk); exact rfl) | ((with_reducible apply oq_setv); exact rfl; simp only [List.set]) | ((with_reducible apply oq_seto); exact rfl; simp only [List.set]) | ((with_reducible apply wp_gbor); exact rfl; exact rfl) | ((with_reducible apply wp_mut); exact rfl; exact ⟨_, rfl⟩) | ((with_reducible apply wps_seti); exact ⟨_, rfl⟩) | ((with_reducible apply cwp_of); exact rfl; exact rfl; try simp only [giveBack, setd, Sl.d]) | ((with_reducible apply oq_ixN_k); exact rfl; simp only [Sl.d, Sl.wi, List.set]) | ((with_reducible apply oq_mod); (first | omega | decide)) | ((with_reducible apply oq_div); (first | omega | decide)) | ((with_reducible apply oq_mul); (first | omega | decide)) | ((with_reducible apply oq_pow); (first | omega | decide)) | ((with_reducible apply oq_shl); (first | omega | decide)) | ((with_reducible apply oq_shr); (first | omega | decide)) | ((with_reducible apply oq_add_s); (first | omega | decide)) | ((with_reducible apply oq_len_s); (first | omega | decide)) | ((with_reducible apply oq_cut_s); (first | omega | decide)) | ((with_reducible apply oq_append); (first | omega | decide)) | ((with_reducible apply oq_insert); (first | omega | decide)) | ((with_reducible apply oq_extend); (first | omega | decide)) | ((with_reducible apply oq_rep); (first | omega | decide)) | ((with_reducible apply oq_cat); (first | omega | decide)) | ((with_reducible apply lok); exact rfl) | ((with_reducible refine it2_dec ?_ ?_) <;> intro))))
local macro_rules | `(tactic| sizeOf_list_dec) => `(tactic| (try simp only [List.set, Sl.wi, Sl.d, List.map_cons, List.map_nil, Nat.reduceSub, List.reduceReplicate, List.cons_append, List.nil_append, finA, giveBack, setd, wipeA, unw, List.getElem?_cons_zero, List.getElem?_cons_succ, Option.getD_some, Option.getD_none]))
theorem eqvAll_len : ∀ {xs ys : List D}, PyData.eqvAll xs ys = true → xs.length = ys.length
  | [], [], _ => rfl
  | [], _ :: _, h => by simp [PyData.eqvAll] at h
  | _ :: _, [], h => by simp [PyData.eqvAll] at h
  | x :: xs, y :: ys, h => by
    simp only [PyData.eqvAll, Bool.and_eq_true] at h
    simp [eqvAll_len h.2]
theorem dEqB_t {d : D} {ds : List D} (h : okD 60 d = true) (k : okD 60 (.tuple ds) = true) : dEqB d (.tuple ds) = some (PyData.eqv d (.tuple ds)) := by
  have e : dEqB d (.tuple ds) = if okD 60 d = true ∧ okD 60 (.tuple ds) = true then some (PyData.eqv d (.tuple ds)) else none := by cases d <;> rfl
  rw [e, if_pos ⟨h, k⟩]
theorem neLen {ds : List D} (h : okD 60 (.tuple ds) = true) (n : ds.length ≠ 1) : dEqB (.tuple ds) A1 = some false := by
  have e := dEqB_t (d := .tuple ds) (ds := [.str "alike"]) h ok_A1
  show dEqB (.tuple ds) (.tuple [.str "alike"]) = _
  rw [e]
  cases z : PyData.eqv (.tuple ds) (.tuple [.str "alike"]) with
  | false => rfl
  | true =>
    simp only [PyData.eqv] at z
    exact absurd (eqvAll_len z) n
/-- no reason for x, beside b -/
def Bad (C : Nat) (b x : Ent) (d : D) : Prop := fwp (f_is_reason C) [.val (eD C x), .val (eD C b), .val d] fun z as => z = .bool false ∧ as = [.val (eD C x), .val (eD C b), .val d]
def M1 : D := .tuple [.str "more"]
theorem neM1 : dEqB M1 A1 = some false := by decide +kernel
theorem neN : dEqB .none A1 = some false := by decide +kernel
theorem bad_al {b x : Ent} {d : D} (h : al x b = true) (ne : dEqB d A1 = some false) : Bad C b x d := isr_al h ne ⟨rfl, rfl⟩
theorem bad_A1 {b x : Ent} (h : al x b = false) : Bad C b x A1 := isr1 ⟨by rw [h]; rfl, rfl⟩
theorem bad_len {b x : Ent} {ds : List D} (h : al x b = false) (ok : okD 60 (.tuple ds) = true) (n1 : ds.length ≠ 1) (n4 : ds.length ≠ 4) : Bad C b x (.tuple ds) := isr_len h (neLen ok n1) n4 ⟨rfl, rfl⟩
theorem bad_M1 {b x : Ent} (h : al x b = false) : Bad C b x M1 := isr_len h neM1 (by decide) ⟨rfl, rfl⟩
theorem bad_4 {b x : Ent} {p : Nat} {u v : D} (h : al x b = false) (hp : p < 6) (hu : okD 59 u = true) (hv : okD 59 v = true) (ne : PyData.eqv (L4 p u v) (LR x b (df x b)) = false) : Bad C b x (L4 p u v) := by
  refine isr4 h (neA1 hu hv) hp hu hv ⟨?_, rfl⟩
  cases z : r4 x b p u v with
  | false => rfl
  | true =>
    obtain ⟨e1, e2, e3⟩ := r4_row hp z
    exfalso
    rw [e1] at ne
    have : PyData.eqv (L4 p u v) (LR x b p) = true := by
      unfold L4 LR
      simp only [PyData.eqv, PyData.eqvAll, e2, e3, Bool.and_true]
      simp
    rw [ne] at this
    cases this
theorem cut_take (ds : List D) (n : Nat) : cutD ds none (some (n : Nat)) = ds.take n := by
  unfold cutD
  rw [HT.sIx_none, HT.sIx_nat]
  simp
theorem cut_drop (ds : List D) (n : Nat) : cutD ds (some (n : Nat)) none = ds.drop n := by
  unfold cutD
  rw [HT.sIx_none, HT.sIx_nat]
  rcases Nat.le_total n ds.length with h | h
  · rw [Nat.min_eq_left h]
    exact List.take_of_length_le (by simp)
  · rw [Nat.min_eq_right h, List.drop_of_length_le h, List.drop_of_length_le (Nat.le_refl _)]
    simp
def spo (rows : List D) (j : Nat) (d : D) : List D := rows.take j ++ [d] ++ rows.drop (j + 1)
theorem okL4 {p : Int} {u v : D} (hu : okD 59 u = true) (hv : okD 59 v = true) : okD 60 (L4 p u v) = true := by
  show [PyData.str "less", .int p, u, v].all (okD 59) = true
  have hs : okD 59 (.str "less") = true := by decide +kernel
  simp only [List.all_cons, List.all_nil, hu, hv, hs]
  rfl
theorem oq_eq_row {d : D} {ds : List D} (h : okD 60 d = true) (k : okD 60 (.tuple ds) = true) {Q : D → Prop} (q : Q (.bool (PyData.eqv d (.tuple ds)))) : oq (dEq d (.tuple ds)) Q := oq_eq_d (dEqB_t h k) q
/-- the nine odd rows -/
theorem odd_bad {b x : Ent} {ds : List D} (g : (al x b || decide (df x b < 6)) = true) (er : rowR b x = .tuple ds) {z : D}
    (hz : z ∈ [A1, L4 0 (.int 1) (.int 2), L4 1 (.int 0) (.int 1), .tuple (ds ++ [.int 0]), .tuple (cutD ds none (some (-1))), .list ds, .none, L4 5 (.tuple [.int 0]) (.tuple [.int 1]), L4 6 (.int 0) (.int 0)]) :
    okD 60 z = true ∧ okD 60 (.tuple ds) = true ∧ (PyData.eqv z (.tuple ds) = false → Bad C b x z) ∧ Bad C b x M1 := by
  by_cases h : al x b = true
  · unfold rowR at er
    rw [if_pos h] at er
    have hd : ds = [.str "alike"] := by cases er; rfl
    subst hd
    have okz : okD 60 z = true := by
      simp only [List.mem_cons, List.not_mem_nil, or_false] at hz
      rcases hz with rfl | rfl | rfl | rfl | rfl | rfl | rfl | rfl | rfl <;> decide +kernel
    refine ⟨okz, ok_A1, fun ne => bad_al h ?_, bad_al h neM1⟩
    show dEqB z (.tuple [.str "alike"]) = _
    rw [dEqB_t okz ok_A1, ne]
  · have hf : al x b = false := by simpa using h
    have hl : df x b < 6 := by
      rw [hf, Bool.false_or] at g
      exact of_decide_eq_true g
    unfold rowR lessR at er
    rw [if_neg h, if_pos hl] at er
    have hd : ds = [.str "less", .int (df x b : Nat), kp x (df x b), kp b (df x b)] := by
      unfold LR at er
      cases er
      rfl
    have k1 := ok_kpn 58 x (df x b)
    have k2 := ok_kpn 58 b (df x b)
    have hs : okD 59 (.str "less") = true := by decide +kernel
    have okr : okD 60 (.tuple ds) = true := by rw [hd]; exact okL4 k1 k2
    refine ⟨?_, okr, fun ne => ?_, bad_M1 hf⟩
    · simp only [List.mem_cons, List.not_mem_nil, or_false] at hz
      rcases hz with rfl | rfl | rfl | rfl | rfl | rfl | rfl | rfl | rfl
      · exact ok_A1
      · decide +kernel
      · decide +kernel
      · rw [hd]
        show [PyData.str "less", .int _, kp x (df x b), kp b (df x b), .int 0].all (okD 59) = true
        simp only [List.all_cons, List.all_nil, k1, k2, hs]
        rfl
      · rw [hd]
        show [PyData.str "less", .int _, kp x (df x b)].all (okD 59) = true
        simp only [List.all_cons, List.all_nil, k1, hs]
        rfl
      · exact okr
      · rfl
      · decide +kernel
      · decide +kernel
    · have ne' : ∀ {p : Nat} {u v : D}, PyData.eqv (L4 p u v) (.tuple ds) = false → PyData.eqv (L4 p u v) (LR x b (df x b)) = false := fun q => by rw [hd] at q; exact q
      simp only [List.mem_cons, List.not_mem_nil, or_false] at hz
      rcases hz with rfl | rfl | rfl | rfl | rfl | rfl | rfl | rfl | rfl
      · exact bad_A1 hf
      · exact bad_4 (p := 0) hf (by decide) rfl rfl (ne' ne)
      · exact bad_4 (p := 1) hf (by decide) rfl rfl (ne' ne)
      · rw [hd]
        refine bad_len hf ?_ (by show (5 : Nat) ≠ 1; decide) (by show (5 : Nat) ≠ 4; decide)
        show [PyData.str "less", .int _, kp x (df x b), kp b (df x b), .int 0].all (okD 59) = true
        simp only [List.all_cons, List.all_nil, k1, k2, hs]
        rfl
      · rw [hd]
        refine bad_len hf ?_ (by show (3 : Nat) ≠ 1; decide) (by show (3 : Nat) ≠ 4; decide)
        show [PyData.str "less", .int _, kp x (df x b)].all (okD 59) = true
        simp only [List.all_cons, List.all_nil, k1, hs]
        rfl
      · have nl : dEqB (.list ds) A1 = some false := by
          have e := dEqB_t (d := .list ds) (ds := [.str "alike"]) okr ok_A1
          show dEqB (.list ds) (.tuple [.str "alike"]) = _
          rw [e]
          simp [PyData.eqv]
        exact isr_nt hf nl isi_tl ⟨rfl, rfl⟩
      · exact isr_nt hf neN isi_tn ⟨rfl, rfl⟩
      · exact bad_4 (p := 5) hf (by decide) (by decide +kernel) (by decide +kernel) (ne' ne)
      · exact isr_out hf (neA1 rfl rfl) (by decide) ⟨rfl, rfl⟩
theorem RL_at {b : Ent} {es : List Ent} {j : Nat} {x : Ent} (h : es[j]? = some x) : (RL b es)[j]? = some (rowR b x) := by
  unfold RL
  rw [List.getElem?_map, h]
  rfl
theorem rowR_t (b x : Ent) : ∃ ds, rowR b x = .tuple ds ∧ ds.length ≤ 4 := by
  unfold rowR lessR A1 LR
  split
  · exact ⟨_, rfl, by decide⟩
  · split
    · exact ⟨_, rfl, Nat.le_refl _⟩
    · exact ⟨_, rfl, by decide⟩
theorem spoilt_ok {ns : List Int} {a c s : Int} {i : Nat} {b : Ent} {es : List Ent} (ha : 0 ≤ a) (hn : 0 < es.length) (hl : es.length ≤ 1000) (g : good b es = true) {Q : D → List Sl → Prop}
    (q : ∀ j x d a' c' s', es[j]? = some x → Bad C b x d → Q (.tuple [.int (i : Nat), .tuple (spo (RL b es) j d)]) [.bor (DS ns a' c' s'), .val (PD i b es)]) : fwp (f_law_spoilt C) [.bor (DS ns a c s), .val (PD i b es)] Q := by
  have lR : (RL b es).length = es.length := by unfold RL; rw [List.length_map]
  unfold f_law_spoilt m_law_spoilt
  refine fwp_run rfl rfl ?_
  sizeOf_list_dec
  unfold PD at q ⊢
  array_mem_dec
  rw [lR]
  refine draw_ok ha ⟨by omega, Int.lt_of_le_of_lt (by omega : ((es.length : Nat) : Int) ≤ 1000) (by decide)⟩ fun d a c s ha d0 d1 => ?_
  obtain ⟨j, rfl⟩ : ∃ j : Nat, d = (j : Int) := ⟨d.toNat, by omega⟩
  have lj : j < es.length := by omega
  have ex : es[j]? = some (es[j]'lj) := List.getElem?_eq_getElem lj
  generalize es[j]'lj = x at ex
  obtain ⟨ds, er, l4⟩ := rowR_t b x
  have gx : (al x b || decide (df x b < 6)) = true := List.all_eq_true.mp g x (List.mem_of_getElem? ex)
  sizeOf_list_dec
  array_mem_dec
  refine oq_ix_t (by omega) (by rw [lR]; omega) fun z hz => ?_
  rw [Int.toNat_natCast, RL_at ex, er] at hz
  cases hz
  array_mem_dec
  refine oq_add_t (by simp; omega) ?_
  array_mem_dec
  refine draw_ok ha (by decide) fun d a c s ha d0 d1 => ?_
  sizeOf_list_dec
  array_mem_dec
  refine oq_ix_l d0 (by show d < ((9 : Nat) : Int); exact d1) fun z hz => ?_
  have ob := odd_bad (C := C) gx er (z := z) (List.mem_of_getElem? hz)
  obtain ⟨o1, o2, o3, o4⟩ := ob
  have fin' : ∀ z, Bad C b x z → ∀ a c s, Q (.tuple [.int (i : Nat), .tuple (spo (RL b es) j z)]) [.bor (DS ns a c s), .val (.tuple [.int (i : Nat), .tuple (RL b es)])] := fun z hz a c s => q j x z a c s ex hz
  have lt1 : ∀ z : D, ((RL b es).take j).length + [z].length ≤ 100000 := fun z => by
    rw [List.length_take, List.length_singleton]; omega
  have lt2 : ∀ z : D, ((RL b es).take j ++ [z]).length + ((RL b es).drop (j + 1)).length ≤ 100000 := fun z => by
    rw [List.length_append, List.length_take, List.length_singleton, List.length_drop]; omega
  have ej : ((j : Nat) : Int) + 1 = ((j + 1 : Nat) : Int) := by omega
  array_mem_dec
  refine oq_eq_row o1 o2 ?_
  cases hq : PyData.eqv z (.tuple ds) with
  | true =>
    array_mem_dec
    rw [cut_take]
    refine oq_add_t (lt1 _) ?_
    array_mem_dec
    rw [ej, cut_drop]
    refine oq_add_t (lt2 _) ?_
    array_mem_dec
    sizeOf_list_dec
    exact fin' M1 o4 a c s
  | false =>
    array_mem_dec
    rw [cut_take]
    refine oq_add_t (lt1 _) ?_
    array_mem_dec
    rw [ej, cut_drop]
    refine oq_add_t (lt2 _) ?_
    array_mem_dec
    sizeOf_list_dec
    exact fin' z (o3 hq) a c s
end K50

namespace K50
open PySem L2 Dz
variable {C : Nat}
--R1 oq_isiE oq_eqE oq_eqEl
--R2 fv_n fv_v fv_h fv_m fv_d fv_t fv_b
local macro_rules | `(tactic| array_mem_dec) => `(tactic| (repeat' (first | (with_reducible first | refine wp_kC ?_ | refine wp_bop ?_ | refine wp_tst ?_ | refine wp_val ?_ | refine wp_andK ?_ | refine wp_orK ?_ | refine wp_notK ?_ | refine wp_andV ?_ | refine wp_orV ?_ | refine wp_chain ?_ | refine wp_ifK ?_ | refine wp_nil ?_ | refine wp_cons ?_ | refine wp_gnil ?_ | refine wp_gval ?_ | refine wp_call ?_ | refine wp_neg ?_ | refine wp_b1 ?_ | refine wp_bn ?_ | refine wp_isi ?_ | refine wp_met ?_ | refine wp_pnone ?_ | refine wp_psome ?_ | refine wp_cut ?_ | refine wp_listK ?_ | refine wp_tupleK ?_ | refine wp_strK ?_ | refine wp_yes ?_ | refine wp_tup ?_ | refine wp_lst ?_ | refine tb_b ?_ | refine ti_b ?_ | refine tl_b ?_ | refine tt_b ?_ | refine ts_b ?_ | refine thn_nx ?_ | refine thn_rt ?_ | refine thn_bk ?_ | refine thn_ct ?_ | refine fin_rt ?_ | refine fin_nx ?_ | refine wps_seq ?_ | refine wps_next ?_ | refine wps_break ?_ | refine wps_cont ?_ | refine wps_drop ?_ | refine wps_ret ?_ | refine wps_retN ?_ | refine wps_if ?_ | refine wps_asg ?_ | refine oq_tgNil ?_ | refine oq_tgCons ?_ | refine it2_t ?_ | refine it2_f ?_ | refine it2_not ?_ | refine oq_add_i ?_ | refine oq_sub ?_ | refine oq_lt ?_ | refine oq_le ?_ | refine oq_gt ?_ | refine oq_ge ?_ | refine oq_eq_i ?_ | refine oq_ne_i ?_ | refine oq_eq_s ?_ | refine oq_ne_s ?_ | refine oq_eq_b ?_ | refine oq_ne_b ?_ | refine oq_is ?_ | refine oq_isNot ?_ | refine oq_in_s ?_ | refine oq_notIn_s ?_ | refine oq_len_l ?_ | refine oq_len_t ?_ | refine oq_int ?_ | refine oq_abs ?_ | refine oq_ord ?_ | refine oq_cut_l ?_ | refine oq_cut_t ?_ | refine oq_list_l ?_ | refine oq_list_t ?_ | refine oq_tuple_l ?_ | refine oq_tuple_t ?_ | refine oq_max2 ?_ | refine oq_min2 ?_ | refine oq_some ?_ | refine oq_len_sc ?_ | refine fq_nx ?_ | refine fq_ct ?_ | refine fq_bk ?_ | refine fq_rt ?_ | refine wfd_nil ?_ | refine wfd_cons ?_ | refine oq_eq_il ?_ | refine oq_ne_il ?_ | refine oq_eq_it ?_ | refine oq_ne_it ?_ | refine oq_lt_il ?_ | refine oq_lt_it ?_ | refine wp_isiC ?_ | refine wp_rev ?_ | refine wp_callF ?_ | refine wp_consF ?_ | refine wp_oneF ?_ | refine wp_cat ?_ | refine oq_isiC_ob ?_ | refine oq_isiC_t ?_ | refine oq_isiC_l ?_ | refine oq_eqI ?_ | refine oq_eqI_t ?_ | refine inw_nil ?_ | refine oq_isiE ?_ | refine oq_eqE ?_ | refine oq_eqEl ?_) | ((with_reducible apply fv_n); exact rfl) | ((with_reducible apply fv_v); exact rfl) | ((with_reducible apply fv_h); exact rfl) | ((with_reducible apply fv_m); exact rfl) | ((with_reducible apply fv_d); exact rfl) | ((with_reducible apply fv_t); exact rfl) | ((with_reducible apply fv_b); exact rfl) | ((with_reducible apply wp_kV); exact rfl) | ((with_reducible apply wp_kO_bor); exact rfl) | ((with_reducible apply wp_kO_own); exact rfl) | ((with_reducible apply wp_kO_val); exact rfl) | ((with_reducible apply wp_bopO); exact rfl) | ((with_reducible apply wp_cutO); exact rfl) | ((with_reducible apply wps_frz); exact rfl) | ((with_reducible apply wps_aug); exact rfl) | ((with_reducible apply oq_mutL_bor); exact rfl) | ((with_reducible apply oq_mutL_own); exact rfl) | ((with_reducible apply oq_tgTup); exact rfl) | ((with_reducible apply oq_ix_lk); exact rfl) | ((with_reducible apply oq_ix_tk); exact rfl) | ((with_reducible apply oq_setv); exact rfl; simp only [List.set]) | ((with_reducible apply oq_seto); exact rfl; simp only [List.set]) | ((with_reducible apply wp_gbor); exact rfl; exact rfl) | ((with_reducible apply wp_mut); exact rfl; exact ⟨_, rfl⟩) | ((with_reducible apply wps_seti); exact ⟨_, rfl⟩) | ((with_reducible apply cwp_of); exact rfl; exact rfl; try simp only [giveBack, setd, Sl.d]) | ((with_reducible apply oq_ixN_k); exact rfl; simp only [Sl.d, Sl.wi, List.set]) | ((with_reducible apply oq_mod); (first | omega | decide)) | ((with_reducible apply oq_div); (first | omega | decide)) | ((with_reducible apply oq_mul); (first | omega | decide)) | ((with_reducible apply oq_pow); (first | omega | decide)) | ((with_reducible apply oq_shl); (first | omega | decide)) | ((with_reducible apply oq_shr); (first | omega | decide)) | ((with_reducible apply oq_add_s); (first | omega | decide)) | ((with_reducible apply oq_len_s); (first | omega | decide)) | ((with_reducible apply oq_cut_s); (first | omega | decide)) | ((with_reducible apply oq_append); (first | omega | decide)) | ((with_reducible apply oq_insert); (first | omega | decide)) | ((with_reducible apply oq_extend); (first | omega | decide)) | ((with_reducible apply oq_rep); (first | omega | decide)) | ((with_reducible apply oq_cat); (first | omega | decide)) | ((with_reducible apply lok); exact rfl) | ((with_reducible refine it2_dec ?_ ?_) <;> intro))))
local macro_rules | `(tactic| array_get_dec) => `(tactic| (repeat' (first | (with_reducible first | refine wp_kC ?_ | refine wp_bop ?_ | refine wp_tst ?_ | refine wp_val ?_ | refine wp_andK ?_ | refine wp_orK ?_ | refine wp_notK ?_ | refine wp_andV ?_ | refine wp_orV ?_ | refine wp_chain ?_ | refine wp_ifK ?_ | refine wp_nil ?_ | refine wp_cons ?_ | refine wp_gnil ?_ | refine wp_gval ?_ | refine wp_call ?_ | refine wp_neg ?_ | refine wp_b1 ?_ | refine wp_bn ?_ | refine wp_isi ?_ | refine wp_met ?_ | refine wp_pnone ?_ | refine wp_psome ?_ | refine wp_cut ?_ | refine wp_listK ?_ | refine wp_tupleK ?_ | refine wp_strK ?_ | refine wp_yes ?_ | refine wp_tup ?_ | refine wp_lst ?_ | refine tb_b ?_ | refine ti_b ?_ | refine tl_b ?_ | refine tt_b ?_ | refine ts_b ?_ | refine thn_rt ?_ | refine thn_bk ?_ | refine thn_ct ?_ | refine fin_rt ?_ | refine fin_nx ?_ | refine wps_seq ?_ | refine wps_next ?_ | refine wps_break ?_ | refine wps_cont ?_ | refine wps_drop ?_ | refine wps_ret ?_ | refine wps_retN ?_ | refine wps_if ?_ | refine wps_asg ?_ | refine oq_tgNil ?_ | refine oq_tgCons ?_ | refine it2_t ?_ | refine it2_f ?_ | refine it2_not ?_ | refine oq_add_i ?_ | refine oq_sub ?_ | refine oq_lt ?_ | refine oq_le ?_ | refine oq_gt ?_ | refine oq_ge ?_ | refine oq_eq_i ?_ | refine oq_ne_i ?_ | refine oq_eq_s ?_ | refine oq_ne_s ?_ | refine oq_eq_b ?_ | refine oq_ne_b ?_ | refine oq_is ?_ | refine oq_isNot ?_ | refine oq_in_s ?_ | refine oq_notIn_s ?_ | refine oq_len_l ?_ | refine oq_len_t ?_ | refine oq_int ?_ | refine oq_abs ?_ | refine oq_ord ?_ | refine oq_cut_l ?_ | refine oq_cut_t ?_ | refine oq_list_l ?_ | refine oq_list_t ?_ | refine oq_tuple_l ?_ | refine oq_tuple_t ?_ | refine oq_max2 ?_ | refine oq_min2 ?_ | refine oq_some ?_ | refine oq_len_sc ?_ | refine fq_nx ?_ | refine fq_ct ?_ | refine fq_bk ?_ | refine fq_rt ?_ | refine wfd_nil ?_ | refine wfd_cons ?_ | refine oq_eq_il ?_ | refine oq_ne_il ?_ | refine oq_eq_it ?_ | refine oq_ne_it ?_ | refine oq_lt_il ?_ | refine oq_lt_it ?_ | refine wp_isiC ?_ | refine wp_rev ?_ | refine wp_callF ?_ | refine wp_consF ?_ | refine wp_oneF ?_ | refine wp_cat ?_ | refine oq_isiC_ob ?_ | refine oq_isiC_t ?_ | refine oq_isiC_l ?_ | refine oq_eqI ?_ | refine oq_eqI_t ?_ | refine inw_nil ?_ | refine oq_isiE ?_ | refine oq_eqE ?_ | refine oq_eqEl ?_) | ((with_reducible apply fv_n); exact rfl) | ((with_reducible apply fv_v); exact rfl) | ((with_reducible apply fv_h); exact rfl) | ((with_reducible apply fv_m); exact rfl) | ((with_reducible apply fv_d); exact rfl) | ((with_reducible apply fv_t); exact rfl) | ((with_reducible apply fv_b); exact rfl) | ((with_reducible apply wp_kV); exact rfl) | ((with_reducible apply wp_kO_bor); exact rfl) | ((with_reducible apply wp_kO_own); exact rfl) | ((with_reducible apply wp_kO_val); exact rfl) | ((with_reducible apply wp_bopO); exact rfl) | ((with_reducible apply wp_cutO); exact rfl) | ((with_reducible apply wps_frz); exact rfl) | ((with_reducible apply wps_aug); exact rfl) | ((with_reducible apply oq_mutL_bor); exact rfl) | ((with_reducible apply oq_mutL_own); exact rfl) | ((with_reducible apply oq_tgTup); exact rfl) | ((with_reducible apply oq_ix_lk); exact rfl) | ((with_reducible apply oq_ix_tk); exact rfl) | ((with_reducible apply oq_setv); exact rfl; simp only [List.set]) | ((with_reducible apply oq_seto); exact rfl; simp only [List.set]) | ((with_reducible apply wp_gbor); exact rfl; exact rfl) | ((with_reducible apply wp_mut); exact rfl; exact ⟨_, rfl⟩) | ((with_reducible apply wps_seti); exact ⟨_, rfl⟩) | ((with_reducible apply cwp_of); exact rfl; exact rfl; try simp only [giveBack, setd, Sl.d]) | ((with_reducible apply oq_ixN_k); exact rfl; simp only [Sl.d, Sl.wi, List.set]) | ((with_reducible apply oq_mod); (first | omega | decide)) | ((with_reducible apply oq_div); (first | omega | decide)) | ((with_reducible apply oq_mul); (first | omega | decide)) | ((with_reducible apply oq_pow); (first | omega | decide)) | ((with_reducible apply oq_shl); (first | omega | decide)) | ((with_reducible apply oq_shr); (first | omega | decide)) | ((with_reducible apply oq_add_s); (first | omega | decide)) | ((with_reducible apply oq_len_s); (first | omega | decide)) | ((with_reducible apply oq_cut_s); (first | omega | decide)) | ((with_reducible apply oq_append); (first | omega | decide)) | ((with_reducible apply oq_insert); (first | omega | decide)) | ((with_reducible apply oq_extend); (first | omega | decide)) | ((with_reducible apply oq_rep); (first | omega | decide)) | ((with_reducible apply oq_cat); (first | omega | decide)) | ((with_reducible apply lok); exact rfl) | ((with_reducible refine it2_dec ?_ ?_) <;> intro))))
local macro_rules | `(tactic| sizeOf_list_dec) => `(tactic| (try simp only [List.set, Sl.wi, Sl.d, List.map_cons, List.map_nil, Nat.reduceSub, List.reduceReplicate, List.cons_append, List.nil_append, finA, giveBack, setd, wipeA, unw, List.getElem?_cons_zero, List.getElem?_cons_succ, Option.getD_some, Option.getD_none]))
theorem cut_last {ds : List D} (h : 0 < ds.length) : (cutD ds none (some (-1))).length = ds.length - 1 := by
  unfold cutD
  rw [HT.sIx_none]
  have : HT.sIx ds.length ds.length (some (-1)) = ds.length - 1 := by
    unfold HT.sIx
    simp
    omega
  rw [this]
  simp
theorem ok_rowR (b x : Ent) : okD 58 (rowR b x) = true := by
  unfold rowR lessR
  split
  · decide +kernel
  · split
    · have hs : okD 57 (.str "less") = true := by decide +kernel
      show [PyData.str "less", .int _, kp x (df x b), kp b (df x b)].all (okD 57) = true
      simp only [List.all_cons, List.all_nil, ok_kpn 56 x, ok_kpn 56 b, hs]
      rfl
    · decide +kernel
theorem ok_PD (i : Nat) (b : Ent) (es : List Ent) : okD 60 (PD i b es) = true := by
  show [PyData.int (i : Nat), .tuple (RL b es)].all (okD 59) = true
  have h : okD 59 (.tuple (RL b es)) = true := by
    show (RL b es).all (okD 58) = true
    rw [List.all_eq_true]
    intro d hd
    obtain ⟨x, _, rfl⟩ := List.mem_map.mp hd
    exact ok_rowR b x
  simp only [List.all_cons, List.all_nil, h]
  rfl
theorem ne_PD {i : Nat} {b : Ent} {es : List Ent} {Q : D → Prop} (q : Q (.bool false)) : oq (dNe (PD i b es) (PD i b es)) Q := oq_ne_d (dEqB_self (ok_PD i b es) rfl) q
theorem FT_self {e : Ent} (h : gdN e.name) : PyData.eqv (FT e) (FT e) = true := PySem.SeqAt.eqv_refl _ (okD_ok 60 _ (okD_FT h)).1
/-- what the judge tells of y, put in the winner's place -/
def tell (b : Ent) (es : List Ent) (y : Ent) : Bool := (List.range es.length).all fun j => match es[j]? with
  | some x => isrf b x y
  | none => true
section
variable {b0 b : Ent} {r es : List Ent} {i : Nat}
theorem rows_hf (g : good b es = true) (y : Ent) : ∀ (j : Nat) x d, es[j]? = some x → (RL b es)[j]? = some d → fwp (f_is_reason C) [.val (eD C x), .val (eD C y), .val d] fun z as => z = .bool (match es[j]? with | some x => isrf b x y | none => true) ∧ as = [.val (eD C x), .val (eD C y), .val d] := by
  intro j x d hx hd
  rw [RL_at hx] at hd
  cases hd
  rw [hx]
  exact row_ok (List.all_eq_true.mp g x (List.mem_of_getElem? hx))
theorem told_ok (ee : es = b0 :: r) (eb : b = best b0 r) (hv : ∀ e, e ∈ es → EOk e) (hb : b ∈ es) (hl : es.length ≤ 1000) (g : good b es = true) {k : Nat} {y : Ent} (hk : es[k]? = some y) {Q : D → List Sl → Prop} (q : Q (.bool (tell b es y)) [.val (.list (EL C es)), .val (eD C (wnr b es)), .val (.tuple [.int (k : Nat), .tuple (RL b es)])]) :
    fwp (f_judge_winner C) [.val (.list (EL C es)), .val (eD C (wnr b es)), .val (.tuple [.int (k : Nat), .tuple (RL b es)])] Q := by
  have hg : gdN b.name := by
    show PyData.strOk b.name = true
    rw [(hv b hb).n]
    decide +kernel
  have hw : gdN (wnr b es).name := hg
  refine judge_ok ee eb (fun e he => (hv e he).v) hw hg hl hk (by unfold RL; rw [List.length_map]) (rows_hf g y) (fun h => ?_) (fun h => ?_)
  · rw [FT_self hw]
    unfold tell at q
    rw [h] at q
    exact q
  · unfold tell at q
    rw [h] at q
    exact q
theorem tell_true (F : First es b i) (g : good b es = true) {y : Ent} (hy : y ∈ es) (ky : sk y b = true) : tell b es y = true := by
  have ay : al y b = true := by
    have h := List.all_eq_true.mp g y hy
    rw [sk_df ky] at h
    simpa using h
  unfold tell
  rw [List.all_eq_true]
  intro j hj
  have hj := List.mem_range.mp hj
  have ex : es[j]? = some (es[j]'hj) := List.getElem?_eq_getElem hj
  have hm := List.mem_of_getElem? ex
  rw [ex]
  exact isrf_true (F.top _ hm) (List.all_eq_true.mp g _ hm) ky ay
theorem tell_false (F : First es b i) {y : Ent} (ay : al y b = false) : tell b es y = false := by
  unfold tell
  rw [List.all_eq_false]
  refine ⟨i, List.mem_range.mpr (List.getElem?_eq_some_iff.mp F.at_).1, ?_⟩
  rw [F.at_]
  show ¬ isrf b b y = true
  rw [isrf_false ay]
  exact Bool.false_ne_true
end
end K50

namespace K50
open PySem L2 Dz
variable {C : Nat}
--R1 oq_isiE oq_eqE oq_eqEl
--R2 fv_n fv_v fv_h fv_m fv_d fv_t fv_b
local macro_rules | `(tactic| array_mem_dec) => `(tactic| (repeat' (first | (with_reducible first | refine wp_kC ?_ | refine wp_bop ?_ | refine wp_tst ?_ | refine wp_val ?_ | refine wp_andK ?_ | refine wp_orK ?_ | refine wp_notK ?_ | refine wp_andV ?_ | refine wp_orV ?_ | refine wp_chain ?_ | refine wp_ifK ?_ | refine wp_nil ?_ | refine wp_cons ?_ | refine wp_gnil ?_ | refine wp_gval ?_ | refine wp_call ?_ | refine wp_neg ?_ | refine wp_b1 ?_ | refine wp_bn ?_ | refine wp_isi ?_ | refine wp_met ?_ | refine wp_pnone ?_ | refine wp_psome ?_ | refine wp_cut ?_ | refine wp_listK ?_ | refine wp_tupleK ?_ | refine wp_strK ?_ | refine wp_yes ?_ | refine wp_tup ?_ | refine wp_lst ?_ | refine tb_b ?_ | refine ti_b ?_ | refine tl_b ?_ | refine tt_b ?_ | refine ts_b ?_ | refine thn_nx ?_ | refine thn_rt ?_ | refine thn_bk ?_ | refine thn_ct ?_ | refine fin_rt ?_ | refine fin_nx ?_ | refine wps_seq ?_ | refine wps_next ?_ | refine wps_break ?_ | refine wps_cont ?_ | refine wps_drop ?_ | refine wps_ret ?_ | refine wps_retN ?_ | refine wps_if ?_ | refine wps_asg ?_ | refine oq_tgNil ?_ | refine oq_tgCons ?_ | refine it2_t ?_ | refine it2_f ?_ | refine it2_not ?_ | refine oq_add_i ?_ | refine oq_sub ?_ | refine oq_lt ?_ | refine oq_le ?_ | refine oq_gt ?_ | refine oq_ge ?_ | refine oq_eq_i ?_ | refine oq_ne_i ?_ | refine oq_eq_s ?_ | refine oq_ne_s ?_ | refine oq_eq_b ?_ | refine oq_ne_b ?_ | refine oq_is ?_ | refine oq_isNot ?_ | refine oq_in_s ?_ | refine oq_notIn_s ?_ | refine oq_len_l ?_ | refine oq_len_t ?_ | refine oq_int ?_ | refine oq_abs ?_ | refine oq_ord ?_ | refine oq_cut_l ?_ | refine oq_cut_t ?_ | refine oq_list_l ?_ | refine oq_list_t ?_ | refine oq_tuple_l ?_ | refine oq_tuple_t ?_ | refine oq_max2 ?_ | refine oq_min2 ?_ | refine oq_some ?_ | refine oq_len_sc ?_ | refine fq_nx ?_ | refine fq_ct ?_ | refine fq_bk ?_ | refine fq_rt ?_ | refine wfd_nil ?_ | refine wfd_cons ?_ | refine oq_eq_il ?_ | refine oq_ne_il ?_ | refine oq_eq_it ?_ | refine oq_ne_it ?_ | refine oq_lt_il ?_ | refine oq_lt_it ?_ | refine wp_isiC ?_ | refine wp_rev ?_ | refine wp_callF ?_ | refine wp_consF ?_ | refine wp_oneF ?_ | refine wp_cat ?_ | refine oq_isiC_ob ?_ | refine oq_isiC_t ?_ | refine oq_isiC_l ?_ | refine oq_eqI ?_ | refine oq_eqI_t ?_ | refine inw_nil ?_ | refine oq_isiE ?_ | refine oq_eqE ?_ | refine oq_eqEl ?_) | ((with_reducible apply fv_n); exact rfl) | ((with_reducible apply fv_v); exact rfl) | ((with_reducible apply fv_h); exact rfl) | ((with_reducible apply fv_m); exact rfl) | ((with_reducible apply fv_d); exact rfl) | ((with_reducible apply fv_t); exact rfl) | ((with_reducible apply fv_b); exact rfl) | ((with_reducible apply wp_kV); exact rfl) | ((with_reducible apply wp_kO_bor); exact rfl) | ((with_reducible apply wp_kO_own); exact rfl) | ((with_reducible apply wp_kO_val); exact rfl) | ((with_reducible apply wp_bopO); exact rfl) | ((with_reducible apply wp_cutO); exact rfl) | ((with_reducible apply wps_frz); exact rfl) | ((with_reducible apply wps_aug); exact rfl) | ((with_reducible apply oq_mutL_bor); exact rfl) | ((with_reducible apply oq_mutL_own); exact rfl) | ((with_reducible apply oq_tgTup); exact rfl) | ((with_reducible apply oq_ix_lk); exact rfl) | ((with_reducible apply oq_ix_tk); exact rfl) | ((with_reducible apply oq_setv); exact rfl; simp only [List.set]) | ((with_reducible apply oq_seto); exact rfl; simp only [List.set]) | ((with_reducible apply wp_gbor); exact rfl; exact rfl) | ((with_reducible apply wp_mut); exact rfl; exact ⟨_, rfl⟩) | ((with_reducible apply wps_seti); exact ⟨_, rfl⟩) | ((with_reducible apply cwp_of); exact rfl; exact rfl; try simp only [giveBack, setd, Sl.d]) | ((with_reducible apply oq_ixN_k); exact rfl; simp only [Sl.d, Sl.wi, List.set]) | ((with_reducible apply oq_mod); (first | omega | decide)) | ((with_reducible apply oq_div); (first | omega | decide)) | ((with_reducible apply oq_mul); (first | omega | decide)) | ((with_reducible apply oq_pow); (first | omega | decide)) | ((with_reducible apply oq_shl); (first | omega | decide)) | ((with_reducible apply oq_shr); (first | omega | decide)) | ((with_reducible apply oq_add_s); (first | omega | decide)) | ((with_reducible apply oq_len_s); (first | omega | decide)) | ((with_reducible apply oq_cut_s); (first | omega | decide)) | ((with_reducible apply oq_append); (first | omega | decide)) | ((with_reducible apply oq_insert); (first | omega | decide)) | ((with_reducible apply oq_extend); (first | omega | decide)) | ((with_reducible apply oq_rep); (first | omega | decide)) | ((with_reducible apply oq_cat); (first | omega | decide)) | ((with_reducible apply lok); exact rfl) | ((with_reducible refine it2_dec ?_ ?_) <;> intro))))
local macro_rules | `(tactic| array_get_dec) => `(tactic| (repeat' (first | (with_reducible first | refine wp_kC ?_ | refine wp_bop ?_ | refine wp_tst ?_ | refine wp_val ?_ | refine wp_andK ?_ | refine wp_orK ?_ | refine wp_notK ?_ | refine wp_andV ?_ | refine wp_orV ?_ | refine wp_chain ?_ | refine wp_ifK ?_ | refine wp_nil ?_ | refine wp_cons ?_ | refine wp_gnil ?_ | refine wp_gval ?_ | refine wp_call ?_ | refine wp_neg ?_ | refine wp_b1 ?_ | refine wp_bn ?_ | refine wp_isi ?_ | refine wp_met ?_ | refine wp_pnone ?_ | refine wp_psome ?_ | refine wp_cut ?_ | refine wp_listK ?_ | refine wp_tupleK ?_ | refine wp_strK ?_ | refine wp_yes ?_ | refine wp_tup ?_ | refine wp_lst ?_ | refine tb_b ?_ | refine ti_b ?_ | refine tl_b ?_ | refine tt_b ?_ | refine ts_b ?_ | refine thn_rt ?_ | refine thn_bk ?_ | refine thn_ct ?_ | refine fin_rt ?_ | refine fin_nx ?_ | refine wps_seq ?_ | refine wps_next ?_ | refine wps_break ?_ | refine wps_cont ?_ | refine wps_drop ?_ | refine wps_ret ?_ | refine wps_retN ?_ | refine wps_if ?_ | refine wps_asg ?_ | refine oq_tgNil ?_ | refine oq_tgCons ?_ | refine it2_t ?_ | refine it2_f ?_ | refine it2_not ?_ | refine oq_add_i ?_ | refine oq_sub ?_ | refine oq_lt ?_ | refine oq_le ?_ | refine oq_gt ?_ | refine oq_ge ?_ | refine oq_eq_i ?_ | refine oq_ne_i ?_ | refine oq_eq_s ?_ | refine oq_ne_s ?_ | refine oq_eq_b ?_ | refine oq_ne_b ?_ | refine oq_is ?_ | refine oq_isNot ?_ | refine oq_in_s ?_ | refine oq_notIn_s ?_ | refine oq_len_l ?_ | refine oq_len_t ?_ | refine oq_int ?_ | refine oq_abs ?_ | refine oq_ord ?_ | refine oq_cut_l ?_ | refine oq_cut_t ?_ | refine oq_list_l ?_ | refine oq_list_t ?_ | refine oq_tuple_l ?_ | refine oq_tuple_t ?_ | refine oq_max2 ?_ | refine oq_min2 ?_ | refine oq_some ?_ | refine oq_len_sc ?_ | refine fq_nx ?_ | refine fq_ct ?_ | refine fq_bk ?_ | refine fq_rt ?_ | refine wfd_nil ?_ | refine wfd_cons ?_ | refine oq_eq_il ?_ | refine oq_ne_il ?_ | refine oq_eq_it ?_ | refine oq_ne_it ?_ | refine oq_lt_il ?_ | refine oq_lt_it ?_ | refine wp_isiC ?_ | refine wp_rev ?_ | refine wp_callF ?_ | refine wp_consF ?_ | refine wp_oneF ?_ | refine wp_cat ?_ | refine oq_isiC_ob ?_ | refine oq_isiC_t ?_ | refine oq_isiC_l ?_ | refine oq_eqI ?_ | refine oq_eqI_t ?_ | refine inw_nil ?_ | refine oq_isiE ?_ | refine oq_eqE ?_ | refine oq_eqEl ?_) | ((with_reducible apply fv_n); exact rfl) | ((with_reducible apply fv_v); exact rfl) | ((with_reducible apply fv_h); exact rfl) | ((with_reducible apply fv_m); exact rfl) | ((with_reducible apply fv_d); exact rfl) | ((with_reducible apply fv_t); exact rfl) | ((with_reducible apply fv_b); exact rfl) | ((with_reducible apply wp_kV); exact rfl) | ((with_reducible apply wp_kO_bor); exact rfl) | ((with_reducible apply wp_kO_own); exact rfl) | ((with_reducible apply wp_kO_val); exact rfl) | ((with_reducible apply wp_bopO); exact rfl) | ((with_reducible apply wp_cutO); exact rfl) | ((with_reducible apply wps_frz); exact rfl) | ((with_reducible apply wps_aug); exact rfl) | ((with_reducible apply oq_mutL_bor); exact rfl) | ((with_reducible apply oq_mutL_own); exact rfl) | ((with_reducible apply oq_tgTup); exact rfl) | ((with_reducible apply oq_ix_lk); exact rfl) | ((with_reducible apply oq_ix_tk); exact rfl) | ((with_reducible apply oq_setv); exact rfl; simp only [List.set]) | ((with_reducible apply oq_seto); exact rfl; simp only [List.set]) | ((with_reducible apply wp_gbor); exact rfl; exact rfl) | ((with_reducible apply wp_mut); exact rfl; exact ⟨_, rfl⟩) | ((with_reducible apply wps_seti); exact ⟨_, rfl⟩) | ((with_reducible apply cwp_of); exact rfl; exact rfl; try simp only [giveBack, setd, Sl.d]) | ((with_reducible apply oq_ixN_k); exact rfl; simp only [Sl.d, Sl.wi, List.set]) | ((with_reducible apply oq_mod); (first | omega | decide)) | ((with_reducible apply oq_div); (first | omega | decide)) | ((with_reducible apply oq_mul); (first | omega | decide)) | ((with_reducible apply oq_pow); (first | omega | decide)) | ((with_reducible apply oq_shl); (first | omega | decide)) | ((with_reducible apply oq_shr); (first | omega | decide)) | ((with_reducible apply oq_add_s); (first | omega | decide)) | ((with_reducible apply oq_len_s); (first | omega | decide)) | ((with_reducible apply oq_cut_s); (first | omega | decide)) | ((with_reducible apply oq_append); (first | omega | decide)) | ((with_reducible apply oq_insert); (first | omega | decide)) | ((with_reducible apply oq_extend); (first | omega | decide)) | ((with_reducible apply oq_rep); (first | omega | decide)) | ((with_reducible apply oq_cat); (first | omega | decide)) | ((with_reducible apply lok); exact rfl) | ((with_reducible refine it2_dec ?_ ?_) <;> intro))))
local macro_rules | `(tactic| sizeOf_list_dec) => `(tactic| (try simp only [List.set, Sl.wi, Sl.d, List.map_cons, List.map_nil, Nat.reduceSub, List.reduceReplicate, List.cons_append, List.nil_append, finA, giveBack, setd, wipeA, unw, List.getElem?_cons_zero, List.getElem?_cons_succ, Option.getD_some, Option.getD_none]))
theorem nt_same {a : Bool} {Q : D → Prop} (q : Q (.bool false)) : oq (dIsNotT (.bool a) (.bool a)) Q := oq_isNotT (by rw [decide_eq_true rfl]; exact q)
theorem t_same {a : Bool} {Q : D → Prop} (q : Q (.bool true)) : oq (dIsT (.bool a) (.bool a)) Q := oq_isT (by rw [decide_eq_true rfl]; exact q)
theorem FT_h {e e' : Ent} (h : ¬ e.h = e'.h) : PyData.eqv (FT e) (FT e') = false := by
  simp [FT, PyData.eqv, PyData.eqvAll, h]
theorem spo_at {rows : List D} {j : Nat} {d : D} (hj : j < rows.length) (k : Nat) : (spo rows j d)[k]? = if k = j then some d else rows[k]? := by
  have lt : (rows.take j).length = j := by rw [List.length_take]; omega
  unfold spo
  rw [List.append_assoc]
  rcases Nat.lt_trichotomy k j with h | h | h
  · rw [if_neg (by omega), List.getElem?_append_left (by omega), List.getElem?_take_of_lt h]
  · rw [if_pos h, List.getElem?_append_right (by omega), lt, h, Nat.sub_self]
    rfl
  · rw [if_neg (by omega), List.getElem?_append_right (by omega), lt]
    have : k - j = (k - j - 1) + 1 := by omega
    rw [this, List.singleton_append, List.getElem?_cons_succ, List.getElem?_drop]
    congr 1
    omega
theorem spo_len {rows : List D} {j : Nat} {d : D} (hj : j < rows.length) : (spo rows j d).length = rows.length := by
  unfold spo
  simp
  omega
def BadP (C : Nat) (b : Ent) (es : List Ent) (d : D) : Prop := fwp (f_judge_winner C) [.val (.list (EL C es)), .val (eD C (wnr b es)), .val d] fun z as => z = .bool false ∧ as = [.val (.list (EL C es)), .val (eD C (wnr b es)), .val d]
def oth (e : Ent) : Ent := { e with name := Str.ofString "a", h := e.h + 1 }
theorem other_ok {b0 b : Ent} {r es : List Ent} {i : Nat} (ee : es = b0 :: r) (eb : b = best b0 r) (hv : ∀ e, e ∈ es → EOk e) (hg : gdN b.name) (hl : es.length ≤ 1000) (g : good b es = true) (hk : es[i]? = some b) {Q : D → List Sl → Prop} (q : Q (.bool false) [.val (.list (EL C es)), .val (eD C (oth (wnr b es))), .val (.tuple [.int (i : Nat), .tuple (RL b es)])]) :
    fwp (f_judge_winner C) [.val (.list (EL C es)), .val (eD C (oth (wnr b es))), .val (.tuple [.int (i : Nat), .tuple (RL b es)])] Q := by
  have ga : gdN (Str.ofString "a") := (by decide +kernel : PyData.strOk (Str.ofString "a") = true)
  refine judge_ok ee eb (fun e h => (hv e h).v) ga hg hl hk (by unfold RL; rw [List.length_map]) (rows_hf g b) (fun _ => ?_) (fun _ => q)
  rw [FT_h (by show ¬ (wnr b es).h + 1 = (wnr b es).h; omega)]
  exact q
theorem spoilt_judged {b0 b : Ent} {r es : List Ent} {i j : Nat} {x : Ent} {d : D} (ee : es = b0 :: r) (eb : b = best b0 r) (hv : ∀ e, e ∈ es → EOk e) (hg : gdN b.name) (hl : es.length ≤ 1000) (g : good b es = true) (hk : es[i]? = some b) (hx : es[j]? = some x) (bad : Bad C b x d) {Q : D → List Sl → Prop} (q : Q (.bool false) [.val (.list (EL C es)), .val (eD C (wnr b es)), .val (.tuple [.int (i : Nat), .tuple (spo (RL b es) j d)])]) :
    fwp (f_judge_winner C) [.val (.list (EL C es)), .val (eD C (wnr b es)), .val (.tuple [.int (i : Nat), .tuple (spo (RL b es) j d)])] Q := by
  have lj := (List.getElem?_eq_some_iff.mp hx).1
  have lR : (RL b es).length = es.length := by unfold RL; rw [List.length_map]
  have hw : gdN (wnr b es).name := hg
  have nf : (List.range es.length).all (fun k => if k = j then false else match es[k]? with | some x => isrf b x b | none => true) = false := by
    rw [List.all_eq_false]
    exact ⟨j, List.mem_range.mpr lj, by simp⟩
  refine judge_ok (f := fun k => if k = j then false else match es[k]? with | some x => isrf b x b | none => true) ee eb (fun e h => (hv e h).v) hw hg hl hk (by rw [spo_len (by omega), lR]) (fun k y z hy hz => ?_) (fun h => ?_) (fun _ => q)
  · rw [spo_at (by omega)] at hz
    by_cases e : k = j
    · subst e
      rw [if_pos rfl] at hz
      cases hz
      rw [hx] at hy
      cases hy
      rw [if_pos rfl]
      exact bad
    · rw [if_neg e] at hz
      rw [if_neg e]
      exact rows_hf g b k y z hy hz
  · rw [nf] at h
    cases h
theorem law_true : ∀ (C : Nat) (ns : List Int), ns.length ≤ 63 → ∃ as, f_law C [.val (scriptD ns)] = some (.bool true, as) := by
  intro C ns hns
  have key : fwp (f_law C) [.val (scriptD ns)] fun d _ => d = .bool true := by
    unfold f_law m_law
    refine fwp_run rfl rfl ?_
    sizeOf_list_dec
    array_mem_dec
    refine draws_ok hns ?_
    sizeOf_list_dec
    unfold DS
    array_mem_dec
    refine wp_lc (wp_range1 ?_)
    array_mem_dec
    refine draw_ok (ns := ns) (Int.le_refl 0) (by decide) fun n a c s ha n0 n1 => ?_
    sizeOf_list_dec
    array_mem_dec
    refine ⟨1 + n, rfl, by omega, fun ds acc ρ => ∃ (k : Nat) (es : List Ent) (a c s : Int), ds = nums (k : Nat) ((1 + n).toNat - k) ∧ k ≤ (1 + n).toNat ∧ acc = EL C es ∧ es.length = k ∧ (∀ e, e ∈ es → EOk e) ∧ 0 ≤ a ∧ ρ = [some (.val (scriptD ns)), some (.own (DS ns a c s)), none, none, none, none, none, none, none, none, none], ⟨0, [], a, c, s, rfl, Nat.zero_le _, rfl, rfl, (fun _ h => nomatch h), ha, rfl⟩, ?_, ?_⟩
    · rintro d ds acc ρ ⟨k, es, a, c, s, e, hk, rfl, le, he, ha, rfl⟩
      rcases Nat.lt_or_ge k (1 + n).toNat with hk | hk
      · rw [show (1 + n).toNat - k = ((1 + n).toNat - (k + 1)) + 1 by omega] at e
        simp only [nums, List.cons.injEq] at e
        obtain ⟨rfl, rfl⟩ := e
        have e1 : ((k : Nat) : Int) + 1 = ((k + 1 : Nat) : Int) := by omega
        rw [e1]
        sizeOf_list_dec
        unfold DS
        array_mem_dec
        refine entry_ok ha fun e a c s ha oe => ?_
        sizeOf_list_dec
        array_mem_dec
        refine ⟨by rw [EL_len]; omega, k + 1, es ++ [e], a, c, s, rfl, hk, by unfold EL; simp, by simp [le], fun z hz => ?_, ha, rfl⟩
        rcases List.mem_append.mp hz with h | h
        · exact he z h
        · rw [List.mem_singleton.mp h]
          exact oe
      · rw [show (1 + n).toNat - k = 0 by omega] at e
        cases e
    rintro acc ρ ⟨k, es, a, c, s, e, hk, rfl, le, he, ha, rfl⟩
    have hkn : k = (1 + n).toNat := by
      rcases Nat.lt_or_ge k (1 + n).toNat with h | h
      · rw [show (1 + n).toNat - k = ((1 + n).toNat - (k + 1)) + 1 by omega] at e
        cases e
      · omega
    have hl : es.length ≤ 1000 := by omega
    have hn : 0 < es.length := by omega
    clear e hk hkn n0 n1
    obtain ⟨b0, r, ee⟩ : ∃ b0 r, es = b0 :: r := by
      cases es with
      | nil => exact absurd hn (by decide)
      | cons b0 r => exact ⟨b0, r, rfl⟩
    obtain ⟨i, F⟩ := best_first b0 r
    rw [← ee] at F
    generalize eb : best b0 r = b at F
    have eb := eb.symm
    have hb : b ∈ es := List.mem_of_getElem? F.at_
    have li : i < es.length := (List.getElem?_eq_some_iff.mp F.at_).1
    have hg : gdN b.name := by
      show PyData.strOk b.name = true
      rw [(he b hb).n]
      decide +kernel
    array_mem_dec
    refine due_ok ee eb F hl (fun e h => ⟨(he e h).ne, (he e h).v⟩) (fun g => ?_) ?_
    · sizeOf_list_dec
      array_mem_dec
      refine it2_b (fun z => ?_) (fun _ => ?_)
      · exact Bool.noConfusion (show false = true from z)
      array_mem_dec
      refine reasons_ok ee eb F hl ?_
      sizeOf_list_dec
      array_mem_dec
      refine winner_ok ee eb (fun e h => (he e h).v) ?_
      sizeOf_list_dec
      array_mem_dec
      refine ne_PD ?_
      array_mem_dec
      have tb1 : tell b es b = true := tell_true F g hb (eqv_self b)
      unfold PD
      refine told_ok ee eb he hb hl g F.at_ ?_
      rw [tb1]
      sizeOf_list_dec
      array_mem_dec
      refine nt_same ?_
      array_mem_dec
      refine wps_for (wp_range1 ?_)
      array_mem_dec
      rw [EL_len]
      refine ⟨(es.length : Nat), rfl, by omega, fun ds ρ => ∃ (as bs : List Ent) (x y : Option Sl), es = as ++ bs ∧ ds = nums ((as.length : Nat) : Int) bs.length ∧ Vn x ∧ Vn y ∧ ρ = [some (.val (scriptD ns)), some (.own (DS ns a c s)), some (.val (.list (EL C es))), some (.val (PD i b es)), some (.val (PD i b es)), some (.val (eD C (wnr b es))), x, none, none, y, none], ⟨[], es, none, none, rfl, by rw [Int.toNat_natCast]; rfl, .inl rfl, .inl rfl, rfl⟩, ?_, ?_⟩
      · rintro d ds ρ ⟨as, bs, x, y, e1, e2, hx, hy, rfl⟩
        cases bs with
        | nil => cases e2
        | cons p bs =>
          simp only [nums, List.length_cons, List.cons.injEq] at e2
          obtain ⟨rfl, rfl⟩ := e2
          have ap : es[as.length]? = some p := by
            rw [e1, List.getElem?_append_right (Nat.le_refl _), Nat.sub_self]
            rfl
          have hp := List.mem_of_getElem? ap
          have e3 : ((as.length : Nat) : Int) + 1 = (((as ++ [p]).length : Nat) : Int) := by simp
          rw [e3]
          (refine oq_setv_nb rfl hx ?_; simp only [List.set])
          unfold PD
          array_mem_dec
          refine told_ok ee eb he hb hl g ap ?_
          sizeOf_list_dec
          array_mem_dec
          refine oq_setv_nb rfl hy ?_
          simp only [List.set]
          array_mem_dec
          refine EL_at ap ?_
          array_mem_dec
          refine lkey_ok (he p hp).ne (he p hp).v ?_
          sizeOf_list_dec
          array_mem_dec
          refine EL_at F.at_ ?_
          array_mem_dec
          refine lkey_ok (he b hb).ne (he b hb).v ?_
          sizeOf_list_dec
          array_mem_dec
          refine eq_KD ?_
          cases hk : sk p b with
          | true =>
            rw [tell_true F g hp hk]
            array_mem_dec
            refine nt_same ?_
            array_mem_dec
            refine EL_at ap ?_
            array_mem_dec
            refine lkey_ok (he p hp).ne (he p hp).v ?_
            sizeOf_list_dec
            array_mem_dec
            refine EL_at F.at_ ?_
            array_mem_dec
            refine lkey_ok (he b hb).ne (he b hb).v ?_
            sizeOf_list_dec
            array_mem_dec
            refine ne_KD ?_
            rw [hk]
            array_mem_dec
            exact ⟨as ++ [p], bs, _, _, by simp [e1], rfl, .inr ⟨_, rfl⟩, .inr ⟨_, rfl⟩, rfl⟩
          | false =>
            array_mem_dec
            refine EL_at ap ?_
            array_mem_dec
            refine lkey_ok (he p hp).ne (he p hp).v ?_
            sizeOf_list_dec
            array_mem_dec
            refine EL_at F.at_ ?_
            array_mem_dec
            refine lkey_ok (he b hb).ne (he b hb).v ?_
            sizeOf_list_dec
            array_mem_dec
            refine ne_KD ?_
            rw [hk]
            array_mem_dec
            refine EL_at ap ?_
            array_mem_dec
            refine EL_at F.at_ ?_
            array_mem_dec
            refine lalike_ok ?_
            sizeOf_list_dec
            array_mem_dec
            cases ha : al p b with
            | true =>
              array_mem_dec
              exact ⟨as ++ [p], bs, _, _, by simp [e1], rfl, .inr ⟨_, rfl⟩, .inr ⟨_, rfl⟩, rfl⟩
            | false =>
              rw [tell_false F ha]
              array_mem_dec
              refine nt_same ?_
              array_mem_dec
              exact ⟨as ++ [p], bs, _, _, by simp [e1], rfl, .inr ⟨_, rfl⟩, .inr ⟨_, rfl⟩, rfl⟩
      · rintro ρ ⟨as, bs, x, y, e1, e2, hx, hy, rfl⟩
        cases bs with
        | cons p bs => cases e2
        | nil =>
          clear e1 e2
          have lR : (RL b es).length = es.length := by unfold RL; rw [List.length_map]
          have hw : gdN (wnr b es).name := hg
          unfold PD
          array_mem_dec
          refine wp_mk ?_
          array_mem_dec
          refine ⟨rfl, ?_⟩
          sizeOf_list_dec
          refine mk_ok ?_
          array_mem_dec
          refine other_ok ee eb he hg hl g F.at_ ?_
          sizeOf_list_dec
          array_mem_dec
          refine nt_same ?_
          array_mem_dec
          have ca : cutD [PyData.int (i : Nat), .tuple (RL b es)] none (some 1) = [.int (i : Nat)] := rfl
          rw [ca]
          refine oq_add_t (by simp) ?_
          array_mem_dec
          rw [EL_len]
          have bads : ∀ d, d ∈ [PyData.none, .int 5, .tuple [], .list [.int (i : Nat), .tuple (RL b es)], .tuple [.int (i : Nat)], .tuple ([.int (i : Nat), .tuple (RL b es)] ++ [.int 0]), .tuple [.int (es.length : Nat), .tuple (RL b es)], .tuple [.int (-1), .tuple (RL b es)], .tuple [.bool true, .tuple (RL b es)], .tuple [.int (i : Nat), .list (RL b es)], .tuple [.int (i : Nat), .tuple (cutD (RL b es) none (some (-1)))]] → BadP C b es d := by
            intro d hd
            simp only [List.mem_cons, List.not_mem_nil, or_false] at hd
            rcases hd with rfl | rfl | rfl | rfl | rfl | rfl | rfl | rfl | rfl | rfl | rfl
            · exact jb_nt isi_tn ⟨rfl, rfl⟩
            · exact jb_nt isi_ti ⟨rfl, rfl⟩
            · exact jb_len (by decide) ⟨rfl, rfl⟩
            · exact jb_nt isi_tl ⟨rfl, rfl⟩
            · exact jb_len (by show (1 : Nat) ≠ 2; decide) ⟨rfl, rfl⟩
            · exact jb_len (by show (3 : Nat) ≠ 2; decide) ⟨rfl, rfl⟩
            · exact jb_out (by omega) ⟨rfl, rfl⟩
            · exact jb_out (by omega) ⟨rfl, rfl⟩
            · exact jb_bool ⟨rfl, rfl⟩
            · exact jb_list li ⟨rfl, rfl⟩
            · exact jb_rows li (by rw [cut_last (by omega), lR]; omega) ⟨rfl, rfl⟩
          array_mem_dec
          refine wp_lc (wp_listK ?_)
          array_mem_dec
          refine ⟨fun ds acc ρ => acc = [] ∧ (∀ d, d ∈ ds → BadP C b es d) ∧ ∃ o, ρ = [some (.val (scriptD ns)), some (.own (DS ns a c s)), some (.val (.list (EL C es))), some (.val (.tuple [.int (i : Nat), .tuple (RL b es)])), some (.val (.tuple [.int (i : Nat), .tuple (RL b es)])), some (.val (eD C (wnr b es))), x, some (.val (eD C (oth (wnr b es)))), o, y, none], ⟨rfl, bads, _, rfl⟩, ?_, ?_⟩
          · rintro d ds acc ρ ⟨rfl, hd, o, rfl⟩
            sizeOf_list_dec
            array_mem_dec
            refine fwp.imp (hd d (by simp)) ?_
            rintro z as ⟨rfl, rfl⟩
            sizeOf_list_dec
            array_mem_dec
            refine nt_same ?_
            array_mem_dec
            exact ⟨by first | rfl | trivial, fun d h => hd d (List.mem_cons_of_mem _ h), o, rfl⟩
          · rintro acc ρ ⟨rfl, _, o, rfl⟩
            array_mem_dec
            · rename_i h0
              exact absurd h0 (by simp)
            · refine spoilt_ok ha hn hl g fun j x d a c s hx bad => ?_
              sizeOf_list_dec
              array_mem_dec
              refine spoilt_judged ee eb he hg hl g F.at_ hx bad ?_
              sizeOf_list_dec
              array_mem_dec
              refine t_same ?_
              array_mem_dec
              rfl
    · sizeOf_list_dec
      array_mem_dec
      refine it2_b (fun _ => ?_) (fun z => ?_)
      · array_mem_dec
        rfl
      · exact Bool.noConfusion (show true = false from z)
  obtain ⟨d, as, e, rfl⟩ := key
  exact ⟨as, e⟩
end K50

open PySem PySem.W PyProof.Rows in
set_option maxRecDepth 100000 in
set_option maxHeartbeats 0 in
theorem PySem.Challenge.cw_folderkin_k50_reasons_of_winners_holds : PySem.Challenge.rw_folderkin_k50_reasons_of_winners.Holds := by
  w_on; o_law; k_head; (case hw => w_witness2)
  k_fill
  refine Dz.walk_law (l := PySem.Challenge.rw_folderkin_k50_reasons_of_winners) (k := 7) (x := "_law_script") rfl rfl ⟨rfl, by decide, by decide⟩ (fun w h Y => PySem.W.kIn_of Y) ?F
  case F =>
    intro w mg fa h KX G hmg
    refine' K50.all_mk KX G hmg ?aC_Entry ?a0 ?i0 ?l0 ?c0 ?k0 ?a1 ?i1 ?l1 ?c1 ?k1 ?a2 ?l2 ?c2 ?k2 ?a3 ?l3 ?c3 ?k3 ?a4 ?l4 ?c4 ?k4 ?a5 ?l5 ?c5 ?k5 ?a6 ?l6 ?c6 ?k6 ?a7 ?l7 ?c7 ?k7 ?a8 ?l8 ?c8 ?k8 ?a9 ?l9 ?c9 ?k9 ?a10 ?l10 ?c10 ?k10 ?a11 ?l11 ?c11 ?k11 ?a12 ?l12 ?c12 ?k12 ?a13 ?l13 ?c13 ?k13 ?a14 ?l14 ?c14 ?k14 ?a15 ?l15 ?c15 ?k15 ?a16 ?l16 ?c16 ?k16 ?a17 ?l17 ?c17 ?k17 ?a18 ?l18 ?c18 ?k18 ?a19 ?l19 ?c19 ?k19 ?a20 ?l20 ?c20 ?k20 ?a21 ?l21 ?c21 ?k21 ?a22 ?l22 ?c22 ?k22 ?a23 ?l23 ?c23 ?k23 ?a24 ?i24 ?l24 ?c24 ?k24 ?pg_Entry ?hd_Entry ?po_Entry ?sa_Entry ?mk_Entry ?kc_Entry ?cha_Entry ?chn_Entry ?cht_Entry ?chm_Entry ?cic_Entry ?cty_Entry ?nNoneType_Entry ?nbool_Entry ?nint_Entry ?nstr_Entry ?nlist_Entry ?ntuple_Entry ?na_name_Entry ?na_vector_Entry ?na_height_Entry ?na_maker_Entry ?na_deleted_Entry ?na_time_Entry ?na_blocks_Entry ?z_abs ?z_all ?z_bool ?z_dict ?z_int ?z_isinstance ?z_len ?z_list ?z_max ?z_min ?z_range ?z_tuple ?z_zip ?y_DEVICES ?y_KEY_PARTS K50.law_true
    (case aC_Entry => k_is)
    (case a0 => k_is)
    (case i0 => k_is)
    (case l0 => k_is)
    (case c0 => k_is)
    (case k0 => k_is)
    (case a1 => k_is)
    (case i1 => k_is)
    (case l1 => k_is)
    (case c1 => k_is)
    (case k1 => k_is)
    (case a2 => k_is)
    (case l2 => k_is)
    (case c2 => k_is)
    (case k2 => k_is)
    (case a3 => k_is)
    (case l3 => k_is)
    (case c3 => k_is)
    (case k3 => k_is)
    (case a4 => k_is)
    (case l4 => k_is)
    (case c4 => k_is)
    (case k4 => k_is)
    (case a5 => k_is)
    (case l5 => k_is)
    (case c5 => k_is)
    (case k5 => k_is)
    (case a6 => k_is)
    (case l6 => k_is)
    (case c6 => k_is)
    (case k6 => k_is)
    (case a7 => k_is)
    (case l7 => k_is)
    (case c7 => k_is)
    (case k7 => k_is)
    (case a8 => k_is)
    (case l8 => k_is)
    (case c8 => k_is)
    (case k8 => k_is)
    (case a9 => k_is)
    (case l9 => k_is)
    (case c9 => k_is)
    (case k9 => k_is)
    (case a10 => k_is)
    (case l10 => k_is)
    (case c10 => k_is)
    (case k10 => k_is)
    (case a11 => k_is)
    (case l11 => k_is)
    (case c11 => k_is)
    (case k11 => k_is)
    (case a12 => k_is)
    (case l12 => k_is)
    (case c12 => k_is)
    (case k12 => k_is)
    (case a13 => k_is)
    (case l13 => k_is)
    (case c13 => k_is)
    (case k13 => k_is)
    (case a14 => k_is)
    (case l14 => k_is)
    (case c14 => k_is)
    (case k14 => k_is)
    (case a15 => k_is)
    (case l15 => k_is)
    (case c15 => k_is)
    (case k15 => k_is)
    (case a16 => k_is)
    (case l16 => k_is)
    (case c16 => k_is)
    (case k16 => k_is)
    (case a17 => k_is)
    (case l17 => k_is)
    (case c17 => k_is)
    (case k17 => k_is)
    (case a18 => k_is)
    (case l18 => k_is)
    (case c18 => k_is)
    (case k18 => k_is)
    (case a19 => k_is)
    (case l19 => k_is)
    (case c19 => k_is)
    (case k19 => k_is)
    (case a20 => k_is)
    (case l20 => k_is)
    (case c20 => k_is)
    (case k20 => k_is)
    (case a21 => k_is)
    (case l21 => k_is)
    (case c21 => k_is)
    (case k21 => k_is)
    (case a22 => k_is)
    (case l22 => k_is)
    (case c22 => k_is)
    (case k22 => k_is)
    (case a23 => k_is)
    (case l23 => k_is)
    (case c23 => k_is)
    (case k23 => k_is)
    (case a24 => k_is)
    (case i24 => k_is)
    (case l24 => k_is)
    (case c24 => k_is)
    (case k24 => k_is)
    (case pg_Entry => k_is)
    (case hd_Entry => k_is)
    (case po_Entry => k_is)
    (case sa_Entry => k_is)
    (case mk_Entry => k_is)
    (case kc_Entry => k_is)
    (case cha_Entry => k_is)
    (case chn_Entry => k_is)
    (case cht_Entry => k_is)
    (case chm_Entry => k_is)
    (case cic_Entry => k_is)
    (case cty_Entry => k_is)
    (case nNoneType_Entry => k_is)
    (case nbool_Entry => k_is)
    (case nint_Entry => k_is)
    (case nstr_Entry => k_is)
    (case nlist_Entry => k_is)
    (case ntuple_Entry => k_is)
    (case na_name_Entry => k_is)
    (case na_vector_Entry => k_is)
    (case na_height_Entry => k_is)
    (case na_maker_Entry => k_is)
    (case na_deleted_Entry => k_is)
    (case na_time_Entry => k_is)
    (case na_blocks_Entry => k_is)
    (case z_abs => k_is)
    (case z_all => k_is)
    (case z_bool => k_is)
    (case z_dict => k_is)
    (case z_int => k_is)
    (case z_isinstance => k_is)
    (case z_len => k_is)
    (case z_list => k_is)
    (case z_max => k_is)
    (case z_min => k_is)
    (case z_range => k_is)
    (case z_tuple => k_is)
    (case z_zip => k_is)
    (case y_DEVICES => k_is)
    (case y_KEY_PARTS => k_is)

