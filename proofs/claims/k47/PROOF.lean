import PyProof.Rows.All
import Wide.All
import OpenK.AllK
import Wide.FinOn
import HandS.ForMost
import HandS.ForExc
import HandS.CallSlots
import HandS.IsInst
import HandS.TupAny
import HandS.Deep
import HandS.Wide
import HandS.Zip
import KE.DataCmp
import HandS.OwnEq
import HandS.SlotsOwn
import HandS.Defaults
import HandS.ExcInit
import HandS.ExcSuper
import HandS.ExcField
import HandS.ExcIs
import KE.KSuper
import KE.KExcSuper
import HandS.TryOnly
import HandS.Iter
import HandS.More
import HandS.Replace
import HandS.StrMore
import PyProof.Rows.StrRev
import HandS.Style
import KE.DatumOrd
import PyProof.StrLawsFirst
import PyProof.StrLawsChain
import PyProof.Rows.StrDouble
import PyProof.StrOps2
import HandS.WordsDict
import HandS.DictEq
import HandS.WideBits
import KE.GoesComp
import KE.GoesRaise
import PySem.Challenge.RW_folderkin_k47_values_as_bytes
import KE.RegKSuper
set_option Elab.async false
set_option linter.all false
set_option maxRecDepth 100000
set_option maxHeartbeats 4000000
namespace Hz
open PySem L2
abbrev D := PyData
abbrev Frag := PySem.W.Frag
/-- the heap without the addresses that B hides -/
def hide (B : Addr → Bool) (H : Hp) : Hp := fun a => if B a = true then none else H a
def Sub (H H' : Hp) : Prop := ∀ a o, H a = some o → H' a = some o
theorem Sub.refl (H : Hp) : Sub H H := fun _ _ h => h
theorem Sub.trans {H H1 H2 : Hp} (a : Sub H H1) (b : Sub H1 H2) : Sub H H2 := fun x o h => b x o (a x o h)
theorem hide_some {B : Addr → Bool} {H : Hp} {a : Addr} {o : HO} (h : hide B H a = some o) : B a = false ∧ H a = some o := by
  unfold hide at h
  split at h
  · cases h
  · rename_i q
    exact ⟨by simpa using q, h⟩
theorem hide_of {B : Addr → Bool} {H : Hp} {a : Addr} {o : HO} (b : B a = false) (h : H a = some o) : hide B H a = some o := by
  unfold hide
  rw [b]
  exact h
theorem hide_sub (B : Addr → Bool) (H : Hp) : Sub (hide B H) H := fun a o h => (hide_some h).2
theorem Sub.new {H : Hp} {p : Addr} {o : HO} (h : H p = none) : Sub H (upd H p o) := fun a u e => by
  rw [upd_ne (ne_of_none e h)]
  exact e
def kD : Key → D
  | .inl i => .int i
  | .inr x => .str x
/-- a tuple that begins with a pair of a whole number and something: its object is known -/
def needX : List D → Bool
  | .tuple [.int _, _] :: _ => true
  | _ => false
def ExT (o : Obj) : Prop := o.cls = .type "tuple" ∧ o.dict = none
def XT (H : Hp) (a : Addr) : Prop := ∃ (o : Obj) (u : HO), H a = some (.frz o u) ∧ ExT o
theorem XT.mono {H H' : Hp} {a : Addr} (e : Sub H H') (h : XT H a) : XT H' a := let ⟨o, u, h1, h2⟩ := h; ⟨o, u, e _ _ h1, h2⟩
mutual
/-- v, in H, is the datum d -/
inductive Rp (K : Frag) (H : Hp) : V → D → Prop
  | non : Rp K H .non .none
  | bl (b : Bool) : Rp K H (.bl b) (.bool b)
  | int (i : Int) : Rp K H (.int i) (.int i)
  | str (x : Str) : Rp K H (.str x) (.str x)
  | lst {a : Addr} {xs : List V} {ds : List D} : SqL K H a xs → RpL K H xs ds → Rp K H (.ref a) (.list ds)
  | tup {a : Addr} {xs : List V} {ds : List D} : SqT K H a xs → RpL K H xs ds → (needX ds = true → XT H a) → Rp K H (.ref a) (.tuple ds)
  | dct {a : Addr} {kvs : List (Key × V)} {ds : List (D × D)} : Rd H a (.dK kvs) → RpK K H kvs ds → Rp K H (.ref a) (.dict ds)
  | obj {a C dx : Addr} {fs : List (Str × V)} {ds : List (D × D)} : H a = some (.ins C dx fs) → RpF K H fs ds → Rp K H (.ref a) (.dict ((.none, .int (Int.ofNat C)) :: ds))
  /-- a dict that stays as it is -/
  | fdc {a : Addr} {o : Obj} {kvs : List (Key × V)} {ds : List (D × D)} : H a = some (.frz o (.dK kvs)) → RpK K H kvs ds → Rp K H (.ref a) (.dict ((.none, .none) :: ds))
  | fnc {a : Addr} : Rp K H (.ref a) (.dict [(.bool true, .int (Int.ofNat a))])
  /-- a thing that may change: its address -/
  | ref {a : Addr} : Rp K H (.ref a) (.dict [(.bool false, .int (Int.ofNat a))])
  /-- a caught exception: its dict, its class -/
  | exc {a dx C : Addr} {fs : List (Str × V)} {ds : List (D × D)} : H dx = some (.xd fs) → RpF K H fs ds → Rp K H (.ref a) (.dict ((.bool true, .tuple [.int (Int.ofNat a), .int (Int.ofNat dx), .int (Int.ofNat C)]) :: ds))
inductive RpL (K : Frag) (H : Hp) : List V → List D → Prop
  | nil : RpL K H [] []
  | cons {v : V} {vs : List V} {d : D} {ds : List D} : Rp K H v d → RpL K H vs ds → RpL K H (v :: vs) (d :: ds)
inductive RpK (K : Frag) (H : Hp) : List (Key × V) → List (D × D) → Prop
  | nil : RpK K H [] []
  | cons {k : Key} {v : V} {vs : List (Key × V)} {d : D} {ds : List (D × D)} : Rp K H v d → RpK K H vs ds → RpK K H ((k, v) :: vs) ((kD k, d) :: ds)
inductive RpF (K : Frag) (H : Hp) : List (Str × V) → List (D × D) → Prop
  | nil : RpF K H [] []
  | cons {f : Str} {v : V} {vs : List (Str × V)} {d : D} {ds : List (D × D)} : Rp K H v d → RpF K H vs ds → RpF K H ((f, v) :: vs) ((.str f, d) :: ds)
end
theorem sub_rd {H H' : Hp} {a : Addr} {u : HO} (e : Sub H H') (h : Rd H a u) : Rd H' a u := by
  rcases h with h | ⟨o, h⟩
  · exact Or.inl (e a _ h)
  · exact Or.inr ⟨o, e a _ h⟩
theorem sub_l {K : Frag} {H H' : Hp} {a : Addr} {xs : List V} (e : Sub H H') (h : SqL K H a xs) : SqL K H' a xs := by
  rcases h with h | h
  · exact Or.inl (sub_rd e h)
  · exact Or.inr h
theorem sub_t {K : Frag} {H H' : Hp} {a : Addr} {xs : List V} (e : Sub H H') (h : SqT K H a xs) : SqT K H' a xs := by
  rcases h with h | h
  · exact Or.inl (sub_rd e h)
  · exact Or.inr h
mutual
theorem Rp.mono {K : Frag} {H H' : Hp} (e : Sub H H') : ∀ {v : V} {d : D}, Rp K H v d → Rp K H' v d
  | _, _, .non => .non
  | _, _, .bl b => .bl b
  | _, _, .int i => .int i
  | _, _, .str x => .str x
  | _, _, .lst h r => .lst (sub_l e h) (RpL.mono e r)
  | _, _, .tup h r x => .tup (sub_t e h) (RpL.mono e r) fun n => (x n).mono e
  | _, _, .dct h r => .dct (sub_rd e h) (RpK.mono e r)
  | _, _, .obj h r => .obj (e _ _ h) (RpF.mono e r)
  | _, _, .fdc h r => .fdc (e _ _ h) (RpK.mono e r)
  | _, _, .fnc => .fnc
  | _, _, .ref => .ref
  | _, _, .exc h r => .exc (e _ _ h) (RpF.mono e r)
theorem RpL.mono {K : Frag} {H H' : Hp} (e : Sub H H') : ∀ {v : List V} {d : List D}, RpL K H v d → RpL K H' v d
  | _, _, .nil => .nil
  | _, _, .cons h r => .cons (Rp.mono e h) (RpL.mono e r)
theorem RpK.mono {K : Frag} {H H' : Hp} (e : Sub H H') : ∀ {v : List (Key × V)} {d : List (D × D)}, RpK K H v d → RpK K H' v d
  | _, _, .nil => .nil
  | _, _, .cons h r => .cons (Rp.mono e h) (RpK.mono e r)
theorem RpF.mono {K : Frag} {H H' : Hp} (e : Sub H H') : ∀ {v : List (Str × V)} {d : List (D × D)}, RpF K H v d → RpF K H' v d
  | _, _, .nil => .nil
  | _, _, .cons h r => .cons (Rp.mono e h) (RpF.mono e r)
end
theorem RpL.length {K : Frag} {H : Hp} : ∀ {vs : List V} {ds : List D}, RpL K H vs ds → vs.length = ds.length
  | _, _, .nil => rfl
  | _, _, .cons _ r => by rw [List.length_cons, List.length_cons, RpL.length r]
theorem RpL.get' {K : Frag} {H : Hp} : ∀ {vs : List V} {ds : List D} {i : Nat} {d : D}, RpL K H vs ds → ds[i]? = some d → ∃ v, vs[i]? = some v ∧ Rp K H v d
  | _, _, _, _, .nil, e => by simp at e
  | _, _, 0, _, .cons h r, e => by
    simp at e
    subst e
    exact ⟨_, rfl, h⟩
  | _, _, i + 1, v, .cons h r, e => by
    obtain ⟨d, h1, h2⟩ := RpL.get' (i := i) (d := v) r (by simpa using e)
    exact ⟨d, by simpa using h1, h2⟩
theorem RpL.append {K : Frag} {H : Hp} : ∀ {vs us : List V} {ds es : List D}, RpL K H vs ds → RpL K H us es → RpL K H (vs ++ us) (ds ++ es)
  | _, _, _, _, .nil, s => s
  | _, _, _, _, .cons h r, s => .cons h (RpL.append r s)
theorem RpL.set {K : Frag} {H : Hp} {v : V} {d : D} (q : Rp K H v d) : ∀ {vs : List V} {ds : List D} (i : Nat), RpL K H vs ds → RpL K H (vs.set i v) (ds.set i d)
  | _, _, _, .nil => .nil
  | _, _, 0, .cons _ r => .cons q r
  | _, _, i + 1, .cons h r => .cons h (RpL.set q i r)
theorem RpL.take {K : Frag} {H : Hp} : ∀ {vs : List V} {ds : List D} (n : Nat), RpL K H vs ds → RpL K H (vs.take n) (ds.take n)
  | _, _, 0, _ => .nil
  | _, _, _ + 1, .nil => .nil
  | _, _, n + 1, .cons h r => .cons h (RpL.take n r)
theorem RpL.drop {K : Frag} {H : Hp} : ∀ {vs : List V} {ds : List D} (n : Nat), RpL K H vs ds → RpL K H (vs.drop n) (ds.drop n)
  | _, _, 0, r => r
  | _, _, _ + 1, .nil => .nil
  | _, _, n + 1, .cons _ r => RpL.drop n r
theorem RpL.ints {K : Frag} {H : Hp} : ∀ ns : List Int, RpL K H (ns.map V.int) (ns.map PyData.int)
  | [] => .nil
  | n :: ns => .cons (.int n) (RpL.ints ns)
theorem RpL.of_strs {K : Frag} {H : Hp} : ∀ {ns : List Str} {vs : List V}, RpL K H vs (ns.map PyData.str) → vs = ns.map V.str
  | [], _, h => by cases h; rfl
  | n :: ns, _, h => by
    cases h with
    | cons a b =>
      cases a
      rw [RpL.of_strs b]
      rfl
/-- a value that may be read: its own node may be hidden, its parts are not -/
inductive Rs (K : Frag) (B : Addr → Bool) (H : Hp) : V → D → Prop
  | vis {v : V} {d : D} : Rp K (hide B H) v d → Rs K B H v d
  | lst {a : Addr} {xs : List V} {ds : List D} : SqL K H a xs → RpL K (hide B H) xs ds → Rs K B H (.ref a) (.list ds)
  | dct {a : Addr} {kvs : List (Key × V)} {ds : List (D × D)} : Rd H a (.dK kvs) → RpK K (hide B H) kvs ds → Rs K B H (.ref a) (.dict ds)
  | obj {a C dx : Addr} {fs : List (Str × V)} {ds : List (D × D)} : H a = some (.ins C dx fs) → RpF K (hide B H) fs ds → Rs K B H (.ref a) (.dict ((.none, .int (Int.ofNat C)) :: ds))
theorem Rs.rp {K : Frag} {B : Addr → Bool} {H : Hp} {v : V} {d : D} (h : Rs K B H v d) : Rp K H v d := by
  cases h with
  | vis h => exact h.mono (hide_sub B H)
  | lst h r => exact .lst h (r.mono (hide_sub B H))
  | dct h r => exact .dct h (r.mono (hide_sub B H))
  | obj h r => exact .obj h (r.mono (hide_sub B H))
theorem Rs.list {K : Frag} {B : Addr → Bool} {H : Hp} {v : V} {ds : List D} (h : Rs K B H v (.list ds)) : ∃ a xs, v = .ref a ∧ SqL K H a xs ∧ RpL K (hide B H) xs ds := by
  cases h with
  | vis h =>
    cases h with
    | lst h r => exact ⟨_, _, rfl, sub_l (hide_sub B H) h, r⟩
  | lst h r => exact ⟨_, _, rfl, h, r⟩
theorem Rs.tuple {K : Frag} {B : Addr → Bool} {H : Hp} {v : V} {ds : List D} (h : Rs K B H v (.tuple ds)) : ∃ a xs, v = .ref a ∧ SqT K H a xs ∧ RpL K (hide B H) xs ds := by
  cases h with
  | vis h =>
    cases h with
    | tup h r x => exact ⟨_, _, rfl, sub_t (hide_sub B H) h, r⟩
theorem Rs.int {K : Frag} {B : Addr → Bool} {H : Hp} {v : V} {i : Int} (h : Rs K B H v (.int i)) : v = .int i := by
  cases h with
  | vis h => cases h; rfl
theorem Rs.bool {K : Frag} {B : Addr → Bool} {H : Hp} {v : V} {i : Bool} (h : Rs K B H v (.bool i)) : v = .bl i := by
  cases h with
  | vis h => cases h; rfl
theorem Rs.str {K : Frag} {B : Addr → Bool} {H : Hp} {v : V} {i : Str} (h : Rs K B H v (.str i)) : v = .str i := by
  cases h with
  | vis h => cases h; rfl
theorem Rs.none {K : Frag} {B : Addr → Bool} {H : Hp} {v : V} (h : Rs K B H v .none) : v = .non := by
  cases h with
  | vis h => cases h; rfl
theorem Rp.inti {K : Frag} {H : Hp} {v : V} {i : Int} (h : Rp K H v (.int i)) : v = .int i := by cases h; rfl
theorem Rp.booli {K : Frag} {H : Hp} {v : V} {i : Bool} (h : Rp K H v (.bool i)) : v = .bl i := by cases h; rfl
theorem Rp.stri {K : Frag} {H : Hp} {v : V} {i : Str} (h : Rp K H v (.str i)) : v = .str i := by cases h; rfl
theorem Rp.nonei {K : Frag} {H : Hp} {v : V} (h : Rp K H v .none) : v = .non := by cases h; rfl
mutual
def plain : D → Bool
  | .dict _ => false
  | .list ds => plains ds
  | .tuple ds => plains ds
  | _ => true
def plains : List D → Bool
  | [] => true
  | d :: ds => plain d && plains ds
end
mutual
theorem Rp.dp {K : Frag} {H : Hp} : ∀ {v : V} {d : D}, Rp K H v d → plain d = true → Dp K H v d
  | _, _, .non, _ => .non
  | _, _, .bl b, _ => .bl b
  | _, _, .int i, _ => .int i
  | _, _, .str x, _ => .str x
  | _, _, .lst h r, p => .lst h (RpL.dp r (by simpa [plain] using p))
  | _, _, .tup h r _, p => .tup h (RpL.dp r (by simpa [plain] using p))
  | _, _, .dct h r, p => by simp [plain] at p
  | _, _, .obj h r, p => by simp [plain] at p
  | _, _, .fdc h r, p => by simp [plain] at p
  | _, _, .fnc, p => by simp [plain] at p
  | _, _, .ref, p => by simp [plain] at p
  | _, _, .exc _ _, p => by simp [plain] at p
theorem RpL.dp {K : Frag} {H : Hp} : ∀ {v : List V} {d : List D}, RpL K H v d → plains d = true → DpAll K H v d
  | _, _, .nil, _ => .nil
  | _, _, .cons (d := d) (ds := ds) h r, p => by
    have q : plain d = true ∧ plains ds = true := by simpa [plains] using p
    exact .cons (Rp.dp h q.1) (RpL.dp r q.2)
end
end Hz
namespace Hz
open PySem L2
def OwnAt (K : Frag) (Hh : Hp) (o : Option HO) : D → Prop
  | .list ds => ∃ vs, o = some (.lst vs) ∧ RpL K Hh vs ds
  | .dict ds => ∃ kvs, o = some (.dK kvs) ∧ RpK K Hh kvs ds
  | _ => False
theorem OwnAt.mono {K : Frag} {H H' : Hp} {o : Option HO} {d : D} (e : Sub H H') (h : OwnAt K H o d) : OwnAt K H' o d := by
  cases d with
  | list ds => obtain ⟨vs, a, b⟩ := h; exact ⟨vs, a, b.mono e⟩
  | dict ds => obtain ⟨vs, a, b⟩ := h; exact ⟨vs, a, b.mono e⟩
  | _ => exact h.elim
theorem OwnAt.ne {K : Frag} {H : Hp} {o : Option HO} {d : D} (h : OwnAt K H o d) : ∃ u, o = some u := by
  cases d with
  | list ds => obtain ⟨vs, a, b⟩ := h; exact ⟨_, a⟩
  | dict ds => obtain ⟨vs, a, b⟩ := h; exact ⟨_, a⟩
  | _ => exact h.elim
/-- what stands at a cell -/
inductive CellAt (K : Frag) (Hh : Hp) : Option HO → D → Prop
  | own {o : Option HO} {d : D} : OwnAt K Hh o d → CellAt K Hh o d
  | obj {C dx : Addr} {fs : List (Str × V)} {ds : List (D × D)} : RpF K Hh fs ds → CellAt K Hh (some (.ins C dx fs)) (.dict ((.none, .int (Int.ofNat C)) :: ds))
theorem CellAt.mono {K : Frag} {H H' : Hp} {o : Option HO} {d : D} (e : Sub H H') (h : CellAt K H o d) : CellAt K H' o d := by
  cases h with
  | own h => exact .own (h.mono e)
  | obj h => exact .obj (h.mono e)
theorem CellAt.ne {K : Frag} {H : Hp} {o : Option HO} {d : D} (h : CellAt K H o d) : ∃ u, o = some u := by
  cases h with
  | own h => exact h.ne
  | obj h => exact ⟨_, rfl⟩
/-- a cell that is seen, as a datum -/
theorem CellAt.rp {K : Frag} {Hh : Hp} {l : Addr} {d : D} (h : CellAt K Hh (Hh l) d) : Rp K Hh (.ref l) d := by
  generalize e : Hh l = o at h
  cases h with
  | own h =>
    cases d with
    | list ds => obtain ⟨vs, a, b⟩ := h; exact .lst (.inl (.inl (e.trans a))) b
    | dict ds => obtain ⟨vs, a, b⟩ := h; exact .dct (.inl (e.trans a)) b
    | _ => exact h.elim
  | obj h => exact .obj e h
theorem CellAt.rs {K : Frag} {B : Addr → Bool} {H : Hp} {l : Addr} {d : D} (h : CellAt K (hide B H) (H l) d) : Rs K B H (.ref l) d := by
  generalize e : H l = o at h
  cases h with
  | own h =>
    cases d with
    | list ds => obtain ⟨vs, a, b⟩ := h; exact .lst (.inl (.inl (e.trans a))) b
    | dict ds => obtain ⟨vs, a, b⟩ := h; exact .dct (.inl (e.trans a)) b
    | _ => exact h.elim
  | obj h => exact .obj e h
abbrev En := List (Option D)
/-- what stands in the cells -/
abbrev AH := Addr → Option D
def aset (α : AH) (a : Addr) (c : D) : AH := fun b => if b = a then some c else α b
def adel (α : AH) (a : Addr) : AH := fun b => if b = a then none else α b
/-- the cells of α' that α has -/
def arst (α α' : AH) : AH := fun b => if (α b).isSome = true then α' b else none
theorem aset_same {α : AH} {a : Addr} {c : D} : aset α a c a = some c := if_pos rfl
theorem aset_ne {α : AH} {a b : Addr} {c : D} (h : b ≠ a) : aset α a c b = α b := if_neg h
theorem adel_same {α : AH} {a : Addr} : adel α a a = none := if_pos rfl
theorem adel_ne {α : AH} {a b : Addr} (h : b ≠ a) : adel α a b = α b := if_neg h
theorem adel_aset {α : AH} {a : Addr} {c : D} (h : α a = none) : adel (aset α a c) a = α := by
  funext b
  by_cases e : b = a
  · rw [e, adel_same, h]
  · rw [adel_ne e, aset_ne e]
theorem aset_aset {α : AH} {a : Addr} {c d : D} : aset (aset α a c) a d = aset α a d := by
  funext b
  by_cases e : b = a
  · rw [e, aset_same, aset_same]
  · rw [aset_ne e, aset_ne e, aset_ne e]
theorem aset_id {α : AH} {a : Addr} {c : D} (h : α a = some c) : aset α a c = α := by
  funext b
  by_cases e : b = a
  · rw [e, aset_same, h]
  · rw [aset_ne e]
theorem arst_self {α : AH} : arst α α = α := by
  funext b
  unfold arst
  split
  · rfl
  · rename_i h
    cases q : α b with
    | none => rfl
    | some c => rw [q] at h; exact absurd rfl h
theorem arst_old {α α' : AH} {a : Addr} {c : D} (h : ∃ d, α a = some d) : arst α (aset α' a c) = aset (arst α α') a c := by
  obtain ⟨d, h⟩ := h
  funext b
  by_cases e : b = a
  · rw [e, aset_same]
    unfold arst
    rw [h, aset_same]
    rfl
  · rw [aset_ne e]
    unfold arst
    rw [aset_ne e]
def dref (a : Addr) : D := .dict [(.bool false, .int (Int.ofNat a))]
/-- a datum as it may be read: a cell by its content -/
def vw (α : AH) : D → Option D
  | .dict ((.bool false, .int n) :: _) => α n.toNat
  | d => some d
/-- the heap bears the cells; B hides all that may change -/
structure Bs (K : Frag) (B : Addr → Bool) (H : Hp) (α : AH) : Prop where
  cel : ∀ a c, α a = some c → B a = true ∧ CellAt K (hide B H) (H a) c
  bk : ∀ a, B a = true → ∃ o, H a = some o
structure SR (K : Frag) (B : Addr → Bool) (σ : St) (H : Hp) (ρ : En) (α : AH) : Prop where
  len : σ.length = ρ.length
  val : ∀ (i : Nat) d, ρ[i]? = some (some d) → ∃ v, σ[i]? = some (some v) ∧ Rp K (hide B H) v d
  bs : Bs K B H α
/-- from a state to a later one -/
structure Af (K : Frag) (B : Addr → Bool) (H : Hp) (α : AH) (B' : Addr → Bool) (H' : Hp) (α' : AH) : Prop where
  sub : Sub (hide B H) (hide B' H')
  bs : Bs K B' H' α'
  keep : ∀ b, B b = true → α b = none → B' b = true ∧ H' b = H b
  fr : ∀ b, α b = none → H b ≠ none → α' b = none
  grow : ∀ b o, H b = some o → ∃ o', H' b = some o'
def ins (l : Addr) (B : Addr → Bool) : Addr → Bool := fun a => decide (a = l) || B a
def del (l : Addr) (B : Addr → Bool) : Addr → Bool := fun a => !decide (a = l) && B a
theorem ins_self {l : Addr} {B : Addr → Bool} : ins l B l = true := by unfold ins; simp
theorem ins_or {l a : Addr} {B : Addr → Bool} (h : ins l B a = true) : a = l ∨ B a = true := by
  unfold ins at h
  simpa using h
theorem ins_of {l a : Addr} {B : Addr → Bool} (h : B a = true) : ins l B a = true := by unfold ins; simp [h]
theorem ins_ne {l a : Addr} {B : Addr → Bool} (h : a ≠ l) : ins l B a = B a := by unfold ins; simp [h]
theorem del_self {l : Addr} {B : Addr → Bool} : del l B l = false := by unfold del; simp
theorem del_ne {l a : Addr} {B : Addr → Bool} (h : a ≠ l) : del l B a = B a := by unfold del; simp [h]
theorem hide_mono {B B' : Addr → Bool} {H : Hp} (h : ∀ a, B' a = true → B a = true) : Sub (hide B H) (hide B' H) := fun a o e => by
  obtain ⟨e1, e2⟩ := hide_some e
  refine hide_of ?_ e2
  cases q : B' a with
  | false => rfl
  | true => rw [h a q] at e1; cases e1
theorem hsub {B : Addr → Bool} {H H' : Hp} (e : Sub H H') : Sub (hide B H) (hide B H') := fun b o q => hide_of (hide_some q).1 (e _ _ (hide_some q).2)
theorem sub_ins {l : Addr} {B : Addr → Bool} {H H' : Hp} (h : H l = none) (e : Sub (hide B H) (hide B H')) : Sub (hide B H) (hide (ins l B) H') := fun a o q => by
  obtain ⟨e1, e2⟩ := hide_some q
  refine hide_of ?_ (hide_some (e _ _ q)).2
  rw [ins_ne (fun z => by rw [z, h] at e2; cases e2)]
  exact e1
section
variable {K : Frag} {B B' B1 B2 : Addr → Bool} {σ σ' : St} {H H' H1 H2 : Hp} {ρ ρ' : En} {α α' α1 α2 : AH} {l : Addr} {c d : D} {v : V}
theorem Bs.fresh (S : Bs K B H α) (h : H l = none) : B l = false := by
  cases q : B l with
  | false => rfl
  | true =>
    obtain ⟨o, e⟩ := S.bk l q
    rw [h] at e
    cases e
theorem Bs.none (S : Bs K B H α) (h : B l = false) : α l = none := by
  cases q : α l with
  | none => rfl
  | some c => rw [(S.cel l c q).1] at h; cases h
theorem Bs.new (S : Bs K B H α) (h : H l = Option.none) : α l = Option.none := S.none (S.fresh h)
theorem Bs.at_ (S : Bs K B H α) (h : α l = some c) : ∃ o, H l = some o := S.bk l (S.cel l c h).1
theorem Af.refl (S : Bs K B H α) : Af K B H α B H α := ⟨Sub.refl _, S, fun _ h _ => ⟨h, rfl⟩, fun _ h _ => h, fun _ o e => ⟨o, e⟩⟩
theorem Af.trans (S : Bs K B H α) (a : Af K B H α B1 H1 α1) (b : Af K B1 H1 α1 B2 H2 α2) : Af K B H α B2 H2 α2 := by
  refine ⟨a.sub.trans b.sub, b.bs, fun c h n => ?_, fun c n h => ?_, fun c o e => ?_⟩
  · obtain ⟨h1, h2⟩ := a.keep c h n
    obtain ⟨o, e⟩ := S.bk c h
    obtain ⟨h3, h4⟩ := b.keep c h1 (a.fr c n (by rw [e]; exact fun z => nomatch z))
    exact ⟨h3, h4.trans h2⟩
  · cases q : H c with
    | none => exact absurd q h
    | some o =>
      obtain ⟨o', e'⟩ := a.grow c o q
      exact b.fr c (a.fr c n h) (by rw [e']; exact fun z => nomatch z)
  · obtain ⟨o', e'⟩ := a.grow c o e
    exact b.grow c o' e'
theorem SR.step (S : SR K B σ H ρ α) (a : Af K B H α B' H' α') : SR K B' σ H' ρ α' := ⟨S.len, fun i d e => by
  obtain ⟨v, g1, g2⟩ := S.val i d e
  exact ⟨v, g1, g2.mono a.sub⟩, a.bs⟩
/-- the heap only grew -/
theorem Bs.grow (S : Bs K B H α) (e : Sub H H') : Bs K B H' α := ⟨fun a c h => by
  obtain ⟨h1, h2⟩ := S.cel a c h
  obtain ⟨u, g⟩ := h2.ne
  refine ⟨h1, ?_⟩
  rw [g] at h2
  rw [e _ _ g]
  exact h2.mono (hsub e), fun a h => by
  obtain ⟨o, g⟩ := S.bk a h
  exact ⟨o, e _ _ g⟩⟩
theorem Af.of_sub (S : Bs K B H α) (e : Sub H H') : Af K B H α B H' α := ⟨hsub e, S.grow e, fun b h _ => ⟨h, by
  obtain ⟨o, g⟩ := S.bk b h
  rw [g, e _ _ g]⟩, fun _ h _ => h, fun b o g => ⟨o, e _ _ g⟩⟩
/-- a new cell -/
theorem Af.cell (S : Bs K B H α) (e : Sub H H') (h : H l = none) (o : CellAt K (hide (ins l B) H') (H' l) c) : Af K B H α (ins l B) H' (aset α l c) := by
  have hs : Sub (hide B H) (hide (ins l B) H') := sub_ins h (hsub e)
  refine ⟨hs, ⟨fun a d q => ?_, fun a q => ?_⟩, fun b hb n => ⟨ins_of hb, ?_⟩, fun b n hb => ?_, fun b o g => ⟨o, e _ _ g⟩⟩
  · by_cases z : a = l
    · subst z
      rw [aset_same] at q
      cases q
      exact ⟨ins_self, o⟩
    · rw [aset_ne z] at q
      obtain ⟨h1, h2⟩ := S.cel a d q
      obtain ⟨u, g⟩ := h2.ne
      refine ⟨ins_of h1, ?_⟩
      rw [g] at h2
      rw [e _ _ g]
      exact h2.mono hs
  · rcases ins_or q with z | z
    · subst z
      exact o.ne
    · obtain ⟨o', g⟩ := S.bk a z
      exact ⟨o', e _ _ g⟩
  · obtain ⟨o', g⟩ := S.bk b hb
    rw [g, e _ _ g]
  · by_cases z : b = l
    · subst z
      exact absurd h hb
    · rw [aset_ne z]
      exact n
/-- another content of a cell -/
theorem Af.write {o : HO} (S : Bs K B H α) (h : α l = some d) (hc : CellAt K (hide B H) (some o) c) : Af K B H α B (upd H l o) (aset α l c) := by
  have bl : B l = true := (S.cel l d h).1
  have hh : hide B (upd H l o) = hide B H := by
    funext a
    unfold hide
    by_cases q : a = l
    · rw [q, bl]
      rfl
    · rw [upd_ne q]
  have hs : Sub (hide B H) (hide B (upd H l o)) := by rw [hh]; exact Sub.refl _
  refine ⟨hs, ⟨fun a e q => ?_, fun a q => ?_⟩, fun b hb n => ⟨hb, ?_⟩, fun b n hb => ?_, fun b u g => ?_⟩
  · by_cases z : a = l
    · subst z
      rw [aset_same] at q
      cases q
      rw [upd_same, hh]
      exact ⟨bl, hc⟩
    · rw [aset_ne z] at q
      obtain ⟨h1, h2⟩ := S.cel a e q
      rw [upd_ne z, hh]
      exact ⟨h1, h2⟩
  · by_cases z : a = l
    · exact ⟨o, by rw [z, upd_same]⟩
    · rw [upd_ne z]
      exact S.bk a q
  · rw [upd_ne (fun z => by rw [z, h] at n; cases n)]
  · rw [aset_ne (fun z => by rw [z, h] at n; cases n)]
    exact n
  · by_cases z : b = l
    · exact ⟨o, by rw [z, upd_same]⟩
    · exact ⟨u, by rw [upd_ne z]; exact g⟩
/-- a cell becomes a datum -/
theorem Af.frz (S : Bs K B H α) (a : Af K B H α B' H' α') (h : α' l = some c) : Af K B H α (del l B') H' (adel α' l) ∧ Rp K (hide (del l B') H') (.ref l) c := by
  have hs : Sub (hide B' H') (hide (del l B') H') := hide_mono fun b hb => by
    by_cases z : b = l
    · subst z; rw [del_self] at hb; cases hb
    · rw [del_ne z] at hb; exact hb
  obtain ⟨bl, hc⟩ := a.bs.cel l c h
  refine ⟨⟨a.sub.trans hs, ⟨fun b e q => ?_, fun b q => ?_⟩, fun b hb n => ?_, fun b n hb => ?_, a.grow⟩, ?_⟩
  · have z : b ≠ l := fun z => by rw [z, adel_same] at q; cases q
    rw [adel_ne z] at q
    obtain ⟨h1, h2⟩ := a.bs.cel b e q
    exact ⟨by rw [del_ne z]; exact h1, h2.mono hs⟩
  · have z : b ≠ l := fun z => by rw [z, del_self] at q; cases q
    rw [del_ne z] at q
    exact a.bs.bk b q
  · obtain ⟨h1, h2⟩ := a.keep b hb n
    have z : b ≠ l := fun z => by
      subst z
      obtain ⟨o, g⟩ := S.bk b hb
      rw [a.fr b n (by rw [g]; exact fun z => nomatch z)] at h
      cases h
    exact ⟨by rw [del_ne z]; exact h1, h2⟩
  · by_cases z : b = l
    · rw [z, adel_same]
    · rw [adel_ne z]
      exact a.fr b n hb
  · refine CellAt.rp ?_
    obtain ⟨o, g⟩ := hc.ne
    rw [g] at hc
    rw [hide_of del_self g]
    exact hc.mono hs
/-- the new cells are forgotten -/
theorem Af.rst (S : Bs K B H α) (a : Af K B H α B' H' α') : ∃ B2, Af K B H α B2 H' (arst α α') ∧ Sub (hide B' H') (hide B2 H') := by
  have hs : Sub (hide B' H') (hide (fun b => B' b && ((α b).isSome || !(α' b).isSome)) H') := hide_mono fun b hb => by simp at hb; exact hb.1
  refine ⟨_, ⟨a.sub.trans hs, ⟨fun b e q => ?_, fun b q => a.bs.bk b (by simp at q; exact q.1)⟩, fun b hb n => ?_, fun b n hb => ?_, a.grow⟩, hs⟩
  · unfold arst at q
    split at q
    · rename_i z
      obtain ⟨h1, h2⟩ := a.bs.cel b e q
      exact ⟨by simp [h1, z], h2.mono hs⟩
    · cases q
  · obtain ⟨h1, h2⟩ := a.keep b hb n
    obtain ⟨o, g⟩ := S.bk b hb
    have z := a.fr b n (by rw [g]; exact fun z => nomatch z)
    exact ⟨by simp [h1, z], h2⟩
  · unfold arst
    rw [n]
    rfl
theorem vw_rs (S : Bs K B H α) (h : Rp K (hide B H) v c) (e : vw α c = some d) : Rs K B H v d := by
  have go : vw α c = some c → Rs K B H v d := fun z => by
    rw [z] at e
    cases e
    exact .vis h
  cases h with
  | ref => exact (S.cel _ _ e).2.rs
  | dct a r =>
    cases r with
    | nil => exact go rfl
    | @cons k _ _ _ _ r1 r2 => cases k <;> exact go rfl
  | _ => exact go rfl
theorem Rp.cell {a : Addr} {H : Hp} (h : Rp K H v (dref a)) : v = .ref a := by
  generalize e : dref a = z at h
  cases h with
  | ref =>
    have e1 := List.cons.inj (PyData.dict.inj e)
    have e2 : PyData.int (Int.ofNat a) = PyData.int (Int.ofNat _) := congrArg Prod.snd e1.1
    rw [Int.ofNat.inj (PyData.int.inj e2)]
  | dct _ r =>
    cases r with
    | nil => cases e
    | @cons k _ _ _ _ r1 r2 =>
      have e1 := (List.cons.inj (PyData.dict.inj e)).1
      have e2 : PyData.bool false = kD k := congrArg Prod.fst e1
      cases k <;> cases e2
  | _ => cases e
end
structure C0 where
  P : Program
  w : World
  K : Frag
  mg : Str → Option Value
  base : Heap
  k : Nat
  top : Bool
  cm : Bool := true
  xc : Option (Addr × Addr × Nat) := none
  oc : List Str := []
abbrev C0.at_ (c : C0) (k : Nat) : C0 := { c with k := k, top := true, cm := true, xc := none, oc := [] }
/-- the contexts of a block of a def: its names, its scope -/
structure In (c : C0) (N : List Str) (sc : Scope) (X : Cx) : Prop where
  P : X.prog = c.P
  w : X.w = c.w
  K : X.K = c.K
  mg : X.mg = c.mg
  base : X.base = c.base
  rm : c.cm = true → Room c.k X.A
  un : X.A.units + 200 < cLine
  N : X.N = N
  sc : X.env.scope = sc
  calm : c.cm = true → X.calm = true
  fn : c.top = true → X.fn = fun _ => true
  po : PassesOwn (model X.prog X.w) X.A X.env X.xe
  fs : c.top = true → X.stack = X.env :: X.outer ∧ X.env.frame = some X.env.locals
  xi : ∀ a dx C, c.xc = some (a, dx, C) → ∃ (Y : Cx) (oe : Obj) (pn : List (Addr × Obj)), X = Y.suite a ((a, oe) :: pn) ∧ Zc (.ref C) (some dx) oe ∧ ∃ vs, oe.data = .fields vs
  oc : ∀ x, c.oc.contains x = true → X.fn x = true
section
variable {c : C0} {N : List Str} {sc : Scope} {X : Cx}
theorem In.u64 (I : In c N sc X) : X.A.units + 64 < cLine := by have := I.un; omega
theorem In.u65 (I : In c N sc X) : X.A.units + 65 < cLine := by have := I.un; omega
theorem In.gl {x : Str} (I : In c N sc X) (h : sc.names.lookup x = some .globalImplicit) : Gl X x := by
  show X.env.scope.names.lookup x = _
  rw [I.sc]
  exact h
theorem In.vis {x : Str} (I : In c N sc X) (h : Vis sc x) : Vis X.env.scope x := by
  rw [I.sc]
  exact h
end
/-- an exception: its class, its attributes -/
structure Ex where
  C : Nat
  fs : List (D × D)
abbrev QD := D → AH → Prop
abbrev QX := Ex → AH → Prop
abbrev ME := En → AH → QD → QX → Prop
abbrev MT := En → AH → (Bool → AH → Prop) → QX → Prop
abbrev ML := En → AH → (List D → AH → Prop) → QX → Prop
def XR (K : Frag) (Hh : Hp) (cls : Value) (d : Option Addr) (x : Ex) : Prop := cls = .ref x.C ∧ ∃ dx fs, d = some dx ∧ Hh dx = some (.xd fs) ∧ RpF K Hh fs x.fs
theorem XR.mono {K : Frag} {H H' : Hp} {cls : Value} {d : Option Addr} {x : Ex} (e : Sub H H') (h : XR K H cls d x) : XR K H' cls d x := by
  obtain ⟨h1, dx, fs, h2, h3, h4⟩ := h
  exact ⟨h1, dx, fs, h2, e _ _ h3, h4.mono e⟩
/-- what the wish W grants: the exceptions that E takes -/
def SX (K : Frag) (W : WX) (B : Addr → Bool) (σ : St) (H : Hp) (α : AH) (E : QX) : Prop := ∀ x B' α' cls d H', Af K B H α B' H' α' → XR K (hide B' H') cls d x → E x α' → W cls d σ H'
theorem SX.after {K : Frag} {W : WX} {B B1 : Addr → Bool} {σ : St} {H H1 : Hp} {α α1 : AH} {E : QX} (S : Bs K B H α) (h : SX K W B σ H α E) (a : Af K B H α B1 H1 α1) : SX K W B1 σ H1 α1 E := fun x B' α' cls d H' b => h x B' α' cls d H' (a.trans S b)
theorem SX.never {K : Frag} {W : WX} {B : Addr → Bool} {σ : St} {H : Hp} {α : AH} : SX K W B σ H α (fun _ _ => False) := fun _ _ _ _ _ _ _ _ z => z.elim
/-- the reading of an expression grants what m wishes: a datum | a new list or dict, as a cell -/
def Sd (K : Frag) (W : WX) (t : TE) (m : ME) : Prop :=
  ∀ B σ H ρ α, SR K B σ H ρ α → ∀ Qm Em, m ρ α Qm Em → ∀ Q : VK, (∀ v d B' H' α', Af K B H α B' H' α' → Rp K (hide B' H') v d → Qm d α' → Q v H') → SX K W B σ H α Em → t σ H Q
def Sf (K : Frag) (W : WX) (t : TE) (m : ME) : Prop :=
  ∀ B σ H ρ α, SR K B σ H ρ α → ∀ Qm Em, m ρ α Qm Em → ∀ Q : VK, (∀ l c B' H' α', Af K B H α B' H' (aset α' l c) → α' l = none → Qm c α' → Q (.ref l) H') → SX K W B σ H α Em → t σ H Q
def Stt (K : Frag) (W : WX) (t : TT) (m : MT) : Prop :=
  ∀ B σ H ρ α, SR K B σ H ρ α → ∀ Qm Em, m ρ α Qm Em → ∀ Q : Bool → Hp → Prop, (∀ b B' H' α', Af K B H α B' H' α' → Qm b α' → Q b H') → SX K W B σ H α Em → t σ H Q
def SA (K : Frag) (W : WX) (t : TA) (m : ML) : Prop :=
  ∀ B σ H ρ α, SR K B σ H ρ α → ∀ Qm Em, m ρ α Qm Em → ∀ Q : List V → Hp → Prop, (∀ vs ds B' H' α', Af K B H α B' H' α' → RpL K (hide B' H') vs ds → Qm ds α' → Q vs H') → SX K W B σ H α Em → t σ H Q
def JE (c : C0) (N : List Str) (sc : Scope) (e : Expr) (m : ME) : Prop := ∃ t : WX → TE, (∀ X W, In c N sc X → Takes X W → PE X e (t W)) ∧ ∀ W, Sd c.K W (t W) m
def JF (c : C0) (N : List Str) (sc : Scope) (e : Expr) (m : ME) : Prop := ∃ t : WX → TE, (∀ X W, In c N sc X → Takes X W → PE X e (t W)) ∧ ∀ W, Sf c.K W (t W) m
def JT (c : C0) (N : List Str) (sc : Scope) (e : Expr) (m : MT) : Prop := ∃ t : WX → TT, (∀ X W, In c N sc X → Takes X W → PT X e (t W)) ∧ ∀ W, Stt c.K W (t W) m
def JW (c : C0) (N : List Str) (sc : Scope) (e : Expr) (m : MT) : Prop := ∃ t : WX → TT, (∀ X W, In c N sc X → Takes X W → PW X e (t W)) ∧ ∀ W, Stt c.K W (t W) m
def JL (c : C0) (N : List Str) (sc : Scope) (es : List Expr) (m : ML) : Prop := ∃ t : WX → TA, (∀ X W, In c N sc X → Takes X W → PA X es (t W)) ∧ ∀ W, SA c.K W (t W) m
end Hz
namespace Hz
open PySem L2
def oq {α : Type} (o : Option α) (Q : α → Prop) : Prop := ∃ z, o = some z ∧ Q z
def kC (d : D) : ME := fun ρ α Q E => Q d α
def kV (i : Nat) : ME := fun ρ α Q E => ∃ d, ρ[i]? = some (some d) ∧ Q d α
section
variable {c : C0} {N : List Str} {sc : Scope} {K : Frag} {W : WX}
theorem sd_c {v : V} {d : D} (h : ∀ H, Rp K H v d) : Sd K W (tC v) (kC d) := fun B σ H ρ α S Qm Em m Q q x => q v d B H α (Af.refl S.bs) (h _) m
theorem ce_int {i j pos} : JE c N sc (.Constant (.int i) j pos) (kC (.int i)) := ⟨_, fun _ _ _ _ => pe_int, fun _ => sd_c fun _ => .int i⟩
theorem ce_bl {i j pos} : JE c N sc (.Constant (.bool i) j pos) (kC (.bool i)) := ⟨_, fun _ _ _ _ => pe_bl, fun _ => sd_c fun _ => .bl i⟩
theorem ce_non {j pos} : JE c N sc (.Constant .none j pos) (kC .none) := ⟨_, fun _ _ _ _ => pe_non, fun _ => sd_c fun _ => .non⟩
theorem ce_str {i j pos} : JE c N sc (.Constant (.str i) j pos) (kC (.str i)) := ⟨_, fun _ _ _ _ => pe_str, fun _ => sd_c fun _ => .str i⟩
theorem sd_var {i : Nat} : Sd K W (tVar i) (kV i) := fun B σ H ρ α S Qm Em m Q q x => by
  obtain ⟨d, h, m⟩ := m
  obtain ⟨v, h1, h2⟩ := S.val i _ h
  exact ⟨v, h1, q v d B H α (Af.refl S.bs) h2 m⟩
theorem ce_var {i : Nat} {x : Str} {pos : Pos} (hN : N[i]? = some x) (hv : Vis sc x) (hd : (x == ("__debug__" : Str)) = false := by decide) (hcd : (x == ("__classdict__" : Str)) = false := by decide) : JE c N sc (.Name x pos) (kV i) :=
  ⟨fun _ => tVar i, fun X _ I _ => pe_var (by rw [I.N]; exact hN) (I.vis hv) hd hcd, fun _ => sd_var⟩
/-- a name of the module: a constant -/
theorem ce_glob {x : Str} {v : V} {u : Value} {d : D} {pos : Pos} (hg : sc.names.lookup x = some .globalImplicit) (hm : c.mg x = some u) (r : RelV v u) (h : ∀ H, Rp c.K H v d) (hd : (x == ("__debug__" : Str)) = false := by decide) : JE c N sc (.Name x pos) (kC d) :=
  ⟨fun _ => tC v, fun X _ I _ => pe_glob (I.gl hg) (by rw [I.mg]; exact hm) r hd, fun _ => sd_c h⟩
end
def newK (m : ME) : ME := fun ρ α Q E => m ρ α (fun c α1 => ∀ p, α1 p = none → Q (dref p) (aset α1 p c)) E
def frzK (m : ME) : ME := fun ρ α Q E => m ρ α (fun d α1 => ∃ p c, d = dref p ∧ α1 p = some c ∧ Q c (adel α1 p)) E
section
variable {c : C0} {N : List Str} {sc : Scope} {e : Expr} {m : ME}
theorem JF.je (h : JF c N sc e m) : JE c N sc e m := by
  obtain ⟨t, h1, h2⟩ := h
  refine ⟨t, h1, fun W B σ H ρ α S Qm Em mm Q q x => h2 W B σ H ρ α S Qm Em mm Q (fun l c' B' H' α' A hl qm => ?_) x⟩
  obtain ⟨A2, r⟩ := A.frz S.bs aset_same
  rw [adel_aset hl] at A2
  exact q _ c' _ H' α' A2 r qm
theorem JF.new (h : JF c N sc e m) : JE c N sc e (newK m) := by
  obtain ⟨t, h1, h2⟩ := h
  refine ⟨t, h1, fun W B σ H ρ α S Qm Em mm Q q x => h2 W B σ H ρ α S _ Em mm Q (fun l c' B' H' α' A hl qm => ?_) x⟩
  exact q _ _ _ H' _ A .ref (qm l hl)
theorem JE.frz (h : JE c N sc e m) : JE c N sc e (frzK m) := by
  obtain ⟨t, h1, h2⟩ := h
  refine ⟨t, h1, fun W B σ H ρ α S Qm Em mm Q q x => h2 W B σ H ρ α S _ Em mm Q (fun v d B' H' α' A r qm => ?_) x⟩
  obtain ⟨p, c', rfl, hp, qm⟩ := qm
  obtain ⟨A2, r2⟩ := A.frz S.bs hp
  rw [r.cell]
  exact q _ c' _ H' _ A2 r2 qm
end
/-- a two-place operation, by data -/
structure OpD (K : Frag) (XS : Cx → Prop) (f : Value → Value → Sem Value) (g : D → D → Option D) : Prop where
  ex : ∃ r : R2, (∀ X, XS X → OpR X f r) ∧ ∀ (B : Addr → Bool) (H : Hp) (x y : V) (d e z : D), (∀ a, B a = true → ∃ o, H a = some o) → Rs K B H x d → Rs K B H y e → g d e = some z →
    ∀ Q : VK, (∀ v H', Sub H H' → Rp K (hide B H') v z → Q v H') → r x y H Q
/-- .. that gives a new list -/
structure OpF (K : Frag) (XS : Cx → Prop) (f : Value → Value → Sem Value) (g : D → D → Option D) : Prop where
  ex : ∃ r : R2, (∀ X, XS X → OpR X f r) ∧ ∀ (B : Addr → Bool) (H : Hp) (x y : V) (d e z : D), (∀ a, B a = true → ∃ o, H a = some o) → Rs K B H x d → Rs K B H y e → g d e = some z →
    ∀ Q : VK, (∀ l H', Sub H H' → H l = none → OwnAt K (hide (ins l B) H') (H' l) z → Q (.ref l) H') → r x y H Q
def bop (g : D → D → Option D) (ma mb : ME) : ME := fun ρ α Q E => ma ρ α (fun d α1 => mb ρ α1 (fun e α2 => oq (vw α2 d) fun d' => oq (vw α2 e) fun e' => oq (g d' e') fun z => Q z α2) E) E
section
variable {K : Frag} {W : WX} {r : R2} {ta tb : TE} {ma mb : ME} {g : D → D → Option D}
theorem sd_bop (ha : Sd K W ta ma) (hb : Sd K W tb mb) (hr : ∀ (B : Addr → Bool) (H : Hp) (x y : V) (d e z : D), (∀ a, B a = true → ∃ o, H a = some o) → Rs K B H x d → Rs K B H y e → g d e = some z →
    ∀ Q : VK, (∀ v H', Sub H H' → Rp K (hide B H') v z → Q v H') → r x y H Q) : Sd K W (tOp r ta tb) (bop g ma mb) := fun B σ H ρ α S Qm Em m Q q x => by
  refine ha B σ H ρ α S _ Em m _ (fun v d B1 H1 α1 A1 r1 m => ?_) x
  refine hb B1 σ H1 ρ α1 (S.step A1) _ Em m _ (fun u e B2 H2 α2 A2 r2 m => ?_) (x.after S.bs A1)
  obtain ⟨d', hd, e', he, z, hz, m⟩ := m
  refine hr B2 H2 v u d' e' z A2.bs.bk (vw_rs A2.bs (r1.mono A2.sub) hd) (vw_rs A2.bs r2 he) hz _ fun w H3 s3 r3 => ?_
  exact q w z B2 H3 α2 ((A1.trans S.bs A2).trans S.bs (Af.of_sub A2.bs s3)) r3 m
theorem sf_bop (ha : Sd K W ta ma) (hb : Sd K W tb mb) (hr : ∀ (B : Addr → Bool) (H : Hp) (x y : V) (d e z : D), (∀ a, B a = true → ∃ o, H a = some o) → Rs K B H x d → Rs K B H y e → g d e = some z →
    ∀ Q : VK, (∀ l H', Sub H H' → H l = none → OwnAt K (hide (ins l B) H') (H' l) z → Q (.ref l) H') → r x y H Q) : Sf K W (tOp r ta tb) (bop g ma mb) := fun B σ H ρ α S Qm Em m Q q x => by
  refine ha B σ H ρ α S _ Em m _ (fun v d B1 H1 α1 A1 r1 m => ?_) x
  refine hb B1 σ H1 ρ α1 (S.step A1) _ Em m _ (fun u e B2 H2 α2 A2 r2 m => ?_) (x.after S.bs A1)
  obtain ⟨d', hd, e', he, z, hz, m⟩ := m
  refine hr B2 H2 v u d' e' z A2.bs.bk (vw_rs A2.bs (r1.mono A2.sub) hd) (vw_rs A2.bs r2 he) hz _ fun l H3 s3 hl r3 => ?_
  exact q l z (ins l B2) H3 α2 ((A1.trans S.bs A2).trans S.bs (Af.cell A2.bs s3 hl (.own r3))) (A2.bs.new hl) m
end
section
variable {c : C0} {N : List Str} {sc : Scope} {a b d : Expr} {ma mb md : ME} {g g' : D → D → Option D} {pos : Pos}
theorem ce_op {op : Operator} (ho : OpD c.K (In c N sc) (binaryOp op) g) (ha : JE c N sc a ma) (hb : JE c N sc b mb) : JE c N sc (.BinOp a op b pos) (bop g ma mb) := by
  obtain ⟨r, h1, h2⟩ := ho.ex
  obtain ⟨ta, p1, s1⟩ := ha
  obtain ⟨tb, p2, s2⟩ := hb
  exact ⟨_, fun X W I T => pe_op (h1 X I) (p1 X W I T) (p2 X W I T), fun W => sd_bop (s1 W) (s2 W) h2⟩
theorem cf_op {op : Operator} (ho : OpF c.K (In c N sc) (binaryOp op) g) (ha : JE c N sc a ma) (hb : JE c N sc b mb) : JF c N sc (.BinOp a op b pos) (bop g ma mb) := by
  obtain ⟨r, h1, h2⟩ := ho.ex
  obtain ⟨ta, p1, s1⟩ := ha
  obtain ⟨tb, p2, s2⟩ := hb
  exact ⟨_, fun X W I T => pe_op (h1 X I) (p1 X W I T) (p2 X W I T), fun W => sf_bop (s1 W) (s2 W) h2⟩
theorem ce_cmp {op : CmpOp} (ho : OpD c.K (In c N sc) (compareOp op) g) (ha : JE c N sc a ma) (hb : JE c N sc b mb) (hm : behindInMarks op b = false := by rfl) : JE c N sc (.Compare a [op] [b] pos) (bop g ma mb) := by
  obtain ⟨r, h1, h2⟩ := ho.ex
  obtain ⟨ta, p1, s1⟩ := ha
  obtain ⟨tb, p2, s2⟩ := hb
  exact ⟨_, fun X W I T => pe_cmpR (h1 X I) (p1 X W I T) (p2 X W I T) hm, fun W => sd_bop (s1 W) (s2 W) h2⟩
end
def tst (m : ME) : MT := fun ρ α Q E => m ρ α (fun d α1 => ∃ b, d = .bool b ∧ Q b α1) E
def valK (m : MT) : ME := fun ρ α Q E => m ρ α (fun b α1 => Q (.bool b) α1) E
def andK (ma mb : MT) : MT := fun ρ α Q E => ma ρ α (fun b α1 => if b = true then mb ρ α1 Q E else Q false α1) E
def orK (ma mb : MT) : MT := fun ρ α Q E => ma ρ α (fun b α1 => if b = true then Q true α1 else mb ρ α1 Q E) E
def notK (ma : MT) : MT := fun ρ α Q E => ma ρ α (fun b α1 => Q (!b) α1) E
/-- and, or as values: all but the last bools -/
def andV (ma : MT) (mb : ME) : ME := fun ρ α Q E => ma ρ α (fun b α1 => if b = true then mb ρ α1 Q E else Q (.bool false) α1) E
def orV (ma : MT) (mb : ME) : ME := fun ρ α Q E => ma ρ α (fun b α1 => if b = true then Q (.bool true) α1 else mb ρ α1 Q E) E
/-- a < b < c -/
def chainK (g g' : D → D → Option D) (ma mb md : ME) : ME := fun ρ α Q E => ma ρ α (fun d α1 => mb ρ α1 (fun e α2 => oq (g d e) fun z => ∃ b, z = .bool b ∧ if b = true then md ρ α2 (fun f α3 => oq (g' e f) fun z' => Q z' α3) E else Q (.bool false) α2) E) E
def ifK (mt : MT) (ma mb : ME) : ME := fun ρ α Q E => mt ρ α (fun b α1 => if b = true then ma ρ α1 Q E else mb ρ α1 Q E) E
section
variable {c : C0} {N : List Str} {sc : Scope} {e a b d : Expr} {ma mb md : ME} {ta tb : MT} {g g' : D → D → Option D} {pos : Pos} {rest : List Expr} {K : Frag} {W : WX}
theorem st_tst {te : TE} (h : Sd K W te ma) : Stt K W (tB te) (tst ma) := fun B σ H ρ α S Qm Em m Q q x => h B σ H ρ α S _ Em m _ (fun v d B' H' α' A r m => by
  obtain ⟨k, rfl, m⟩ := m
  exact ⟨k, r.booli, q k B' H' α' A m⟩) x
theorem st_tst2 {te : TE} (h : Sd K W te ma) : Stt K W (tTest te) (tst ma) := fun B σ H ρ α S Qm Em m Q q x => h B σ H ρ α S _ Em m _ (fun v d B' H' α' A r m => by
  obtain ⟨k, rfl, m⟩ := m
  exact ⟨k, r.booli, q k B' H' α' A m⟩) x
theorem jt_val (h : JE c N sc e ma) (he : ∀ (env : PySem.Env) (whole : Sem Value), isTrue e env whole = (do let v ← whole; standAt e.pos; holding [v] (truthy v)) := by intros; rfl) : JT c N sc e (tst ma) := by
  obtain ⟨t, h1, h2⟩ := h
  exact ⟨_, fun X W I T => pt_val (h1 X W I T) (fun w => he _ w), fun W => st_tst (h2 W)⟩
theorem jt_cmp {op : CmpOp} (ho : OpD c.K (In c N sc) (compareOp op) g) (ha : JE c N sc a ma) (hb : JE c N sc b mb) (hm : behindInMarks op b = false := by rfl) : JT c N sc (.Compare a [op] [b] pos) (tst (bop g ma mb)) := by
  obtain ⟨r, h1, h2⟩ := ho.ex
  obtain ⟨ta, p1, s1⟩ := ha
  obtain ⟨tb, p2, s2⟩ := hb
  exact ⟨_, fun X W I T => pt_cmpR (h1 X I) (p1 X W I T) (p2 X W I T) hm, fun W => st_tst2 (sd_bop (s1 W) (s2 W) h2)⟩
theorem st_and {t u : TT} (h1 : Stt K W t ta) (h2 : Stt K W u tb) : Stt K W (tAnd t u) (andK ta tb) := fun B σ H ρ α S Qm Em m Q q x =>
  h1 B σ H ρ α S _ Em m _ (fun b B1 H1 α1 A1 m => by
    cases b with
    | true => exact h2 B1 σ H1 ρ α1 (S.step A1) _ Em m Q (fun b B2 H2 α2 A2 m => q b B2 H2 α2 (A1.trans S.bs A2) m) (x.after S.bs A1)
    | false => exact q false B1 H1 α1 A1 m) x
theorem st_or {t u : TT} (h1 : Stt K W t ta) (h2 : Stt K W u tb) : Stt K W (tOr t u) (orK ta tb) := fun B σ H ρ α S Qm Em m Q q x =>
  h1 B σ H ρ α S _ Em m _ (fun b B1 H1 α1 A1 m => by
    cases b with
    | false => exact h2 B1 σ H1 ρ α1 (S.step A1) _ Em m Q (fun b B2 H2 α2 A2 m => q b B2 H2 α2 (A1.trans S.bs A2) m) (x.after S.bs A1)
    | true => exact q true B1 H1 α1 A1 m) x
theorem st_not {t : TT} (h1 : Stt K W t ta) : Stt K W (tNot t) (notK ta) := fun B σ H ρ α S Qm Em m Q q x => h1 B σ H ρ α S _ Em m _ (fun b B1 H1 α1 A1 m => q _ B1 H1 α1 A1 m) x
theorem jw_and1 (h : JT c N sc a ta) : JW c N sc (.BoolOp .And [a] pos) ta := by
  obtain ⟨t, h1, h2⟩ := h
  exact ⟨t, fun X W I T => pw_and1 (h1 X W I T), h2⟩
theorem jw_or1 (h : JT c N sc a ta) : JW c N sc (.BoolOp .Or [a] pos) ta := by
  obtain ⟨t, h1, h2⟩ := h
  exact ⟨t, fun X W I T => pw_or1 (h1 X W I T), h2⟩
theorem jw_and (h : JT c N sc a ta) (k : JW c N sc (.BoolOp .And (b :: rest) pos) tb) : JW c N sc (.BoolOp .And (a :: b :: rest) pos) (andK ta tb) := by
  obtain ⟨t, h1, h2⟩ := h
  obtain ⟨u, k1, k2⟩ := k
  exact ⟨_, fun X W I T => pw_and (h1 X W I T) (k1 X W I T), fun W => st_and (h2 W) (k2 W)⟩
theorem jw_or (h : JT c N sc a ta) (k : JW c N sc (.BoolOp .Or (b :: rest) pos) tb) : JW c N sc (.BoolOp .Or (a :: b :: rest) pos) (orK ta tb) := by
  obtain ⟨t, h1, h2⟩ := h
  obtain ⟨u, k1, k2⟩ := k
  exact ⟨_, fun X W I T => pw_or (h1 X W I T) (k1 X W I T), fun W => st_or (h2 W) (k2 W)⟩
theorem jt_w (h : JW c N sc a ta) : JT c N sc a ta := by
  obtain ⟨t, h1, h2⟩ := h
  exact ⟨t, fun X W I T => (h1 X W I T).pt, h2⟩
theorem jt_not (h : JT c N sc a ta) : JT c N sc (.UnaryOp .Not a pos) (notK ta) := by
  obtain ⟨t, h1, h2⟩ := h
  exact ⟨_, fun X W I T => pt_not (h1 X W I T), fun W => st_not (h2 W)⟩
theorem sd_chain {r r' : R2} {ta tb tc : TE} (ha : Sd K W ta ma) (hb : Sd K W tb mb) (hc : Sd K W tc md)
    (hr : ∀ (B : Addr → Bool) (H : Hp) (x y : V) (d e z : D), (∀ a, B a = true → ∃ o, H a = some o) → Rs K B H x d → Rs K B H y e → g d e = some z → ∀ Q : VK, (∀ v H', Sub H H' → Rp K (hide B H') v z → Q v H') → r x y H Q)
    (hr' : ∀ (B : Addr → Bool) (H : Hp) (x y : V) (d e z : D), (∀ a, B a = true → ∃ o, H a = some o) → Rs K B H x d → Rs K B H y e → g' d e = some z → ∀ Q : VK, (∀ v H', Sub H H' → Rp K (hide B H') v z → Q v H') → r' x y H Q) :
    Sd K W (tChain r r' ta tb tc) (chainK g g' ma mb md) := fun B σ H ρ α S Qm Em m Q q x => by
  refine ha B σ H ρ α S _ Em m _ (fun v d B1 H1 α1 A1 r1 m => ?_) x
  refine hb B1 σ H1 ρ α1 (S.step A1) _ Em m _ (fun u e B2 H2 α2 A2 r2 m => ?_) (x.after S.bs A1)
  obtain ⟨z, hz, k, rfl, m⟩ := m
  refine hr B2 H2 v u d e _ A2.bs.bk (.vis (r1.mono A2.sub)) (.vis r2) hz _ fun w H3 s3 r3 => ?_
  have A3 := (A1.trans S.bs A2).trans S.bs (Af.of_sub A2.bs s3)
  refine ⟨k, r3.booli, ?_⟩
  cases k with
  | true =>
    refine hc B2 σ H3 ρ α2 (S.step A3) _ Em m _ (fun y f B4 H4 α4 A4 r4 m => ?_) (x.after S.bs A3)
    obtain ⟨z', hz', m⟩ := m
    refine hr' B4 H4 u y e f z' A4.bs.bk (.vis ((r2.mono (hsub s3)).mono A4.sub)) (.vis r4) hz' _ fun v5 H5 s5 r5 => ?_
    exact q v5 z' B4 H5 α4 ((A3.trans S.bs A4).trans S.bs (Af.of_sub A4.bs s5)) r5 m
  | false => exact q _ _ B2 H3 α2 A3 (.bl false) m
theorem jt_chain {op op' : CmpOp} (ho : OpD c.K (In c N sc) (compareOp op) g) (ho' : OpD c.K (In c N sc) (compareOp op') g') (ha : JE c N sc a ma) (hb : JE c N sc b mb) (hc : JE c N sc d md)
    (hm : lastMarks [op, op'] [b, d] = false := by with_unfolding_all rfl) : JT c N sc (.Compare a [op, op'] [b, d] pos) (tst (chainK g g' ma mb md)) := by
  obtain ⟨r, h1, h2⟩ := ho.ex
  obtain ⟨r', h1', h2'⟩ := ho'.ex
  obtain ⟨ta, p1, s1⟩ := ha
  obtain ⟨tb, p2, s2⟩ := hb
  obtain ⟨tc, p3, s3⟩ := hc
  exact ⟨_, fun X W I T => pt_chain (h1 X I) (h1' X I) (p1 X W I T) (p2 X W I T) (p3 X W I T) hm, fun W => st_tst2 (sd_chain (s1 W) (s2 W) (s3 W) h2 h2')⟩
theorem je_one {op} (h : JE c N sc a ma) : JE c N sc (.BoolOp op [a] pos) ma := by
  obtain ⟨t, h1, h2⟩ := h
  exact ⟨t, fun X W I T => pe_one (h1 X W I T), h2⟩
theorem je_and (h : JE c N sc a ma) (k : JE c N sc (.BoolOp .And (b :: rest) pos) mb) : JE c N sc (.BoolOp .And (a :: b :: rest) pos) (andV (tst ma) mb) := by
  obtain ⟨t, h1, h2⟩ := h
  obtain ⟨u, k1, k2⟩ := k
  refine ⟨_, fun X W I T => pe_and (h1 X W I T) (k1 X W I T), fun W B σ H ρ α S Qm Em m Q q x => ?_⟩
  refine h2 W B σ H ρ α S _ Em m _ (fun v d B1 H1 α1 A1 r m => ?_) x
  obtain ⟨k, rfl, m⟩ := m
  refine ⟨k, r.booli, ?_⟩
  cases k with
  | true => exact k2 W B1 σ H1 ρ α1 (S.step A1) _ Em m Q (fun v d B2 H2 α2 A2 r2 m => q v d B2 H2 α2 (A1.trans S.bs A2) r2 m) (x.after S.bs A1)
  | false => exact q _ _ B1 H1 α1 A1 (.bl false) m
theorem je_or (h : JE c N sc a ma) (k : JE c N sc (.BoolOp .Or (b :: rest) pos) mb) : JE c N sc (.BoolOp .Or (a :: b :: rest) pos) (orV (tst ma) mb) := by
  obtain ⟨t, h1, h2⟩ := h
  obtain ⟨u, k1, k2⟩ := k
  refine ⟨_, fun X W I T => pe_or (h1 X W I T) (k1 X W I T), fun W B σ H ρ α S Qm Em m Q q x => ?_⟩
  refine h2 W B σ H ρ α S _ Em m _ (fun v d B1 H1 α1 A1 r m => ?_) x
  obtain ⟨k, rfl, m⟩ := m
  refine ⟨k, r.booli, ?_⟩
  cases k with
  | false => exact k2 W B1 σ H1 ρ α1 (S.step A1) _ Em m Q (fun v d B2 H2 α2 A2 r2 m => q v d B2 H2 α2 (A1.trans S.bs A2) r2 m) (x.after S.bs A1)
  | true => exact q _ _ B1 H1 α1 A1 (.bl true) m
theorem je_if (ht : JT c N sc d ta) (ha : JE c N sc a ma) (hb : JE c N sc b mb) : JE c N sc (.IfExp d a b pos) (ifK ta ma mb) := by
  obtain ⟨t, h1, h2⟩ := ht
  obtain ⟨u, k1, k2⟩ := ha
  obtain ⟨w, l1, l2⟩ := hb
  refine ⟨_, fun X W I T => pe_ifExp (h1 X W I T) (k1 X W I T) (l1 X W I T), fun W B σ H ρ α S Qm Em m Q q x => ?_⟩
  refine h2 W B σ H ρ α S _ Em m _ (fun k B1 H1 α1 A1 m => ?_) x
  cases k with
  | true => exact k2 W B1 σ H1 ρ α1 (S.step A1) _ Em m Q (fun v d B2 H2 α2 A2 r2 m => q v d B2 H2 α2 (A1.trans S.bs A2) r2 m) (x.after S.bs A1)
  | false => exact l2 W B1 σ H1 ρ α1 (S.step A1) _ Em m Q (fun v d B2 H2 α2 A2 r2 m => q v d B2 H2 α2 (A1.trans S.bs A2) r2 m) (x.after S.bs A1)
end
def nilK : ML := fun ρ α Q E => Q [] α
def consK (ma : ME) (mr : ML) : ML := fun ρ α Q E => ma ρ α (fun d α1 => mr ρ α1 (fun ds α2 => Q (d :: ds) α2) E) E
def tupK (m : ML) : ME := fun ρ α Q E => m ρ α (fun ds α1 => ds.length ≤ 100000 ∧ Q (.tuple ds) α1) E
def lstK (m : ML) : ME := fun ρ α Q E => m ρ α (fun ds α1 => ds.length ≤ 100000 ∧ Q (.list ds) α1) E
section
variable {c : C0} {N : List Str} {sc : Scope} {e : Expr} {es : List Expr} {ma : ME} {mr : ML} {pos : Pos} {K : Frag} {W : WX}
theorem sa_nil : SA K W tNil nilK := fun B σ H ρ α S Qm Em m Q q x => q [] [] B H α (Af.refl S.bs) .nil m
theorem jl_nil : JL c N sc [] nilK := ⟨_, fun _ _ _ _ => pa_nil, fun _ => sa_nil⟩
theorem sa_cons {te : TE} {t : TA} (h : Sd K W te ma) (k : SA K W t mr) : SA K W (tCons te t) (consK ma mr) := fun B σ H ρ α S Qm Em m Q q x =>
  h B σ H ρ α S _ Em m _ (fun v d B1 H1 α1 A1 r1 m => k B1 σ H1 ρ α1 (S.step A1) _ Em m _ (fun vs ds B2 H2 α2 A2 r2 m => q (v :: vs) (d :: ds) B2 H2 α2 (A1.trans S.bs A2) (.cons (r1.mono A2.sub) r2) m) (x.after S.bs A1)) x
theorem jl_cons (h : JE c N sc e ma) (k : JL c N sc es mr) (hs : ∀ env, starEach (e :: es) env = (false, eval e env) :: starEach es env := by intros; rfl) : JL c N sc (e :: es) (consK ma mr) := by
  obtain ⟨t, h1, h2⟩ := h
  obtain ⟨u, k1, k2⟩ := k
  exact ⟨_, fun X W I T => pa_cons (h1 X W I T) (k1 X W I T) (hs _), fun W => sa_cons (h2 W) (k2 W)⟩
theorem own_new {H : Hp} {B : Addr → Bool} {p : Addr} {vs : List V} {ds : List D} (h : H p = none) (r : RpL K (hide B H) vs ds) : OwnAt K (hide (ins p B) (upd H p (.lst vs))) (upd H p (.lst vs) p) (.list ds) :=
  ⟨vs, upd_same, r.mono (sub_ins h (hsub (Sub.new h)))⟩
theorem sz5 {n : Nat} (h : n ≤ 100000) : n ≤ sizeLine := Nat.le_trans h (by decide)
/-- a new tuple, its object known -/
theorem tnew {X : Cx} {pins : List (Addr × Obj)} {σ : L2.St} {H : Hp} {s : Shared} {xs : List V} {us : List Value} (I : Inv X pins σ H s) (r : Vals xs us) (z : xs.length ≤ sizeLine) :
    Inv X pins σ (upd H s.heap.objs.size (.frz { cls := .type "tuple", data := .seq us.toArray } (.tup xs))) { s with heap := s.heap.push { cls := .type "tuple", data := .seq us.toArray } } :=
  I.laid (t' := s.toks) (fun b u e => Heap.get?_push_of_some _ e) (Nat.le_refl _) ⟨Heap.get?_push_size _ rfl, z, us, r, ⟨_, Heap.get?_push_size _ rfl, rfl, _, rfl⟩⟩
def tTupX (t : TA) : TE := fun σ H Q => t σ H fun xs H1 => xs.length ≤ sizeLine ∧ ∀ p o, ExT o → H1 p = none → Q (.ref p) (upd H1 p (.frz o (.tup xs)))
theorem pe_tupX {X : Cx} {es : List Expr} {t : TA} {x1} {pos : Pos} (h : PA X es t) : PE X (.Tuple es x1 pos) (tTupX t) := by
  refine ⟨fun pins s σ H Q I hq => ?_⟩
  refine wpAny_Tuple_spliced (thn (h.run pos pins s σ H _ I hq) fun us s1 ⟨xs, H1, I1, r, z, q⟩ => ⟨by rw [← r.length]; exact z, ?_⟩)
  exact ⟨.ref s1.heap.objs.size, _, tnew I1 r z, rfl, q _ _ ⟨rfl, rfl⟩ (I1.hok.fresh (Nat.le_refl _))⟩
theorem tup_new {K : Frag} {B : Addr → Bool} {H : Hp} {p : Addr} {o : Obj} {vs : List V} {ds : List D} (bk : ∀ a, B a = true → ∃ o, H a = some o) (x : ExT o) (h : H p = none) (r : RpL K (hide B H) vs ds) : Sub H (upd H p (.frz o (.tup vs))) ∧ Rp K (hide B (upd H p (.frz o (.tup vs)))) (.ref p) (.tuple ds) := by
  have bp : B p = false := by
    cases q : B p with
    | false => rfl
    | true => obtain ⟨o, e⟩ := bk p q; rw [h] at e; cases e
  exact ⟨Sub.new h, .tup (.inl (.inr ⟨o, hide_of bp upd_same⟩)) (r.mono (hsub (Sub.new h))) fun _ => ⟨o, _, hide_of bp upd_same, x⟩⟩
theorem je_tup {x1} (h : JL c N sc es mr) : JE c N sc (.Tuple es x1 pos) (tupK mr) := by
  obtain ⟨t, h1, h2⟩ := h
  refine ⟨_, fun X W I T => pe_tupX (h1 X W I T), fun W B σ H ρ α S Qm Em m Q q x => ?_⟩
  refine h2 W B σ H ρ α S _ Em m _ (fun vs ds B1 H1 α1 A1 r1 m => ⟨by rw [r1.length]; exact sz5 m.1, fun p o ho hp => ?_⟩) x
  obtain ⟨s1, r2⟩ := tup_new A1.bs.bk ho hp r1
  exact q _ _ _ _ _ (A1.trans S.bs (Af.of_sub A1.bs s1)) r2 m.2
theorem jf_lst (h : JL c N sc es mr) : JF c N sc (.List es pos) (lstK mr) := by
  obtain ⟨t, h1, h2⟩ := h
  refine ⟨_, fun X W I T => pe_lst (h1 X W I T), fun W B σ H ρ α S Qm Em m Q q x => ?_⟩
  refine h2 W B σ H ρ α S _ Em m _ (fun vs ds B1 H1 α1 A1 r1 m => ⟨by rw [r1.length]; exact sz5 m.1, fun p hp => ?_⟩) x
  exact q p _ _ _ α1 (A1.trans S.bs (Af.cell A1.bs (Sub.new hp) hp (.own (own_new hp r1)))) (A1.bs.new hp) m.2
end
abbrev Fm := List D → AH → QD → QX → Prop
/-- what a def promises -/
def spD (K : Frag) (fm : Fm) : Sp := fun vs H Q E => ∃ (B : Addr → Bool) (α : AH) (ds : List D) (Qm : QD) (Em : QX), Bs K B H α ∧ RpL K (hide B H) vs ds ∧ fm ds α Qm Em ∧
  (∀ v d B' H' α', Af K B H α B' H' α' → Rp K (hide B' H') v d → Qm d α' → Q v H') ∧ ∀ x B' α' cls d H', Af K B H α B' H' α' → XR K (hide B' H') cls d x → Em x α' → E cls d H'
/-- a def of the text as its data say -/
abbrev FnD (c : C0) (k : Nat) (x : Str) (np : Nat) (ds : List D) (fm : Fm) : Prop := ∃ (f : Addr) (fd : FuncData) (ps : List Str) (dV : List Value) (dvs : List V), FnOk c.P c.w c.K c.mg c.base (L2.CX c.P c.w) k f fd ps (fun vs H Q E => vs.length = ps.length ∧ spD c.K fm vs H Q E) ∧ c.mg x = some (.ref f) ∧ PySem.W.keepIn c.K (.ref f) = true ∧ Binds c.K fd ps dV ∧ Vals dvs dV ∧ (∀ H, RpL c.K H dvs ds) ∧ ps.length = np + ds.length
theorem FnD.ex {c : C0} {k : Nat} {x : Str} {np : Nat} {ds : List D} {fm : Fm} (h : FnD c k x np ds fm) : ∃ (f : Addr) (fd : FuncData) (ps : List Str) (dV : List Value) (dvs : List V), FnOk c.P c.w c.K c.mg c.base (L2.CX c.P c.w) k f fd ps (fun vs H Q E => vs.length = ps.length ∧ spD c.K fm vs H Q E) ∧ c.mg x = some (.ref f) ∧ PySem.W.keepIn c.K (.ref f) = true ∧ Binds c.K fd ps dV ∧ Vals dvs dV ∧ (∀ H, RpL c.K H dvs ds) ∧ ps.length = np + ds.length := h
section
variable {c : C0} {N : List Str} {sc : Scope} {e : Expr} {es : List Expr} {mr : ML} {pos p : Pos} {K : Frag} {W : WX} {x : Str}
/-- the number of arguments is asked -/
def callN (np : Nat) (fm : Fm) (ds : List D) (m : ML) : ME := fun ρ α Q E => m ρ α (fun as α1 => as.length = np ∧ fm (as ++ ds) α1 Q E) E
theorem sd_call {ta : TA} {fm : Fm} {np n : Nat} {ds : List D} {dvs : List V} (hd : ∀ H, RpL K H dvs ds) (hn : n = np + ds.length) (h : SA K W ta mr) : Sd K W (tCallSD (fun vs H Q E => vs.length = n ∧ spD K fm vs H Q E) dvs (WE W) ta) (callN np fm ds mr) := fun B σ H ρ α S Qm Em m Q q x => by
  refine h B σ H ρ α S _ Em m _ (fun vs as B1 H1 α1 A1 ra m => ?_) x
  refine ⟨by rw [List.length_append, ra.length, m.1, hn, (hd H1).length], B1, α1, as ++ ds, Qm, Em, A1.bs, ra.append (hd _), m.2, fun v d B2 H2 α2 A2 r2 m => q v d B2 H2 α2 (A1.trans S.bs A2) r2 m, fun y B2 α2 cls d H2 A2 r2 m => x y B2 α2 cls d H2 (A1.trans S.bs A2) r2 m⟩
theorem je_call {fm : Fm} {np k : Nat} {ds : List D} (F : FnD c k x np ds fm) (hk : k ≤ c.k) (hg : sc.names.lookup x = some .globalImplicit) (ha : JL c N sc (e :: es) mr) (hc : c.cm = true := by rfl)
    (hdb : (x == ("__debug__" : Str)) = false := by decide) (he : ∀ env, starEach (e :: es) env = (false, eval e env) :: starEach es env := by intros; rfl) (hpl : ∀ env, (backTo pos (starEach es env)).any (·.1) = false := by intros; rfl) :
    JE c N sc (.Call (.Name x p) (e :: es) [] pos) (callN np fm ds mr) := by
  obtain ⟨f, fd, ps, dV, dvs, F, h1, h2, h3, h4, h5, h6⟩ := F.ex
  obtain ⟨t, p1, s1⟩ := ha
  refine ⟨fun W => tCallSD (fun vs H Q E => vs.length = ps.length ∧ spD c.K fm vs H Q E) dvs (WE W) (t W), fun X W I T => ?_, fun W => sd_call h5 h6 (s1 W)⟩
  have F' : FnOk X.prog X.w X.K X.mg X.base (L2.CX X.prog X.w) k f fd ps (fun vs H Q E => vs.length = ps.length ∧ spD c.K fm vs H Q E) := by
    rw [I.P, I.w, I.K, I.mg, I.base]
    exact F
  exact pe_callSD F' ((I.rm hc).mono hk) (I.gl hg) (by rw [I.mg]; exact h1) (by rw [I.K]; exact h2) (by rw [I.K]; exact h3) h4 (fun σ => passAt T σ) (p1 X W I T) hdb (he _) (hpl _)
theorem pe_callSD0 {X : Cx} {CX : CXT} {k : Nat} {f : Addr} {fd : FuncData} {ps : List Str} {sp : Sp} {dvs : List V} {ds : List Value} {E : L2.St → XK} (F : FnOk X.prog X.w X.K X.mg X.base CX k f fd ps sp) (hr : Room k X.A) (hg : Gl X x) (hm : X.mg x = some (.ref f)) (hk : PySem.W.keepIn X.K (.ref f) = true) (hb : Binds X.K fd ps ds) (hd : Vals dvs ds) (hx : ∀ σ, PassesAt CX X σ (E σ))
    (hdb : (x == ("__debug__" : Str)) = false := by decide) : PE X (.Call (.Name x p) [] [] pos) (tCallSD sp dvs E tNil) := by
  refine ⟨fun pins s σ H Q I h => ?_⟩
  refine wpAny_Call_Name_kw (ld_glob I hg hm ?_ hdb)
  exact PySem.W.callWith_K0 I.kIn hk (run_fnSD (us := []) F hr hb hd (hx σ) I .nil h)
theorem je_call0 {fm : Fm} {k : Nat} {ds : List D} (F : FnD c k x 0 ds fm) (hk : k ≤ c.k) (hg : sc.names.lookup x = some .globalImplicit) (hc : c.cm = true := by rfl)
    (hdb : (x == ("__debug__" : Str)) = false := by decide) : JE c N sc (.Call (.Name x p) [] [] pos) (callN 0 fm ds nilK) := by
  obtain ⟨f, fd, ps, dV, dvs, F, h1, h2, h3, h4, h5, h6⟩ := F.ex
  refine ⟨fun W => tCallSD (fun vs H Q E => vs.length = ps.length ∧ spD c.K fm vs H Q E) dvs (WE W) tNil, fun X W I T => ?_, fun W => sd_call h5 h6 sa_nil⟩
  have F' : FnOk X.prog X.w X.K X.mg X.base (L2.CX X.prog X.w) k f fd ps (fun vs H Q E => vs.length = ps.length ∧ spD c.K fm vs H Q E) := by
    rw [I.P, I.w, I.K, I.mg, I.base]
    exact F
  exact pe_callSD0 F' ((I.rm hc).mono hk) (I.gl hg) (by rw [I.mg]; exact h1) (by rw [I.K]; exact h2) (by rw [I.K]; exact h3) h4 (fun σ => passAt T σ) hdb
end
end Hz
namespace Hz
open PySem L2
/-- what is wished behind a statement -/
structure Md where
  nx : En → AH → Prop
  rt : D → AH → Prop
  bk : En → AH → Prop
  ct : En → AH → Prop
  ex : Ex → En → AH → Prop
abbrev MS := En → AH → Md → Prop
structure Fi (K : Frag) (B : Addr → Bool) (H : Hp) (α : AH) (D : Md) (Dn : Ends) : Prop where
  nx : ∀ B' σ' H' ρ' α', Af K B H α B' H' α' → SR K B' σ' H' ρ' α' → D.nx ρ' α' → Dn.nx σ' H'
  rt : ∀ v d B' H' α', Af K B H α B' H' α' → Rp K (hide B' H') v d → D.rt d α' → Dn.rt v H'
  bk : ∀ B' σ' H' ρ' α', Af K B H α B' H' α' → SR K B' σ' H' ρ' α' → D.bk ρ' α' → Dn.bk σ' H'
  ct : ∀ B' σ' H' ρ' α', Af K B H α B' H' α' → SR K B' σ' H' ρ' α' → D.ct ρ' α' → Dn.ct σ' H'
def FX (K : Frag) (W : WX) (B : Addr → Bool) (H : Hp) (α : AH) (D : Md) : Prop := ∀ x B' σ' ρ' α' cls d H', Af K B H α B' H' α' → SR K B' σ' H' ρ' α' → XR K (hide B' H') cls d x → D.ex x ρ' α' → W cls d σ' H'
def SS (K : Frag) (W : WX) (t : TS) (m : MS) : Prop := ∀ B σ H ρ α, SR K B σ H ρ α → ∀ D, m ρ α D → ∀ Dn : Ends, Fi K B H α D Dn → FX K W B H α D → t Dn σ H
def JS (c : C0) (N : List Str) (sc : Scope) (s : Stmt) (m : MS) : Prop := ∃ t : WX → TS, (∀ X W, In c N sc X → Takes X W → PS X s (t W)) ∧ ∀ W, SS c.K W (t W) m
def JB (c : C0) (N : List Str) (sc : Scope) (s : List Stmt) (m : MS) : Prop := ∃ t : WX → TS, (∀ X W, In c N sc X → Takes X W → PSs X s (t W)) ∧ ∀ W, SS c.K W (t W) m
section
variable {K : Frag} {W : WX} {B B1 : Addr → Bool} {σ : St} {H H1 : Hp} {ρ : En} {α α1 : AH} {D : Md} {Dn : Ends}
theorem Fi.after (S : Bs K B H α) (h : Fi K B H α D Dn) (a : Af K B H α B1 H1 α1) : Fi K B1 H1 α1 D Dn :=
  ⟨fun B' σ' H' ρ' α' b => h.nx B' σ' H' ρ' α' (a.trans S b), fun v d B' H' α' b => h.rt v d B' H' α' (a.trans S b), fun B' σ' H' ρ' α' b => h.bk B' σ' H' ρ' α' (a.trans S b), fun B' σ' H' ρ' α' b => h.ct B' σ' H' ρ' α' (a.trans S b)⟩
theorem FX.after (S : Bs K B H α) (h : FX K W B H α D) (a : Af K B H α B1 H1 α1) : FX K W B1 H1 α1 D := fun x B' σ' ρ' α' cls d H' b => h x B' σ' ρ' α' cls d H' (a.trans S b)
/-- an expression of a statement raises at the statement's slots -/
theorem FX.sx (S : SR K B σ H ρ α) (h : FX K W B H α D) : SX K W B σ H α (fun x α' => D.ex x ρ α') := fun x B' α' cls d H' a r e => h x B' σ ρ α' cls d H' a (S.step a) r e
end
def nextS : MS := fun ρ α D => D.nx ρ α
def seqS (m1 m2 : MS) : MS := fun ρ α D => m1 ρ α { D with nx := fun ρ1 α1 => m2 ρ1 α1 D }
def breakS : MS := fun ρ α D => D.bk ρ α
def contS : MS := fun ρ α D => D.ct ρ α
def dropS (m : ME) : MS := fun ρ α D => m ρ α (fun _ α1 => D.nx ρ α1) (fun x α1 => D.ex x ρ α1)
def retS (m : ME) : MS := fun ρ α D => m ρ α (fun d α1 => D.rt d α1) (fun x α1 => D.ex x ρ α1)
def retN : MS := fun ρ α D => D.rt .none α
def ifS (mt : MT) (m1 m2 : MS) : MS := fun ρ α D => mt ρ α (fun b α1 => if b = true then m1 ρ α1 D else m2 ρ α1 D) (fun x α1 => D.ex x ρ α1)
def setv (i : Nat) (d : D) (ρ : En) : Option En := some (ρ.set i (some d))
def asgS (m : ME) (g : D → En → Option En) : MS := fun ρ α D => m ρ α (fun d α1 => oq (g d ρ) fun ρ1 => D.nx ρ1 α1) (fun x α1 => D.ex x ρ α1)
/-- the cell in a slot becomes a datum -/
def frzS (i : Nat) (m : MS) : MS := fun ρ α D => ∃ p c, ρ[i]? = some (some (dref p)) ∧ α p = some c ∧ m (ρ.set i (some c)) (adel α p) D
section
variable {c : C0} {N : List Str} {sc : Scope} {K : Frag} {W : WX} {t u : TS} {m m1 m2 : MS} {s : Stmt} {rest b1 b2 : List Stmt} {me : ME} {mt : MT} {e : Expr} {pos p1 : Pos} {i : Nat} {x : Str}
theorem ss_next : SS K W tNext nextS := fun B σ H ρ α S D m Dn h x => h.nx B σ H ρ α (Af.refl S.bs) S m
theorem ss_seq (h1 : SS K W t m1) (h2 : SS K W u m2) : SS K W (tSeq t u) (seqS m1 m2) := fun B σ H ρ α S D m Dn h x =>
  h1 B σ H ρ α S _ m _ ⟨fun B' σ' H' ρ' α' a S' m' => h2 B' σ' H' ρ' α' S' D m' Dn (h.after S.bs a) (x.after S.bs a), h.rt, h.bk, h.ct⟩ x
theorem jb_nil : JB c N sc [] nextS := ⟨_, fun _ _ _ _ => pss_nil, fun _ => ss_next⟩
theorem jb_cons (h : JS c N sc s m1) (k : JB c N sc rest m2) : JB c N sc (s :: rest) (seqS m1 m2) := by
  obtain ⟨t, h1, h2⟩ := h
  obtain ⟨u, k1, k2⟩ := k
  exact ⟨_, fun X W I T => pss_cons (h1 X W I T) (k1 X W I T), fun W => ss_seq (h2 W) (k2 W)⟩
theorem jb_one (h : JS c N sc s m1) : JB c N sc [s] m1 := by
  obtain ⟨t, h1, h2⟩ := h
  exact ⟨_, fun X W I T => pss_one (h1 X W I T), h2⟩
theorem js_expr (h : JE c N sc e me) (hs : ∀ env, swapsWith e none pos.line env = pure false := by intros; rfl) : JS c N sc (.Expr e pos) (dropS me) := by
  obtain ⟨t, h1, h2⟩ := h
  exact ⟨_, fun X W I T => ps_expr (h1 X W I T) (hs _), fun W B σ H ρ α S D m Dn h x => h2 W B σ H ρ α S _ _ m _ (fun v d B' H' α' A r q => h.nx B' σ H' ρ α' A (S.step A) q) (x.sx S)⟩
theorem js_ret (h : JE c N sc e me) : JS c N sc (.Return (some e) pos) (retS me) := by
  obtain ⟨t, h1, h2⟩ := h
  exact ⟨_, fun X W I T => ps_ret (h1 X W I T), fun W B σ H ρ α S D m Dn h x => h2 W B σ H ρ α S _ _ m _ (fun v d B' H' α' A r q => h.rt v d B' H' α' A r q) (x.sx S)⟩
theorem js_if (ht : JT c N sc e mt) (h1 : JB c N sc b1 m1) (h2 : JB c N sc b2 m2) : JS c N sc (.If e b1 b2 pos) (ifS mt m1 m2) := by
  obtain ⟨t, p1, s1⟩ := ht
  obtain ⟨u, p2, s2⟩ := h1
  obtain ⟨w, p3, s3⟩ := h2
  refine ⟨_, fun X W I T => ps_if (p1 X W I T) (p2 X W I T) (p3 X W I T), fun W B σ H ρ α S D m Dn h x => s1 W B σ H ρ α S _ _ m _ (fun b B' H' α' A q => ?_) (x.sx S)⟩
  cases b with
  | true => exact s2 W B' σ H' ρ α' (S.step A) D q Dn (h.after S.bs A) (x.after S.bs A)
  | false => exact s3 W B' σ H' ρ α' (S.step A) D q Dn (h.after S.bs A) (x.after S.bs A)
end
/-- a target at the slots js -/
def SgT (K : Frag) (js : List Nat) (g : TG) (mg : D → En → Option En) : Prop :=
  ∀ B σ H ρ α v d ρ', SR K B σ H ρ α → Rp K (hide B H) v d → mg d ρ = some ρ' → ∀ Q : St → Hp → Prop, (∀ σ', SR K B σ' H ρ' α → (∀ j, j ∉ js → σ'[j]? = σ[j]? ∧ ρ'[j]? = ρ[j]?) → σ'.length = σ.length → Q σ' H) → g v σ H Q
def SgTs (K : Frag) (js : List Nat) (g : TGs) (mg : List D → En → Option En) : Prop :=
  ∀ B σ H ρ α vs ds ρ', SR K B σ H ρ α → RpL K (hide B H) vs ds → mg ds ρ = some ρ' → ∀ Q : St → Hp → Prop, (∀ σ', SR K B σ' H ρ' α → (∀ j, j ∉ js → σ'[j]? = σ[j]? ∧ ρ'[j]? = ρ[j]?) → σ'.length = σ.length → Q σ' H) → g vs σ H Q
theorem SR.set {K : Frag} {B : Addr → Bool} {σ : St} {H : Hp} {ρ : En} {α : AH} {i : Nat} {v : V} {d : D} (S : SR K B σ H ρ α) (r : Rp K (hide B H) v d) : SR K B (σ.set i (some v)) H (ρ.set i (some d)) α := by
  refine ⟨by simpa using S.len, fun j d' e => ?_, S.bs⟩
  by_cases q : i = j
  · subst q
    have hl : i < ρ.length := by simpa using (List.getElem?_eq_some_iff.mp e).1
    rw [List.getElem?_set_self hl] at e
    cases e
    exact ⟨v, List.getElem?_set_self (by rw [S.len]; exact hl), r⟩
  · rw [List.getElem?_set_ne q] at e
    obtain ⟨w, a, b⟩ := S.val j d' e
    exact ⟨w, by rw [List.getElem?_set_ne q]; exact a, b⟩
theorem sgt_name {K : Frag} {i : Nat} : SgT K [i] (gName i) (setv i) := fun B σ H ρ α v d ρ' S r e Q q => by
  cases e
  refine q _ (S.set r) (fun j hj => ?_) (by simp)
  have z : i ≠ j := fun z => hj (by simp [z])
  exact ⟨List.getElem?_set_ne z, List.getElem?_set_ne z⟩
def tgNil : List D → En → Option En := fun ds ρ => match ds with
  | [] => some ρ
  | _ => none
def tgCons (mg : D → En → Option En) (mr : List D → En → Option En) : List D → En → Option En := fun ds ρ => match ds with
  | d :: r => (mg d ρ).bind (mr r)
  | [] => none
def tgTup (n : Nat) (mr : List D → En → Option En) : D → En → Option En := fun d ρ => match d with
  | .tuple ds => if ds.length = n then mr ds ρ else none
  | _ => none
def JTg (c : C0) (N : List Str) (sc : Scope) (e : Expr) (js : List Nat) (mg : D → En → Option En) : Prop := ∃ g, (∀ X, In c N sc X → PG X e g) ∧ SgT c.K js g mg
def JTgs (c : C0) (N : List Str) (sc : Scope) (es : List Expr) (js : List Nat) (mg : List D → En → Option En) : Prop := ∃ g, (∀ X, In c N sc X → PGs X es g) ∧ SgTs c.K js g mg
section
variable {K : Frag} {mg : D → En → Option En} {mr : List D → En → Option En} {js ks : List Nat} {n : Nat}
theorem sgts_nil : SgTs K [] gNil tgNil := fun B σ H ρ α vs ds ρ' S r e Q q => by
  cases r with
  | nil =>
    cases e
    exact ⟨rfl, q σ S (fun _ _ => ⟨rfl, rfl⟩) rfl⟩
  | cons _ _ => cases e
theorem sgts_cons {g : TG} {u : TGs} (h : SgT K js g mg) (k : SgTs K ks u mr) : SgTs K (js ++ ks) (gCons g u) (tgCons mg mr) := fun B σ H ρ α vs ds ρ' S r e Q q => by
  cases r with
  | nil => cases e
  | cons r1 r2 =>
    rename_i v vs d ds
    unfold tgCons at e
    cases z : mg d ρ with
    | none => simp [z] at e
    | some ρ1 =>
      simp only [z, Option.bind_some] at e
      refine ⟨v, vs, rfl, h B σ H ρ α v d ρ1 S r1 z _ fun σ1 b1 l1 n1 => ?_⟩
      refine k B σ1 H ρ1 α vs ds ρ' b1 r2 e _ fun σ2 b2 l2 n2 => q σ2 b2 (fun j hj => ?_) (n2.trans n1)
      rw [List.mem_append, not_or] at hj
      obtain ⟨a1, a2⟩ := l1 j hj.1
      obtain ⟨a3, a4⟩ := l2 j hj.2
      exact ⟨a3.trans a1, a4.trans a2⟩
theorem sgt_tup {u : TGs} (k : SgTs K ks u mr) : SgT K ks (gTup K n u) (tgTup n mr) := fun B σ H ρ α v d ρ' S r e Q q => by
  unfold tgTup at e
  split at e
  · rename_i ds
    split at e
    · rename_i hn
      cases r with
      | tup ht rr _ =>
        refine ⟨_, _, rfl, sub_t (hide_sub B H) ht, ?_, ?_⟩
        · rw [rr.length]; exact hn
        · exact k B σ H ρ α _ ds ρ' S rr e Q q
    · cases e
  · cases e
end
/-- a name that may be stored -/
def Sto (c : C0) (sc : Scope) (x : Str) : Prop := sc.names.lookup x = some .local ∨ ((c.top || c.oc.contains x) = true ∧ sc.names.lookup x = some .cell)
section
variable {c : C0} {N : List Str} {sc : Scope} {e value : Expr} {es : List Expr} {js ks : List Nat} {mg : D → En → Option En} {mr : List D → En → Option En} {pos p1 p2 : Pos} {i j n k : Nat} {x : Str} {me mi : ME} {K : Frag} {W : WX}
theorem Sto.loc {X : Cx} (h : Sto c sc x) (I : In c N sc X) : Loc X.env.scope x := by
  rw [I.sc]
  rcases h with h | ⟨_, h⟩
  · exact .inl h
  · exact .inr h
theorem Sto.vis (h : Sto c sc x) : Vis sc x := by
  rcases h with h | ⟨_, h⟩
  · exact .inl h
  · exact .inr (.inl h)
theorem Sto.fn {X : Cx} (h : Sto c sc x) (I : In c N sc X) : X.fn x = true ∨ X.env.scope.names.lookup x = some .local := by
  rw [I.sc]
  rcases h with h | ⟨h, _⟩
  · exact .inr h
  · rcases Bool.or_eq_true _ _ ▸ h with h | h
    · rw [I.fn h]; exact .inl rfl
    · exact .inl (I.oc _ h)
theorem jtg_name (nd : N.Nodup) (hN : N[i]? = some x) (hs : Sto c sc x) : JTg c N sc (.Name x pos) [i] (setv i) :=
  ⟨_, fun X I => pg_name (by rw [I.N]; exact nd) (by rw [I.N]; exact hN) (hs.loc I) (hs.fn I), sgt_name⟩
theorem jtgs_nil : JTgs c N sc [] [] tgNil := ⟨_, fun _ _ => pgs_nil, sgts_nil⟩
theorem jtgs_cons (h : JTg c N sc e js mg) (k : JTgs c N sc es ks mr) (hs : ∀ env, (assignEach (e :: es) env).map (·.2) = assign e env :: (assignEach es env).map (·.2) := by intros; rfl) : JTgs c N sc (e :: es) (js ++ ks) (tgCons mg mr) := by
  obtain ⟨g, h1, h2⟩ := h
  obtain ⟨u, k1, k2⟩ := k
  exact ⟨_, fun X I => pgs_cons (h1 X I) (k1 X I) (hs _), sgts_cons h2 k2⟩
theorem jtg_tup (h : JTgs c N sc es js mr) (hc : c.cm = true := by rfl) (hn : ∀ env, (assignEach es env).length = n := by intros; rfl) (hst : ∀ env, (assignEach es env).findIdx? (·.1) = none := by intros; rfl) : JTg c N sc (.Tuple es k pos) js (tgTup n mr) := by
  obtain ⟨u, k1, k2⟩ := h
  refine ⟨gTup c.K n u, fun X I => ?_, sgt_tup k2⟩
  have q := pg_tup (k := k) (pos := pos) (I.calm hc) (k1 X I) (hn _) (hst _)
  rw [I.K] at q
  exact q
theorem ss_asg {te : TE} {g : TG} (h : Sd K W te me) (k : SgT K js g mg) : SS K W (tAsg te g) (asgS me mg) := fun B σ H ρ α S D m Dn h' x =>
  h B σ H ρ α S _ _ m _ (fun v d B' H' α' A r q => by
    obtain ⟨ρ', e, q⟩ := q
    exact k B' σ H' ρ α' v d ρ' (S.step A) r e _ fun σ' S' _ _ => h'.nx B' σ' H' ρ' α' A S' q) (x.sx S)
theorem js_set (nd : N.Nodup) (hN : N[i]? = some x) (hs : Sto c sc x) (h : JE c N sc e me) (hw : ∀ env, swapsWith e (some (.Name x p1)) pos.line env = pure false := by intros; rfl) : JS c N sc (.Assign [.Name x p1] e pos) (asgS me (setv i)) := by
  obtain ⟨t, h1, h2⟩ := h
  exact ⟨_, fun X W I T => ps_set (by rw [I.N]; exact nd) (by rw [I.N]; exact hN) (hs.loc I) (h1 X W I T) (hw _) (hs.fn I), fun W => ss_asg (h2 W) sgt_name⟩
theorem js_asg (h : JE c N sc value me) (g : JTg c N sc e js mg) (hs : ∀ env, swapsWithSole [e] value pos.line env = pure false := by intros; rfl) (hw : ∀ env, swappedStores [e] value env = pure none := by intros; rfl)
    (h1 : ∀ env, (assignEach [e] env).map (·.2) = [assign e env] := by intros; rfl) : JS c N sc (.Assign [e] value pos) (asgS me mg) := by
  obtain ⟨t, a1, a2⟩ := h
  obtain ⟨u, b1, b2⟩ := g
  exact ⟨_, fun X W I T => ps_asg (a1 X W I T) (b1 X I) (hs _) (hw _) (h1 _), fun W => ss_asg (a2 W) b2⟩
end
def augS (g : D → D → Option D) (i : Nat) (me : ME) : MS := fun ρ α D => ∃ d, ρ[i]? = some (some d) ∧ me ρ α (fun e α1 => oq (g d e) fun z => D.nx (ρ.set i (some z)) α1) (fun x α1 => D.ex x ρ α1)
section
variable {c : C0} {N : List Str} {sc : Scope} {e : Expr} {pos p1 : Pos} {x : Str} {me : ME} {g : D → D → Option D}
/-- a, b = x, y -/
def parS (i j : Nat) (ml : ML) : MS := fun ρ α D => ml ρ α (fun ds α1 => ∃ d e, ds = [d, e] ∧ D.nx ((ρ.set i (some d)).set j (some e)) α1) (fun x α1 => D.ex x ρ α1)
theorem js_aug {op : Operator} {i : Nat} (nd : N.Nodup) (ho : OpD c.K (In c N sc) (inplaceOp op) g) (h : JE c N sc e me) (hN : N[i]? = some x := by rfl) (hs : Sto c sc x := by first | exact Or.inl rfl | exact Or.inr ⟨rfl, rfl⟩) : JS c N sc (.AugAssign (.Name x p1) op e pos) (augS g i me) := by
  obtain ⟨r, h1, h2⟩ := ho.ex
  obtain ⟨t, a1, a2⟩ := h
  refine ⟨_, fun X W I T => ps_aug (by rw [I.N]; exact nd) (by rw [I.N]; exact hN) (hs.loc I) (a1 X W I T) (h1 X I) (hs.fn I), fun W B σ H ρ α S D m Dn h' x => ?_⟩
  obtain ⟨d, e0, m⟩ := m
  obtain ⟨v, g1, g2⟩ := S.val i d e0
  refine ⟨v, g1, a2 W B σ H ρ α S _ _ m _ (fun w d1 B1 H1 α1 A1 r1 m => ?_) (x.sx S)⟩
  obtain ⟨z, hz, m⟩ := m
  refine h2 B1 H1 v w d d1 z A1.bs.bk (.vis (g2.mono A1.sub)) (.vis r1) hz _ fun y H2 s2 r2 => ?_
  have A2 := A1.trans S.bs (Af.of_sub A1.bs s2)
  exact h'.nx _ _ _ _ _ A2 ((S.step A2).set r2) m
end
structure MuD (K : Frag) (XS : Cx → Prop) (id : String) (f : List D → List D → Option (D × List D)) : Prop where
  ex : ∃ r : V → List V → Hp → VK → Prop, (∀ X, XS X → MtR X id r) ∧ ∀ (B : Addr → Bool) (H : Hp) (l : Addr) (vs : List V) (ds : List D) (us : List V) (as : List D) (z : D) (ds' : List D),
    (∀ a, B a = true → ∃ o, H a = some o) → B l = true → H l = some (.lst vs) → RpL K (hide B H) vs ds → RpL K (hide B H) us as → f ds as = some (z, ds') →
    ∀ Q : VK, (∀ y vs', RpL K (hide B H) vs' ds' → Rp K (hide B H) y z → Q y (upd H l (.lst vs'))) → r (.ref l) us H Q
/-- a cell that holds a list -/
def cellL (α : AH) (o : D) (Q : Addr → List D → Prop) : Prop := ∃ a ds, o = dref a ∧ α a = some (.list ds) ∧ Q a ds
/-- vs: are the arguments read through their cells? -/
def mapV (α : AH) : List D → Option (List D)
  | [] => some []
  | d :: ds => (vw α d).bind fun z => (mapV α ds).map fun r => z :: r
def mutK (f : List D → List D → Option (D × List D)) (mo : ME) (ma : ML) : ME := fun ρ α Q E => mo ρ α (fun o α1 => cellL α1 o fun _ _ => ma ρ α1 (fun as α2 => cellL α2 o fun a ds => oq (f ds as) fun z => Q z.1 (aset α2 a (.list z.2))) E) E
section
variable {c : C0} {N : List Str} {sc : Scope} {e e2 o : Expr} {es : List Expr} {pos p1 p2 p3 : Pos} {i : Nat} {x m : Str} {me mi mo : ME} {ma : ML} {K : Frag} {W : WX} {id : String} {f : List D → List D → Option (D × List D)} {r : V → List V → Hp → VK → Prop}
theorem Bs.list {B : Addr → Bool} {H : Hp} {α : AH} {l : Addr} {ds : List D} (S : Bs K B H α) (h : α l = some (.list ds)) : B l = true ∧ ∃ vs, H l = some (.lst vs) ∧ RpL K (hide B H) vs ds := by
  obtain ⟨h1, h2⟩ := S.cel l _ h
  refine ⟨h1, ?_⟩
  generalize ez : PyData.list ds = z at h2
  generalize eo : H l = o at h2
  cases h2 with
  | own h =>
    subst ez
    exact h
  | obj h => cases ez
theorem dref_inj {a b : Addr} (h : dref a = dref b) : a = b := by
  have e1 := List.cons.inj (PyData.dict.inj h)
  have e2 : PyData.int (Int.ofNat a) = PyData.int (Int.ofNat b) := congrArg Prod.snd e1.1
  exact Int.ofNat.inj (PyData.int.inj e2)
theorem sd_mut {to : TE} {ta : TA} (ho : Sd K W to mo) (h : SA K W ta ma) (hr : ∀ (B : Addr → Bool) (H : Hp) (l : Addr) (vs : List V) (ds : List D) (us : List V) (as : List D) (z : D) (ds' : List D),
    (∀ a, B a = true → ∃ o, H a = some o) → B l = true → H l = some (.lst vs) → RpL K (hide B H) vs ds → RpL K (hide B H) us as → f ds as = some (z, ds') →
    ∀ Q : VK, (∀ y vs', RpL K (hide B H) vs' ds' → Rp K (hide B H) y z → Q y (upd H l (.lst vs'))) → r (.ref l) us H Q) : Sd K W (tBM K "list" r to ta) (mutK f mo ma) := fun B σ H ρ α S Qm Em m Q q x => by
  refine ho B σ H ρ α S _ Em m _ (fun v o B1 H1 α1 A1 r1 m => ?_) x
  obtain ⟨a, ds, rfl, e1, m⟩ := m
  obtain ⟨b1, vs, g1, g2⟩ := A1.bs.list e1
  have hv := r1.cell
  subst hv
  refine ⟨.inl ⟨rfl, vs, .inl (.inl g1)⟩, ?_⟩
  refine h B1 σ H1 ρ α1 (S.step A1) _ Em m _ (fun us as B2 H2 α2 A2 ra m => ?_) (x.after S.bs A1)
  obtain ⟨a', ds', ea, e2, z, hz, m⟩ := m
  have ea' := dref_inj ea
  subst ea'
  obtain ⟨b2, vs', g3, g4⟩ := A2.bs.list e2
  obtain ⟨z1, z2⟩ := z
  refine hr B2 H2 a vs' ds' us as z1 z2 A2.bs.bk b2 g3 g4 ra hz _ fun y ws k1 k2 => ?_
  have w := Af.write (o := .lst ws) (c := .list z2) A2.bs e2 (.own ⟨_, rfl, k1⟩)
  exact q y z1 B2 _ _ ((A1.trans S.bs A2).trans S.bs w) (k2.mono w.sub) m
theorem je_mut (ho : MuD c.K (In c N sc) id f) (slot : Slot "list" m id) (hty : typeOf (.builtin id) = pure (.type "method_descriptor")) (h1 : JE c N sc o mo) (h : JL c N sc (e :: es) ma)
    (hbase : ∀ env, attributeBase o m env (eval o env) = eval o env := by intros; rfl)
    (hfew : ∀ env, ((backTo p3 (starEach (e :: es) env)).all (fun x => !x.1) && (backToKw p3 (keywordEach [] env)).all (fun x => x.1.isSome) && decide ((e :: es).length + ([] : List Keyword).length + (if ([] : List Keyword).isEmpty then 0 else 1) < 30)) = true := by intros; rfl)
    (hline : (p2.endLine == p3.line) = true := by rfl) (hs : ∀ env, starEach (e :: es) env = (false, eval e env) :: starEach es env := by intros; rfl) (hplain : ∀ env, (backTo p3 (starEach es env)).any (·.1) = false := by intros; rfl) :
    JE c N sc (.Call (.Attribute o m p2) (e :: es) [] p3) (mutK f mo ma) := by
  obtain ⟨t, a1, a2⟩ := h
  obtain ⟨u, b1, b2⟩ := h1
  obtain ⟨r, hr1, hr2⟩ := ho.ex
  refine ⟨fun W => tBM c.K "list" r (u W) (t W), fun X W I T => ?_, fun W => sd_mut (b2 W) (a2 W) hr2⟩
  have q := pe_bm (cpos := p3) (apos := p2) PySem.F.plainAttrs_list slot hty (hr1 X I) (b1 X W I T) (a1 X W I T) (hbase _) (hfew _) hline (hs _) (hplain _)
  rw [I.K] at q
  exact q
def muAppend (ds as : List D) : Option (D × List D) := match as with
  | [d] => if ds.length < 100000 then some (.none, ds ++ [d]) else none
  | _ => none
theorem mu_append {XS : Cx → Prop} : MuD K XS "list.append" muAppend := ⟨_, fun X _ => mt_append, fun B H l vs ds us as z ds' bk bl hl r ra e Q q => by
  unfold muAppend at e
  split at e
  · rename_i d
    split at e
    · rename_i hn
      cases e
      cases ra with
      | cons r1 r2 =>
        cases r2
        exact ⟨l, vs, _, rfl, rfl, hl, Nat.lt_of_lt_of_le (by rw [r.length]; exact hn) (by decide), q _ _ (r.append (.cons r1 .nil)) .non⟩
    · cases e
  · cases e⟩
/-- o[k] = e, o a list that changes -/
def setiS (me mo mi : ME) : MS := fun ρ α D => me ρ α (fun d α1 => mo ρ α1 (fun o α2 => mi ρ α2 (fun k α3 => cellL α3 o fun a ds => ∃ i, k = .int i ∧ oq (ixN ds.length i) fun j => D.nx ρ (aset α3 a (.list (ds.set j d)))) (fun x α1 => D.ex x ρ α1)) (fun x α1 => D.ex x ρ α1)) (fun x α1 => D.ex x ρ α1)
theorem ss_seti {te to ti : TE} (h : Sd K W te me) (ho : Sd K W to mo) (hi : Sd K W ti mi) : SS K W (tAsg te (gSub to ti rSetL)) (setiS me mo mi) := fun B σ H ρ α S D m Dn h' x => by
  refine h B σ H ρ α S _ _ m _ (fun v d B1 H1 α1 A1 r1 m => ?_) (x.sx S)
  have S1 := S.step A1
  refine ho B1 σ H1 ρ α1 S1 _ _ m _ (fun w o B2 H2 α2 A2 r2 m => ?_) ((x.sx S).after S.bs A1)
  have A12 := A1.trans S.bs A2
  refine hi B2 σ H2 ρ α2 (S.step A12) _ _ m _ (fun y k B3 H3 α3 A3 r3 m => ?_) ((x.sx S).after S.bs A12)
  obtain ⟨a, ds, rfl, e, i, rfl, j, hj, m⟩ := m
  obtain ⟨b1, vs, g1, g2⟩ := A3.bs.list e
  have hw := r2.cell
  subst hw
  refine ⟨a, vs, i, j, rfl, r3.inti, g1, by rw [g2.length]; exact hj, ?_⟩
  have w := Af.write (o := .lst (vs.set j v)) (c := .list (ds.set j d)) A3.bs e (.own ⟨_, rfl, g2.set (r1.mono (A2.sub.trans A3.sub)) j⟩)
  have A := (A12.trans S.bs A3).trans S.bs w
  exact h'.nx _ _ _ _ _ A (S.step A) m
theorem js_seti (h : JE c N sc e me) (ho : JE c N sc o mo) (hi : JE c N sc e2 mi)
    (ha : ∀ env v, assign (.Subscript o e2 p2) env v = (do
      let ov ← holding [v] (eval o env)
      let iv ← holding [v, ov] (eval e2 env)
      standAt p2
      holding [v, ov, iv] (setItem ov iv v)
      release [v, ov, iv] []) := by intros; rfl)
    (hs : ∀ env, swapsWithSole [.Subscript o e2 p2] e pos.line env = pure false := by intros; rfl) (hw : ∀ env, swappedStores [.Subscript o e2 p2] e env = pure none := by intros; rfl)
    (h1 : ∀ env, (assignEach [.Subscript o e2 p2] env).map (·.2) = [assign (.Subscript o e2 p2) env] := by intros; rfl) :
    JS c N sc (.Assign [.Subscript o e2 p2] e pos) (setiS me mo mi) := by
  obtain ⟨t, a1, a2⟩ := h
  obtain ⟨w, d1, d2⟩ := ho
  obtain ⟨u, b1, b2⟩ := hi
  exact ⟨_, fun X W I T => ps_asg (a1 X W I T) (pg_sub (d1 X W I T) (b1 X W I T) set_list (ha _)) (hs _) (hw _) (h1 _), fun W => ss_seti (a2 W) (d2 W) (b2 W)⟩
end
end Hz
namespace Hz
open PySem L2
/-- what is walked: its data, what must stay so while it is walked -/
abbrev MI := En → AH → (List D → (AH → Prop) → AH → Prop) → QX → Prop
def ItOk (K : Frag) (J : It) (G : AH → Prop) (B : Addr → Bool) (H : Hp) (ds : List D) : Prop := ∀ B' H' α', Sub (hide B H) (hide B' H') → Bs K B' H' α' → G α' →
  (∀ (i : Nat) d, ds[i]? = some d → J.go i H' ∧ ∀ x H'', J.yld i H' x H'' → Sub H' H'' ∧ Rp K (hide B' H'') x d) ∧ J.stop ds.length H'
def SI (K : Frag) (W : WX) (wi : TI) (m : MI) : Prop :=
  ∀ B σ H ρ α, SR K B σ H ρ α → ∀ Qm Em, m ρ α Qm Em → ∀ R : It → Hp → Prop, (∀ J ds G B' H' α', Af K B H α B' H' α' → ItOk K J G B' H' ds → Qm ds G α' → R J H') → SX K W B σ H α Em → wi σ H R
def JI (c : C0) (N : List Str) (sc : Scope) (tg iter : Expr) (m : MI) : Prop := ∃ wi : WX → TI, (∀ X W, In c N sc X → Takes X W → PI X tg iter (wi W)) ∧ ∀ W, SI c.K W (wi W) m
def listK (m : ME) : MI := fun ρ α Q E => m ρ α (fun d α1 => ∃ ds, vw α1 d = some (.list ds) ∧ Q ds (fun α' => vw α' d = some (.list ds)) α1) E
def tupleK (m : ME) : MI := fun ρ α Q E => m ρ α (fun d α1 => ∃ ds, d = .tuple ds ∧ Q ds (fun _ => True) α1) E
/-- lo, lo + 1, .., n of them -/
def nums (lo : Int) : Nat → List D
  | 0 => []
  | n + 1 => .int lo :: nums (lo + 1) n
theorem nums_length : ∀ (n : Nat) (lo : Int), (nums lo n).length = n
  | 0, _ => rfl
  | n + 1, lo => by
    show (nums (lo + 1) n).length + 1 = n + 1
    rw [nums_length n]
theorem nums_get : ∀ (n : Nat) (lo : Int) (i : Nat) (d : D), (nums lo n)[i]? = some d → i < n ∧ d = .int (lo + i)
  | 0, _, i, d, h => by simp [nums] at h
  | n + 1, lo, 0, d, h => by
    simp [nums] at h
    exact ⟨by omega, by rw [← h]; simp⟩
  | n + 1, lo, i + 1, d, h => by
    have h' : (nums (lo + 1) n)[i]? = some d := h
    obtain ⟨a, b⟩ := nums_get n (lo + 1) i d h'
    refine ⟨by omega, ?_⟩
    rw [b]
    congr 1
    omega
def rangeK1 (m : ML) : MI := fun ρ α Q E => m ρ α (fun ds α1 => ∃ n : Int, ds = [.int n] ∧ (-(2 ^ 62) ≤ n ∧ n < 2 ^ 62) ∧ Q (nums 0 n.toNat) (fun _ => True) α1) E
def rangeK2 (m : ML) : MI := fun ρ α Q E => m ρ α (fun ds α1 => ∃ a b : Int, ds = [.int a, .int b] ∧ (-(2 ^ 62) ≤ a ∧ a < 2 ^ 62 ∧ -(2 ^ 62) ≤ b ∧ b < 2 ^ 62) ∧ Q (nums a (b - a).toNat) (fun _ => True) α1) E
section
variable {c : C0} {N : List Str} {sc : Scope} {e a b tg : Expr} {pos p : Pos} {me : ME} {ma : ML} {K : Frag} {W : WX}
theorem si_list {te : TE} (h : Sd K W te me) : SI K W (iList K te) (listK me) := fun B σ H ρ α S Qm Em m R q x => by
  refine h B σ H ρ α S _ Em m _ (fun v d B1 H1 α1 A r m => ?_) x
  obtain ⟨ds, hd, m⟩ := m
  cases r with
  | lst hs rr =>
    cases hd
    refine ⟨_, rfl, ⟨_, sub_l (hide_sub B1 H1) hs⟩, q _ ds _ B1 H1 α1 A (fun B' H' α' sb bs g => ⟨fun i d hi => ?_, ?_⟩) m⟩
    · obtain ⟨v, g1, g2⟩ := rr.get' hi
      refine ⟨⟨_, v, sub_l ((sb.trans (hide_sub B' H'))) hs, g1⟩, fun x H'' y => ?_⟩
      obtain ⟨rfl, y⟩ := y
      refine ⟨Sub.refl _, ?_⟩
      have := y _ (sub_l (sb.trans (hide_sub B' _)) hs)
      rw [g1] at this
      cases this
      exact g2.mono sb
    · exact ⟨_, sub_l ((sb.trans (hide_sub B' H'))) hs, by rw [rr.length]; exact Nat.le_refl _⟩
  | @ref a =>
    obtain ⟨b1, vs, g1, g2⟩ := A.bs.list (show α1 a = some (.list ds) from hd)
    refine ⟨a, rfl, ⟨vs, .inl (.inl g1)⟩, q _ ds _ B1 H1 α1 A (fun B' H' α' sb bs g => ?_) m⟩
    obtain ⟨b2, us, k1, k2⟩ := bs.list (show α' a = some (.list ds) from g)
    refine ⟨fun i d hi => ?_, ⟨us, .inl (.inl k1), by rw [k2.length]; exact Nat.le_refl _⟩⟩
    obtain ⟨v, l1, l2⟩ := k2.get' hi
    refine ⟨⟨us, v, .inl (.inl k1), l1⟩, fun x H'' y => ?_⟩
    obtain ⟨rfl, y⟩ := y
    refine ⟨Sub.refl _, ?_⟩
    have := y _ (.inl (.inl k1))
    rw [l1] at this
    cases this
    exact l2
  | dct _ r =>
    cases r with
    | nil => cases hd
    | @cons k _ _ _ _ r1 r2 => cases k <;> cases hd
  | _ => cases hd
theorem si_tup {te : TE} (h : Sd K W te me) : SI K W (iTup K te) (tupleK me) := fun B σ H ρ α S Qm Em m R q x => by
  refine h B σ H ρ α S _ Em m _ (fun v d B1 H1 α1 A r m => ?_) x
  obtain ⟨ds, rfl, m⟩ := m
  cases r with
  | tup hs rr _ =>
    refine ⟨_, rfl, ⟨_, sub_t (hide_sub B1 H1) hs⟩, q _ ds _ B1 H1 α1 A (fun B' H' α' sb bs g => ⟨fun i d hi => ?_, ?_⟩) m⟩
    · obtain ⟨v, g1, g2⟩ := rr.get' hi
      refine ⟨⟨_, v, sub_t ((sb.trans (hide_sub B' H'))) hs, g1⟩, fun x H'' y => ?_⟩
      obtain ⟨rfl, y⟩ := y
      refine ⟨Sub.refl _, ?_⟩
      have := y _ (sub_t (sb.trans (hide_sub B' _)) hs)
      rw [g1] at this
      cases this
      exact g2.mono sb
    · exact ⟨_, sub_t ((sb.trans (hide_sub B' H'))) hs, by rw [rr.length]; exact Nat.le_refl _⟩
theorem ji_list (h : JE c N sc e me) : JI c N sc tg e (listK me) := by
  obtain ⟨t, h1, h2⟩ := h
  refine ⟨fun W => iList c.K (t W), fun X W I T => ?_, fun W => si_list (h2 W)⟩
  have q := pi_list (tg := tg) (h1 X W I T)
  rw [I.K] at q
  exact q
theorem ji_tup (h : JE c N sc e me) : JI c N sc tg e (tupleK me) := by
  obtain ⟨t, h1, h2⟩ := h
  refine ⟨fun W => iTup c.K (t W), fun X W I T => ?_, fun W => si_tup (h2 W)⟩
  have q := pi_tup (tg := tg) (h1 X W I T)
  rw [I.K] at q
  exact q
theorem it_range {B : Addr → Bool} {H : Hp} {G : AH → Prop} {lo : Int} {n : Nat} : ItOk K (Itr lo n) G B H (nums lo n) := fun B' H' α' sb bk g => ⟨fun i d hi => by
  obtain ⟨a, b⟩ := nums_get n lo i d hi
  refine ⟨a, fun x H'' y => ?_⟩
  obtain ⟨rfl, rfl⟩ := y
  refine ⟨Sub.refl _, ?_⟩
  rw [b]
  exact .int _, by rw [nums_length]; exact Nat.le_refl n⟩
theorem ji_range1 (hg : sc.names.lookup ("range" : Str) = some .globalImplicit) (hm : c.mg ("range" : Str) = none) (h : JL c N sc [a] ma) (hs : ∀ env, starEach [a] env = [(false, eval a env)] := by intros; rfl) : JI c N sc tg (.Call (.Name "range" p) [a] [] pos) (rangeK1 ma) := by
  obtain ⟨t, h1, h2⟩ := h
  refine ⟨fun W => iRng1 (t W), fun X W I T => pi_range1 (I.gl hg) (by rw [I.mg]; exact hm) (h1 X W I T) (hs _), fun W B σ H ρ α S Qm Em m R q x => ?_⟩
  refine h2 W B σ H ρ α S _ Em m _ (fun vs ds B1 H1 α1 A r m => ?_) x
  obtain ⟨n, rfl, hb, m⟩ := m
  cases r with
  | cons r1 r2 =>
    cases r2
    cases r1
    exact ⟨n, rfl, hb.1, hb.2, q _ _ _ B1 H1 α1 A it_range m⟩
theorem ji_range2 (hg : sc.names.lookup ("range" : Str) = some .globalImplicit) (hm : c.mg ("range" : Str) = none) (h : JL c N sc [a, b] ma) (hs : ∀ env, starEach [a, b] env = [(false, eval a env), (false, eval b env)] := by intros; rfl) (hs2 : ∀ env, starEach [b] env = [(false, eval b env)] := by intros; rfl) : JI c N sc tg (.Call (.Name "range" p) [a, b] [] pos) (rangeK2 ma) := by
  obtain ⟨t, h1, h2⟩ := h
  refine ⟨fun W => iRng2 (t W), fun X W I T => pi_range2 (I.gl hg) (by rw [I.mg]; exact hm) (h1 X W I T) (hs _) (hs2 _), fun W B σ H ρ α S Qm Em m R q x => ?_⟩
  refine h2 W B σ H ρ α S _ Em m _ (fun vs ds B1 H1 α1 A r m => ?_) x
  obtain ⟨n, k, rfl, hb, m⟩ := m
  cases r with
  | cons r1 r2 =>
    cases r2 with
    | cons r2 r3 =>
      cases r3
      cases r1
      cases r2
      exact ⟨n, k, rfl, hb, q _ _ _ B1 H1 α1 A it_range m⟩
end
def forD (mg : D → En → Option En) (mb : MS) (G : AH → Prop) (D0 : Md) : List D → En → AH → Prop
  | [], ρ, α => G α ∧ D0.nx ρ α
  | d :: ds, ρ, α => G α ∧ oq (mg d ρ) fun ρ1 => mb ρ1 α { D0 with nx := fun ρ2 α2 => forD mg mb G D0 ds ρ2 α2, ct := fun ρ2 α2 => forD mg mb G D0 ds ρ2 α2, bk := D0.nx }
def forS (mi : MI) (mg : D → En → Option En) (mb : MS) : MS := fun ρ α D => mi ρ α (fun ds G α1 => forD mg mb G D ds ρ α1) (fun x α1 => D.ex x ρ α1)
def whileS (mt : MT) (mb : MS) : MS := fun ρ α D => ∃ V : Nat → En → AH → Prop, (∃ m, V m ρ α) ∧ ∀ m ρ α, V m ρ α → mt ρ α (fun b α1 => if b = true then mb ρ α1 { D with nx := fun ρ2 α2 => ∃ m', m' < m ∧ V m' ρ2 α2, ct := fun ρ2 α2 => ∃ m', m' < m ∧ V m' ρ2 α2, bk := D.nx } else D.nx ρ α1) (fun x α1 => D.ex x ρ α1)
section
variable {c : C0} {N : List Str} {sc : Scope} {e a b tg iter : Expr} {body : List Stmt} {pos p : Pos} {mi : MI} {mg : D → En → Option En} {mb : MS} {mt : MT} {K : Frag} {W : WX} {js : List Nat} {tb : TS} {wi : TI} {g : TG} {tt : TT}
theorem ss_for (hi : SI K W wi mi) (hg : SgT K js g mg) (hb : SS K W tb mb) : SS K W (tFor wi g tb) (forS mi mg mb) := fun B σ H ρ α S D0 m Dn h' x => by
  refine hi B σ H ρ α S _ _ m _ (fun J ds G B1 H1 α1 A ok m => ?_) (x.sx S)
  have S1 := S.step A
  have h1 := h'.after S.bs A
  have x1 := x.after S.bs A
  refine ⟨fun i n σ' H' => ∃ B' ρ' α', Af K B1 H1 α1 B' H' α' ∧ SR K B' σ' H' ρ' α' ∧ n = ds.length - i ∧ i ≤ ds.length ∧ forD mg mb G D0 (ds.drop i) ρ' α', ⟨ds.length, B1, ρ, α1, Af.refl S1.bs, S1, by simp, Nat.zero_le _, by simpa using m⟩, ?_⟩
  rintro i n σ' H' ⟨B', ρ', α', A', S', rfl, hle, hf⟩
  have hG : G α' := by
    cases q : ds.drop i with
    | nil => rw [q] at hf; exact hf.1
    | cons _ _ => rw [q] at hf; exact hf.1
  obtain ⟨go, stop⟩ := ok B' H' α' A'.sub S'.bs hG
  by_cases hlt : i < ds.length
  · obtain ⟨d, hd⟩ : ∃ d, ds[i]? = some d := ⟨_, List.getElem?_eq_getElem hlt⟩
    have dr : ds.drop i = d :: ds.drop (i + 1) := by
      rw [List.drop_eq_getElem_cons hlt]
      rw [List.getElem?_eq_getElem hlt] at hd
      cases hd
      rfl
    rw [dr] at hf
    obtain ⟨_, ρ2, e2, hf⟩ := hf
    obtain ⟨g1, g2⟩ := go i d hd
    refine .inr ⟨g1, fun σ2 H2 => ∃ B2 ρ2 α2, Af K B1 H1 α1 B2 H2 α2 ∧ SR K B2 σ2 H2 ρ2 α2 ∧ forD mg mb G D0 (ds.drop (i + 1)) ρ2 α2, fun σ2 H2 ⟨B2, ρ2, α2, k1, k2, k3⟩ => ⟨ds.length - (i + 1), by omega, B2, ρ2, α2, k1, k2, rfl, hlt, k3⟩, fun x H2 y => ?_⟩
    obtain ⟨sb, rx⟩ := g2 x H2 y
    have A2 := A'.trans S1.bs (Af.of_sub S'.bs sb)
    refine hg B' σ' H2 ρ' α' x d ρ2 (S'.step (Af.of_sub S'.bs sb)) rx e2 _ fun σ3 S3 _ _ => ?_
    have nx : ∀ B4 σ4 H4 ρ4 α4, Af K B' H2 α' B4 H4 α4 → SR K B4 σ4 H4 ρ4 α4 → forD mg mb G D0 (ds.drop (i + 1)) ρ4 α4 → ∃ B2 ρ2 α2, Af K B1 H1 α1 B2 H4 α2 ∧ SR K B2 σ4 H4 ρ2 α2 ∧ forD mg mb G D0 (ds.drop (i + 1)) ρ2 α2 := fun B4 σ4 H4 ρ4 α4 a s f => ⟨B4, ρ4, α4, A2.trans S1.bs a, s, f⟩
    refine hb B' σ3 H2 ρ2 α' S3 _ hf _ ⟨nx, fun v d B4 H4 α4 a r z => h1.rt v d B4 H4 α4 (A2.trans S1.bs a) r z, fun B4 σ4 H4 ρ4 α4 a s z => h1.nx B4 σ4 H4 ρ4 α4 (A2.trans S1.bs a) s z, nx⟩ (x1.after S1.bs A2)
  · have ei : i = ds.length := by omega
    subst ei
    rw [List.drop_length] at hf
    exact .inl ⟨stop, h1.nx B' σ' H' ρ' α' A' S' hf.2⟩
theorem js_for (hi : JI c N sc tg iter mi) (hg : JTg c N sc tg js mg) (hb : JB c N sc body mb) (hc : c.cm = true := by rfl) (hs : ∀ env x, foldedSetIterable iter env x = pure x := by intros; rfl) : JS c N sc (.For tg iter body [] pos) (forS mi mg mb) := by
  obtain ⟨wi, a1, a2⟩ := hi
  obtain ⟨g, b1, b2⟩ := hg
  obtain ⟨t, c1, c2⟩ := hb
  exact ⟨_, fun X W I T => ps_for I.po (I.calm hc) (a1 X W I T) (b1 X I) (c1 X W I T) (hs _), fun W => ss_for (a2 W) b2 (c2 W)⟩
theorem ss_while (ht : Stt K W tt mt) (hb : SS K W tb mb) : SS K W (tWhile tt tb) (whileS mt mb) := fun B σ H ρ α S D0 m Dn h' x => by
  obtain ⟨V, ⟨n, hn⟩, step⟩ := m
  refine ⟨fun n σ' H' => ∃ B' ρ' α', Af K B H α B' H' α' ∧ SR K B' σ' H' ρ' α' ∧ V n ρ' α', ⟨n, B, ρ, α, Af.refl S.bs, S, hn⟩, ?_⟩
  rintro n σ' H' ⟨B', ρ', α', A', S', hv⟩
  refine ht B' σ' H' ρ' α' S' _ _ (step n ρ' α' hv) _ (fun b B2 H2 α2 A2 m => ?_) ((x.after S.bs A').sx S')
  have A3 := A'.trans S.bs A2
  have S2 := S'.step A2
  cases b with
  | false => exact h'.nx B2 σ' H2 ρ' α2 A3 S2 m
  | true =>
    show ∃ N : L2.St → Hp → Prop, _
    refine ⟨fun σ2 H2 => ∃ m', m' < n ∧ ∃ B2 ρ2 α2, Af K B H α B2 H2 α2 ∧ SR K B2 σ2 H2 ρ2 α2 ∧ V m' ρ2 α2, fun σ2 H2 z => z, ?_⟩
    have nx : ∀ B4 σ4 H4 ρ4 α4, Af K B2 H2 α2 B4 H4 α4 → SR K B4 σ4 H4 ρ4 α4 → (∃ m', m' < n ∧ V m' ρ4 α4) → ∃ m', m' < n ∧ ∃ B2 ρ2 α2, Af K B H α B2 H4 α2 ∧ SR K B2 σ4 H4 ρ2 α2 ∧ V m' ρ2 α2 := fun B4 σ4 H4 ρ4 α4 a s ⟨m', hm, f⟩ => ⟨m', hm, B4, ρ4, α4, A3.trans S.bs a, s, f⟩
    exact hb B2 σ' H2 ρ' α2 S2 _ m _ ⟨nx, fun v d B4 H4 α4 a r z => h'.rt v d B4 H4 α4 (A3.trans S.bs a) r z, fun B4 σ4 H4 ρ4 α4 a s z => h'.nx B4 σ4 H4 ρ4 α4 (A3.trans S.bs a) s z, nx⟩ (x.after S.bs A3)
theorem js_while (ht : JT c N sc e mt) (hb : JB c N sc body mb) : JS c N sc (.While e body [] pos) (whileS mt mb) := by
  obtain ⟨t, a1, a2⟩ := ht
  obtain ⟨u, b1, b2⟩ := hb
  exact ⟨_, fun X W I T => ps_while I.po (a1 X W I T) (b1 X W I T), fun W => ss_while (a2 W) (b2 W)⟩
end
def wipeA {α : Type} (l : List (Option α)) : List Nat → List (Option α)
  | [] => l
  | v :: vs => (wipeA l vs).set v none
theorem wipe_eq (σ : L2.St) : ∀ vs, wipe σ vs = wipeA σ vs
  | [] => rfl
  | v :: vs => by
    show (wipe σ vs).set v none = _
    rw [wipe_eq σ vs]
    rfl
theorem wipeA_length {α : Type} (l : List (Option α)) : ∀ vs, (wipeA l vs).length = l.length
  | [] => rfl
  | v :: vs => by
    show ((wipeA l vs).set v none).length = _
    rw [List.length_set, wipeA_length l vs]
theorem wipeA_out {α : Type} {l : List (Option α)} {j : Nat} : ∀ {vs : List Nat}, j ∉ vs → (wipeA l vs)[j]? = l[j]?
  | [], _ => rfl
  | v :: vs, h => by
    rw [List.mem_cons, not_or] at h
    show ((wipeA l vs).set v none)[j]? = _
    rw [List.getElem?_set_ne (Ne.symm h.1), wipeA_out h.2]
theorem wipeA_in {α : Type} {l : List (Option α)} {j : Nat} : ∀ {vs : List Nat}, j ∈ vs → j < l.length → (wipeA l vs)[j]? = some none
  | v :: vs, h, hl => by
    show ((wipeA l vs).set v none)[j]? = _
    by_cases e : v = j
    · subst e
      rw [List.getElem?_set_self (by rw [wipeA_length]; exact hl)]
    · rw [List.getElem?_set_ne e]
      rcases List.mem_cons.mp h with z | z
      · exact absurd z.symm e
      · exact wipeA_in z hl
theorem wipeA_some {α : Type} {l : List (Option α)} {j : Nat} {x : α} {vs : List Nat} (h : (wipeA l vs)[j]? = some (some x)) : j ∉ vs ∧ l[j]? = some (some x) := by
  by_cases q : j ∈ vs
  · have hl : j < l.length := by
      have := (List.getElem?_eq_some_iff.mp h).1
      rwa [wipeA_length] at this
    rw [wipeA_in q hl] at h
    cases h
  · rw [wipeA_out q] at h
    exact ⟨q, h⟩
theorem SR.wipe {K : Frag} {B : Addr → Bool} {σ : L2.St} {H : Hp} {ρ : En} {α : AH} {vs : List Nat} (S : SR K B σ H ρ α) : SR K B (wipe σ vs) H (wipeA ρ vs) α := by
  refine ⟨by rw [wipe_eq, wipeA_length, wipeA_length]; exact S.len, fun i d e => ?_, S.bs⟩
  obtain ⟨a, b⟩ := wipeA_some e
  obtain ⟨v, c, d⟩ := S.val i d b
  exact ⟨v, by rw [wipe_eq, wipeA_out a]; exact c, d⟩
theorem wipe_back {σ σ2 : L2.St} {vs js : List Nat} (loc : ∀ j, j ∉ js → σ2[j]? = (wipe σ vs)[j]?) (hj : ∀ j, j ∈ js → j ∈ vs) (hl : σ2.length = (wipe σ vs).length) : wipe σ2 vs = wipe σ vs := by
  rw [wipe_eq, wipe_eq]
  rw [wipe_eq] at loc hl
  refine List.ext_getElem? fun j => ?_
  by_cases q : j ∈ vs
  · by_cases l : j < σ.length
    · rw [wipeA_in q l, wipeA_in q (by rw [hl, wipeA_length]; exact l)]
    · exact (List.getElem?_eq_none (by rw [wipeA_length, hl, wipeA_length]; omega)).trans (List.getElem?_eq_none (by rw [wipeA_length]; omega)).symm
  · rw [wipeA_out q, loc j fun z => q (hj j z)]
/-- a new thing that is hidden, no cell -/
theorem Af.hid {K : Frag} {B : Addr → Bool} {H : Hp} {α : AH} {l : Addr} {o : HO} (S : Bs K B H α) (h : H l = none) : Af K B H α (ins l B) (upd H l o) α := by
  have hs : Sub (hide B H) (hide (ins l B) (upd H l o)) := sub_ins h (hsub (Sub.new h))
  refine ⟨hs, ⟨fun a d q => ?_, fun a q => ?_⟩, fun b hb n => ⟨ins_of hb, ?_⟩, fun b n _ => n, fun b u g => ⟨u, Sub.new h _ _ g⟩⟩
  · obtain ⟨h1, h2⟩ := S.cel a d q
    obtain ⟨u, g⟩ := h2.ne
    refine ⟨ins_of h1, ?_⟩
    rw [g] at h2
    rw [Sub.new h _ _ g]
    exact h2.mono hs
  · rcases ins_or q with z | z
    · exact ⟨o, by rw [z, upd_same]⟩
    · obtain ⟨o', g⟩ := S.bk a z
      exact ⟨o', Sub.new h _ _ g⟩
  · rw [upd_ne (fun z => by
      obtain ⟨o', g⟩ := S.bk b hb
      rw [z, h] at g
      cases g)]
theorem Af.hidW {K : Frag} {B B' : Addr → Bool} {H H' : Hp} {α α' : AH} {l : Addr} {o : HO} (S : Bs K B H α) (a : Af K B H α B' H' α') (h : H l = none) (b : B' l = true) (n : α' l = none) : Af K B H α B' (upd H' l o) α' ∧ Sub (hide B' H') (hide B' (upd H' l o)) := by
  have hh : hide B' (upd H' l o) = hide B' H' := by
    funext x
    unfold hide
    by_cases q : x = l
    · rw [q, b]
      rfl
    · rw [upd_ne q]
  refine ⟨⟨by rw [hh]; exact a.sub, ⟨fun x d q => ?_, fun x q => ?_⟩, fun x hx nx => ?_, a.fr, fun x u g => ?_⟩, by rw [hh]; exact Sub.refl _⟩
  · rw [hh, upd_ne (fun z => by rw [z, n] at q; cases q)]
    exact a.bs.cel x d q
  · by_cases z : x = l
    · exact ⟨o, by rw [z, upd_same]⟩
    · rw [upd_ne z]
      exact a.bs.bk x q
  · have z : x ≠ l := fun z => by
      obtain ⟨o', g⟩ := S.bk x hx
      rw [z, h] at g
      cases g
    rw [upd_ne z]
    exact a.keep x hx nx
  · by_cases z : x = l
    · exact ⟨o, by rw [z, upd_same]⟩
    · rw [upd_ne z]
      exact a.grow x u g
/-- the hidden thing becomes a cell -/
theorem Af.hidC {K : Frag} {B B' : Addr → Bool} {H H' : Hp} {α α' : AH} {l : Addr} {d : D} (a : Af K B H α B' H' α') (h : H l = none) (b : B' l = true) (c : CellAt K (hide B' H') (H' l) d) : Af K B H α B' H' (aset α' l d) := by
  refine ⟨a.sub, ⟨fun x e q => ?_, a.bs.bk⟩, a.keep, fun x n hx => ?_, a.grow⟩
  · by_cases z : x = l
    · subst z
      rw [aset_same] at q
      cases q
      exact ⟨b, c⟩
    · rw [aset_ne z] at q
      exact a.bs.cel x e q
  · rw [aset_ne (fun z => by rw [z] at hx; exact hx h)]
    exact a.fr x n hx
abbrev NX : QX := fun _ _ => False
def yesK : MT := fun _ α Q _ => Q true α
def lcD (vs : List Nat) (mg : D → En → Option En) (mt : MT) (me : ME) (G : AH → Prop) (ρ : En) (Q : D → AH → Prop) : List D → List D → AH → Prop
  | [], acc, α => G α ∧ Q (.list acc) α
  | d :: ds, acc, α => G α ∧ oq (mg d (wipeA ρ vs)) fun ρ1 => mt ρ1 α (fun b α1 => if b = true then me ρ1 α1 (fun y α2 => acc.length < 100000 ∧ lcD vs mg mt me G ρ Q ds (acc ++ [y]) α2) NX else lcD vs mg mt me G ρ Q ds acc α1) NX
def lcK (vs : List Nat) (mi : MI) (mg : D → En → Option En) (mt : MT) (me : ME) : ME := fun ρ α Q E => mi ρ α (fun ds G α1 => lcD vs mg mt me G ρ Q ds [] α1) E
section
variable {K : Frag} {W : WX} {vs js : List Nat} {mi : MI} {mg : D → En → Option En} {mt : MT} {me : ME} {wi : TI} {g : TG} {tt : TT} {te : TE}
theorem sf_lc (hi : SI K W wi mi) (hg : SgT K js g mg) (hj : ∀ j, j ∈ js → j ∈ vs) (ht : Stt K (fun _ _ _ _ => False) tt mt) (he : Sd K (fun _ _ _ _ => False) te me) : Sf K W (tLc wi g tt te vs) (lcK vs mi mg mt me) := fun B σ H ρ α S Qm Em m Q q x => by
  refine hi B σ H ρ α S _ Em m _ (fun J ds G B1 H1 α1 A ok m => ?_) x
  have S1 := S.step A
  intro l hl
  refine ⟨fun i n H' => ∃ B' α' vacc acc, Af K B1 H1 α1 B' H' α' ∧ B' l = true ∧ α' l = none ∧ H' l = some (.lst vacc) ∧ RpL K (hide B' H') vacc acc ∧ n = ds.length - i ∧ i ≤ ds.length ∧ lcD vs mg mt me G ρ Qm (ds.drop i) acc α',
    ⟨ds.length, ins l B1, α1, [], [], Af.hid S1.bs hl, ins_self, S1.bs.new hl, upd_same, .nil, by simp, Nat.zero_le _, by simpa using m⟩, ?_⟩
  rintro i n H' ⟨B', α', vacc, acc, A', bl, nl, el, rl, rfl, hle, hf⟩
  have hG : G α' := by
    cases q : ds.drop i with
    | nil => rw [q] at hf; exact hf.1
    | cons _ _ => rw [q] at hf; exact hf.1
  obtain ⟨go, stop⟩ := ok B' H' α' A'.sub A'.bs hG
  by_cases hlt : i < ds.length
  · obtain ⟨d, hd⟩ : ∃ d, ds[i]? = some d := ⟨_, List.getElem?_eq_getElem hlt⟩
    have dr : ds.drop i = d :: ds.drop (i + 1) := by
      rw [List.drop_eq_getElem_cons hlt]
      rw [List.getElem?_eq_getElem hlt] at hd
      cases hd
      rfl
    rw [dr] at hf
    obtain ⟨_, ρ2, e2, hf⟩ := hf
    obtain ⟨g1, g2⟩ := go i d hd
    refine .inr ⟨g1, fun H2 => ∃ B2 α2 vacc acc, Af K B1 H1 α1 B2 H2 α2 ∧ B2 l = true ∧ α2 l = none ∧ H2 l = some (.lst vacc) ∧ RpL K (hide B2 H2) vacc acc ∧ lcD vs mg mt me G ρ Qm (ds.drop (i + 1)) acc α2,
      fun H2 ⟨B2, α2, va, ac, k1, k2, k3, k4, k5, k6⟩ => ⟨ds.length - (i + 1), by omega, B2, α2, va, ac, k1, k2, k3, k4, k5, rfl, hlt, k6⟩, fun x H2 y => ?_⟩
    obtain ⟨sb, rx⟩ := g2 x H2 y
    have Ab := Af.of_sub A'.bs sb
    have A2 := A'.trans S1.bs Ab
    have Sw : SR K B' (wipe σ vs) H2 (wipeA ρ vs) α' := (S1.step A2).wipe
    refine hg B' _ H2 _ α' x d ρ2 Sw rx e2 _ fun σ3 S3 loc len => ⟨wipe_back (fun j h => (loc j h).1) hj len, ?_⟩
    have el2 : H2 l = some (.lst vacc) := sb _ _ el
    refine ht B' σ3 H2 ρ2 α' S3 _ NX hf _ (fun b B3 H3 α3 A3 m => ?_) SX.never
    obtain ⟨b3, h3⟩ := A3.keep l bl nl
    have n3 : α3 l = none := A3.fr l nl (by rw [el2]; exact fun z => nomatch z)
    have r3 := rl.mono (hsub sb |>.trans A3.sub)
    have A13 := A2.trans S1.bs A3
    cases b with
    | false => exact ⟨B3, α3, vacc, acc, A13, b3, n3, h3.trans el2, r3, m⟩
    | true =>
      refine he B3 σ3 H3 ρ2 α3 (S3.step A3) _ NX m _ (fun v d4 B4 H4 α4 A4 r4 m => ?_) SX.never
      obtain ⟨b4, h4⟩ := A4.keep l b3 n3
      have e4 : H4 l = some (.lst vacc) := h4.trans (h3.trans el2)
      have n4 : α4 l = none := A4.fr l n3 (by rw [h3, el2]; exact fun z => nomatch z)
      have A14 := A13.trans S1.bs A4
      have ra := r3.mono A4.sub
      obtain ⟨w1, w2⟩ := Af.hidW (o := .lst (vacc ++ [v])) S1.bs A14 hl b4 n4
      exact ⟨vacc, e4, by rw [ra.length]; exact Nat.lt_of_lt_of_le m.1 (by decide), B4, α4, vacc ++ [v], acc ++ [d4], w1, b4, n4, upd_same, (ra.append (.cons r4 .nil)).mono w2, m.2⟩
  · have ei : i = ds.length := by omega
    subst ei
    rw [List.drop_length] at hf
    refine .inl ⟨stop, ?_⟩
    exact q l (.list acc) B' H' α' (A.trans S.bs (A'.hidC hl bl (.own ⟨vacc, el, rl⟩))) nl hf.2
theorem Sf.sd {m : ME} (h : Sf K W te m) : Sd K W te m := fun B σ H ρ α S Qm Em mm Q q x => h B σ H ρ α S Qm Em mm Q (fun l c' B' H' α' A hl qm => by
  obtain ⟨A2, r⟩ := A.frz S.bs aset_same
  rw [adel_aset hl] at A2
  exact q _ c' _ H' α' A2 r qm) x
theorem Sf.new {m : ME} (h : Sf K W te m) : Sd K W te (newK m) := fun B σ H ρ α S Qm Em mm Q q x => h B σ H ρ α S _ Em mm Q (fun l c' B' H' α' A hl qm => q _ _ _ H' _ A .ref (qm l hl)) x
end
/-- the contexts of a block within -/
abbrev C0.inO (c : C0) (oc : List Str) : C0 := { c with top := false, xc := none, oc := oc }
def JTs (c : C0) (N : List Str) (sc : Scope) (es : List Expr) (m : MT) : Prop := ∃ t : WX → TT, (∀ X W, In c N sc X → Takes X W → PTs X es (t W)) ∧ ∀ W, Stt c.K W (t W) m
section
variable {c : C0} {N : List Str} {sc scope : Scope} {elt tg iter : Expr} {ifs : List Expr} {pos p1 spos : Pos} {own : List (Str × Nat)} {js : List Nat} {mi : MI} {mg : D → En → Option En} {mt : MT} {me : ME} {i : Nat} {x : Str}
theorem In.blk {oc : List Str} (ho : (oc.all fun x => scope.names.lookup x == some .cell) = true) {X : Cx} (I : In c N sc X) (s : Shared) (H : Hp) (C : Addr) (cl : List (Str × Addr)) (fp : List Addr) : In (c.inO oc) N (relS scope sc) (X.blk s H scope (compEnvC scope cl C X.env) fp) :=
  ⟨I.P, I.w, I.K, I.mg, I.base, I.rm, I.un, I.N, by
    show relS scope X.env.scope = _
    rw [I.sc], I.calm, fun h => (by cases h), PassesOwn.never, fun h => (by cases h), fun _ _ _ h => (by cases h), fun x h => by
      have h' := List.all_eq_true.mp ho x (List.contains_iff_mem.mp h)
      exact h'⟩
theorem jts_nil : JTs c N sc [] yesK := ⟨_, fun _ _ _ _ => pts_nil, fun _ B σ H ρ α S Qm Em m Q q x => q true B H α (Af.refl S.bs) m⟩
theorem jts_one {e : Expr} (h : JT c N sc e mt) : JTs c N sc [e] mt := by
  obtain ⟨t, h1, h2⟩ := h
  exact ⟨t, fun X W I T => pts_one (h1 X W I T), h2⟩
theorem jf_lc {oc : List Str} (nd : N.Nodup) (hi : JI c N sc tg iter mi) (ok : BlkOk N sc scope own) (hg : JTg (c.inO oc) N (relS scope sc) tg js mg) (ht : JTs (c.inO oc) N (relS scope sc) ifs mt) (he : JE (c.inO oc) N (relS scope sc) elt me)
    (hj : (js.all fun j => (own.map (·.2)).contains j) = true := by rfl) (hc : c.cm = true := by rfl) (ho : (oc.all fun x => scope.names.lookup x == some .cell) = true := by rfl) (hs : ∀ env x, foldedSetIterable iter env x = pure x := by intros; rfl) : JF c N sc (.ListComp elt [⟨tg, iter, ifs, 0⟩] scope pos) (lcK (own.map (·.2)) mi mg mt me) := by
  obtain ⟨wi, a1, a2⟩ := hi
  obtain ⟨g, b1, b2⟩ := hg
  obtain ⟨tt, c1, c2⟩ := ht
  obtain ⟨te, d1, d2⟩ := he
  refine ⟨fun W => tLc (wi W) g (tt fun _ _ _ _ => False) (te fun _ _ _ _ => False) (own.map (·.2)), fun X W I T => pe_lc (I.calm hc) (by rw [I.N]; exact nd) (a1 X W I T) (by rw [I.N, I.sc]; exact ok) (fun s H C cl fp => b1 _ (I.blk ho s H C cl fp)) (fun s H C cl fp => c1 _ _ (I.blk ho s H C cl fp) takes0) (fun s H C cl fp => d1 _ _ (I.blk ho s H C cl fp) takes0) (hs _), fun W => sf_lc (a2 W) b2 (fun j h => ?_) (c2 _) (d2 _)⟩
  have := (List.all_eq_true.mp hj) j h
  simpa using this
/-- name = [..] on one line: a datum (f the identity) or a cell (f newK) -/
theorem js_lc {oc : List Str} {f : ME → ME} (hf : ∀ K W te m, Sf K W te m → Sd K W te (f m)) (nd : N.Nodup) (hN : N[i]? = some x) (hx : sc.names.lookup x = some .local) (hk : sc.kind = .function) (hl : (p1.line == pos.line) = true) (hn : (scope.names.any fun (n, k) => n == x && (k == .local || k == .cell)) = false)
    (hi : JI c N sc tg iter mi) (ok : BlkOk N sc scope own) (hg : JTg (c.inO oc) N (relS scope sc) tg js mg) (ht : JTs (c.inO oc) N (relS scope sc) ifs mt) (he : JE (c.inO oc) N (relS scope sc) elt me)
    (hj : (js.all fun j => (own.map (·.2)).contains j) = true := by rfl) (hc : c.cm = true := by rfl) (ho : (oc.all fun x => scope.names.lookup x == some .cell) = true := by rfl) (hs : ∀ env x, foldedSetIterable iter env x = pure x := by intros; rfl) : JS c N sc (.Assign [.Name x p1] (.ListComp elt [⟨tg, iter, ifs, 0⟩] scope pos) spos) (asgS (f (lcK (own.map (·.2)) mi mg mt me)) (setv i)) := by
  obtain ⟨wi, a1, a2⟩ := hi
  obtain ⟨g, b1, b2⟩ := hg
  obtain ⟨tt, c1, c2⟩ := ht
  obtain ⟨te, d1, d2⟩ := he
  refine ⟨_, fun X W I T => ps_setLc (I.calm hc) (by rw [I.N]; exact nd) (by rw [I.N]; exact hN) (by rw [I.sc]; exact hx) (sw_true (by rw [I.sc]; exact hk) (by rw [I.sc]; exact hx) hl hn) (a1 X W I T) (by rw [I.N, I.sc]; exact ok) (fun s H C cl fp => b1 _ (I.blk ho s H C cl fp)) (fun s H C cl fp => c1 _ _ (I.blk ho s H C cl fp) takes0) (fun s H C cl fp => d1 _ _ (I.blk ho s H C cl fp) takes0) (hs _), fun W => ss_asg (hf _ _ _ _ (sf_lc (a2 W) b2 (fun j h => ?_) (c2 _) (d2 _))) sgt_name⟩
  have := (List.all_eq_true.mp hj) j h
  simpa using this
end
/-- p parameters, n slots -/
def runF (p n : Nat) (m : MS) : Fm := fun ds α Q E => ds.length = p ∧ m (ds.map some ++ List.replicate (n - p) none) α { nx := fun _ α' => Q .none α', rt := Q, bk := fun _ _ => False, ct := fun _ _ => False, ex := fun x _ α' => E x α' }
/-- .. that leaves no cell behind but those that were there -/
def runP (p n : Nat) (m : MS) : Fm := fun ds α Q E => runF p n m ds α (fun d α' => Q d (arst α α')) (fun x α' => E x (arst α α'))
section
variable {K : Frag} {B : Addr → Bool} {H : Hp} {α : AH} {vs : List V} {ds : List D} {n : Nat}
theorem entry_sr (S : Bs K B H α) (r : RpL K (hide B H) vs ds) : SR K B (vs.map some ++ List.replicate n none) H (ds.map some ++ List.replicate n none) α := by
  refine ⟨by simp [r.length], fun i d e => ?_, S⟩
  rcases Nat.lt_or_ge i ds.length with hi | hi
  · rw [List.getElem?_append_left (by simpa using hi), List.getElem?_map] at e
    cases q : ds[i]? with
    | none => rw [q] at e; cases e
    | some d' =>
      rw [q] at e
      cases e
      obtain ⟨v, h1, h2⟩ := r.get' q
      refine ⟨v, ?_, h2⟩
      rw [List.getElem?_append_left (by rw [List.length_map, r.length]; exact hi), List.getElem?_map, h1]
      rfl
  · rw [List.getElem?_append_right (by simpa using hi), List.getElem?_replicate] at e
    split at e <;> cases e
theorem Fi.none_ {D : Md} {Q : VK} (h1 : ∀ B' H' ρ' α', Af K B H α B' H' α' → D.nx ρ' α' → Q .non H') (h2 : ∀ v d B' H' α', Af K B H α B' H' α' → Rp K (hide B' H') v d → D.rt d α' → Q v H') (h3 : ∀ ρ' α', ¬ D.bk ρ' α') (h4 : ∀ ρ' α', ¬ D.ct ρ' α') : Fi K B H α D { nx := fun _ H' => Q .non H', rt := Q } :=
  ⟨fun B' σ' H' ρ' α' a _ z => h1 B' H' ρ' α' a z, h2, fun _ _ _ ρ' α' _ _ z => (h3 ρ' α' z).elim, fun _ _ _ ρ' α' _ _ z => (h4 ρ' α' z).elim⟩
end
theorem spD_pure {K : Frag} {p n : Nat} {m : MS} {vs : List V} {H : Hp} {Q : VK} {E : XK} (h : spD K (runP p n m) vs H Q E) : spD K (runF p n m) vs H Q E := by
  obtain ⟨B, α, ds, Qm, Em, S0, r, mm, q, y⟩ := h
  refine ⟨B, α, ds, _, _, S0, r, mm, fun v d B' H' α' a r z => ?_, fun x B' α' cls d H' a xr z => ?_⟩
  · obtain ⟨B2, a2, s2⟩ := a.rst S0
    exact q v d B2 H' _ a2 (r.mono s2) z
  · obtain ⟨B2, a2, s2⟩ := a.rst S0
    exact y x B2 _ cls d H' a2 (xr.mono s2) z
end Hz
namespace Hz
open PySem L2
variable {c : C0} {N : List Str} {sc : Scope}
def okD : Nat → D → Bool
  | _, .none => true
  | _, .bool _ => true
  | _, .int _ => true
  | _, .str x => PyData.strOk x
  | k + 1, .list ds => ds.all (okD k)
  | k + 1, .tuple ds => ds.all (okD k)
  | _, _ => false
theorem okD_all {k : Nat} (h : ∀ d, okD k d = true → d.canLay0 = true ∧ d.depth ≤ k ∧ plain d = true) : ∀ ds : List D, ds.all (okD k) = true → PyData.canLayAll0 ds = true ∧ PyData.depthAll ds ≤ k ∧ plains ds = true
  | [], _ => ⟨rfl, Nat.zero_le _, rfl⟩
  | d :: ds, q => by
    have q' : okD k d = true ∧ ds.all (okD k) = true := by simpa using q
    obtain ⟨a1, a2, a3⟩ := h d q'.1
    obtain ⟨b1, b2, b3⟩ := okD_all h ds q'.2
    refine ⟨by simp [PyData.canLayAll0, a1, b1], ?_, by simp [plains, a3, b3]⟩
    show max d.depth (PyData.depthAll ds) ≤ k
    omega
theorem okD_ok : ∀ (k : Nat) (d : D), okD k d = true → d.canLay0 = true ∧ d.depth ≤ k ∧ plain d = true
  | k, .none, _ => ⟨rfl, by cases k <;> exact Nat.zero_le _, rfl⟩
  | k, .bool _, _ => ⟨rfl, by cases k <;> exact Nat.zero_le _, rfl⟩
  | k, .int _, _ => ⟨rfl, by cases k <;> exact Nat.zero_le _, rfl⟩
  | k, .str x, h => ⟨by cases k <;> exact h, by cases k <;> exact Nat.zero_le _, rfl⟩
  | 0, .list ds, h => by cases h
  | 0, .tuple ds, h => by cases h
  | k + 1, .list ds, h => by
    obtain ⟨a, b, c⟩ := okD_all (okD_ok k) ds h
    exact ⟨a, Nat.succ_le_succ b, c⟩
  | k + 1, .tuple ds, h => by
    obtain ⟨a, b, c⟩ := okD_all (okD_ok k) ds h
    exact ⟨a, Nat.succ_le_succ b, c⟩
  | 0, .dict _, h => by cases h
  | k + 1, .dict _, h => by cases h
theorem okD_shaped {k : Nat} {d : D} (h : okD k d = true) (hk : k ≤ 64) : SeqAt.shaped d = true ∧ plain d = true := by
  obtain ⟨a, b, e⟩ := okD_ok k d h
  exact ⟨by unfold SeqAt.shaped; simp [a]; omega, e⟩
theorem lst_new {K : Frag} {B : Addr → Bool} {H : Hp} {p : Addr} {vs : List V} {ds : List D} (bk : ∀ a, B a = true → ∃ o, H a = some o) (h : H p = none) (r : RpL K (hide B H) vs ds) : Sub H (upd H p (.lst vs)) ∧ Rp K (hide B (upd H p (.lst vs))) (.ref p) (.list ds) := by
  have bp : B p = false := by
    cases q : B p with
    | false => rfl
    | true => obtain ⟨o, e⟩ := bk p q; rw [h] at e; cases e
  exact ⟨Sub.new h, .lst (.inl (.inl (hide_of bp upd_same))) (r.mono (hsub (Sub.new h)))⟩
/-- t + u, its object known -/
def rCatX (K : Frag) : R2 := fun x y H Q => ∃ a b xs ys, x = .ref a ∧ y = .ref b ∧ SqT K H a xs ∧ SqT K H b ys ∧ xs.length + ys.length ≤ sizeLine ∧
  (xs = [] → Q (.ref b) H) ∧ (xs ≠ [] → ys = [] → Q (.ref a) H) ∧ (xs ≠ [] → ys ≠ [] → ∀ p o, ExT o → H p = none → Q (.ref p) (upd H p (.frz o (.tup (xs ++ ys)))))
theorem op_catX {X : Cx} : OpR X (binaryOp .Add) (rCatX X.K) := by
  intro pins s σ H x y v u Q I rx ry h
  obtain ⟨a, b, xs, ys, rfl, rfl, ha, hb, hz, q0, q1, q2⟩ := h
  cases rx
  cases ry
  obtain ⟨its, r1, p1, _⟩ := I.tuple ha
  obtain ⟨its2, r2, p2, _⟩ := I.tuple hb
  by_cases hx : xs = []
  · subst hx
    cases r1
    exact cat_tup0 p1 p2 ⟨.ref b, H, I, rfl, q0 rfl⟩
  · refine HT.cat_tup p1 p2 (fun z => hx (r1.nil_iff.mp z)) (fun z => ⟨.ref a, H, I, rfl, q1 hx (r2.nil_iff.mp z)⟩) (fun z => ?_) (by rw [← r1.length, ← r2.length]; exact hz)
    exact ⟨.ref s.heap.objs.size, _, tnew I (r1.append r2) (by rw [List.length_append]; exact hz), rfl, q2 hx (fun w => z (r2.nil_iff.mpr w)) _ _ ⟨rfl, rfl⟩ (I.hok.fresh (Nat.le_refl _))⟩
/-- list + list, whatever the lists are -/
def rCatL (K : Frag) : R2 := fun x y H Q => ∃ a b xs ys, x = .ref a ∧ y = .ref b ∧ SqL K H a xs ∧ SqL K H b ys ∧ xs.length + ys.length ≤ sizeLine ∧ ∀ p, H p = none → Q (.ref p) (upd H p (.lst (xs ++ ys)))
theorem op_catL {X : Cx} : OpR X (binaryOp .Add) (rCatL X.K) := by
  intro pins s σ H x y v u Q I rx ry h
  obtain ⟨l, b, xs, zs, rfl, rfl, hH, hB, hz, q⟩ := h
  cases rx
  cases ry
  obtain ⟨its, r, pl, z1⟩ := I.list hH
  obtain ⟨its2, r2, pl2, z2⟩ := I.list hB
  have l1 := r.length
  have l2 := r2.length
  obtain ⟨⟨cls, dd, data, sl⟩, ho, hc, n, hd⟩ := pl.isList
  obtain ⟨⟨cls2, dd2, data2, sl2⟩, ho2, hc2, n2, hd2⟩ := pl2.isList
  simp only at hc hd hc2 hd2
  subst hc hd hc2 hd2
  have e : its.toArray ++ its2.toArray = (its ++ its2).toArray := by simp
  refine concat_meets ⟨_, ho, rfl⟩ ⟨_, ho2, rfl⟩ noFill_list_add seq_list_add PySem.F.slot_list_add PySem.F.entry_list_add (PySem.F.args_list_add_2 _ _) (PyProof.Rows.list_addW l b its.toArray its2.toArray n n2 dd dd2 sl sl2 (by rw [List.size_toArray, List.size_toArray]; omega)) ⟨ho, ho2, ?_⟩
  rw [e]
  exact ⟨.ref _, _, I.lnew (t' := s.toks) (r.append r2) (by rw [List.length_append]; omega), rfl, q _ I.fresh⟩
def dAdd : D → D → Option D
  | .int a, .int b => some (.int (a + b))
  | .str a, .str b => if a.length + b.length ≤ 100000 then some (.str (a ++ b)) else none
  | .list a, .list b => if a.length + b.length ≤ 100000 then some (.list (a ++ b)) else none
  | .tuple a, .tuple b => if a.length + b.length ≤ 100000 then some (.tuple (a ++ b)) else none
  | _, _ => none
theorem o_add : OpD c.K (In c N sc) (binaryOp .Add) dAdd := by
  refine ⟨_, fun X I => by
    have h := OpR.or (X := X) op_add (OpR.or op_add_str (OpR.or op_catL op_catX))
    rw [I.K] at h
    exact h, fun B H x y d e z bk hx hy hz Q q => ?_⟩
  unfold dAdd at hz
  split at hz
  · cases hz
    exact .inl ⟨_, _, hx.int, hy.int, q _ H (Sub.refl H) (.int _)⟩
  · split at hz
    · rename_i hl
      cases hz
      exact .inr (.inl ⟨_, _, hx.str, hy.str, sz5 hl, q _ H (Sub.refl H) (.str _)⟩)
    · cases hz
  · split at hz
    · rename_i hl
      cases hz
      obtain ⟨a, xs, rfl, h1, r1⟩ := hx.list
      obtain ⟨b, ys, rfl, h2, r2⟩ := hy.list
      refine .inr (.inr (.inl ⟨a, b, xs, ys, rfl, rfl, h1, h2, by rw [r1.length, r2.length]; exact sz5 hl, fun p hp => ?_⟩))
      obtain ⟨s1, r3⟩ := lst_new bk hp (r1.append r2)
      exact q _ _ s1 r3
    · cases hz
  · split at hz
    · rename_i a b hl
      cases hz
      obtain ⟨a, xs, rfl, h1, r1⟩ := hx.tuple
      obtain ⟨b, ys, rfl, h2, r2⟩ := hy.tuple
      have sub : ∀ {w : Addr} {us : List V} {ds : List D}, Rs c.K B H (.ref w) (.tuple ds) → Rp c.K (hide B H) (.ref w) (.tuple ds) := fun h => by
        cases h with
        | vis h => exact h
      refine .inr (.inr (.inr ⟨a, b, xs, ys, rfl, rfl, h1, h2, by rw [r1.length, r2.length]; exact sz5 hl, fun e => ?_, fun _ e => ?_, fun _ _ p o ho hp => ?_⟩))
      · subst e
        cases r1
        exact q _ H (Sub.refl H) (sub (us := ys) hy)
      · subst e
        cases r2
        rw [List.append_nil] at q
        exact q _ H (Sub.refl H) (sub (us := xs) hx)
      · obtain ⟨s1, r3⟩ := tup_new bk ho hp (r1.append r2)
        exact q _ _ s1 r3
    · cases hz
  · cases hz
/-- list + list, a new list of the def's own -/
def dCat : D → D → Option D
  | .list a, .list b => if a.length + b.length ≤ 100000 then some (.list (a ++ b)) else none
  | _, _ => none
theorem of_cat : OpF c.K (In c N sc) (binaryOp .Add) dCat := by
  refine ⟨_, fun X I => by
    have h := op_catL (X := X)
    rw [I.K] at h
    exact h, fun B H x y d e z bk hx hy hz Q q => ?_⟩
  unfold dCat at hz
  split at hz
  · split at hz
    · rename_i hl
      cases hz
      obtain ⟨a, xs, rfl, h1, r1⟩ := hx.list
      obtain ⟨b, ys, rfl, h2, r2⟩ := hy.list
      refine ⟨a, b, xs, ys, rfl, rfl, h1, h2, by rw [r1.length, r2.length]; exact sz5 hl, fun p hp => ?_⟩
      exact q _ _ (Sub.new hp) hp (own_new hp (r1.append r2))
    · cases hz
  · cases hz
def dSub : D → D → Option D
  | .int a, .int b => some (.int (a - b))
  | _, _ => none
theorem o_sub : OpD c.K (In c N sc) (binaryOp .Sub) dSub := by
  refine ⟨_, fun X I => op_sub, fun B H x y d e z bk hx hy hz Q q => ?_⟩
  unfold dSub at hz
  split at hz
  · cases hz
    exact ⟨_, _, hx.int, hy.int, q _ H (Sub.refl H) (.int _)⟩
  · cases hz
/-- one factor below 2^64 -/
def dMul : D → D → Option D
  | .int a, .int b => if (-(2 ^ 64) < a ∧ a < 2 ^ 64) ∨ (-(2 ^ 64) < b ∧ b < 2 ^ 64) then some (.int (a * b)) else none
  | _, _ => none
theorem o_mul : OpD c.K (In c N sc) (binaryOp .Mult) dMul := by
  refine ⟨_, fun X I => op_mul, fun B H x y d e z bk hx hy hz Q q => ?_⟩
  unfold dMul at hz
  split at hz
  · split at hz
    · rename_i hc
      cases hz
      exact ⟨_, _, hx.int, hy.int, hc, q _ H (Sub.refl H) (.int _)⟩
    · cases hz
  · cases hz
def dMod : D → D → Option D
  | .int a, .int b => if 0 < b then some (.int (a % b)) else none
  | _, _ => none
theorem o_mod : OpD c.K (In c N sc) (binaryOp .Mod) dMod := by
  refine ⟨_, fun X I => op_mod, fun B H x y d e z bk hx hy hz Q q => ?_⟩
  unfold dMod at hz
  split at hz
  · split at hz
    · rename_i hc
      cases hz
      exact ⟨_, _, hx.int, hy.int, hc, q _ H (Sub.refl H) (.int _)⟩
    · cases hz
  · cases hz
/-- a divisor below 2^9000 -/
def dDiv : D → D → Option D
  | .int a, .int b => if 0 < b ∧ b < 2 ^ 80 then some (.int (a / b)) else none
  | _, _ => none
theorem o_div : OpD c.K (In c N sc) (binaryOp .FloorDiv) dDiv := by
  refine ⟨_, fun X I => op_fdivW, fun B H x y d e z bk hx hy hz Q q => ?_⟩
  unfold dDiv at hz
  split at hz
  · split at hz
    · rename_i hc
      cases hz
      exact ⟨_, _, hx.int, hy.int, wide_div (b := 80) hc.1 (by omega) (by decide) (by decide), q _ H (Sub.refl H) (.int _)⟩
    · cases hz
  · cases hz
def dPow : D → D → Option D
  | .int a, .int b => if 0 ≤ b ∧ b ≤ 1000000 ∧ a.natAbs < 2 ^ 64 then some (.int (a ^ b.toNat)) else none
  | _, _ => none
theorem o_pow : OpD c.K (In c N sc) (binaryOp .Pow) dPow := by
  refine ⟨_, fun X I => op_pow, fun B H x y d e z bk hx hy hz Q q => ?_⟩
  unfold dPow at hz
  split at hz
  · split at hz
    · rename_i hc
      cases hz
      exact ⟨_, _, hx.int, hy.int, hc, q _ H (Sub.refl H) (.int _)⟩
    · cases hz
  · cases hz
def dShl : D → D → Option D
  | .int a, .int b => if 0 ≤ b ∧ b ≤ 1000000 ∧ a.natAbs < 2 ^ 64 then some (.int (a * 2 ^ b.toNat)) else none
  | _, _ => none
theorem o_shl : OpD c.K (In c N sc) (binaryOp .LShift) dShl := by
  refine ⟨_, fun X I => op_shl, fun B H x y d e z bk hx hy hz Q q => ?_⟩
  unfold dShl at hz
  split at hz
  · split at hz
    · rename_i hc
      cases hz
      exact ⟨_, _, hx.int, hy.int, hc, q _ H (Sub.refl H) (.int _)⟩
    · cases hz
  · cases hz
def dShr : D → D → Option D
  | .int a, .int b => if 0 ≤ b then some (.int (a / 2 ^ b.toNat)) else none
  | _, _ => none
theorem o_shr : OpD c.K (In c N sc) (binaryOp .RShift) dShr := by
  refine ⟨_, fun X I => op_shr, fun B H x y d e z bk hx hy hz Q q => ?_⟩
  unfold dShr at hz
  split at hz
  · split at hz
    · rename_i hc
      cases hz
      exact ⟨_, _, hx.int, hy.int, hc, q _ H (Sub.refl H) (.int _)⟩
    · cases hz
  · cases hz
/-- data that are alike, in order -/
def okC (d e : D) : Bool := okD 60 d && okD 60 e && PySem.W.alike d e && (match d with
  | .none => false
  | _ => true)
theorem okC_all {d e : D} (h : okC d e = true) : okD 60 d = true ∧ okD 60 e = true ∧ PySem.W.alike d e = true ∧ d ≠ .none := by
  unfold okC at h
  simp only [Bool.and_eq_true] at h
  refine ⟨h.1.1.1, h.1.1.2, h.1.2, fun z => ?_⟩
  rw [z] at h
  cases h.2
def rCmpLt (K : Frag) : R2 := fun x y H Q => ∃ d e, Dp K H x d ∧ Dp K H y e ∧ okC d e = true ∧ Q (.bl (PySem.W.dataLt d e)) H
theorem op_cmpLt {X : Cx} (hu : X.A.units + 64 < cLine) : OpR X (compareOp .Lt) (rCmpLt X.K) := by
  intro pins s σ H x y v u Q I rx ry h
  obtain ⟨d, e, hd, he, ok, q⟩ := h
  obtain ⟨k1, k2, k3, k4⟩ := okC_all ok
  obtain ⟨as, r1⟩ := Dp.reads I d x v hd rx
  obtain ⟨bs, r2⟩ := Dp.reads I e y u he ry
  have z := (okD_ok 60 d k1).2.1
  exact PySem.W.lt_data r1 r2 k3 k4 (by omega) ⟨.bl _, H, I, rfl, q⟩
def dLt (d e : D) : Option D := match d, e with
  | .int a, .int b => some (.bool (decide (a < b)))
  | .str a, .str b => some (.bool (decide (a.cps.toList < b.cps.toList)))
  | d, e => if okC d e = true then some (.bool (PySem.W.dataLt d e)) else none
theorem o_lt : OpD c.K (In c N sc) (compareOp .Lt) dLt := by
  refine ⟨_, fun X I => by
    have h := OpR.or (X := X) op_lt (OpR.or op_lt_str (op_cmpLt I.u64))
    rw [I.K] at h
    exact h, fun B H x y d e z bk hx hy hz Q q => ?_⟩
  unfold dLt at hz
  split at hz
  · cases hz
    exact .inl ⟨_, _, hx.int, hy.int, q _ H (Sub.refl H) (.bl _)⟩
  · cases hz
    exact .inr (.inl ⟨_, _, hx.str, hy.str, q _ H (Sub.refl H) (.bl _)⟩)
  · split at hz
    · rename_i ok
      cases hz
      obtain ⟨k1, k2, k3, k4⟩ := okC_all ok
      exact .inr (.inr ⟨_, _, hx.rp.dp (okD_ok 60 _ k1).2.2, hy.rp.dp (okD_ok 60 _ k2).2.2, ok, q _ H (Sub.refl H) (.bl _)⟩)
    · cases hz
def rCmpGt (K : Frag) : R2 := fun x y H Q => ∃ d e, Dp K H x d ∧ Dp K H y e ∧ okC d e = true ∧ Q (.bl (PySem.W.dataLt e d)) H
theorem op_cmpGt {X : Cx} (hu : X.A.units + 64 < cLine) : OpR X (compareOp .Gt) (rCmpGt X.K) := by
  intro pins s σ H x y v u Q I rx ry h
  obtain ⟨d, e, hd, he, ok, q⟩ := h
  obtain ⟨k1, k2, k3, k4⟩ := okC_all ok
  obtain ⟨as, r1⟩ := Dp.reads I d x v hd rx
  obtain ⟨bs, r2⟩ := Dp.reads I e y u he ry
  have z := (okD_ok 60 d k1).2.1
  exact PySem.W.gt_data r1 r2 k3 k4 (by omega) ⟨.bl _, H, I, rfl, q⟩
def dGt (d e : D) : Option D := match d, e with
  | .int a, .int b => some (.bool (decide (b < a)))
  | .str a, .str b => some (.bool (decide (b.cps.toList < a.cps.toList)))
  | d, e => if okC d e = true then some (.bool (PySem.W.dataLt e d)) else none
theorem o_gt : OpD c.K (In c N sc) (compareOp .Gt) dGt := by
  refine ⟨_, fun X I => by
    have h := OpR.or (X := X) op_gt (OpR.or op_gt_str (op_cmpGt I.u64))
    rw [I.K] at h
    exact h, fun B H x y d e z bk hx hy hz Q q => ?_⟩
  unfold dGt at hz
  split at hz
  · cases hz
    exact .inl ⟨_, _, hx.int, hy.int, q _ H (Sub.refl H) (.bl _)⟩
  · cases hz
    exact .inr (.inl ⟨_, _, hx.str, hy.str, q _ H (Sub.refl H) (.bl _)⟩)
  · split at hz
    · rename_i ok
      cases hz
      obtain ⟨k1, k2, k3, k4⟩ := okC_all ok
      exact .inr (.inr ⟨_, _, hx.rp.dp (okD_ok 60 _ k1).2.2, hy.rp.dp (okD_ok 60 _ k2).2.2, ok, q _ H (Sub.refl H) (.bl _)⟩)
    · cases hz
def rCmpLtE (K : Frag) : R2 := fun x y H Q => ∃ d e, Dp K H x d ∧ Dp K H y e ∧ okC d e = true ∧ Q (.bl (!PySem.W.dataLt e d)) H
theorem op_cmpLtE {X : Cx} (hu : X.A.units + 64 < cLine) : OpR X (compareOp .LtE) (rCmpLtE X.K) := by
  intro pins s σ H x y v u Q I rx ry h
  obtain ⟨d, e, hd, he, ok, q⟩ := h
  obtain ⟨k1, k2, k3, k4⟩ := okC_all ok
  obtain ⟨as, r1⟩ := Dp.reads I d x v hd rx
  obtain ⟨bs, r2⟩ := Dp.reads I e y u he ry
  have z := (okD_ok 60 d k1).2.1
  exact PySem.W.le_data r1 r2 k3 k4 (by omega) ⟨.bl _, H, I, rfl, q⟩
def dLe (d e : D) : Option D := match d, e with
  | .int a, .int b => some (.bool (decide (a ≤ b)))
  | d, e => if okC d e = true then some (.bool (!PySem.W.dataLt e d)) else none
theorem o_le : OpD c.K (In c N sc) (compareOp .LtE) dLe := by
  refine ⟨_, fun X I => by
    have h := OpR.or (X := X) op_le (op_cmpLtE I.u64)
    rw [I.K] at h
    exact h, fun B H x y d e z bk hx hy hz Q q => ?_⟩
  unfold dLe at hz
  split at hz
  · cases hz
    exact .inl ⟨_, _, hx.int, hy.int, q _ H (Sub.refl H) (.bl _)⟩
  · split at hz
    · rename_i ok
      cases hz
      obtain ⟨k1, k2, k3, k4⟩ := okC_all ok
      exact .inr (⟨_, _, hx.rp.dp (okD_ok 60 _ k1).2.2, hy.rp.dp (okD_ok 60 _ k2).2.2, ok, q _ H (Sub.refl H) (.bl _)⟩)
    · cases hz
def rCmpGtE (K : Frag) : R2 := fun x y H Q => ∃ d e, Dp K H x d ∧ Dp K H y e ∧ okC d e = true ∧ Q (.bl (!PySem.W.dataLt d e)) H
theorem op_cmpGtE {X : Cx} (hu : X.A.units + 64 < cLine) : OpR X (compareOp .GtE) (rCmpGtE X.K) := by
  intro pins s σ H x y v u Q I rx ry h
  obtain ⟨d, e, hd, he, ok, q⟩ := h
  obtain ⟨k1, k2, k3, k4⟩ := okC_all ok
  obtain ⟨as, r1⟩ := Dp.reads I d x v hd rx
  obtain ⟨bs, r2⟩ := Dp.reads I e y u he ry
  have z := (okD_ok 60 d k1).2.1
  exact PySem.W.ge_data r1 r2 k3 k4 (by omega) ⟨.bl _, H, I, rfl, q⟩
def dGe (d e : D) : Option D := match d, e with
  | .int a, .int b => some (.bool (decide (b ≤ a)))
  | d, e => if okC d e = true then some (.bool (!PySem.W.dataLt d e)) else none
theorem o_ge : OpD c.K (In c N sc) (compareOp .GtE) dGe := by
  refine ⟨_, fun X I => by
    have h := OpR.or (X := X) op_ge (op_cmpGtE I.u64)
    rw [I.K] at h
    exact h, fun B H x y d e z bk hx hy hz Q q => ?_⟩
  unfold dGe at hz
  split at hz
  · cases hz
    exact .inl ⟨_, _, hx.int, hy.int, q _ H (Sub.refl H) (.bl _)⟩
  · split at hz
    · rename_i ok
      cases hz
      obtain ⟨k1, k2, k3, k4⟩ := okC_all ok
      exact .inr (⟨_, _, hx.rp.dp (okD_ok 60 _ k1).2.2, hy.rp.dp (okD_ok 60 _ k2).2.2, ok, q _ H (Sub.refl H) (.bl _)⟩)
    · cases hz
def dEqB (d e : D) : Option Bool := match d, e with
  | .str a, .str b => some (a == b)
  | _, _ => if okD 60 d = true ∧ okD 60 e = true then some (PyData.eqv d e) else none
def dEq (d e : D) : Option D := (dEqB d e).map .bool
def dNe (d e : D) : Option D := (dEqB d e).map fun b => .bool (!b)
theorem o_eq : OpD c.K (In c N sc) (compareOp .Eq) dEq := by
  refine ⟨_, fun X I => by
    have h := OpR.or (X := X) op_eq (op_eqD I.u64)
    rw [I.K] at h
    exact h, fun B H x y d e z bk hx hy hz Q q => ?_⟩
  unfold dEq dEqB at hz
  split at hz
  · simp at hz
    subst hz
    refine .inl ⟨?_, ?_⟩
    · rw [hx.str, hy.str]; rfl
    · rw [hx.str, hy.str, dec_str]
      exact q _ H (Sub.refl H) (.bl _)
  · split at hz
    · rename_i ho
      simp at hz
      subst hz
      obtain ⟨a1, a2⟩ := okD_shaped ho.1 (by decide)
      obtain ⟨b1, b2⟩ := okD_shaped ho.2 (by decide)
      exact .inr ⟨d, e, hx.rp.dp a2, hy.rp.dp b2, a1, b1, q _ H (Sub.refl H) (.bl _)⟩
    · simp at hz
theorem o_ne : OpD c.K (In c N sc) (compareOp .NotEq) dNe := by
  refine ⟨_, fun X I => by
    have h := OpR.or (X := X) op_ne (op_neD I.u64)
    rw [I.K] at h
    exact h, fun B H x y d e z bk hx hy hz Q q => ?_⟩
  unfold dNe dEqB at hz
  split at hz
  · simp at hz
    subst hz
    refine .inl ⟨?_, ?_⟩
    · rw [hx.str, hy.str]; rfl
    · rw [hx.str, hy.str, dec_str]
      exact q _ H (Sub.refl H) (.bl _)
  · split at hz
    · rename_i ho
      simp at hz
      subst hz
      obtain ⟨a1, a2⟩ := okD_shaped ho.1 (by decide)
      obtain ⟨b1, b2⟩ := okD_shaped ho.2 (by decide)
      exact .inr ⟨d, e, hx.rp.dp a2, hy.rp.dp b2, a1, b1, q _ H (Sub.refl H) (.bl _)⟩
    · simp at hz
def isNoneD : D → Bool
  | .none => true
  | _ => false
def dIs : D → D → Option D := fun d e => if isNoneD e then some (.bool (isNoneD d)) else none
def dIsNot : D → D → Option D := fun d e => if isNoneD e then some (.bool (!isNoneD d)) else none
theorem rs_none {K : Frag} {B : Addr → Bool} {H : Hp} {v : V} {d : D} (h : Rs K B H v d) : decide (v = .non) = isNoneD d := by
  have h := h.rp
  cases h <;> rfl
theorem o_is : OpD c.K (In c N sc) (compareOp .Is) dIs := by
  refine ⟨_, fun X I => op_isN, fun B H x y d e z bk hx hy hz Q q => ?_⟩
  unfold dIs at hz
  split at hz
  · rename_i he
    cases hz
    have : e = .none := by
      cases e <;> first | rfl | cases he
    subst this
    refine ⟨hy.none, ?_⟩
    rw [rs_none hx]
    exact q _ H (Sub.refl H) (.bl _)
  · cases hz
/-- x in a text (one sign) | a list of any data | a tuple of flat data -/
def flatD : D → Bool
  | .none => true
  | .bool _ => true
  | .int _ => true
  | .str _ => true
  | _ => false
theorem flatD_v {K : Frag} {H : Hp} {v : V} {d : D} (h : Rp K H v d) (f : flatD d = true) : flatV v = true := by
  cases h <;> first | rfl | cases f
theorem flatD_all {K : Frag} {H : Hp} : ∀ {vs : List V} {ds : List D}, RpL K H vs ds → ds.all flatD = true → vs.all flatV = true
  | _, _, .nil, _ => rfl
  | _, _, .cons h r, f => by
    simp at f ⊢
    exact ⟨flatD_v h f.1, by simpa using flatD_all r (by simpa using f.2)⟩
theorem eqV_eqv {K : Frag} {H H' : Hp} {v u : V} {d e : D} (h : Rp K H v d) (k : Rp K H' u e) (f : flatD d = true) (g : flatD e = true) : eqV v u = PyData.eqv d e := by
  cases h <;> first | (cases f; done) | (cases k <;> first | (cases g; done) | rfl)
theorem inV_any {K : Frag} {H H' : Hp} {x : V} {d : D} (h : Rp K H' x d) (f : flatD d = true) : ∀ {vs : List V} {ds : List D}, RpL K H vs ds → ds.all flatD = true → inV x vs = ds.any fun z => PyData.eqv z d
  | _, _, .nil, _ => rfl
  | _, _, .cons r rr, g => by
    simp at g
    have ih := inV_any h f rr (by simpa using g.2)
    unfold inV at ih ⊢
    rw [List.any_cons, List.any_cons, ih, eqV_eqv r h g.1 f]
def dInB (d e : D) : Option Bool := match d, e with
  | .str ⟨⟨[c]⟩⟩, .str z => some (decide (c ∈ z.cps.toList))
  | d, .list ds => if okD 60 d = true ∧ okD 60 (.list ds) = true then some (ds.any fun z => PyData.eqv z d) else none
  | d, .tuple ds => if flatD d = true ∧ ds.all flatD = true then some (ds.any fun z => PyData.eqv z d) else none
  | _, _ => none
def dIn (d e : D) : Option D := (dInB d e).map .bool
def dNotIn (d e : D) : Option D := (dInB d e).map fun b => .bool (!b)
theorem o_notIn : OpD c.K (In c N sc) (compareOp .NotIn) dNotIn := by
  refine ⟨_, fun X I => by
    have h := OpR.or (X := X) op_notIn_sign (OpR.or (op_notInD (I.u65)) op_notIn_seq)
    rw [I.K] at h
    exact h, fun B H x y d e z bk hx hy hz Q q => ?_⟩
  unfold dNotIn dInB at hz
  split at hz
  · simp at hz
    subst hz
    exact .inl ⟨_, _, hx.str, hy.str, by simpa using q _ H (Sub.refl H) (.bl _)⟩
  · split at hz
    · rename_i ho
      simp at hz
      subst hz
      obtain ⟨a1, a2⟩ := okD_shaped ho.1 (by decide)
      obtain ⟨b1, b2⟩ := okD_shaped ho.2 (by decide)
      exact .inr (.inl ⟨_, _, hx.rp.dp a2, hy.rp.dp b2, a1, b1, q _ H (Sub.refl H) (.bl _)⟩)
    · simp at hz
  · split at hz
    · rename_i ho
      simp at hz
      subst hz
      obtain ⟨a, xs, rfl, h1, r1⟩ := hy.tuple
      refine .inr (.inr ⟨a, xs, rfl, .inr h1, flatD_v hx.rp ho.1, flatD_all r1 ho.2, ?_⟩)
      rw [if_pos rfl, inV_any hx.rp ho.1 r1 ho.2]
      exact q _ H (Sub.refl H) (.bl _)
    · simp at hz
  · simp at hz
end Hz
namespace Hz
open PySem L2
def negK (m : ME) : ME := fun ρ α Q E => m ρ α (fun d α1 => ∃ i : Int, d = .int i ∧ Q (.int (-i)) α1) E
section
variable {c : C0} {N : List Str} {sc : Scope} {a b : Expr} {ma mb : ME} {g : D → D → Option D} {i : Nat} {pos p1 : Pos} {x : Str}
theorem je_neg (h : JE c N sc a ma) : JE c N sc (.UnaryOp .USub a pos) (negK ma) := by
  obtain ⟨t, h1, h2⟩ := h
  refine ⟨_, fun X W I T => pe_un un_neg (h1 X W I T), fun W B σ H ρ α S Qm Em m Q q x => h2 W B σ H ρ α S _ Em m _ (fun v d B1 H1 α1 A r m => ?_) x⟩
  obtain ⟨z, rfl, m⟩ := m
  exact ⟨z, r.inti, q _ _ B1 H1 α1 A (.int _) m⟩
structure IxD (K : Frag) (XS : Cx → Prop) (g : D → D → Option D) : Prop where
  ex : ∃ r : R2, (∀ X, XS X → IxR X r) ∧ ∀ (B : Addr → Bool) (H : Hp) (x y : V) (d e z : D), (∀ a, B a = true → ∃ o, H a = some o) → Rs K B H x d → Rs K B H y e → g d e = some z →
    ∀ Q : VK, (∀ v H', Sub H H' → Rp K (hide B H') v z → Q v H') → r x y H Q
def dIx : D → D → Option D
  | .list ds, .int i => (ixN ds.length i).bind fun j => ds[j]?
  | .tuple ds, .int i => (ixN ds.length i).bind fun j => ds[j]?
  | .str z, .int i => if z.length ≤ 100000 then (ixN z.cps.toList.length i).bind fun j => (z.cps.toList[j]?).map fun k => .str ⟨#[k]⟩ else none
  | _, _ => none
theorem o_ix : IxD c.K (In c N sc) dIx := by
  refine ⟨_, fun X I => by
    have h := IxR.or (X := X) ix_list (IxR.or ix_tup ix_str)
    rw [I.K] at h
    exact h, fun B H x y d e z bk hx hy hz Q q => ?_⟩
  unfold dIx at hz
  split at hz
  · rename_i ds k
    obtain ⟨a, xs, rfl, h1, r1⟩ := hx.list
    cases hj : ixN ds.length k with
    | none => simp [hj] at hz
    | some j =>
      simp [hj] at hz
      obtain ⟨v, g1, g2⟩ := r1.get' hz
      refine .inl ⟨a, xs, k, v, rfl, hy.int, h1, ?_, q v H (Sub.refl H) g2⟩
      unfold atI
      rw [r1.length, hj]
      exact g1
  · rename_i ds k
    obtain ⟨a, xs, rfl, h1, r1⟩ := hx.tuple
    cases hj : ixN ds.length k with
    | none => simp [hj] at hz
    | some j =>
      simp [hj] at hz
      obtain ⟨v, g1, g2⟩ := r1.get' hz
      refine .inr (.inl ⟨a, xs, k, v, rfl, hy.int, h1, ?_, q v H (Sub.refl H) g2⟩)
      unfold atI
      rw [r1.length, hj]
      exact g1
  · rename_i s k
    split at hz
    · rename_i hl
      cases hj : ixN s.cps.toList.length k with
      | none => rw [hj] at hz; cases hz
      | some j =>
        rw [hj, Option.bind_some] at hz
        cases hk : s.cps.toList[j]? with
        | none => rw [hk] at hz; cases hz
        | some w =>
          rw [hk] at hz
          cases hz
          refine .inr (.inr ⟨s, k, w, hx.str, hy.int, sz5 hl, ?_, q _ H (Sub.refl H) (.str _)⟩)
          unfold atI
          rw [hj]
          exact hk
    · cases hz
  · cases hz
theorem je_ix (ho : IxD c.K (In c N sc) g) (ha : JE c N sc a ma) (hb : JE c N sc b mb) (hs : PlainIx b := by intro _ _; rfl) : JE c N sc (.Subscript a b pos) (bop g ma mb) := by
  obtain ⟨r, h1, h2⟩ := ho.ex
  obtain ⟨ta, p1, s1⟩ := ha
  obtain ⟨tb, p2, s2⟩ := hb
  exact ⟨_, fun X W I T => pe_ix (h1 X I) (p1 X W I T) (p2 X W I T) hs, fun W => sd_bop (s1 W) (s2 W) h2⟩
end
abbrev MP := En → AH → (Option Int → AH → Prop) → QX → Prop
def SP_ (K : Frag) (W : WX) (t : TO) (m : MP) : Prop :=
  ∀ B σ H ρ α, SR K B σ H ρ α → ∀ Qm Em, m ρ α Qm Em → ∀ Q : Option Int → Hp → Prop, (∀ o B' H' α', Af K B H α B' H' α' → Qm o α' → Q o H') → SX K W B σ H α Em → t σ H Q
def JP (c : C0) (N : List Str) (sc : Scope) (e : Option Expr) (m : MP) : Prop := ∃ t : WX → TO, (∀ X W, In c N sc X → Takes X W → PO X e (t W)) ∧ ∀ W, SP_ c.K W (t W) m
def pnone : MP := fun _ α Q _ => Q none α
def psome (m : ME) : MP := fun ρ α Q E => m ρ α (fun d α1 => ∃ i : Int, d = .int i ∧ Q (some i) α1) E
def cutD (xs : List D) (lo hi : Option Int) : List D := (xs.drop (HT.sIx xs.length 0 lo)).take (HT.sIx xs.length xs.length hi - HT.sIx xs.length 0 lo)
def dCut : D → Option Int → Option Int → Option D
  | .list ds, lo, hi => some (.list (cutD ds lo hi))
  | .tuple ds, lo, hi => some (.tuple (cutD ds lo hi))
  | .str z, lo, hi => if z.length ≤ 100000 then some (.str (cutS z lo hi)) else none
  | _, _, _ => none
def cutK (ma : ME) (ml mh : MP) : ME := fun ρ α Q E => ma ρ α (fun d α1 => ml ρ α1 (fun l α2 => mh ρ α2 (fun h α3 => oq (vw α3 d) fun d' => oq (dCut d' l h) fun z => Q z α3) E) E) E
theorem RpL.cut {K : Frag} {H : Hp} {vs : List V} {ds : List D} (r : RpL K H vs ds) (lo hi : Option Int) : RpL K H (cutV vs lo hi) (cutD ds lo hi) := by
  unfold cutV cutD
  rw [r.length]
  exact (r.drop _).take _
section
variable {c : C0} {N : List Str} {sc : Scope} {a : Expr} {lo hi : Option Expr} {ma : ME} {ml mh : MP} {i : Nat} {pos p1 p2 : Pos} {x : Str} {K : Frag} {W : WX}
theorem jp_none : JP c N sc none pnone := ⟨_, fun _ _ _ _ => po_none, fun W B σ H ρ α S Qm Em m Q q x => q _ B H α (Af.refl S.bs) m⟩
theorem jp_some (h : JE c N sc a ma) : JP c N sc (some a) (psome ma) := by
  obtain ⟨t, h1, h2⟩ := h
  refine ⟨_, fun X W I T => po_some (h1 X W I T), fun W B σ H ρ α S Qm Em m Q q x => h2 W B σ H ρ α S _ Em m _ (fun v d B1 H1 α1 A r m => ?_) x⟩
  obtain ⟨z, rfl, m⟩ := m
  exact ⟨z, r.inti, q _ B1 H1 α1 A m⟩
/-- t[lo:hi], its object known -/
def rSlX (K : Frag) : V → Option Int → Option Int → Hp → VK → Prop := fun x lo hi H Q => ∃ a xs, x = .ref a ∧ SqT K H a xs ∧
  (HT.sIx xs.length 0 lo = 0 ∧ HT.sIx xs.length xs.length hi = xs.length → Q (.ref a) H) ∧ (¬ (HT.sIx xs.length 0 lo = 0 ∧ HT.sIx xs.length xs.length hi = xs.length) → ∀ p o, ExT o → H p = none → Q (.ref p) (upd H p (.frz o (.tup (cutV xs lo hi)))))
theorem sl_tupX {X : Cx} : SlR X (rSlX X.K) := by
  intro pins s σ H x v vl vu lo hi sl Q I rx hs pl pu h
  obtain ⟨a, xs, rfl, hx, q1, q2⟩ := h
  cases rx
  obtain ⟨its, r, ht, hz⟩ := I.tuple hx
  have hlen : its.toArray.size = xs.length := by rw [List.size_toArray]; exact r.length.symm
  refine ⟨"tuple", _, PyProof.Rows.slot_tuple_getitem.lookup, ht.typeIs, ?_⟩
  by_cases hw : HT.sIx xs.length 0 lo = 0 ∧ HT.sIx xs.length xs.length hi = xs.length
  · exact getItem_tuple_whole ht hs pl pu (by rw [hlen]; exact hw) ⟨.ref a, H, I, rfl, q1 hw⟩
  · refine HT.getItem_tuple_cut ht hs pl pu (by rw [hlen]; exact hw) ?_ (by rw [hlen]; exact hz)
    rw [hlen]
    exact ⟨.ref s.heap.objs.size, _, tnew I ((r.drop (HT.sIx xs.length 0 lo)).take (HT.sIx xs.length xs.length hi - HT.sIx xs.length 0 lo)) (Nat.le_trans (cutV_length xs lo hi) hz), rfl, q2 hw _ _ ⟨rfl, rfl⟩ (I.hok.fresh (Nat.le_refl _))⟩
def rCutR (K : Frag) : V → Option Int → Option Int → Hp → VK → Prop := fun x lo hi H Q => rSlL K x lo hi H Q ∨ (rSlX K x lo hi H Q ∨ rSlS x lo hi H Q)
theorem cut_read {B : Addr → Bool} {H : Hp} {x : V} {d z : D} {l h : Option Int} (bk : ∀ a, B a = true → ∃ o, H a = some o) (hx : Rs K B H x d) (hz : dCut d l h = some z) : ∀ Q : VK, (∀ v H', Sub H H' → Rp K (hide B H') v z → Q v H') → rCutR K x l h H Q := fun Q q => by
  unfold dCut at hz
  split at hz
  · cases hz
    obtain ⟨a, xs, rfl, h1, r1⟩ := hx.list
    refine .inl ⟨a, xs, rfl, h1, fun p hp => ?_⟩
    obtain ⟨s1, r2⟩ := lst_new bk hp (r1.cut l h)
    exact q _ _ s1 r2
  · rename_i ds
    cases hz
    obtain ⟨a, xs, rfl, h1, r1⟩ := hx.tuple
    refine .inr (.inl ⟨a, xs, rfl, h1, fun w => ?_, fun _ p o ho hp => ?_⟩)
    · have e : cutD ds l h = ds := by
        unfold cutD
        rw [← r1.length, w.1, w.2, List.drop_zero, Nat.sub_zero, r1.length, List.take_length]
      rw [e] at q
      refine q _ H (Sub.refl H) ?_
      cases hx with
      | vis h => exact h
    · obtain ⟨s1, r2⟩ := tup_new bk ho hp (r1.cut l h)
      exact q _ _ s1 r2
  · split at hz
    · rename_i hl
      cases hz
      exact .inr (.inr ⟨_, hx.str, sz5 hl, q _ H (Sub.refl H) (.str _)⟩)
    · cases hz
  · cases hz
theorem sl_cut {X : Cx} : SlR X (rCutR X.K) := SlR.or sl_list (SlR.or sl_tupX sl_str)
theorem sd_cut {t : TE} {u w : TO} (a2 : Sd K W t ma) (b2 : SP_ K W u ml) (c2 : SP_ K W w mh) : Sd K W (tSl (rCutR K) t u w) (cutK ma ml mh) := fun B σ H ρ α S Qm Em m Q q x => by
  refine a2 B σ H ρ α S _ Em m _ (fun v d B1 H1 α1 A1 r1 m => ?_) x
  refine b2 B1 σ H1 ρ α1 (S.step A1) _ Em m _ (fun l B2 H2 α2 A2 m => ?_) (x.after S.bs A1)
  have A12 := A1.trans S.bs A2
  refine c2 B2 σ H2 ρ α2 (S.step A12) _ Em m _ (fun h B3 H3 α3 A3 m => ?_) (x.after S.bs A12)
  obtain ⟨d', hd, z, hz, m⟩ := m
  refine cut_read A3.bs.bk (vw_rs A3.bs (r1.mono (A2.sub.trans A3.sub)) hd) hz _ fun y H4 s4 r4 => ?_
  exact q y z B3 H4 α3 ((A12.trans S.bs A3).trans S.bs (Af.of_sub A3.bs s4)) r4 m
theorem je_cut (ha : JE c N sc a ma) (hl : JP c N sc lo ml) (hh : JP c N sc hi mh) : JE c N sc (.Subscript a (.Slice lo hi none p2) pos) (cutK ma ml mh) := by
  obtain ⟨t, a1, a2⟩ := ha
  obtain ⟨u, b1, b2⟩ := hl
  obtain ⟨w, c1, c2⟩ := hh
  refine ⟨fun W => tSl (rCutR c.K) (t W) (u W) (w W), fun X W I T => ?_, fun W => sd_cut (a2 W) (b2 W) (c2 W)⟩
  have h := pe_slice (p2 := p2) (pos := pos) (sl_cut (X := X)) (a1 X W I T) (b1 X W I T) (c1 X W I T)
  rw [I.K] at h
  exact h
end
inductive RsL (K : Frag) (B : Addr → Bool) (H : Hp) : List V → List D → Prop
  | nil : RsL K B H [] []
  | cons {v : V} {vs : List V} {d : D} {ds : List D} : Rs K B H v d → RsL K B H vs ds → RsL K B H (v :: vs) (d :: ds)
theorem RpL.rs {K : Frag} {B : Addr → Bool} {H : Hp} : ∀ {vs : List V} {ds : List D}, RpL K (hide B H) vs ds → RsL K B H vs ds
  | _, _, .nil => .nil
  | _, _, .cons h r => .cons (.vis h) (RpL.rs r)
theorem RsL.one {K : Frag} {B : Addr → Bool} {H : Hp} {vs : List V} {d : D} (h : RsL K B H vs [d]) : ∃ v, vs = [v] ∧ Rs K B H v d := by
  cases h with
  | cons a b => cases b; exact ⟨_, rfl, a⟩
structure CaD (K : Frag) (XS : Cx → Prop) (fv : Value) (f : List D → Option D) : Prop where
  ex : ∃ r : List V → Hp → VK → Prop, (∀ X, XS X → CallR X fv r) ∧ ∀ (B : Addr → Bool) (H : Hp) (vs : List V) (ds : List D) (z : D), (∀ a, B a = true → ∃ o, H a = some o) → RsL K B H vs ds → f ds = some z →
    ∀ Q : VK, (∀ v H', Sub H H' → Rp K (hide B H') v z → Q v H') → r vs H Q
structure CaF (K : Frag) (XS : Cx → Prop) (fv : Value) (f : List D → Option D) : Prop where
  ex : ∃ r : List V → Hp → VK → Prop, (∀ X, XS X → CallR X fv r) ∧ ∀ (B : Addr → Bool) (H : Hp) (vs : List V) (ds : List D) (z : D), (∀ a, B a = true → ∃ o, H a = some o) → RsL K B H vs ds → f ds = some z →
    ∀ Q : VK, (∀ l H', Sub H H' → H l = none → OwnAt K (hide (ins l B) H') (H' l) z → Q (.ref l) H') → r vs H Q
theorem mapV_rs {K : Frag} {B : Addr → Bool} {H : Hp} {α : AH} (S : Bs K B H α) : ∀ {vs : List V} {ds es : List D}, RpL K (hide B H) vs ds → mapV α ds = some es → RsL K B H vs es
  | _, _, es, .nil, e => by cases e; exact .nil
  | _, _, es, .cons (d := d) (ds := ds) h r, e => by
    unfold mapV at e
    cases q : vw α d with
    | none => simp [q] at e
    | some z =>
      cases q2 : mapV α ds with
      | none => simp [q, q2] at e
      | some zs =>
        simp [q, q2] at e
        subst e
        exact .cons (vw_rs S h q) (mapV_rs S r q2)
def b1K (f : List D → Option D) (m : ME) : ME := fun ρ α Q E => m ρ α (fun d α1 => oq (vw α1 d) fun d' => oq (f [d']) fun z => Q z α1) E
def bnK (f : List D → Option D) (m : ML) : ME := fun ρ α Q E => m ρ α (fun ds α1 => oq (mapV α1 ds) fun es => oq (f es) fun z => Q z α1) E
section
variable {c : C0} {N : List Str} {sc : Scope} {e : Expr} {es : List Expr} {me : ME} {ml : ML} {f : List D → Option D} {pos p : Pos} {x : Str} {id T : String} {K : Frag} {W : WX} {r : List V → Hp → VK → Prop}
theorem sd_b1 {te : TE} (h : Sd K W te me) (hr : ∀ (B : Addr → Bool) (H : Hp) (vs : List V) (ds : List D) (z : D), (∀ a, B a = true → ∃ o, H a = some o) → RsL K B H vs ds → f ds = some z → ∀ Q : VK, (∀ v H', Sub H H' → Rp K (hide B H') v z → Q v H') → r vs H Q) :
    Sd K W (tCB r (tCons te tNil)) (b1K f me) := fun B σ H ρ α S Qm Em m Q q x => h B σ H ρ α S _ Em m _ (fun v d B1 H1 α1 A1 r1 m => by
  obtain ⟨d', hd, z, hz, m⟩ := m
  exact hr B1 H1 [v] [d'] _ A1.bs.bk (.cons (vw_rs A1.bs r1 hd) .nil) hz _ fun w H2 s2 r2 => q w z B1 H2 α1 (A1.trans S.bs (Af.of_sub A1.bs s2)) r2 m) x
theorem sf_b1 {te : TE} (h : Sd K W te me) (hr : ∀ (B : Addr → Bool) (H : Hp) (vs : List V) (ds : List D) (z : D), (∀ a, B a = true → ∃ o, H a = some o) → RsL K B H vs ds → f ds = some z → ∀ Q : VK, (∀ l H', Sub H H' → H l = none → OwnAt K (hide (ins l B) H') (H' l) z → Q (.ref l) H') → r vs H Q) :
    Sf K W (tCB r (tCons te tNil)) (b1K f me) := fun B σ H ρ α S Qm Em m Q q x => h B σ H ρ α S _ Em m _ (fun v d B1 H1 α1 A1 r1 m => by
  obtain ⟨d', hd, z, hz, m⟩ := m
  exact hr B1 H1 [v] [d'] _ A1.bs.bk (.cons (vw_rs A1.bs r1 hd) .nil) hz _ fun l H2 s2 hl r2 => q l z _ H2 α1 (A1.trans S.bs (Af.cell A1.bs s2 hl (.own r2))) (A1.bs.new hl) m) x
theorem je_b1 (ho : CaD c.K (In c N sc) (.builtin id) f) (hg : sc.names.lookup x = some .globalImplicit) (hm : c.mg x = none) (hv : bootBuiltins x = some (.builtin id)) (ha : JE c N sc e me) (hn : x ≠ "__name__" := by decide) (hdb : (x == ("__debug__" : Str)) = false := by decide)
    (he : ∀ env, starEach [e] env = (false, eval e env) :: starEach [] env := by intros; rfl) (hpl : ∀ env, (backTo pos (starEach [] env)).any (·.1) = false := by intros; rfl) : JE c N sc (.Call (.Name x p) [e] [] pos) (b1K f me) := by
  obtain ⟨r, h1, h2⟩ := ho.ex
  obtain ⟨t, a1, a2⟩ := ha
  exact ⟨_, fun X W I T => pe_callB (h1 X I) (I.gl hg) (by rw [I.mg]; exact hm) hv (pa_cons (a1 X W I T) pa_nil (he _)) hn hdb (he _) (hpl _), fun W => sd_b1 (a2 W) h2⟩
theorem je_t1 (ho : CaD c.K (In c N sc) (.type T) f) (hg : sc.names.lookup x = some .globalImplicit) (hm : c.mg x = none) (hv : bootBuiltins x = some (.type T)) (ha : JE c N sc e me) (hn : x ≠ "__name__" := by decide) (hdb : (x == ("__debug__" : Str)) = false := by decide)
    (he : ∀ env, starEach [e] env = (false, eval e env) :: starEach [] env := by intros; rfl) (hpl : ∀ env, (backTo pos (starEach [] env)).any (·.1) = false := by intros; rfl) : JE c N sc (.Call (.Name x p) [e] [] pos) (b1K f me) := by
  obtain ⟨r, h1, h2⟩ := ho.ex
  obtain ⟨t, a1, a2⟩ := ha
  exact ⟨_, fun X W I T => pe_callTy (h1 X I) (I.gl hg) (by rw [I.mg]; exact hm) hv (pa_cons (a1 X W I T) pa_nil (he _)) hn hdb (he _) (hpl _), fun W => sd_b1 (a2 W) h2⟩
theorem jf_t1 (ho : CaF c.K (In c N sc) (.type T) f) (hg : sc.names.lookup x = some .globalImplicit) (hm : c.mg x = none) (hv : bootBuiltins x = some (.type T)) (ha : JE c N sc e me) (hn : x ≠ "__name__" := by decide) (hdb : (x == ("__debug__" : Str)) = false := by decide)
    (he : ∀ env, starEach [e] env = (false, eval e env) :: starEach [] env := by intros; rfl) (hpl : ∀ env, (backTo pos (starEach [] env)).any (·.1) = false := by intros; rfl) : JF c N sc (.Call (.Name x p) [e] [] pos) (b1K f me) := by
  obtain ⟨r, h1, h2⟩ := ho.ex
  obtain ⟨t, a1, a2⟩ := ha
  exact ⟨_, fun X W I T => pe_callTy (h1 X I) (I.gl hg) (by rw [I.mg]; exact hm) hv (pa_cons (a1 X W I T) pa_nil (he _)) hn hdb (he _) (hpl _), fun W => sf_b1 (a2 W) h2⟩
/-- isinstance(e, T), T a built-in class -/
def isiB (T : String) : D → Option Bool
  | .none => kitB "NoneType" T
  | .bool _ => kitB "bool" T
  | .int _ => kitB "int" T
  | .str _ => kitB "str" T
  | .list _ => kitB "list" T
  | .tuple _ => kitB "tuple" T
  | _ => none
def isiK (T : String) (m : ME) : ME := fun ρ α Q E => m ρ α (fun d α1 => oq (vw α1 d) fun d' => oq (isiB T d') fun b => Q (.bool b) α1) E
theorem tag_of {K : Frag} {H : Hp} {v : V} {d : D} {b : Bool} (h : Rp K H v d) (e : isiB T d = some b) : ∃ t, TyX K H v (.type t) ∧ kitB t T = some b := by
  cases h with
  | non => exact ⟨_, .base .non, e⟩
  | bl k => exact ⟨_, .base (.bl k), e⟩
  | int k => exact ⟨_, .base (.int k), e⟩
  | str k => exact ⟨_, .base (.str k), e⟩
  | lst hs _ =>
    refine ⟨"list", ?_, e⟩
    rcases hs with (h | ⟨o, h⟩) | ⟨o, its, n, h1, h2, _⟩
    · exact .base (.lst h)
    · exact .base (.frz h)
    · exact .kList h1 h2
  | tup hs _ _ =>
    refine ⟨"tuple", ?_, e⟩
    rcases hs with (h | ⟨o, h⟩) | ⟨o, its, n, h1, h2, _⟩
    · exact .base (.tup h)
    · exact .fTuple h
    · exact .kTuple h1 h2
  | dct _ _ => cases e
  | obj _ _ => cases e
  | fdc _ _ => cases e
  | fnc => cases e
  | ref => cases e
  | exc _ _ => cases e
theorem je_isi {y : Str} {p2 : Pos} (hg : sc.names.lookup ("isinstance" : Str) = some .globalImplicit) (hm : c.mg ("isinstance" : Str) = none) (hgy : sc.names.lookup y = some .globalImplicit) (hmy : c.mg y = none) (hv : bootBuiltins y = some (.type T)) (ha : JE c N sc e me)
    (hn : y ≠ "__name__" := by decide) (hdb : (y == ("__debug__" : Str)) = false := by decide)
    (he : ∀ env, starEach [e, .Name y p2] env = (false, eval e env) :: starEach [.Name y p2] env := by intros; rfl) (hpl : ∀ env, (backTo pos (starEach [.Name y p2] env)).any (·.1) = false := by intros; rfl) :
    JE c N sc (.Call (.Name "isinstance" p) [e, .Name y p2] [] pos) (isiK T me) := by
  obtain ⟨t, a1, a2⟩ := ha
  refine ⟨fun W => tCB (rIsi c.K) (tCons (t W) (tCons (tC (.ty T)) tNil)), fun X W I TT => ?_, fun W B σ H ρ α S Qm Em m Q q x => ?_⟩
  · have h := pe_callB (x := "isinstance") (p := p) (pos := pos) (call_isi (X := X)) (I.gl hg) (by rw [I.mg]; exact hm) (by decide +kernel) (pa_cons (a1 X W I TT) (pa_cons (pe_bltn (pos := p2) (v := .ty T) (I.gl hgy) (by rw [I.mg]; exact hmy) hv rfl hn hdb) pa_nil) (he _)) (by decide) (by decide) (he _) (hpl _)
    rw [I.K] at h
    exact h
  · refine a2 W B σ H ρ α S _ Em m _ (fun v d B1 H1 α1 A1 r1 m => ?_) x
    obtain ⟨d', hd, z, hz, m⟩ := m
    obtain ⟨t, h1, h2⟩ := tag_of (vw_rs A1.bs r1 hd).rp hz
    exact ⟨v, .ty T, .type t, .type T, z, rfl, .ty T, h1, kit_ty h2, q _ _ B1 H1 α1 A1 (.bl z) m⟩
end
section
variable {c : C0} {N : List Str} {sc : Scope}
def dLen : List D → Option D
  | [.list ds] => some (.int ds.length)
  | [.tuple ds] => some (.int ds.length)
  | [.str z] => if z.length ≤ 100000 then some (.int z.length) else none
  | _ => none
theorem c_len : CaD c.K (In c N sc) (.builtin "len") dLen := by
  refine ⟨_, fun X I => by
    have h := call_len (X := X)
    rw [I.K] at h
    exact h, fun B H vs ds z bk hv hz Q q => ?_⟩
  unfold dLen at hz
  split at hz
  · cases hz
    obtain ⟨v, rfl, h⟩ := hv.one
    obtain ⟨a, xs, rfl, h1, r1⟩ := h.list
    exact ⟨_, _, rfl, .inl ⟨xs, h1, r1.length.symm⟩, q _ H (Sub.refl H) (.int _)⟩
  · cases hz
    obtain ⟨v, rfl, h⟩ := hv.one
    obtain ⟨a, xs, rfl, h1, r1⟩ := h.tuple
    exact ⟨_, _, rfl, .inr ⟨xs, h1, r1.length.symm⟩, q _ H (Sub.refl H) (.int _)⟩
  · split at hz
    · rename_i hl
      cases hz
      obtain ⟨v, rfl, h⟩ := hv.one
      rw [h.str]
      exact ⟨_, _, rfl, ⟨sz5 hl, rfl⟩, q _ H (Sub.refl H) (.int _)⟩
    · cases hz
  · cases hz
def dInt : List D → Option D
  | [.int i] => some (.int i)
  | [.bool b] => some (.int (if b then 1 else 0))
  | _ => none
theorem c_int : CaD c.K (In c N sc) (.type "int") dInt := by
  refine ⟨_, fun X I => call_int1, fun B H vs ds z bk hv hz Q q => ?_⟩
  unfold dInt at hz
  split at hz
  · cases hz
    obtain ⟨v, rfl, h⟩ := hv.one
    exact .inl ⟨_, by rw [h.int], q _ H (Sub.refl H) (.int _)⟩
  · cases hz
    obtain ⟨v, rfl, h⟩ := hv.one
    exact .inr ⟨_, by rw [h.bool], q _ H (Sub.refl H) (.int _)⟩
  · cases hz
def dAbs : List D → Option D
  | [.int i] => some (.int (if i < 0 then -i else i))
  | _ => none
def dOrd : List D → Option D
  | [.str x] => if x.length = 1 then some (.int ((x.cps.getD 0 0 : Nat) : Int)) else none
  | _ => none
theorem c_ord : CaD c.K (In c N sc) (.builtin "ord") dOrd := by
  refine ⟨_, fun X I => call_ord, fun B H vs ds z bk hv hz Q q => ?_⟩
  unfold dOrd at hz
  split at hz
  · split at hz
    · rename_i hl
      cases hz
      obtain ⟨v, rfl, h⟩ := hv.one
      exact ⟨_, by rw [h.str], hl, q _ H (Sub.refl H) (.int _)⟩
    · cases hz
  · cases hz
def dMax2 : List D → Option D
  | [.int i, .int j] => some (.int (if j > i then j else i))
  | _ => none
def dMin2 : List D → Option D
  | [.int i, .int j] => some (.int (if j < i then j else i))
  | _ => none
def toStrs : List D → Option (List Str)
  | [] => some []
  | .str i :: r => (toStrs r).map fun q => i :: q
  | _ => none
theorem toStrs_of : ∀ {ds : List D} {ns : List Str}, toStrs ds = some ns → ds = ns.map PyData.str
  | [], ns, h => by cases h; rfl
  | .str i :: r, ns, h => by
    cases q : toStrs r with
    | none => simp [toStrs, q] at h
    | some l =>
      simp [toStrs, q] at h
      subst h
      rw [toStrs_of q]
      rfl
  | .none :: _, _, h => by cases h
  | .int _ :: _, _, h => by cases h
  | .bool _ :: _, _, h => by cases h
  | .list _ :: _, _, h => by cases h
  | .tuple _ :: _, _, h => by cases h
  | .dict _ :: _, _, h => by cases h
def dList : List D → Option D
  | [.list ds] => some (.list ds)
  | [.tuple ds] => some (.list ds)
  | _ => none
theorem cf_list : CaF c.K (In c N sc) (.type "list") dList := by
  refine ⟨_, fun X I => by
    have h := call_list_of (X := X)
    rw [I.K] at h
    exact h, fun B H vs ds z bk hv hz Q q => ?_⟩
  unfold dList at hz
  split at hz
  · cases hz
    obtain ⟨v, rfl, h⟩ := hv.one
    obtain ⟨a, xs, rfl, h1, r1⟩ := h.list
    exact ⟨a, xs, rfl, .inl h1, fun l hl => q _ _ (Sub.new hl) hl (own_new hl r1)⟩
  · cases hz
    obtain ⟨v, rfl, h⟩ := hv.one
    obtain ⟨a, xs, rfl, h1, r1⟩ := h.tuple
    exact ⟨a, xs, rfl, .inr h1, fun l hl => q _ _ (Sub.new hl) hl (own_new hl r1)⟩
  · cases hz
def dTuple : List D → Option D
  | [.list ds] => some (.tuple ds)
  | [.tuple ds] => some (.tuple ds)
  | _ => none
def rTupX (K : Frag) : List V → Hp → VK → Prop := fun xs H Q => ∃ p ys, xs = [.ref p] ∧ ((SqL K H p ys ∧ ∀ l o, ExT o → H l = none → Q (.ref l) (upd H l (.frz o (.tup ys)))) ∨ (SqT K H p ys ∧ Q (.ref p) H))
theorem call_tupX {X : Cx} : CallR X (.type "tuple") (rTupX X.K) := by
  intro pins s σ H xs us Q I r h
  obtain ⟨p, ys, rfl, h⟩ := h
  obtain ⟨u, rfl, rx⟩ := vals1 r
  cases rx
  rcases h with ⟨hq, q⟩ | ⟨hq, q⟩
  · obtain ⟨its, r', pl, hz⟩ := I.list hq
    have hlen := r'.length
    refine call_tuple_list pl.isList (fun h' kp => ?_) (by simp only [List.size_toArray] <;> omega)
    have I1 : Inv X pins σ H { s with heap := h' } := I.kept (t' := s.toks) kp
    exact ⟨.ref h'.objs.size, _, tnew I1 r' hz, rfl, q _ _ ⟨rfl, rfl⟩ (I1.hok.fresh (Nat.le_refl _))⟩
  · obtain ⟨its, r', pl, hz⟩ := I.tuple hq
    exact call_tuple_same pl ⟨.ref p, H, I, rfl, q⟩
theorem c_tuple : CaD c.K (In c N sc) (.type "tuple") dTuple := by
  refine ⟨_, fun X I => by
    have h := call_tupX (X := X)
    rw [I.K] at h
    exact h, fun B H vs ds z bk hv hz Q q => ?_⟩
  unfold dTuple at hz
  split at hz
  · cases hz
    obtain ⟨v, rfl, h⟩ := hv.one
    obtain ⟨a, xs, rfl, h1, r1⟩ := h.list
    refine ⟨a, xs, rfl, .inl ⟨h1, fun l o ho hl => ?_⟩⟩
    obtain ⟨s1, r2⟩ := tup_new bk ho hl r1
    exact q _ _ s1 r2
  · cases hz
    obtain ⟨v, rfl, h⟩ := hv.one
    obtain ⟨a, xs, rfl, h1, r1⟩ := h.tuple
    refine ⟨a, xs, rfl, .inr ⟨h1, q _ H (Sub.refl H) ?_⟩⟩
    cases h with
    | vis h => exact h
  · cases hz
end
structure MeD (K : Frag) (XS : Cx → Prop) (id : String) (f : Str → List D → Option D) : Prop where
  ex : ∃ r : V → List V → Hp → VK → Prop, (∀ X, XS X → MtR X id r) ∧ ∀ (B : Addr → Bool) (H : Hp) (x : Str) (vs : List V) (ds : List D) (z : D), (∀ a, B a = true → ∃ o, H a = some o) → RsL K B H vs ds → f x ds = some z →
    ∀ Q : VK, (∀ v H', Sub H H' → Rp K (hide B H') v z → Q v H') → r (.str x) vs H Q
def metK (f : Str → List D → Option D) (mo : ME) (ma : ML) : ME := fun ρ α Q E => mo ρ α (fun o α1 => ∃ x : Str, o = .str x ∧ ma ρ α1 (fun ds α2 => oq (mapV α2 ds) fun es => oq (f x es) fun z => Q z α2) E) E
section
variable {c : C0} {N : List Str} {sc : Scope} {o e : Expr} {es : List Expr} {mo : ME} {ma : ML} {f : Str → List D → Option D} {p2 p3 : Pos} {m : Str} {id : String} {K : Frag}
theorem je_met (ho : MeD c.K (In c N sc) id f) (slot : Slot "str" m id) (hty : typeOf (.builtin id) = pure (.type "method_descriptor")) (h : JE c N sc o mo) (ha : JL c N sc (e :: es) ma)
    (hbase : ∀ env, attributeBase o m env (eval o env) = eval o env := by intros; rfl)
    (hfew : ∀ env, ((backTo p3 (starEach (e :: es) env)).all (fun x => !x.1) && (backToKw p3 (keywordEach [] env)).all (fun x => x.1.isSome) && decide ((e :: es).length + ([] : List Keyword).length + (if ([] : List Keyword).isEmpty then 0 else 1) < 30)) = true := by intros; rfl)
    (hline : (p2.endLine == p3.line) = true := by rfl) (hs : ∀ env, starEach (e :: es) env = (false, eval e env) :: starEach es env := by intros; rfl) (hplain : ∀ env, (backTo p3 (starEach es env)).any (·.1) = false := by intros; rfl) :
    JE c N sc (.Call (.Attribute o m p2) (e :: es) [] p3) (metK f mo ma) := by
  obtain ⟨t, h1, h2⟩ := h
  obtain ⟨u, k1, k2⟩ := ha
  obtain ⟨r, hr1, hr2⟩ := ho.ex
  refine ⟨fun W => tBM c.K "str" r (t W) (u W), fun X W I T => ?_, fun W B σ H ρ α S Qm Em m Q q x => ?_⟩
  · have q := pe_bm (cpos := p3) (apos := p2) PySem.F.plainAttrs_str slot hty (hr1 X I) (h1 X W I T) (k1 X W I T) (hbase _) (hfew _) hline (hs _) (hplain _)
    rw [I.K] at q
    exact q
  · refine h2 W B σ H ρ α S _ Em m _ (fun v d B1 H1 α1 A1 r1 m => ?_) x
    obtain ⟨y, rfl, m⟩ := m
    rw [r1.stri]
    refine ⟨rfl, ?_⟩
    refine k2 W B1 σ H1 ρ α1 (S.step A1) _ Em m _ (fun vs ds B2 H2 α2 A2 r2 m => ?_) (x.after S.bs A1)
    obtain ⟨es, hd, z, hz, m⟩ := m
    exact hr2 B2 H2 y vs es _ A2.bs.bk (mapV_rs A2.bs r2 hd) hz _ fun w H3 s3 r3 => q w z B2 H3 α2 ((A1.trans S.bs A2).trans S.bs (Af.of_sub A2.bs s3)) r3 m
def dJoin (x : Str) : List D → Option D
  | [.list ds] => (toStrs ds).bind fun ys => if (ys.map (·.length)).sum + ys.length * x.length ≤ 100000 then some (.str (Txt.join x ys)) else none
  | _ => none
theorem m_join : MeD c.K (In c N sc) "str.join" dJoin := by
  refine ⟨_, fun X I => by
    have h := mt_join (X := X)
    rw [I.K] at h
    exact h, fun B H x vs ds z bk hv hz Q q => ?_⟩
  unfold dJoin at hz
  split at hz
  · rename_i ds
    cases q1 : toStrs ds with
    | none => simp [q1] at hz
    | some ys =>
      simp only [q1, Option.bind_some] at hz
      split at hz
      · rename_i hl
        cases hz
        obtain ⟨v, rfl, h⟩ := hv.one
        obtain ⟨a, xs, rfl, h1, r1⟩ := h.list
        rw [toStrs_of q1] at r1
        rw [r1.of_strs] at h1
        exact ⟨x, a, ys, rfl, rfl, .inl h1, by omega, q _ H (Sub.refl H) (.str _)⟩
      · cases hz
  · cases hz
end
def strK (m : ME) : MI := fun ρ α Q E => m ρ α (fun d α1 => ∃ x : Str, d = .str x ∧ Q (x.cps.toList.map fun k => .str ⟨#[k]⟩) (fun _ => True) α1) E
section
variable {c : C0} {N : List Str} {sc : Scope} {e e2 tg : Expr} {elts : List Expr} {kk : Nat} {pos p tpos : Pos} {me : ME} {ma : ML} {K : Frag}
theorem ji_str (h : JE c N sc e me) : JI c N sc tg e (strK me) := by
  obtain ⟨t, h1, h2⟩ := h
  refine ⟨fun W => iStr (t W), fun X W I T => pi_str (h1 X W I T), fun W B σ H ρ α S Qm Em m R q x => h2 W B σ H ρ α S _ Em m _ (fun v d B1 H1 α1 A r m => ?_) x⟩
  obtain ⟨x, rfl, m⟩ := m
  refine ⟨x, r.stri, q _ _ _ B1 H1 α1 A (fun B' H' α' sb bk g => ⟨fun i d hi => ?_, ?_⟩) m⟩
  · rw [List.getElem?_map] at hi
    cases hk : x.cps.toList[i]? with
    | none => rw [hk] at hi; cases hi
    | some w =>
      rw [hk] at hi
      cases hi
      have hk' : x.cps[i]? = some w := by simpa using hk
      refine ⟨(Array.getElem?_eq_some_iff.mp hk').1, fun y H'' z => ?_⟩
      obtain ⟨rfl, w', hw, rfl⟩ := z
      rw [hk'] at hw
      cases hw
      exact ⟨Sub.refl _, .str _⟩
  · show x.cps.size ≤ _
    simp
end
end Hz
namespace Hz
open PySem L2
variable {c : C0} {N : List Str} {sc : Scope}
/-- a def as it stands behind the top; js: how many arguments are written somewhere, less than all -/
structure AtF (c : C0) (x qual : Str) (st : Stmt) (ps : List Str) (dvs : List V) (js : List Nat) (f : Addr) : Prop where
  ex : ∃ fd, FunD c.K x qual (defArgs st) (defBody st) (defScope st) dvs [] f fd ∧ Binds c.K fd ps [] ∧ ∀ j ∈ js, ∃ ds, Vals (dvs.drop j) ds ∧ Binds c.K fd ps ds
/-- a def's promise -/
structure Pro (c : C0) (k : Nat) (f : Addr) (ps : List Str) (dvs : List V) (js : List Nat) (fm : Fm) : Prop where
  ex : ∃ fd, FnOk c.P c.w c.K c.mg c.base (L2.CX c.P c.w) k f fd ps (fun vs H Q E => vs.length = ps.length ∧ spD c.K fm vs H Q E) ∧ PySem.W.keepIn c.K (.ref f) = true ∧ Binds c.K fd ps [] ∧ ∀ j ∈ js, ∃ ds, Vals (dvs.drop j) ds ∧ Binds c.K fd ps ds
theorem fn_okD {x qual : Str} {st : Stmt} {dvs : List V} {f : Addr} {fd : FuncData} {ps : List Str} {k : Nat} {m : MS} (F : FunD c.K x qual (defArgs st) (defBody st) (defScope st) dvs [] f fd) (S : FnScope N ps (defScope st)) (h : JB (c.at_ k) N (defScope st) (defBody st) m) (hn : ps.length ≤ N.length := by decide) :
    FnOk c.P c.w c.K c.mg c.base (L2.CX c.P c.w) (k + 1) f fd ps (fun vs H Q E => vs.length = ps.length ∧ spD c.K (runF ps.length N.length m) vs H Q E) := by
  refine F.ok S (fun vs H Q E h => h.1) (fun cdv A outer s H vs Q E hr h' => ?_)
  obtain ⟨hl, B, α, ds, Qm, Em, S0, r, ⟨_, mm⟩, q, y⟩ := h'
  obtain ⟨t, t1, t2⟩ := h
  have tk : Takes (cxOf (L2.CX c.P c.w) c.P c.w c.K c.mg c.base N qual (defScope st) f cdv A outer s H E) (fun cls d _ H => E cls d H) := takes_of rfl rfl rfl rfl
  refine ⟨t _, t1 _ _ ⟨rfl, rfl, rfl, rfl, rfl, fun _ => hr, (Nat.lt_of_le_of_lt (Nat.add_le_add_right (Nat.le_add_right _ _) 200) hr.un : _), rfl, rfl, fun _ => rfl, fun _ => rfl, passes_of rfl, fun _ => ⟨rfl, rfl⟩, fun _ _ _ h => (by cases h), fun _ _ => rfl⟩ tk, ?_⟩
  have es : L2.start N vs = vs.map some ++ List.replicate (N.length - ps.length) none := by
    unfold L2.start
    rw [hl]
  rw [es]
  refine t2 _ B _ H _ α (entry_sr (n := N.length - ps.length) S0 r) _ mm _ (Fi.none_ (fun B' H' ρ' α' a z => q .non .none B' H' α' a .non z) (fun v d B' H' α' a r z => q v d B' H' α' a r z) (fun _ _ z => z) fun _ _ z => z) fun x B' σ' ρ' α' cls d H' a _ xr z => y x B' α' cls d H' a xr z
section
variable {x qual : Str} {st : Stmt} {dvs : List V} {js : List Nat} {f : Addr} {ps : List Str} {k np : Nat} {m : MS} {fm : Fm}
theorem AtF.run (A : AtF c x qual st ps dvs js f) (S : FnScope N ps (defScope st)) (h : JB (c.at_ k) N (defScope st) (defBody st) m) (hn : ps.length ≤ N.length := by decide) : Pro c (k + 1) f ps dvs js (runF ps.length N.length m) := by
  obtain ⟨fd, F, b⟩ := A.ex
  exact ⟨fd, fn_okD F S h hn, F.kp, b⟩
theorem AtF.runP (A : AtF c x qual st ps dvs js f) (S : FnScope N ps (defScope st)) (h : JB (c.at_ k) N (defScope st) (defBody st) m) (hn : ps.length ≤ N.length := by decide) : Pro c (k + 1) f ps dvs js (runP ps.length N.length m) := by
  obtain ⟨fd, F, b⟩ := A.ex
  exact ⟨fd, (fn_okD F S h hn).imp fun vs H Q E z => ⟨z.1, spD_pure z.2⟩, F.kp, b⟩
theorem Pro.mono {j : Nat} (P : Pro c j f ps dvs js fm) (h : j ≤ k) : Pro c k f ps dvs js fm := by
  obtain ⟨fd, F, r⟩ := P.ex
  exact ⟨fd, F.mono h, r⟩
/-- all arguments are written -/
theorem Pro.fn (P : Pro c k f ps dvs js fm) (hm : c.mg x = some (.ref f)) : FnD c k x ps.length [] fm := by
  obtain ⟨fd, F, kp, b, _⟩ := P.ex
  exact ⟨f, fd, ps, [], [], F, hm, kp, b, .nil, fun _ => .nil, rfl⟩
end
def oD (C : Nat) (fs : List (D × D)) : D := .dict ((.none, .int (Int.ofNat C)) :: fs)
def lookF (f : Str) : List (D × D) → Option D
  | [] => none
  | (.str g, d) :: r => if f = g then some d else lookF f r
  | _ => none
def putD (f : Str) (d : D) : List (D × D) → List (D × D)
  | [] => [(.str f, d)]
  | (.str g, x) :: r => if g = f then (.str g, d) :: r else (.str g, x) :: putD f d r
  | q :: r => q :: putD f d r
theorem RpF.look {K : Frag} {H : Hp} {f : Str} {d : D} : ∀ {gs : List (Str × V)} {ds : List (D × D)}, RpF K H gs ds → lookF f ds = some d → ∃ v, gs.lookup f = some v ∧ Rp K H v d
  | _, _, .nil, e => by cases e
  | _, _, .cons (f := g) (v := v) (vs := vs) (d := d') (ds := ds) h r, e => by
    by_cases q : f = g
    · subst q
      have e' : some d' = some d := by
        have : lookF f ((PyData.str f, d') :: ds) = some d' := if_pos rfl
        rw [this] at e
        exact e
      cases e'
      exact ⟨v, by simp [List.lookup], h⟩
    · have e' : lookF f ds = some d := by
        have : lookF f ((PyData.str g, d') :: ds) = lookF f ds := if_neg q
        rw [this] at e
        exact e
      obtain ⟨w, h1, h2⟩ := RpF.look r e'
      refine ⟨w, ?_, h2⟩
      have : (f == g) = false := by simpa using q
      simp [List.lookup, this, h1]
theorem RpF.lookN {K : Frag} {H : Hp} {f : Str} : ∀ {gs : List (Str × V)} {ds : List (D × D)}, RpF K H gs ds → lookF f ds = none → gs.lookup f = none
  | _, _, .nil, e => rfl
  | _, _, .cons (f := g) (v := v) (vs := vs) (d := d') (ds := ds) h r, e => by
    by_cases q : f = g
    · subst q
      have : lookF f ((PyData.str f, d') :: ds) = some d' := if_pos rfl
      rw [this] at e
      cases e
    · have e' : lookF f ds = none := by
        have : lookF f ((PyData.str g, d') :: ds) = lookF f ds := if_neg q
        rw [this] at e
        exact e
      have : (f == g) = false := by simpa using q
      simp [List.lookup, this, RpF.lookN r e']
theorem RpF.length {K : Frag} {H : Hp} : ∀ {gs : List (Str × V)} {ds : List (D × D)}, RpF K H gs ds → gs.length = ds.length
  | _, _, .nil => rfl
  | _, _, .cons h r => by rw [List.length_cons, List.length_cons, RpF.length r]
theorem RpF.put {K : Frag} {H : Hp} {f : Str} {v : V} {d : D} (h : Rp K H v d) : ∀ {gs : List (Str × V)} {ds : List (D × D)}, RpF K H gs ds → RpF K H (putF f v gs) (putD f d ds)
  | _, _, .nil => .cons h .nil
  | _, _, .cons (f := g) (v := u) (vs := vs) (d := e) (ds := ds) a r => by
    show RpF K H (if g = f then (g, v) :: vs else (g, u) :: putF f v vs) (if g = f then (.str g, d) :: ds else (.str g, e) :: putD f d ds)
    by_cases q : g = f
    · rw [if_pos q, if_pos q]
      exact .cons h r
    · rw [if_neg q, if_neg q]
      exact .cons a (RpF.put h r)
theorem RpK.noNone {K : Frag} {H : Hp} : ∀ {kvs : List (Key × V)} {es : List (D × D)}, RpK K H kvs es → ∀ x ds, es = (PyData.none, x) :: ds → False
  | _, _, .nil, x, ds, e => by cases e
  | _, _, .cons (k := k) h r, x, ds, e => by
    have e1 := (List.cons.inj e).1
    have e2 : kD k = .none := congrArg Prod.fst e1
    cases k <;> cases e2
theorem obj_inj {C C' : Nat} {ds ds' : List (D × D)} (h : oD C ds = oD C' ds') : C = C' ∧ ds = ds' := by
  have e1 := List.cons.inj (PyData.dict.inj h)
  have e2 : PyData.int (Int.ofNat C) = PyData.int (Int.ofNat C') := congrArg Prod.snd e1.1
  exact ⟨Int.ofNat.inj (PyData.int.inj e2), e1.2⟩
theorem Rp.oD {K : Frag} {H : Hp} {v : V} {C : Nat} {ds : List (D × D)} (h : Rp K H v (oD C ds)) : ∃ a dx gs, v = .ref a ∧ H a = some (.ins C dx gs) ∧ RpF K H gs ds := by
  generalize e : Hz.oD C ds = z at h
  cases h with
  | dct h r => exact (r.noNone _ _ (PyData.dict.inj e).symm).elim
  | @obj a C' dx fs ds' h r =>
    obtain ⟨rfl, rfl⟩ := obj_inj (show Hz.oD C ds = Hz.oD C' ds' from e)
    exact ⟨_, _, _, rfl, h, r⟩
  | _ => cases e
theorem Rs.oD {K : Frag} {B : Addr → Bool} {H : Hp} {v : V} {C : Nat} {ds : List (D × D)} (h : Rs K B H v (oD C ds)) : ∃ a dx gs, v = .ref a ∧ H a = some (.ins C dx gs) ∧ RpF K (hide B H) gs ds := by
  generalize e : Hz.oD C ds = z at h
  cases h with
  | vis h =>
    subst e
    obtain ⟨a, dx, gs, rfl, h1, h2⟩ := h.oD
    exact ⟨a, dx, gs, rfl, (hide_some h1).2, h2⟩
  | dct h r => exact (r.noNone _ _ (PyData.dict.inj e).symm).elim
  | @obj a C' dx fs ds' h r =>
    obtain ⟨rfl, rfl⟩ := obj_inj (show Hz.oD C ds = Hz.oD C' ds' from e)
    exact ⟨_, _, _, rfl, h, r⟩
  | lst _ _ => cases e
theorem Bs.obj {K : Frag} {B : Addr → Bool} {H : Hp} {α : AH} {l : Addr} {C : Nat} {fs : List (D × D)} (S : Bs K B H α) (h : α l = some (oD C fs)) : B l = true ∧ ∃ dx gs, H l = some (.ins C dx gs) ∧ RpF K (hide B H) gs fs := by
  obtain ⟨h1, h2⟩ := S.cel l _ h
  obtain ⟨a, dx, gs, e, k1, k2⟩ := h2.rs.oD
  cases e
  exact ⟨h1, dx, gs, k1, k2⟩
/-- o.f, o of the class at C -/
def fldD (C : Nat) (f : Str) : D → Option D
  | .dict ((.none, .int k) :: fs) => if k = Int.ofNat C then lookF f fs else none
  | _ => none
def fldK (C : Nat) (f : Str) (m : ME) : ME := fun ρ α Q E => m ρ α (fun d α1 => oq (vw α1 d) fun o => oq (fldD C f o) fun z => Q z α1) E
theorem fldD_of {C : Nat} {f : Str} {o z : D} (h : fldD C f o = some z) : ∃ fs, o = oD C fs ∧ lookF f fs = some z := by
  unfold fldD at h
  split at h
  · split at h
    · rename_i hk
      subst hk
      exact ⟨_, rfl, h⟩
    · cases h
  · cases h
theorem je_fld {C : Nat} {f : Str} {e : Expr} {pos : Pos} {m : ME} (h : JE c N sc e m) (cl : Cls c.K C) (na : NoAttr c.K C f) (hb : ∀ env, attributeBase e f env (eval e env) = eval e env := by intros; rfl) : JE c N sc (.Attribute e f pos) (fldK C f m) := by
  obtain ⟨t, h1, h2⟩ := h
  refine ⟨fun W => tFld c.K (t W) f, fun X W I T => ?_, fun W B σ H ρ α S Qm Em m Q q x => h2 W B σ H ρ α S _ Em m _ (fun v d B1 H1 α1 A r m => ?_) x⟩
  · have q := pe_fld (f := f) (pos := pos) (h1 X W I T) (hb _)
    rw [I.K] at q
    exact q
  · obtain ⟨o, ho, z, hz, m⟩ := m
    obtain ⟨fs, rfl, l⟩ := fldD_of hz
    obtain ⟨a, dx, gs, rfl, k1, k2⟩ := (vw_rs A.bs r ho).oD
    obtain ⟨w, l1, rw_⟩ := k2.look l
    exact ⟨a, C, dx, gs, w, rfl, k1, cl, na, l1, q w z B1 H1 α1 A rw_ m⟩
/-- a cell that holds an instance -/
def cellO (C : Nat) (α : AH) (o : D) (Q : Addr → List (D × D) → Prop) : Prop := ∃ a fs, o = dref a ∧ α a = some (oD C fs) ∧ Q a fs
def setaS (C : Nat) (f : Str) (me mo : ME) : MS := fun ρ α D => me ρ α (fun d α1 => mo ρ α1 (fun o α2 => cellO C α2 o fun a fs => fs.length < 900 ∧ D.nx ρ (aset α2 a (oD C (putD f d fs)))) (fun x α1 => D.ex x ρ α1)) (fun x α1 => D.ex x ρ α1)
theorem js_seta {C : Nat} {f : Str} {o e : Expr} {p2 pos : Pos} {me mo : ME} (cl : Cls c.K C) (na : NoAttr c.K C f) (h : JE c N sc e me) (ho : JE c N sc o mo)
    (hs : ∀ env, swapsWith e (some (.Attribute o f p2)) pos.line env = pure false := by intros; rfl) : JS c N sc (.Assign [.Attribute o f p2] e pos) (setaS C f me mo) := by
  obtain ⟨t, h1, h2⟩ := h
  obtain ⟨u, k1, k2⟩ := ho
  refine ⟨fun W => sFld c.K (u W) (t W) f, fun X W I T => ?_, fun W B σ H ρ α S D m Dn h' x => ?_⟩
  · have q := ps_fld (f := f) (pos := pos) (pos' := p2) (k1 X W I T) (h1 X W I T) (hs _)
    rw [I.K] at q
    exact q
  · refine h2 W B σ H ρ α S _ _ m _ (fun v d B1 H1 α1 A1 r1 m => ?_) (x.sx S)
    refine k2 W B1 σ H1 ρ α1 (S.step A1) _ _ m _ (fun w o B2 H2 α2 A2 r2 m => ?_) ((x.sx S).after S.bs A1)
    obtain ⟨a, fs, rfl, e, hl, m⟩ := m
    obtain ⟨b2, dx, gs, g1, g2⟩ := A2.bs.obj e
    have hw := r2.cell
    subst hw
    refine ⟨a, C, dx, gs, rfl, g1, cl, na, by rw [g2.length]; omega, ?_⟩
    have w := Af.write (o := .ins C dx (putF f v gs)) (c := oD C (putD f d fs)) A2.bs e (.obj (g2.put (r1.mono A2.sub)))
    have A := (A1.trans S.bs A2).trans S.bs w
    exact h'.nx _ _ _ _ _ A (S.step A) m
/-- o.f op= e -/
def augaS (C : Nat) (f : Str) (g : D → D → Option D) (mo me : ME) : MS := fun ρ α D => mo ρ α (fun o α1 => cellO C α1 o fun _ fs0 => oq (lookF f fs0) fun d => me ρ α1 (fun e α2 => oq (g d e) fun z => cellO C α2 o fun a fs => fs.length < 900 ∧ D.nx ρ (aset α2 a (oD C (putD f z fs)))) (fun x α1 => D.ex x ρ α1)) (fun x α1 => D.ex x ρ α1)
theorem js_auga {op : Operator} {C : Nat} {f : Str} {o e : Expr} {p2 pos : Pos} {me mo : ME} {g : D → D → Option D} (og : OpD c.K (In c N sc) (inplaceOp op) g) (cl : Cls c.K C) (na : NoAttr c.K C f) (ho : JE c N sc o mo) (h : JE c N sc e me) : JS c N sc (.AugAssign (.Attribute o f p2) op e pos) (augaS C f g mo me) := by
  obtain ⟨r, og1, og2⟩ := og.ex
  obtain ⟨t, h1, h2⟩ := h
  obtain ⟨u, k1, k2⟩ := ho
  refine ⟨fun W => sFldAug c.K (u W) (t W) r f, fun X W I T => ?_, fun W B σ H ρ α S D m Dn h' x => ?_⟩
  · have q := ps_fldaug (f := f) (pos := pos) (tpos := p2) (k1 X W I T) (h1 X W I T) (og1 X I)
    rw [I.K] at q
    exact q
  · refine k2 W B σ H ρ α S _ _ m _ (fun w o B1 H1 α1 A1 r1 m => ?_) (x.sx S)
    obtain ⟨a, fs0, rfl, e, d, hd, m⟩ := m
    obtain ⟨b1, dx, gs, g1, g2⟩ := A1.bs.obj e
    have hw := r1.cell
    subst hw
    obtain ⟨v, l1, l2⟩ := g2.look hd
    refine ⟨a, C, dx, gs, v, rfl, g1, cl, na, l1, ?_⟩
    refine h2 W B1 σ H1 ρ α1 (S.step A1) _ _ m _ (fun y e2 B2 H2 α2 A2 r2 m => ?_) ((x.sx S).after S.bs A1)
    obtain ⟨z, hz, a', fs, ea, e3, hl, m⟩ := m
    cases dref_inj ea
    refine og2 B2 H2 v y d e2 z A2.bs.bk (.vis (l2.mono A2.sub)) (.vis r2) hz _ fun v3 H3 s3 r3 => ?_
    have A3 := (A1.trans S.bs A2).trans S.bs (Af.of_sub A2.bs s3)
    obtain ⟨b3, dx', gs', g3, g4⟩ := A3.bs.obj e3
    refine ⟨dx', gs', g3, by rw [g4.length]; omega, ?_⟩
    have w := Af.write (o := .ins C dx' (putF f v3 gs')) (c := oD C (putD f z fs)) A3.bs e3 (.obj (g4.put r3))
    have A := A3.trans S.bs w
    exact h'.nx _ _ _ _ _ A (S.step A) m
abbrev MtD (c : C0) (k C : Nat) (m : Str) (np : Nat) (ds : List D) (fm : Fm) : Prop := ∃ (f : Addr) (fd : FuncData) (ps : List Str) (dV : List Value) (dvs : List V), FnOk c.P c.w c.K c.mg c.base (L2.CX c.P c.w) k f fd ps (fun vs H Q E => vs.length = ps.length ∧ spD c.K fm vs H Q E) ∧ Meth c.K C m f ∧ Binds c.K fd ps dV ∧ Vals dvs dV ∧ (∀ H, RpL c.K H dvs ds) ∧ ps.length = np + 1 + ds.length
theorem MtD.ex {c : C0} {k C : Nat} {m : Str} {np : Nat} {ds : List D} {fm : Fm} (h : MtD c k C m np ds fm) : ∃ (f : Addr) (fd : FuncData) (ps : List Str) (dV : List Value) (dvs : List V), FnOk c.P c.w c.K c.mg c.base (L2.CX c.P c.w) k f fd ps (fun vs H Q E => vs.length = ps.length ∧ spD c.K fm vs H Q E) ∧ Meth c.K C m f ∧ Binds c.K fd ps dV ∧ Vals dvs dV ∧ (∀ H, RpL c.K H dvs ds) ∧ ps.length = np + 1 + ds.length := h
theorem Pro.mt {f : Addr} {ps : List Str} {k np C : Nat} {m : Str} {dvs : List V} {js : List Nat} {fm : Fm} (P : Pro c k f ps dvs js fm) (M : Meth c.K C m f) (hp : ps.length = np + 1 := by rfl) : MtD c k C m np [] fm := by
  obtain ⟨fd, F, kp, b, _⟩ := P.ex
  exact ⟨f, fd, ps, [], [], F, M, b, .nil, fun _ => .nil, hp⟩
theorem Pro.mtd {f : Addr} {ps : List Str} {k np C : Nat} {m : Str} {dvs : List V} {js : List Nat} {fm : Fm} (P : Pro c k f ps dvs js fm) (M : Meth c.K C m f) (j : Nat) (ds : List D) (hj : j ∈ js) (hd : ∀ H, RpL c.K H (dvs.drop j) ds) (hp : ps.length = np + 1 + ds.length := by rfl) : MtD c k C m np ds fm := by
  obtain ⟨fd, F, kp, b, b2⟩ := P.ex
  obtain ⟨dV, h1, h2⟩ := b2 j hj
  exact ⟨f, fd, ps, dV, _, F, M, h2, h1, hd, hp⟩
def noF (C : Nat) (m : Str) : D → Bool
  | .dict ((.none, .int k) :: fs) => decide (k = Int.ofNat C) && (lookF m fs).isNone
  | _ => false
theorem noF_of {C : Nat} {m : Str} {d : D} (h : noF C m d = true) : ∃ fs, d = oD C fs ∧ lookF m fs = none := by
  unfold noF at h
  split at h
  · rename_i k fs
    rw [Bool.and_eq_true] at h
    refine ⟨fs, ?_, Option.isNone_iff_eq_none.mp h.2⟩
    unfold oD
    rw [of_decide_eq_true h.1]
  · cases h
def methK (C : Nat) (m : Str) (np : Nat) (fm : Fm) (ds : List D) (mo : ME) (ma : ML) : ME := fun ρ α Q E => mo ρ α (fun o α1 => oq (vw α1 o) fun od => noF C m od = true ∧ ma ρ α1 (fun as α2 => as.length = np ∧ fm (o :: (as ++ ds)) α2 Q E) E) E
def tMethSD (C : Addr) (m : Str) (sp : Sp) (dvs : List V) (E : L2.St → XK) (ta : TE) (t : TA) : TE := fun σ H Q => ta σ H fun x H1 => ∃ a dx fs, x = .ref a ∧ H1 a = some (.ins C dx fs) ∧ fs.lookup m = none ∧
  t σ H1 fun vs H2 => sp (x :: (vs ++ dvs)) H2 Q (E σ)
theorem pe_methSD {X : Cx} {CX : CXT} {k : Nat} {f C : Addr} {fd : FuncData} {ps : List Str} {sp : Sp} {dvs : List V} {ds : List Value} {E : L2.St → XK} {m : Str} {pos apos : Pos} {e o : Expr} {es : List Expr} {ta : TE} {t : TA} {pl : Sem Bool} (he : PE X o ta) (c : Cls X.K C) (hm : Meth X.K C m f) (F : FnOk X.prog X.w X.K X.mg X.base CX k f fd ps sp) (hr : Room k X.A) (hb : Binds X.K fd ps ds) (hd : Vals dvs ds) (hx : ∀ σ, PassesAt CX X σ (E σ)) (ha : PA X (e :: es) t)
    (hst : starEach (e :: es) X.env = (false, eval e X.env) :: starEach es X.env := by rfl) (hpl : (backTo pos (starEach es X.env)).any (·.1) = false := by rfl)
    (ht : eval (.Call (.Attribute o m apos) (e :: es) [] pos) X.env = (do
      let ov ← eval o X.env
      standAt apos.atName
      let (f, first) ← holding [ov] (getMethod ov m pl)
      callWith pos f first (backTo pos (starEach (e :: es) X.env)) (backToKw pos (keywordEach [] X.env))) := by rfl) :
    PE X (.Call (.Attribute o m apos) (e :: es) [] pos) (tMethSD C m sp dvs E ta t) := by
  refine ⟨fun pins s σ H Q I h => ?_⟩
  refine PySem.W.methodCall_KW (pl := pl) (thn (he.run pins s σ H _ I h) fun u s1 ⟨x, H1, I1, rx, a, dx, fs, ex, ea, l, q⟩ => ?_) ht
  subst ex
  obtain rfl : u = Value.ref a := rx
  refine getmeth_ok I1 ea c hm l ?_
  refine PySem.W.callWith_K (first := [.ref a]) (h₀ := X.base) I.ok.mod.kin hm.kp (thn (ha.run pos pins s1 σ H1 _ I1 q) fun us s2 ⟨vs, H2, I2, r, q2⟩ => ⟨I2.kIn, ?_⟩) hst hpl
  exact run_fnSD (us := .ref a :: us) (vs := .ref a :: vs) F hr hb hd (hx σ) I2 (.cons rfl r) q2
theorem pe_methSD0 {X : Cx} {CX : CXT} {k : Nat} {f C : Addr} {fd : FuncData} {ps : List Str} {sp : Sp} {dvs : List V} {ds : List Value} {E : L2.St → XK} {m : Str} {pos apos : Pos} {o : Expr} {ta : TE} {pl : Sem Bool} (he : PE X o ta) (c : Cls X.K C) (hm : Meth X.K C m f) (F : FnOk X.prog X.w X.K X.mg X.base CX k f fd ps sp) (hr : Room k X.A) (hb : Binds X.K fd ps ds) (hd : Vals dvs ds) (hx : ∀ σ, PassesAt CX X σ (E σ))
    (ht : eval (.Call (.Attribute o m apos) [] [] pos) X.env = (do
      let ov ← eval o X.env
      standAt apos.atName
      let (f, first) ← holding [ov] (getMethod ov m pl)
      callWith pos f first (backTo pos (starEach [] X.env)) (backToKw pos (keywordEach [] X.env))) := by rfl) :
    PE X (.Call (.Attribute o m apos) [] [] pos) (tMethSD C m sp dvs E ta tNil) := by
  refine ⟨fun pins s σ H Q I h => ?_⟩
  refine PySem.W.methodCall_KW (pl := pl) (thn (he.run pins s σ H _ I h) fun u s1 ⟨x, H1, I1, rx, a, dx, fs, ex, ea, l, q⟩ => ?_) ht
  subst ex
  obtain rfl : u = Value.ref a := rx
  refine getmeth_ok I1 ea c hm l ?_
  exact PySem.W.callWith_K0 (first := [.ref a]) I1.kIn hm.kp (run_fnSD (us := [.ref a]) (vs := [.ref a]) F hr hb hd (hx σ) I1 (.cons rfl .nil) q)
theorem sd_meth {K : Frag} {W : WX} {C np n : Nat} {m : Str} {fm : Fm} {mo : ME} {ma : ML} {ta : TE} {t : TA} {dvs : List V} {ds : List D} (hd : ∀ H, RpL K H dvs ds) (hn : n = np + 1 + ds.length) (h : Sd K W ta mo) (hr : SA K W t ma) :
    Sd K W (tMethSD C m (fun vs H Q E => vs.length = n ∧ spD K fm vs H Q E) dvs (WE W) ta t) (methK C m np fm ds mo ma) := fun B σ H ρ α S Qm Em mm Q q x => by
  refine h B σ H ρ α S _ Em mm _ (fun v o B1 H1 α1 A1 r1 mm => ?_) x
  obtain ⟨od, ho, hno, mm⟩ := mm
  obtain ⟨fs, rfl, hl⟩ := noF_of hno
  obtain ⟨a, dx, gs, rfl, g1, g2⟩ := (vw_rs A1.bs r1 ho).oD
  refine ⟨a, dx, gs, rfl, g1, g2.lookN hl, ?_⟩
  refine hr B1 σ H1 ρ α1 (S.step A1) _ Em mm _ (fun vs as B2 H2 α2 A2 ra mm => ?_) (x.after S.bs A1)
  have A12 := A1.trans S.bs A2
  have el : (vs ++ dvs).length = as.length + ds.length := by rw [List.length_append, ra.length, (hd H).length]
  refine ⟨by rw [List.length_cons, el, mm.1, hn]; omega, B2, α2, o :: (as ++ ds), Qm, Em, A2.bs, .cons (r1.mono A2.sub) (ra.append (hd _)), mm.2, fun v d B3 H3 α3 A3 r3 m => q v d B3 H3 α3 (A12.trans S.bs A3) r3 m, fun y B3 α3 cls d H3 A3 r3 m => x y B3 α3 cls d H3 (A12.trans S.bs A3) r3 m⟩
theorem je_meth {C j np : Nat} {m : Str} {fm : Fm} {o e : Expr} {es : List Expr} {apos pos : Pos} {mo : ME} {ma : ML} {ds : List D} {pl : Env → Sem Bool} (cl : Cls c.K C) (M : MtD c j C m np ds fm) (hk : j ≤ c.k) (h : JE c N sc o mo) (ha : JL c N sc (e :: es) ma) (hc : c.cm = true := by rfl)
    (hst : ∀ env, starEach (e :: es) env = (false, eval e env) :: starEach es env := by intros; rfl) (hpl : ∀ env, (backTo pos (starEach es env)).any (·.1) = false := by intros; rfl)
    (ht : ∀ env, eval (.Call (.Attribute o m apos) (e :: es) [] pos) env = (do
      let ov ← eval o env
      standAt apos.atName
      let (f, first) ← holding [ov] (getMethod ov m (pl env))
      callWith pos f first (backTo pos (starEach (e :: es) env)) (backToKw pos (keywordEach [] env))) := by intros; rfl) : JE c N sc (.Call (.Attribute o m apos) (e :: es) [] pos) (methK C m np fm ds mo ma) := by
  obtain ⟨f, fd, ps, dV, dvs, F, h1, h2, h3, h4, h5⟩ := M.ex
  obtain ⟨t, p1, s1⟩ := h
  obtain ⟨u, q1, q2⟩ := ha
  refine ⟨fun W => tMethSD C m (fun vs H Q E => vs.length = ps.length ∧ spD c.K fm vs H Q E) dvs (WE W) (t W) (u W), fun X W I T => ?_, fun W => sd_meth h4 h5 (s1 W) (q2 W)⟩
  have F' : FnOk X.prog X.w X.K X.mg X.base (L2.CX X.prog X.w) j f fd ps (fun vs H Q E => vs.length = ps.length ∧ spD c.K fm vs H Q E) := by
    rw [I.P, I.w, I.K, I.mg, I.base]
    exact F
  exact pe_methSD (p1 X W I T) (by rw [I.K]; exact cl) (by rw [I.K]; exact h1) F' ((I.rm hc).mono hk) (by rw [I.K]; exact h2) h3 (fun σ => passAt T σ) (q1 X W I T) (hst _) (hpl _) (ht _)
theorem je_meth0 {C j : Nat} {m : Str} {fm : Fm} {o : Expr} {apos pos : Pos} {mo : ME} {ds : List D} {pl : Env → Sem Bool} (cl : Cls c.K C) (M : MtD c j C m 0 ds fm) (hk : j ≤ c.k) (h : JE c N sc o mo) (hc : c.cm = true := by rfl)
    (ht : ∀ env, eval (.Call (.Attribute o m apos) [] [] pos) env = (do
      let ov ← eval o env
      standAt apos.atName
      let (f, first) ← holding [ov] (getMethod ov m (pl env))
      callWith pos f first (backTo pos (starEach [] env)) (backToKw pos (keywordEach [] env))) := by intros; rfl) : JE c N sc (.Call (.Attribute o m apos) [] [] pos) (methK C m 0 fm ds mo nilK) := by
  obtain ⟨f, fd, ps, dV, dvs, F, h1, h2, h3, h4, h5⟩ := M.ex
  obtain ⟨t, p1, s1⟩ := h
  refine ⟨fun W => tMethSD C m (fun vs H Q E => vs.length = ps.length ∧ spD c.K fm vs H Q E) dvs (WE W) (t W) tNil, fun X W I T => ?_, fun W => sd_meth h4 h5 (s1 W) sa_nil⟩
  have F' : FnOk X.prog X.w X.K X.mg X.base (L2.CX X.prog X.w) j f fd ps (fun vs H Q E => vs.length = ps.length ∧ spD c.K fm vs H Q E) := by
    rw [I.P, I.w, I.K, I.mg, I.base]
    exact F
  exact pe_methSD0 (p1 X W I T) (by rw [I.K]; exact cl) (by rw [I.K]; exact h1) F' ((I.rm hc).mono hk) (by rw [I.K]; exact h2) h3 (fun σ => passAt T σ) (ht _)
abbrev MkD (c : C0) (k : Nat) (x : Str) (C np : Nat) (ds : List D) (fm : Fm) : Prop := ∃ (f : Addr) (fd : FuncData) (ps : List Str) (dV : List Value) (dvs : List V), Mk c.K C f ∧ FnOk c.P c.w c.K c.mg c.base (L2.CX c.P c.w) k f fd ps (fun vs H Q E => vs.length = ps.length ∧ spD c.K fm vs H Q E) ∧ c.mg x = some (.ref C) ∧ Binds c.K fd ps dV ∧ Vals dvs dV ∧ (∀ H, RpL c.K H dvs ds) ∧ ps.length = np + 1 + ds.length
theorem MkD.ex {c : C0} {k : Nat} {x : Str} {C np : Nat} {ds : List D} {fm : Fm} (h : MkD c k x C np ds fm) : ∃ (f : Addr) (fd : FuncData) (ps : List Str) (dV : List Value) (dvs : List V), Mk c.K C f ∧ FnOk c.P c.w c.K c.mg c.base (L2.CX c.P c.w) k f fd ps (fun vs H Q E => vs.length = ps.length ∧ spD c.K fm vs H Q E) ∧ c.mg x = some (.ref C) ∧ Binds c.K fd ps dV ∧ Vals dvs dV ∧ (∀ H, RpL c.K H dvs ds) ∧ ps.length = np + 1 + ds.length := h
theorem Pro.mk_ {f : Addr} {ps : List Str} {k np C : Nat} {x : Str} {dvs : List V} {js : List Nat} {fm : Fm} (P : Pro c k f ps dvs js fm) (M : Mk c.K C f) (hm : c.mg x = some (.ref C)) (hp : ps.length = np + 1 := by rfl) : MkD c k x C np [] fm := by
  obtain ⟨fd, F, kp, b, _⟩ := P.ex
  exact ⟨f, fd, ps, [], [], M, F, hm, b, .nil, fun _ => .nil, hp⟩
theorem Pro.mkd {f : Addr} {ps : List Str} {k np C : Nat} {x : Str} {dvs : List V} {js : List Nat} {fm : Fm} (P : Pro c k f ps dvs js fm) (M : Mk c.K C f) (hm : c.mg x = some (.ref C)) (j : Nat) (ds : List D) (hj : j ∈ js) (hd : ∀ H, RpL c.K H (dvs.drop j) ds) (hp : ps.length = np + 1 + ds.length := by rfl) : MkD c k x C np ds fm := by
  obtain ⟨fd, F, kp, b, b2⟩ := P.ex
  obtain ⟨dV, h1, h2⟩ := b2 j hj
  exact ⟨f, fd, ps, dV, _, M, F, hm, h2, h1, hd, hp⟩
def mkK (C np : Nat) (fm : Fm) (ds : List D) (ma : ML) : ME := fun ρ α Q E => ma ρ α (fun as α1 => as.length = np ∧ ∀ p, α1 p = none → fm (dref p :: (as ++ ds)) (aset α1 p (oD C [])) (fun v α2 => v = .none ∧ Q (dref p) α2) E) E
def tMakeSD (C : Addr) (sp : Sp) (dvs : List V) (E : L2.St → XK) (t : TA) : TE := fun σ H Q => t σ H fun vs H1 => ∀ x dx, H1 x = none → H1 dx = none → dx ≠ x →
  sp (.ref x :: (vs ++ dvs)) (upd (upd H1 dx (.own x)) x (.ins C dx [])) (fun v H2 => v = .non ∧ Q (.ref x) H2) (E σ)
theorem run_makeSD {X : Cx} {CX : CXT} {k : Nat} {f C : Addr} {fd : FuncData} {ps : List Str} {sp : Sp} {dvs : List V} {ds : List Value} {E : L2.St → XK} {pins : List (Addr × Obj)} {σ : L2.St} {H : Hp} {s : Shared} {Q : VK} {us : List Value} {vs : List V} (M : Mk X.K C f) (F : FnOk X.prog X.w X.K X.mg X.base CX k f fd ps sp) (hr : Room (k + 1) X.A) (hb : Binds X.K fd ps ds) (hd : Vals dvs ds)
    (hx : PassesAt CX X σ (E σ)) (I : Inv X pins σ H s) (r : Vals vs us)
    (h : ∀ x dx, H x = none → H dx = none → dx ≠ x → sp (.ref x :: (vs ++ dvs)) (upd (upd H dx (.own x)) x (.ins C dx [])) (fun v H2 => v = .non ∧ Q (.ref x) H2) (E σ)) :
    wpAny (model X.prog X.w) X.A (call (.ref C) us) (EP X pins σ Q) X.xe s := by
  have hq := h (s.heap.objs.size + 1) s.heap.objs.size (I.hok.fresh (Nat.le_succ _)) (I.hok.fresh (Nat.le_refl _)) (Nat.ne_of_lt (Nat.lt_succ_self _))
  have I2 := Inv.made (C := C) I
  have r2 : Vals (V.ref (s.heap.objs.size + 1) :: (vs ++ dvs)) (Value.ref (s.heap.objs.size + 1) :: (us ++ ds)) := .cons rfl (r.append hd)
  have hl : (Value.ref (s.heap.objs.size + 1) :: us ++ ds).length = ps.length := by
    have e := r2.length
    rw [F.len _ _ _ _ hq] at e
    exact e.symm
  refine wpAny_call (make_map (f := f) I.kIn M.makes M.init (beq_iff_eq.mp M.fn) (codeAny_mono (F.run _ X.stack _ _ ⟨Value.ref (s.heap.objs.size + 1) :: us, []⟩ (Value.ref (s.heap.objs.size + 1) :: (us ++ ds)) _ _ (E σ) (hr.make C us [])
    (I2.env0.make C us []) (hb _ (Value.ref (s.heap.objs.size + 1) :: us) I2.kIn hl) r2 hq) fun r s' hq' => ?_))
  cases r with
  | error e => exact hx pins _ _ e s' I2 hq'
  | ok fl =>
    cases fl with
    | ret u =>
      obtain ⟨v, H', I3, rv, ev, q3⟩ := I2.after hq'
      subst ev
      exact ⟨rv, ⟨V.ref (s.heap.objs.size + 1), H', I3, rfl, q3⟩⟩
    | next => exact False.elim hq'
    | brk => exact False.elim hq'
    | cont => exact False.elim hq'
theorem pe_makeSD {X : Cx} {CX : CXT} {k : Nat} {f C : Addr} {fd : FuncData} {ps : List Str} {sp : Sp} {dvs : List V} {ds : List Value} {E : L2.St → XK} {x : Str} {p pos : Pos} {e : Expr} {es : List Expr} {t : TA} (M : Mk X.K C f) (F : FnOk X.prog X.w X.K X.mg X.base CX k f fd ps sp) (hr : Room (k + 1) X.A) (hg : Gl X x) (hm : X.mg x = some (.ref C)) (hb : Binds X.K fd ps ds) (hd : Vals dvs ds) (hx : ∀ σ, PassesAt CX X σ (E σ))
    (ha : PA X (e :: es) t) (hdb : (x == ("__debug__" : Str)) = false := by decide) (he : starEach (e :: es) X.env = (false, eval e X.env) :: starEach es X.env := by rfl) (hpl : (backTo pos (starEach es X.env)).any (·.1) = false := by rfl) :
    PE X (.Call (.Name x p) (e :: es) [] pos) (tMakeSD C sp dvs E t) := by
  refine ⟨fun pins s σ H Q I h => ?_⟩
  refine wpAny_Call_Name_kw (ld_glob I hg hm ?_ hdb)
  refine PySem.W.callWith_K (h₀ := X.base) I.ok.mod.kin M.kp (thn (ha.run pos pins s σ H _ I h) fun us s1 ⟨vs, H1, I1, r, q⟩ => ⟨I1.kIn, ?_⟩) he hpl
  exact run_makeSD M F hr hb hd (hx σ) I1 r q
theorem sd_mk {K : Frag} {W : WX} {C np n : Nat} {fm : Fm} {ma : ML} {t : TA} {dvs : List V} {ds : List D} (hd : ∀ H, RpL K H dvs ds) (hn : n = np + 1 + ds.length) (hr : SA K W t ma) :
    Sd K W (tMakeSD C (fun vs H Q E => vs.length = n ∧ spD K fm vs H Q E) dvs (WE W) t) (mkK C np fm ds ma) := fun B σ H ρ α S Qm Em mm Q q x => by
  refine hr B σ H ρ α S _ Em mm _ (fun vs as B1 H1 α1 A1 ra mm => ?_) x
  intro l dx nl ndx ne
  have sb : Sub H1 (upd (upd H1 dx (.own l)) l (.ins C dx [])) := fun b o e => by
    rw [upd_ne (ne_of_none e nl), upd_ne (ne_of_none e ndx)]
    exact e
  have A2 := Af.cell (c := oD C []) A1.bs sb nl (by rw [upd_same]; exact .obj .nil)
  have A12 := A1.trans S.bs A2
  have el : (vs ++ dvs).length = as.length + ds.length := by rw [List.length_append, ra.length, (hd H).length]
  refine ⟨by rw [List.length_cons, el, mm.1, hn]; omega, _, _, dref l :: (as ++ ds), _, Em, A2.bs, .cons .ref ((ra.mono A2.sub).append (hd _)), mm.2 l (A1.bs.new nl), fun v d B3 H3 α3 A3 r3 m => ?_, fun y B3 α3 cls d H3 A3 r3 m => x y B3 α3 cls d H3 (A12.trans S.bs A3) r3 m⟩
  obtain ⟨rfl, m⟩ := m
  exact ⟨r3.nonei, q _ _ B3 H3 α3 (A12.trans S.bs A3) .ref m⟩
theorem je_mk {C j np : Nat} {x : Str} {fm : Fm} {e : Expr} {es : List Expr} {p pos : Pos} {ma : ML} {ds : List D} (M : MkD c j x C np ds fm) (hk : j + 1 ≤ c.k) (hg : sc.names.lookup x = some .globalImplicit) (ha : JL c N sc (e :: es) ma) (hc : c.cm = true := by rfl)
    (hdb : (x == ("__debug__" : Str)) = false := by decide) (he : ∀ env, starEach (e :: es) env = (false, eval e env) :: starEach es env := by intros; rfl) (hpl : ∀ env, (backTo pos (starEach es env)).any (·.1) = false := by intros; rfl) :
    JE c N sc (.Call (.Name x p) (e :: es) [] pos) (mkK C np fm ds ma) := by
  obtain ⟨f, fd, ps, dV, dvs, M, F, h1, h2, h3, h4, h5⟩ := M.ex
  obtain ⟨u, q1, q2⟩ := ha
  refine ⟨fun W => tMakeSD C (fun vs H Q E => vs.length = ps.length ∧ spD c.K fm vs H Q E) dvs (WE W) (u W), fun X W I T => ?_, fun W => sd_mk h4 h5 (q2 W)⟩
  have F' : FnOk X.prog X.w X.K X.mg X.base (L2.CX X.prog X.w) j f fd ps (fun vs H Q E => vs.length = ps.length ∧ spD c.K fm vs H Q E) := by
    rw [I.P, I.w, I.K, I.mg, I.base]
    exact F
  exact pe_makeSD (by rw [I.K]; exact M) F' ((I.rm hc).mono hk) (I.gl hg) (by rw [I.mg]; exact h1) (by rw [I.K]; exact h2) h3 (fun σ => passAt T σ) (q1 X W I T) hdb (he _) (hpl _)
def scriptD (ns : List Int) : D := .list (ns.map PyData.int)
/-- the law's end: its mirror gives True at every script -/
theorem law_fn {f : Addr} {fd : FuncData} {k : Nat} {m : Fm} {x : Str} (F : FnOk c.P c.w c.K c.mg c.base (L2.CX c.P c.w) k f fd [x] (fun vs H Q E => vs.length = [x].length ∧ spD c.K m vs H Q E)) (hm : ∀ ns : List Int, ns.length ≤ 63 → m [scriptD ns] (fun _ => none) (fun d _ => d = .bool true) (fun _ _ => False)) :
    FnOk c.P c.w c.K c.mg c.base (L2.CX c.P c.w) k f fd [x] (fun vs H Q _ => ∃ (a : Addr) (ns : List Int), vs = [.ref a] ∧ SqL c.K H a (ns.map V.int) ∧ ns.length ≤ 63 ∧ ∀ H', Q (.bl true) H') :=
  F.imp fun vs H Q E h => by
    obtain ⟨a, ns, rfl, hS, hl, q⟩ := h
    have hh : hide (fun _ => false) H = H := by
      funext b
      rfl
    refine ⟨rfl, fun _ => false, fun _ => none, [scriptD ns], _, _, ⟨fun a c h => (by cases h), fun a h => (by cases h)⟩, ?_, hm ns hl, fun v d B' H' α' A r m => ?_, fun x B' α' cls d H' A r m => m.elim⟩
    · rw [hh]
      exact .cons (.lst hS (RpL.ints ns)) .nil
    · subst m
      rw [r.booli]
      exact q H'
theorem walk_law {l : PySem.W.OpenLaw} {q : Program} {loose : List Str} {XP : (Str → Option Value) → Heap → Prop} {YP : World → Heap → Prop} {d : DefRec} {K : Params → PySem.W.Frag} {k : Nat} {x : Str} (hn : l.most = some 63) (hdf : d.params.defaults = [])
    (hr : Room k callerA) (hY : ∀ (w : World) (h : Heap), YP w h → (K w.params).In h)
    (F : ∀ (w : World) (mg : Str → Option Value) (fa : Addr) (h : Heap), (K w.params).In h → h.Ns mainGlobals mg → mg d.name = some (.ref fa) →
      ∃ fd : FuncData, (∀ (s : Shared) (u : Value), BindsTo s fd ⟨[u], []⟩ [(x, u)]) ∧ ∀ base : Heap, (K w.params).In base → base.Ns mainGlobals mg → FnOk l.prog w (K w.params) mg base (L2.CX l.prog w) k fa fd [x]
        (fun vs H Q _ => ∃ (a : Addr) (ns : List Int), vs = [.ref a] ∧ SqL (K w.params) H a (ns.map V.int) ∧ ns.length ≤ 63 ∧ ∀ H', Q (.bl true) H')) :
    PySem.W.WalkO q loose XP YP l.row.toRowW d [] (fun f vs => PySem.call f vs) :=
  L2.walk_of (n := 63) (k := k) (x := x) (CX := fun w => L2.CX l.prog w) (sp := fun w vs H Q _ => ∃ (a : Addr) (ns : List Int), vs = [.ref a] ∧ SqL (K w.params) H a (ns.map V.int) ∧ ns.length ≤ 63 ∧ ∀ H', Q (.bl true) H') hn (by decide) hdf hr hY F (fun _ _ a ns hl _ hS => ⟨a, ns, rfl, hS, hl, fun _ => rfl⟩) fun w H s e s' h => by
    obtain ⟨_, _, _, _, _, _, _, _, _, _, _, _, z⟩ := h
    exact z
end Hz
namespace Hz
open PySem L2
section
open PySem.W PySem.Calls PyProof.Rows
variable {prog : Program} {w : World} {A : Around} {E : Value → Shared → Prop} {h : Heap} {g : Array GenState} {d : Drawn} {t : Nat} {os : OsState}
variable {nm q : Str} {C N : Addr} {bs bm : List Value} {hdct : Bool} {sn : List Str} {sub : List Value} {ab : Bool} {col : Option Bool} {dd : Option Addr} {k0 k1 k2 k3 k5 : Option Value}
theorem call_mwVE {u e t0 : Addr} {rest : List Value} {Q : Value → Shared → Prop}
    (hC : h.get? C = some (excClassObj nm q C N bs bm hdct sn sub ab col dd k0 k1 k2 k3 k5 "ValueError.__new__")) (he : h.get? e = some (HandSPX.excO C t0)) (hu : h.get? u = some (kxs_mw "ValueError.__init__" e)) (hrest : rest.length ≤ sizeLine)
    (hq : ∀ h' t1, (∀ b o, b ≠ e → h.get? b = some o → h'.get? b = some o) → h'.get? e = some (HandSPX.excO C t1) → Q .none ⟨h', g, d, t, os⟩) :
    wpAny (model prog w) A (call (.ref u) rest) Q E ⟨h, g, d, t, os⟩ := by
  refine wpAny_call (codeAny_of_tree ?_)
  show wpAny _ A.in1 (callAny (.ref u) ⟨rest, []⟩) _ _ _
  simp only [callAny]
  refine wpAny_bind (wpAny_load hu ?_)
  simp only [kxs_mw, show (Value.type "method-wrapper" == Value.type "method" || Value.type "method-wrapper" == Value.type "builtin_function_or_method" || Value.type "method-wrapper" == Value.type "method-wrapper") = true by decide, if_true]
  refine W.KFB.if_so (by decide) ?_
  refine wpAny_bind (ESX.check_bound F.excBase_ValueError hC he rfl ?_)
  refine wpAny_bind (wpAny_pure (wpAny_pure ?_))
  refine ⟨Code.quiet_builtin _ (by decide +kernel), codeAny_builtin F.excBase_ValueError.initEntry ?_⟩
  rw [Around.under_plainId F.excBase_ValueError.init.plain _]
  wp_walk
  refine hq _ h.objs.size (fun b o hb ho => ?_) ?_
  · rw [Heap.get?_update_other _ _ (Ne.symm hb)]
    exact Heap.get?_push_of_some _ ho
  · rw [Heap.get?_update_self _ (Heap.get?_push_of_some _ he) rfl]
    rfl
end
/-- what the written part says of an exception class whose __init__ is cF's, at fI -/
structure ExC (K : Frag) (cF fI C : Addr) : Prop where
  o : OexC K C
  cl : ∃ cd, PySem.W.clsIn K C = some cd
  sb : PySem.W.mroIn K C (.ref cF) = some true
  su : PySem.W.ks_superIn K C cF "__init__" = some (some (.builtin "ValueError.__init__"))
  ve : PySem.W.subIn K (.ref C) (.type "ValueError") = some true
  np : PySem.W.findIn K (.ref C) "place" = some none
  ini : PySem.W.findIn K (.ref C) "__init__" = some (some (.ref fI))
  hd : PySem.W.hasDictIn K C = true
  ga : PySem.W.findIn K (.ref C) "__getattribute__" = some (some (.builtin "BaseException.__getattribute__"))
  gg : PySem.W.findIn K (.ref C) "__getattr__" = some none
  ca : PySem.W.findIn K (.ref C) "__class__" = some (some (.builtin "object.__class__"))
  cn : PySem.W.specialIn K (.builtin "object.__class__") "__get__" = some (some (.builtin "getset_descriptor.__get__"))
  ct : PySem.W.takesIn K (.builtin "object.__class__") = some true
  cm : PySem.W.mroIn K C (.type "object") = some true
/-- the base class's __init__: its statement st: super().__init__(place); self.place = place -/
structure ExI (P : Program) (K : Frag) (cF fI : Addr) (qual : Str) (st : Stmt) : Prop where
  ex : ∃ (oc doc pm ct : Value) (od an : Option Addr) (kV : Value) (osl : Array (Option Value)) (cda cc : Addr) (ccl cl : Value) (cdd cld : Option Addr) (vs : Array Value) (ccs csl : Array (Option Value)) (file : Str) (tf : Tok) (cdD : ClassData),
    K.lookup fI = some ⟨oc, od, .func (PySem.W.ksFn "__init__" qual (defArgs st) (defBody st) (defScope st) .none kV doc pm an (.ref cda) ct cc), osl⟩ ∧ PySem.W.codeIn K (.ref cda) qual = true ∧
    K.lookup cda = some ⟨ccl, cdd, .fields vs, ccs⟩ ∧ vs[2]? = some (.str file tf) ∧ ((P.main.file : Str) == file) = true ∧ K.lookup cc = some ⟨cl, cld, .cell (some (.ref cF)), csl⟩ ∧ PySem.W.clsIn K cF = some cdD
  kp : PySem.W.keepIn K (.ref fI) = true
  ty : PySem.W.typeIn K (.ref fI) = some (.type "function")
  tp : PySem.W.nsIn K cStatics "thirdparty.any" = some none
  top : (P.main.scope.names.lookup ("super" : Str)).isSome = false
/-- what it promises -/
def spX (K : Frag) (cF fI : Addr) : Sp := fun vs H Q _ => ∃ (a C : Addr) (y : V), vs = [.ref a, y] ∧ ExC K cF fI C ∧ H a = some (exo a C none) ∧ ∀ dx, H dx = none → dx ≠ a → Q .non (upd (upd H dx (exd dx [("place", y)])) a (exo a C (some dx)))
/-- the written form of that def -/
structure InitForm (st : Stmt) : Prop where
  ex : ∃ (p0 p1 p2 p3 p4 p5 q0 q1 q2 q3 : Pos) (pl : Env → Sem Bool), defBody st = [.Expr (.Call (.Attribute (.Call (.Name "super" p0) [] [] p1) "__init__" p2) [.Name "place" p3] [] p4) p5, .Assign [.Attribute (.Name "self" q0) "place" q1] (.Name "place" q2) q3] ∧
    (∀ env, eval (.Call (.Attribute (.Call (.Name "super" p0) [] [] p1) "__init__" p2) [.Name "place" p3] [] p4) env = (do
      let ov ← attributeBase (.Call (.Name "super" p0) [] [] p1) "__init__" env (eval (.Call (.Name "super" p0) [] [] p1) env)
      standAt p2.atName
      let (f, first) ← holding [ov] (getMethod ov "__init__" (pl env))
      callWith p4 f first (backTo p4 (starEach [.Name "place" p3] env)) [])) ∧
    (∀ env, swapsWith (.Call (.Attribute (.Call (.Name "super" p0) [] [] p1) "__init__" p2) [.Name "place" p3] [] p4) none p5.line env = pure false) ∧
    ∀ env, swapsWith (.Name "place" q2) (some (.Attribute (.Name "self" q0) "place" q1)) q3.line env = pure false
  sc : (defScope st).names.lookup ("super" : Str) = some .globalImplicit ∧ (defScope st).names.lookup ("__class__" : Str) = some .free ∧ (defScope st).names.lookup ("self" : Str) = some .local ∧ (defScope st).names.lookup ("place" : Str) = some .local
  kind : (defScope st).kind = .function
  co : (defScope st).isCoroutine = false
  gen : (defScope st).isGenerator = false
  cells : ∀ x ∈ (defScope st).names, x.2 ≠ .cell
  free : ∀ p ∈ (defScope st).names, p.2 = .free → p.1 = ("__class__" : Str)
  hp : ((defArgs st).posonlyargs ++ (defArgs st).args).head?.map (·.arg) = some "self"
  bd : ∀ (kV doc pm : Value) (an : Option Addr) (cda cc : Addr) (ct : Value) (qual : Str) (us : List Value), us.length = 2 → bindArgs (PySem.W.ksFn "__init__" qual (defArgs st) (defBody st) (defScope st) .none kV doc pm an (.ref cda) ct cc) ⟨us, []⟩ = pure ((["self", "place"] : List Str).zip us)
section
open PySem.W PySem.Calls PyProof.Rows
variable {P : Program} {w : World} {K : Frag} {mg : Str → Option Value} {base : Heap}
/-- the context of that def's body -/
def cxI (P : Program) (w : World) (K : Frag) (mg : Str → Option Value) (base : Heap) (env : Env) (A : Around) (outer : List Env) (s : Shared) (H : Hp) (xe : Value → Shared → Prop) : Cx where
  prog := P
  w := w
  K := K
  mg := mg
  base := base
  A := A.deeper env
  N := ["self", "place"]
  s_0 := s
  H_0 := H
  env := env
  outer := outer
  stack := env :: outer
  ex := []
  calm := true
  fn := fun _ => false
  pn := []
  xe := xe
set_option maxRecDepth 200000 in
theorem exi_ok {cF fI : Addr} {qual : Str} {st : Stmt} (T : ExI P K cF fI qual st) (S : InitForm st) (hsup : mg "super" = none) :
    ∃ fd, FnOk P w K mg base (L2.CX P w) 1 fI fd ["self", "place"] (spX K cF fI) ∧ Binds K fd ["self", "place"] [] := by
  obtain ⟨oc, doc, pm, ct, od, an, kV, osl, cda, cc, ccl, cl, cdd, cld, vs, ccs, csl, file, tf, cdD, lk, hcd, hcode, hvs, hfile, hcell, hD⟩ := T.ex
  refine ⟨_, ⟨fun vs H Q E h => ?_, fun A outer s H args us vs' Q E hr e0 hb r hsp => ?_⟩, .all fun us hl => S.bd kV doc pm an cda cc ct qual us hl⟩
  · obtain ⟨a, C, y, rfl, _⟩ := h
    rfl
  obtain ⟨a, C, y, rfl, X, ea, hq⟩ := hsp
  obtain ⟨u1, u2, rfl, ra, ry⟩ : ∃ u1 u2, us = [u1, u2] ∧ RelV (.ref a) u1 ∧ RelV y u2 := by
    cases r with
    | cons r1 r2 =>
      cases r2 with
      | cons r2 r3 =>
        cases r3
        exact ⟨_, _, rfl, r1, r2⟩
  obtain rfl : u1 = Value.ref a := ra
  have KX : K.In s.heap := e0.mod.kin.keeps fun b o e => (e0.bs b o e).1
  have lim : s.heap.NoLimit := e0.mod.nolimit.keeps fun b o e => (e0.bs b o e).1
  obtain ⟨hs, hc, hse, hpl⟩ := S.sc
  refine ks_codeAny_call_defAt (fd := ksFn "__init__" qual (defArgs st) (defBody st) (defScope st) .none kV doc pm an (.ref cda) ct cc) (body := defBody st) hr.depth (KX _ _ lk) rfl lim (codeRec_of KX hcd) rfl hb S.cells (fun x hx => ?_) (fun h₁ hns hk => ?_) S.co S.gen S.kind
  · have hx' : x ∈ [(("self" : Str), Value.ref a), (("place" : Str), u2)] := hx
    rcases List.mem_cons.mp hx' with rfl | hx'
    · exact hse
    · rcases List.mem_cons.mp hx' with rfl | hx'
      · exact hpl
      · cases hx'
  let env : Env := callEnv (ksFn "__init__" qual (defArgs st) (defBody st) (defScope st) .none kV doc pm an (.ref cda) ct cc) s.heap.objs.size fI
  let xe : Value → Shared → Prop := fun e s' => wpAny (model P w) (A.deeper env) (leaving env e) (fun _ s'' => CR (L2.CX P w) outer P w H s Q E (.error e) s'') (fun e' s'' => CR (L2.CX P w) outer P w H s Q E (.error e') s'') s'
  have hcc : base.get? cc = some ⟨cl, cld, .cell (some (.ref cF)), csl⟩ := e0.mod.kin _ _ hcell
  have I0 : L2.Inv (cxI P w K mg base env A outer s H xe) [] [some (.ref a), some y] H { s with heap := h₁, toks := s.toks + (([("self" : Str), "place"] : List Str).zip [Value.ref a, u2]).length } := by
    have one : ∀ x c, env.cells.lookup x = some c → x = "__class__" ∧ c = cc := fun x c e => by
      have e : List.lookup x [(("__class__" : Str), cc)] = some c := e
      by_cases z : x = "__class__"
      · subst z
        simp [List.lookup] at e
        exact ⟨rfl, e.symm⟩
      · have : (x == ("__class__" : Str)) = false := by simpa using z
        simp [List.lookup, this] at e
    have noA : ∀ b : Addr, b ∉ (cxI P w K mg base env A outer s H xe).ex := fun b z => absurd (show b ∈ ([] : List Addr) from z) (by simp)
    refine ⟨⟨e0.mod, S.kind, rfl, rfl, Nat.le_refl _, fun y z c h1 h2 => ?_, fun y hy => ?_, fun y c hf h => (by cases hf), fun _ => hr.hd, Around.frames_deeper e0.frames, .inr ⟨rfl, rfl⟩, fun b z => absurd z (noA b), e0.bs, e0.bsz, fun b _ _ => noA b, fun b z => absurd z (noA b), e0.funs, e0.frf⟩,
      rfl, e0.bare, Un.kept hk, ⟨_, hns, fun i x v h1 h2 h3 => ?_⟩, fun y c h => ?_, e0.hok.fresh (Nat.le_refl _), fun y c h => ?_, fun p hp => absurd (show p ∈ ([] : List (Addr × Obj)) from hp) (by simp), e0.hok.kept hk, rfl⟩
    · rw [(one y c h1).1, (one z c h2).1]
    · rcases hy with hy | hy
      · exact absurd rfl (S.cells _ (PySem.mem_of_lookup (show (defScope st).names.lookup y = some .cell from hy)))
      · have ey : y = "__class__" := S.free _ (PySem.mem_of_lookup (show (defScope st).names.lookup y = some .free from hy)) rfl
        rw [ey]
        exact ⟨cc, by show List.lookup ("__class__" : Str) [(("__class__" : Str), cc)] = some cc; simp [List.lookup]⟩
    · rcases i with _ | _ | i
      · cases h1; cases h2
        exact ⟨.ref a, rfl, .inl ⟨hse, by show List.lookup ("self" : Str) [(("place" : Str), u2), (("self" : Str), Value.ref a)] = some (.ref a); rfl⟩⟩
      · cases h1; cases h2
        exact ⟨u2, ry, .inl ⟨hpl, by show List.lookup ("place" : Str) [(("place" : Str), u2), (("self" : Str), Value.ref a)] = some u2; rfl⟩⟩
      · simp [cxI] at h1
    · obtain ⟨rfl, rfl⟩ := one y c h
      exact ⟨_, _, hk _ _ (KX _ _ hcell), rfl⟩
    · obtain ⟨rfl, rfl⟩ := one y c h
      exact (e0.bs _ _ hcc).2
  obtain ⟨p0, p1, p2, p3, p4, p5, q0, q1, q2, q3, pl, hbody, hev, hsw, hsw2⟩ := S.ex
  show _root_.PySem.wpAt (model P w) (A.deeper env) (.func (defBody st) env) (execs (defBody st) env) _ _ _
  have hx : execs (defBody st) env = execs [.Expr (.Call (.Attribute (.Call (.Name "super" p0) [] [] p1) "__init__" p2) [.Name "place" p3] [] p4) p5, .Assign [.Attribute (.Name "self" q0) "place" q1] (.Name "place" q2) q3] env := by rw [hbody]
  rw [hx]
  obtain ⟨ar, har, har2⟩ : ∃ ar, ((defArgs st).posonlyargs ++ (defArgs st).args).head? = some ar ∧ ar.arg = "self" := by
    have := S.hp
    cases z : ((defArgs st).posonlyargs ++ (defArgs st).args).head? with
    | none => rw [z] at this; cases this
    | some ar => rw [z] at this; exact ⟨ar, rfl, Option.some.inj this⟩
  obtain ⟨mb, hb1, hb2⟩ := I0.mod.blt
  have K0 := I0.kIn
  obtain ⟨oD, hD1, hD2⟩ : ∃ oD, h₁.get? cF = some oD ∧ oD.data = .cls cdD := by
    unfold clsIn at hD
    split at hD
    · rename_i c d cd' sl ho
      cases hD
      exact ⟨_, K0 _ _ ho, rfl⟩
    · cases hD
  obtain ⟨t1, hea⟩ := exo_at I0.hok ea
  obtain ⟨cd, hcd'⟩ := X.cl
  have hsu := X.su
  unfold ks_superIn at hsu
  rw [hcd', Option.bind_some] at hsu
  obtain ⟨nm, q, N, bs, bm, sn, sub, ab, col, dd, k0, k1, k2, k3, k5, hC, hbm⟩ := X.o.cls
  have haC : a ≠ C := fun z => by
    have := (e0.bs _ _ (e0.mod.kin _ _ hC)).2
    rw [← z, ea] at this
    cases this
  have hint : interactive env = false := by
    show ((defScope st).kind == .module && _) = false
    rw [S.kind]
    rfl
  refine ks_wpAt_execs_cons (ks_wpAt_Expr_any (ks_wpAt_MethodCall (pl := pl env) ?_ (hev env)) hint (hsw env))
  refine ks_wpAt_super_base (env := env) hs hc (by decide) rfl (hk _ _ (KX _ _ lk)) rfl har rfl (hk _ _ (KX _ _ hcode)) rfl hvs hfile T.top ?_
  refine ks_loadName_global S.kind hs (loadGlobal_builtin (env := env) (I0.mod.glob.keeps I0.bk) hsup (hb1.keeps I0.bk) ((hb2 _ (by decide)).trans PyProof.Rows.Boot.«super») ⟨rfl, ?_⟩)
  refine wpAny_loadName_free S.kind hc (c := cc) (by show List.lookup ("__class__" : Str) [(("__class__" : Str), cc)] = some cc; simp [List.lookup]) ⟨_, hk _ _ (KX _ _ hcell), rfl⟩ ?_
  rw [har2]
  refine wpAny_loadName_local S.kind hse hns (by show List.lookup ("self" : Str) [(("place" : Str), u2), (("self" : Str), Value.ref a)] = some (.ref a); rfl) ?_
  refine ks_wpAny_isType_cls hD1 hD2 ⟨rfl, ?_⟩
  refine ks_wpAny_call_super hD1 hD2 hea rfl (fun c z => by cases z) (looks_mroIn K0 X.sb) (fun h2 e2 kk2 => ?_)
  have I1 := I0.kept (h' := h2) (t' := s.toks + (([("self" : Str), "place"] : List Str).zip [Value.ref a, u2]).length) kk2
  have K1 := I1.kIn
  have LT : PySem.W.Looks (model P w) h2 (typeOf (.ref a)) (.ref C) := fun A Q E s k q => wpAny_typeOf_ref (k _ _ (kk2 _ _ hea)) q
  refine kxs_getMethod kxs_ValueError e2 (looks_opaque K1 T.tp) (l₀ := cd.mro) (fun A Q E s k q => wpAny_bind ((looks_clsIn K1 hcd') A _ E s k (wpAny_pure q))) rfl K1 hsu (LT.andThen (looks_subIn K1 X.ve)) haC (by decide) ?_
  have I2 := I1.kept (h' := h2.push (kxs_mw "ValueError.__init__" a)) (t' := s.toks + (([("self" : Str), "place"] : List Str).zip [Value.ref a, u2]).length + 1) (fun b o e => Heap.get?_push_of_some _ e)
  have hmw : (h2.push (kxs_mw "ValueError.__init__" a)).get? h2.objs.size = some (kxs_mw "ValueError.__init__" a) := Heap.get?_push_size _ rfl
  show wpAny (model P w) (A.deeper env) (callWith p4 (.ref h2.objs.size) [] (backTo p4 (starEach [.Name "place" p3] env)) []) _ _ _
  refine kxs_callWith (i := "ValueError.__init__") (x := a) rfl (evalArgs_plain ?_)
  show wpAny _ _ (spliced ((false, eval (.Name "place" p3) env) :: backTo p4 (starEach [] env))) _ _ _
  have hns2 := hns.keeps (h' := h2.push (kxs_mw "ValueError.__init__" a)) fun b o e => Heap.get?_push_of_some _ (kk2 b o e)
  refine Calls.spliced_cons (wpAny_Name (wpAny_loadName_local S.kind hpl hns2 (by show List.lookup ("place" : Str) [(("place" : Str), u2), (("self" : Str), Value.ref a)] = some u2; rfl) (Calls.spliced_nil ⟨hmw, ?_⟩)) (by decide))
  refine call_mwVE (I2.kIn _ _ hC) (Heap.get?_push_of_some _ (kk2 _ _ hea)) hmw (by show 1 ≤ sizeLine; decide) (fun h3 t3 kk3 he3 => ?_)
  have I3 := I2.write (t' := s.toks + (([("self" : Str), "place"] : List Str).zip [Value.ref a, u2]).length + 1) (x := a) (e := a) (o := exo a C none) (by rw [ea]; exact True.intro) (.inl rfl) kk3 ⟨_, he3⟩ (exo_ok he3)
  have eu : upd H a (exo a C none) = H := by
    funext b
    by_cases hb : b = a
    · rw [hb, upd_same, ea]
    · rw [upd_ne hb]
  rw [eu] at I3
  have ps := pss_one (ps_ost (pe_var (X := cxI P w K mg base env A outer s H xe) (i := 0) (pos := q0) rfl (.inl hse)) (pe_var (i := 1) (pos := q2) rfl (.inl hpl)) (hsw2 env) (f := "place") (p' := q1) (pos := q3))
  refine wpAt_of_wpAny (wpAny_mono (ps.run [] _ [some (.ref a), some y] H { nx := fun _ H' => Q .non H', rt := fun _ _ => False, bk := fun _ _ => False, ct := fun _ _ => False } I3 ⟨y, rfl, .ref a, rfl, a, C, rfl, X.o, X.np, .inl ⟨ea, hq⟩⟩) (fun f s' hs => ?_) fun _ _ z => z)
  cases f with
  | next =>
    obtain ⟨σ', H', J, q⟩ := hs
    exact ⟨.non, H', J.os, J.bare, J.base, J.hok, rfl, q⟩
  | ret u =>
    obtain ⟨_, _, _, _, _, q⟩ := hs
    exact q.elim
  | brk =>
    obtain ⟨_, _, _, q⟩ := hs
    exact q.elim
  | cont =>
    obtain ⟨_, _, _, q⟩ := hs
    exact q.elim
end
end Hz
namespace Hz
open PySem L2
/-- an exception class of the text, by its facts -/
abbrev ExD (c : C0) (cF fI : Addr) (x : Str) (C : Nat) : Prop := (∃ fd, FnOk c.P c.w c.K c.mg c.base (L2.CX c.P c.w) 1 fI fd ["self", "place"] (spX c.K cF fI) ∧ Binds c.K fd ["self", "place"] []) ∧ (PySem.W.typeIn c.K (.ref fI) = some (.type "function")) ∧ (ExC c.K cF fI C) ∧ (c.mg x = some (.ref C))
theorem ExD.fn {c : C0} {cF fI : Addr} {x : Str} {C : Nat} (h : ExD c cF fI x C) : ∃ fd, FnOk c.P c.w c.K c.mg c.base (L2.CX c.P c.w) 1 fI fd ["self", "place"] (spX c.K cF fI) ∧ Binds c.K fd ["self", "place"] [] := h.1
theorem ExD.ty {c : C0} {cF fI : Addr} {x : Str} {C : Nat} (h : ExD c cF fI x C) : PySem.W.typeIn c.K (.ref fI) = some (.type "function") := h.2.1
theorem ExD.e {c : C0} {cF fI : Addr} {x : Str} {C : Nat} (h : ExD c cF fI x C) : ExC c.K cF fI C := h.2.2.1
theorem ExD.mg {c : C0} {cF fI : Addr} {x : Str} {C : Nat} (h : ExD c cF fI x C) : c.mg x = some (.ref C) := h.2.2.2
def raiseS (C : Nat) (me : ME) : MS := fun ρ α D => me ρ α (fun d α1 => D.ex ⟨C, [(.str "place", d)]⟩ ρ α1) (fun x α1 => D.ex x ρ α1)
section
variable {c : C0} {N : List Str} {sc : Scope} {x : Str} {e : Expr} {p q pos : Pos} {me : ME} {cF fI : Addr} {C : Nat}
theorem js_raise (T : ExD c cF fI x C) (hk : 2 ≤ c.k) (hg : sc.names.lookup x = some .globalImplicit) (h : JE c N sc e me) (hc : c.cm = true := by rfl) (hdb : (x == ("__debug__" : Str)) = false := by decide) (he : ∀ env, starEach [e] env = (false, eval e env) :: starEach [] env := by intros; rfl) (hpl : ∀ env, (backTo q (starEach [] env)).any (·.1) = false := by intros; rfl) :
    JS c N sc (.Raise (some (.Call (.Name x p) [e] [] q)) none pos) (raiseS C me) := by
  obtain ⟨fd, F, b⟩ := T.fn
  obtain ⟨t, h1, h2⟩ := h
  refine ⟨fun W => fun _ σ H => tMkO C (spX c.K cF fI) [] (tCons (t W) tNil) σ H fun cls d H' => W cls d σ H', fun X W I TT => ?_, fun W B σ H ρ α S D m Dn h' x' => ?_⟩
  · have F' : FnOk X.prog X.w X.K X.mg X.base (L2.CX X.prog X.w) 1 fI fd ["self", "place"] (spX c.K cF fI) := by
      rw [I.P, I.w, I.K, I.mg, I.base]
      exact F
    exact ps_raise (I.calm hc) TT (pmk_oex (by rw [I.K]; exact T.e.o) (by rw [I.K]; exact T.e.ini) (by rw [I.K]; exact T.ty) F' ((I.rm hc).mono hk) (by rw [I.K]; exact b) .nil passL (I.gl hg) (by rw [I.mg]; exact T.mg) (pa_cons (h1 X W I TT) pa_nil (he _)) hdb (he _) (hpl _))
  · refine h2 W B σ H ρ α S _ _ m _ (fun v d B1 H1 α1 A1 r1 m => ⟨(show 1 ≤ 1000 by decide), fun a na => ?_⟩) (x'.sx S)
    refine ⟨a, C, v, rfl, T.e, upd_same, fun dx nd ne => ⟨rfl, dx, [("place", v)], upd_same, ?_, ?_, ?_⟩⟩
    · rw [upd_ne ne, upd_same]
    · rw [upd_ne ne] at nd
      exact nd
    · have nd' : H1 dx = none := by rw [upd_ne ne] at nd; exact nd
      have eh : upd (L2.del (upd (upd (upd H1 a (exo a C none)) dx (exd dx [("place", v)])) a (exo a C (some dx))) a) dx (.xd [("place", v)]) = upd H1 dx (.xd [("place", v)]) := by
        funext b
        by_cases hb : b = dx
        · rw [hb, upd_same, upd_same]
        · rw [upd_ne hb, upd_ne hb]
          by_cases hb2 : b = a
          · rw [hb2, L2.del_same, na]
          · rw [L2.del_ne hb2, upd_ne hb2, upd_ne hb, upd_ne hb2]
      rw [eh]
      have Ab := Af.of_sub A1.bs (Sub.new (o := .xd [("place", v)]) nd')
      have A := A1.trans S.bs Ab
      have hB : B1 dx = false := A1.bs.fresh nd'
      exact x' _ B1 σ ρ α1 (.ref C) (some dx) _ A (S.step A) ⟨rfl, dx, _, rfl, hide_of hB upd_same, .cons (r1.mono Ab.sub) .nil⟩ m
end
def tryS (exm : Nat → Option Bool) (mb ms : MS) : MS := fun ρ α D => mb ρ α { D with ex := fun x ρ' α' => oq (exm x.C) fun b => if b = true then ms ρ' α' { D with ex := fun _ _ _ => False } else D.ex x ρ' α' }
/-- the datum of a caught exception -/
def excD (a dx C : Nat) (ds : List (D × D)) : D := .dict ((.bool true, .tuple [.int (Int.ofNat a), .int (Int.ofNat dx), .int (Int.ofNat C)]) :: ds)
def tryA (i : Nat) (exm : Nat → Option Bool) (mb : MS) (ms : Nat → Nat → Nat → MS) : MS := fun ρ α D => mb ρ α { D with ex := fun x ρ' α' => oq (exm x.C) fun b => if b = true then ∀ a dx, ms a dx x.C (ρ'.set i (some (excD a dx x.C x.fs))) α' { nx := fun ρ2 α2 => D.nx (ρ2.set i none) α2, rt := D.rt, bk := fun ρ2 α2 => D.bk (ρ2.set i none) α2, ct := fun ρ2 α2 => D.ct (ρ2.set i none) α2, ex := fun _ _ _ => False } else D.ex x ρ' α' }
theorem SR.unset {K : Frag} {B : Addr → Bool} {σ : L2.St} {H : Hp} {ρ : En} {α : AH} {i : Nat} (S : SR K B σ H ρ α) : SR K B (σ.set i none) H (ρ.set i none) α := by
  refine ⟨by simpa using S.len, fun j d e => ?_, S.bs⟩
  by_cases q : i = j
  · subst q
    rw [List.getElem?_set_self (by simpa using (List.getElem?_eq_some_iff.mp e).1)] at e
    cases e
  · rw [List.getElem?_set_ne q] at e
    obtain ⟨w, a, b⟩ := S.val j d e
    exact ⟨w, by rw [List.getElem?_set_ne q]; exact a, b⟩
/-- what an except clause's class asks -/
def ExM (c : C0) (C : Nat) (exm : Nat → Option Bool) : Prop := ∀ C' b, exm C' = some b → PySem.W.exmOne c.K (.ref C') (.ref C) = some b
abbrev C0.su (c : C0) : C0 := { c with cm := false, xc := none }
abbrev C0.sx (c : C0) (a dx : Addr) (C : Nat) : C0 := { c with cm := false, xc := some (a, dx, C) }
section
variable {c : C0} {N : List Str} {sc : Scope} {x n : Str} {p np pos pos' : Pos} {C : Nat} {exm : Nat → Option Bool} {body suite : List Stmt} {b₀ : Stmt} {mb ms : MS} {i : Nat}
theorem In.tr {X : Cx} (I : In c N sc X) (hx : c.xc = none) {pn : List (Addr × Obj)} {xe : Value → Shared → Prop} (po : PassesOwn (model X.prog X.w) X.A X.env xe) : In c N sc (X.tr pn xe) :=
  ⟨I.P, I.w, I.K, I.mg, I.base, I.rm, I.un, I.N, I.sc, I.calm, I.fn, po, I.fs, fun _ _ _ h => (by rw [hx] at h; cases h), I.oc⟩
theorem In.su {X : Cx} (I : In c N sc X) (a : Addr) (pn : List (Addr × Obj)) : In c.su N sc (X.suite a pn) :=
  ⟨I.P, I.w, I.K, I.mg, I.base, fun h => (by cases h), I.un, I.N, I.sc, fun h => (by cases h), I.fn, PassesOwn.never, I.fs, fun _ _ _ h => (by cases h), I.oc⟩
theorem In.sx {X : Cx} (I : In c N sc X) (a dx : Addr) (C : Nat) {oe : Obj} (pn : List (Addr × Obj)) (hz : Zc (.ref C) (some dx) oe) (hf : ∃ vs, oe.data = .fields vs) : In (c.sx a dx C) N sc (X.suite a ((a, oe) :: pn)) :=
  ⟨I.P, I.w, I.K, I.mg, I.base, fun h => (by cases h), I.un, I.N, I.sc, fun h => (by cases h), I.fn, PassesOwn.never, I.fs, fun _ _ _ h => (by
    cases h
    exact ⟨X, oe, pn, rfl, hz, hf⟩), I.oc⟩
theorem js_tryA {ms : Nat → Nat → Nat → MS} (nd : N.Nodup) (hN : N[i]? = some n) (hn : sc.names.lookup n = some .local) (hg : sc.names.lookup x = some .globalImplicit) (hm : c.mg x = some (.ref C)) (hex : ExM c C exm) (hb : JB c N sc body mb) (hs : ∀ a dx C', JB (c.sx a dx C') N sc (b₀ :: suite) (ms a dx C')) (hx : c.xc = none := by rfl) (ht : c.top = true := by rfl) (hdb : (x == ("__debug__" : Str)) = false := by decide) :
    JS c N sc (.Try body [.ExceptHandler (some (.Name x np)) (some n) (b₀ :: suite) pos'] [] [] pos) (tryA i exm mb ms) := by
  obtain ⟨t, h1, h2⟩ := hb
  have hs' : ∀ (a : Addr) (cls : Value) (d : Option Addr), ∃ ts : TS, ∀ (dx : Addr) (C' : Nat), cls = .ref C' → d = some dx → (∀ X, In (c.sx a dx C') N sc X → PSs X (b₀ :: suite) ts) ∧ SS c.K (fun _ _ _ _ => False) ts (ms a dx C') := fun a cls d => by
    by_cases hq : ∃ (dx : Addr) (C' : Nat), cls = .ref C' ∧ d = some dx
    · obtain ⟨dx, C', rfl, rfl⟩ := hq
      obtain ⟨u, k1, k2⟩ := hs a dx C'
      refine ⟨u fun _ _ _ _ => False, fun dx' C2 e1 e2 => ?_⟩
      cases e1
      cases e2
      exact ⟨fun X I => k1 X _ I takes0, k2 _⟩
    · exact ⟨tNever, fun dx C' e1 e2 => absurd ⟨dx, C', e1, e2⟩ hq⟩
  let ts : Addr → Value → Option Addr → TS := fun a cls d => fun Dn σ H => (∃ (dx : Addr) (C' : Nat), cls = .ref C' ∧ d = some dx) ∧ (hs' a cls d).choose Dn σ H
  refine ⟨fun W Dn σ H => t (wAs c.K (.ref C) i ts W Dn) Dn σ H, fun X W I T => ?_, fun W B σ H ρ α S D m Dn h' x' => ?_⟩
  · have q := ps_try_as (pos := pos) (pos' := pos') (np := np) (n := n) (i := i) (b₀ := b₀) (suite := suite) (I.fs ht).1 (I.fs ht).2 (by rw [I.N]; exact nd) (by rw [I.N]; exact hN) (by show X.env.scope.names.lookup n = _; rw [I.sc]; exact hn) ⟨I.gl hg, hdb, .inl (by rw [I.mg]; exact hm)⟩ T (fun W' pn xe tk po => h1 _ W' (I.tr hx po) tk) (ts := ts) (fun a oe cls d pn hz hf => ?_)
    · rw [I.K] at q
      exact q
    · by_cases hq : ∃ (dx : Addr) (C' : Nat), cls = .ref C' ∧ d = some dx
      · obtain ⟨dx, C', e1, e2⟩ := id hq
        have k := ((hs' a cls d).choose_spec dx C' e1 e2).1 _ (by rw [e1, e2] at hz; exact I.sx a dx C' pn hz hf)
        exact ⟨fun pins s σ H D I h => k.run pins s σ H D I h.2⟩
      · exact ⟨fun pins s σ H D I h => absurd h.1 hq⟩
  · refine h2 _ B σ H ρ α S _ m Dn ⟨h'.nx, h'.rt, h'.bk, h'.ct⟩ fun y B' σ' ρ' α' cls d H' A S' r z => ?_
    obtain ⟨b, hb, z⟩ := z
    refine ⟨b, by rw [r.1]; exact hex _ _ hb, fun e a na => ?_, fun e => ?_⟩
    · rw [if_pos e] at z
      obtain ⟨r1, dx, fs, r0, r2, r3⟩ := r
      refine ⟨⟨dx, y.C, r1, r0⟩, ?_⟩
      have k := ((hs' a cls d).choose_spec dx y.C r1 r0).2
      have q := h'.after S.bs A
      exact k B' _ H' _ α' (S'.set (.exc r2 r3)) _ (z a dx) _ ⟨fun B2 σ2 H2 ρ2 α2 a2 s2 z2 => q.nx B2 _ H2 _ α2 a2 s2.unset z2, q.rt, fun B2 σ2 H2 ρ2 α2 a2 s2 z2 => q.bk B2 _ H2 _ α2 a2 s2.unset z2, fun B2 σ2 H2 ρ2 α2 a2 s2 z2 => q.ct B2 _ H2 _ α2 a2 s2.unset z2⟩ fun _ _ _ _ _ _ _ _ _ _ _ z => z.elim
    · rw [if_neg (by rw [e]; decide)] at z
      exact x' y B' σ' ρ' α' cls d H' A S' r z
end
theorem Rp.excD {K : Frag} {H : Hp} {v : V} {a dx C : Nat} {ds : List (D × D)} (h : Rp K H v (excD a dx C ds)) : v = .ref a ∧ ∃ fs, H dx = some (.xd fs) ∧ RpF K H fs ds := by
  generalize e : Hz.excD a dx C ds = z at h
  cases h with
  | @exc a' dx' C' fs ds' h r =>
    have e1 := List.cons.inj (PyData.dict.inj e)
    have e2 := PyData.tuple.inj (congrArg Prod.snd e1.1)
    have e3 := List.cons.inj e2
    have e4 := List.cons.inj e3.2
    rw [Int.ofNat.inj (PyData.int.inj e3.1), Int.ofNat.inj (PyData.int.inj e4.1), e1.2]
    exact ⟨rfl, fs, h, r⟩
  | dct _ r =>
    cases r with
    | nil => cases e
    | @cons k _ _ _ _ r1 r2 =>
      have e1 := (List.cons.inj (PyData.dict.inj e)).1
      have e2 : PyData.bool true = kD k := congrArg Prod.fst e1
      cases k <;> cases e2
  | fnc =>
    have e1 := (List.cons.inj (PyData.dict.inj e)).1
    have e2 := congrArg Prod.snd e1
    cases e2
  | ref =>
    have e1 := (List.cons.inj (PyData.dict.inj e)).1
    have e2 := congrArg Prod.fst e1
    cases e2
  | _ => cases e
def kXf (i : Nat) (f : Str) (isX : Nat → Bool) (a dx C : Nat) : ME := fun ρ α Q E => ∃ ds d, ρ[i]? = some (some (excD a dx C ds)) ∧ isX C = true ∧ lookF f ds = some d ∧ Q d α
theorem je_xf {c : C0} {N : List Str} {sc : Scope} {x f : Str} {pos p : Pos} {i : Nat} {cF fI : Addr} {isX : Nat → Bool} {a dx : Addr} {C : Nat} (hX : ∀ C, isX C = true → ExC c.K cF fI C) (hf0 : ∀ C, isX C = true → PySem.W.findIn c.K (.ref C) f = some none) (hN : N[i]? = some x) (hv : Vis sc x) (hd : (x == ("__debug__" : Str)) = false := by decide) (hcd : (x == ("__classdict__" : Str)) = false := by decide)
    (hb : ∀ env, attributeBase (.Name x p) f env (eval (.Name x p) env) = eval (.Name x p) env := by intros; rfl) : JE (c.sx a dx C) N sc (.Attribute (.Name x p) f pos) (kXf i f isX a dx C) := by
  refine ⟨fun W σ H Q => isX C = true ∧ tXf a (.ref C) (some dx) C f (tVar i) σ H Q, fun X W I T => ?_, fun W B σ H ρ α S Qm Em m Q q x' => ?_⟩
  · obtain ⟨Y, oe, pn, rfl, hz, hf⟩ := I.xi a dx C rfl
    have hK : Y.K = c.K := I.K
    by_cases hC : isX C = true
    · have k := hX C hC
      have z := pe_xf (X := Y) (a := a) (oe := oe) (cls := .ref C) (d := some dx) (pn := pn) (n := f) (pos := pos) (T := ⟨by rw [hK]; exact k.ga, by rw [hK]; exact k.gg, by rw [hK]; exact k.o.exC, by rw [hK]; exact k.hd⟩) (by rw [hK]; exact hf0 C hC) hz hf (pe_var (X := Y.suite a ((a, oe) :: pn)) (i := i) (pos := p) (by rw [I.N]; exact hN) (I.vis hv) hd hcd) (hb _)
      exact ⟨fun pins s σ H Q I' h => z.run pins s σ H Q I' h.2⟩
    · exact ⟨fun pins s σ H Q I' h => absurd h.1 hC⟩
  · obtain ⟨ds, d, e, hC, l, m⟩ := m
    obtain ⟨v, g1, g2⟩ := S.val i _ e
    obtain ⟨rfl, fs, k1, k2⟩ := g2.excD
    obtain ⟨w, l1, rw_⟩ := k2.look l
    exact ⟨hC, .ref a, g1, rfl, rfl, dx, fs, w, rfl, (hide_some k1).2, l1, q w d B H α (Af.refl S.bs) rw_ m⟩
end Hz
namespace PySem.W
open PySem PySem.Spec PySem.Calls PyProof.Rows
section
variable {prog : Program} {w : World} {A : Around} {E : Value → Shared → Prop} {s : Shared} {K : Frag} {x D : Addr} {ox oy : Obj}
theorem hz_findObj {C : Addr} {name : Str} {a g : Value} {od : Option Obj} (hc : (clsIn K C).isSome = true) (ha : findIn K (.ref C) name = some (some a)) (hg : specialIn K a "__get__" = some (some g)) (ht : takesIn K a = some true) : findObj K C od name = some (.bind g a) := by
  obtain ⟨cd, hc⟩ := Option.isSome_iff_exists.mp hc
  unfold findObj
  rw [hc, Option.bind_some, ha, Option.bind_some]
  simp [hg, ht]
theorem hz_classE {Q : Option Value → Shared → Prop} (hga : findIn K (.ref D) "__getattribute__" = some (some (.builtin "BaseException.__getattribute__"))) (hgt : findIn K (.ref D) "__getattr__" = some none) (hsub : subIn K (.ref D) (.type "BaseException") = some true)
    (hdct : hasDictIn K D = true) (ha : findIn K (.ref D) "__class__" = some (some (.builtin "object.__class__")))
    (hn : specialIn K (.builtin "object.__class__") "__get__" = some (some (.builtin "getset_descriptor.__get__"))) (htk : takesIn K (.builtin "object.__class__") = some true) (hm : mroIn K D (.type "object") = some true)
    (X : K.In s.heap) (I : InstAt s.heap x ox D (some oy)) (h : Q (some (.ref D)) { s with toks := s.toks + 1 }) : wpAny (model prog w) A (getAttr? (.ref x) "__class__") Q E s := by
  have hf : findObj K D (some oy) "__class__" = some (.bind (.builtin "getset_descriptor.__get__") (.builtin "object.__class__")) := hz_findObj (by obtain ⟨cd, hc, _⟩ := any_some hdct; rw [hc]; rfl) ha hn htk
  obtain ⟨hp, g, d, t, os⟩ := s
  have L0 := I.type (M := model prog w)
  have L1 := looks_findIn (M := model prog w) X hga
  have L2 := looks_findIn (M := model prog w) X hgt
  have L3 := looks_find (M := model prog w) X I hf
  have sub : Looks (model prog w) hp (isInstance (.ref x) (.type "BaseException")) true := L0.andThen (looks_subIn X hsub)
  have hx0 : (false && onTheHeap (Value.builtin "BaseException.__getattribute__")) = false := rfl
  have hx2 : (Value.builtin "BaseException.__getattribute__" == Value.builtin "object.__getattribute__") = false := by decide +kernel
  have hx1 : (onTheHeap (Value.ref D) && Value.builtin "BaseException.__getattribute__" == Value.builtin "object.__getattribute__") = false := by rw [hx2]; rfl
  unfold getAttr? getAttrBy? getAttrBy
  refine wpAny_bind (wpAny_mkText (wpAny_bind (wpAny_attempt (wpAny_holding (wpAny_bind (L0.at (wpAny_bind (L1.at ?_))))))))
  show wpAny _ _ (if (onTheHeap (Value.ref D) && Value.builtin "BaseException.__getattribute__" == Value.builtin "object.__getattribute__") = true then _ else _) _ _ _
  rw [hx1, if_neg Bool.false_ne_true]
  unfold getAttrByItsOwn hookBefore
  refine wpAny_bind ?_
  rw [if_pos (show onTheHeap (Value.ref D) = true from rfl)]
  refine L2.at ?_
  refine wpAny_bind (wpAny_attempt (wpAny_holding ?_))
  unfold callGetattribute
  rw [hx0, if_neg Bool.false_ne_true]
  unfold boundAndCalled
  rw [PySem.F.excAttr_ValueError.ga.bind (.ref x)]
  refine wpAny_bind (wpAny_pure ?_)
  show wpAny _ _ (call (.builtin "BaseException.__getattribute__") [.ref x, .str "__class__" t]) _ _ _
  refine wpAny_call (codeAny_call_builtin PySem.F.excAttr_ValueError.ga.plain PySem.F.entry_bexc_ga ?_)
  refine @check_slot (model prog w) _ _ ⟨hp, g, d, t + 1, os⟩ "BaseException.__getattribute__" "BaseException" "__getattribute__" (.ref x) [.str "__class__" t] [] _ (by decide +kernel) (by decide +kernel) sub (PySem.F.args_bexc_ga (.ref x) (.str "__class__" t)) ?_
  unfold Builtin.«object.__getattribute__»
  refine wpAny_bind (wpAny_of_eq (a := ((Value.ref x : Value), [Value.str "__class__" t])) (by first | rfl | (simp only [slotArgs]; rfl)) ?_)
  refine wpAny_bind (wpAny_pure (wpAny_bind (L0.at (wpAny_bind (L3.at ?_)))))
  show wpAny _ _ (holding [Value.builtin "object.__class__"] (call (.builtin "getset_descriptor.__get__") [.builtin "object.__class__", .ref x, .ref D]) >>= ret) _ _ _
  refine wpAny_bind (wpAny_holding (wpAny_call (class_get (s := ⟨hp, g, d, t + 1, os⟩) (ox := ox) (od := some oy) X I hm ?_)))
  refine wpAny_pure ?_
  show wpAny _ _ (handedOut (.ref D)) _ _ _
  rw [handedOut_of (v := .ref D) rfl]
  first
    | exact wpAny_pure (wpAny_pure h)
    | exact wpAny_pure h
    | exact wpAny_pure (wpAny_bind (wpAny_pure (wpAny_pure h)))
theorem hz_kitx (hga : findIn K (.ref D) "__getattribute__" = some (some (.builtin "BaseException.__getattribute__"))) (hgt : findIn K (.ref D) "__getattr__" = some none) (hsub : subIn K (.ref D) (.type "BaseException") = some true) (hdct : hasDictIn K D = true) (ha : findIn K (.ref D) "__class__" = some (some (.builtin "object.__class__")))
    (hn : specialIn K (.builtin "object.__class__") "__get__" = some (some (.builtin "getset_descriptor.__get__"))) (htk : takesIn K (.builtin "object.__class__") = some true) (hm : mroIn K D (.type "object") = some true) :
    KitX K (.ref x) (.ref D) (fun h => InstAt h x ox D (some oy)) where
  ty := fun _ _ _ I => I.type
  it := fun _ _ X _ => by
    obtain ⟨cdD, hcD, _⟩ := any_some hdct
    unfold clsIn at hcD
    split at hcD
    · rename_i c' d' cd' sl' ho
      intro A' Q' E' s' k q
      unfold isType loadHead
      exact wpAny_bind (wpAny_loadPart (k _ _ (X _ _ ho)) (wpAny_pure q))
    · cases hcD
  ne := fun h tp dd its n sl X htp => by
    obtain ⟨cdD, hcD, _⟩ := any_some hdct
    refine Bool.eq_false_iff.mpr fun q => ?_
    have e : D = tp := Value.ref.inj (beq_iff_eq.mp q)
    subst e
    unfold clsIn at hcD
    split at hcD
    · rename_i c' d' cd' sl' ho
      have z := (X _ _ ho).symm.trans htp
      cases z
    · cases hcD
  ca := fun X I k => hz_classE hga hgt hsub hdct ha hn htk hm X I k
end
end PySem.W
namespace Hz
open PySem L2
/-- isinstance(e, cv), e the exception that the suite holds, its dict at dd -/
def rIsX (K : Frag) (C a dd : Addr) (isX : Nat → Bool) : List V → Hp → VK → Prop := fun xs H Q => isX C = true ∧ (∃ fs, H dd = some (.xd fs)) ∧ ∃ (c : V) (cv : Value) (b : Bool), xs = [.ref a, c] ∧ (∀ u, RelV c u → u = cv) ∧ PySem.W.kitOne K (.ref C) cv = some b ∧ Q (.bl b) H
theorem call_isX {X : Cx} {a C dd cF fI : Addr} {oe : Obj} {isX : Nat → Bool} {pn : List (Addr × Obj)} (T : ∀ C, isX C = true → ExC X.K cF fI C) (hz : Zc (.ref C) (some dd) oe) (hf : ∃ vs, oe.data = .fields vs) : CallR (X.suite a ((a, oe) :: pn)) (.builtin "isinstance") (rIsX X.K C a dd isX) := by
  intro pins s σ H xs us Q I r h
  obtain ⟨hX, ⟨fs, hx⟩, c, cv, b, rfl, hcv, e, q⟩ := h
  have k := T C hX
  cases r with
  | cons rx rr =>
    cases rr with
    | cons rt rr =>
      cases rr
      cases rx
      have ec := hcv _ rt
      subst ec
      obtain ⟨hget, _⟩ := I.pin (a, oe) (List.mem_append.mpr (.inl List.mem_cons_self))
      obtain ⟨vs, hv⟩ := hf
      have hxo : ObjOk X.prog X.w H s.heap dd (.xd fs) := I.hok dd _ hx
      obtain ⟨mA, ⟨od, es, ep, ho, _⟩, _⟩ := hxo
      have J : PySem.W.InstAt s.heap a oe C (some od) := ⟨hget, hz.1, by unfold PySem.W.notCls; rw [hv] <;> rfl, by rw [hz.2]; exact ho⟩
      exact PySem.W.kia_one (PySem.W.hz_kitx k.ga k.gg k.o.exC k.hd k.ca k.cn k.ct k.cm) I.kIn J e (fun z => nomatch z) fun tk => ⟨.bl b, H, I.kept (t' := tk) fun _ _ z => z, rfl, q⟩
def kXi (i : Nat) (isX : Nat → Bool) (tab : Nat → Option Bool) (a dx C : Nat) : ME := fun ρ α Q E => ∃ ds b, ρ[i]? = some (some (excD a dx C ds)) ∧ isX C = true ∧ tab C = some b ∧ Q (.bool b) α
section
variable {c : C0} {N : List Str} {sc : Scope} {x y : Str} {pos p p1 p2 : Pos} {i : Nat} {cF fI : Addr} {isX : Nat → Bool} {tab : Nat → Option Bool} {a dx : Addr} {C : Nat}
theorem je_xi {te : Expr} {v : V} {cv : Value} (hX : ∀ C, isX C = true → ExC c.K cF fI C) (ht : ∀ C b, tab C = some b → PySem.W.kitOne c.K (.ref C) cv = some b) (hv2 : ∀ u, RelV v u → u = cv) (hte : ∀ X, In (c.sx a dx C) N sc X → PE X te (tC v)) (hgi : sc.names.lookup ("isinstance" : Str) = some .globalImplicit) (hmi : c.mg ("isinstance" : Str) = none) (hN : N[i]? = some x) (hv : Vis sc x) (hd : (x == ("__debug__" : Str)) = false := by decide) (hcd : (x == ("__classdict__" : Str)) = false := by decide)
    (he : ∀ env, starEach [.Name x p1, te] env = (false, eval (.Name x p1) env) :: starEach [te] env := by intros; rfl) (he2 : ∀ env, starEach [te] env = (false, eval te env) :: starEach [] env := by intros; rfl) (hpl : ∀ env, (backTo pos (starEach [te] env)).any (·.1) = false := by intros; rfl) : JE (c.sx a dx C) N sc (.Call (.Name "isinstance" p) [.Name x p1, te] [] pos) (kXi i isX tab a dx C) := by
  refine ⟨fun W => tCB (rIsX c.K C a dx isX) (tCons (tVar i) (tCons (tC v) tNil)), fun X W I T => ?_, fun W B σ H ρ α S Qm Em m Q q x' => ?_⟩
  · have h0 := hte X I
    obtain ⟨Y, oe, pn, rfl, hz, hf⟩ := I.xi a dx C rfl
    have hK : Y.K = c.K := I.K
    have h := pe_callB (x := "isinstance") (p := p) (pos := pos) (call_isX (X := Y) (pn := pn) (isX := isX) (by rw [hK]; exact hX) hz hf) (I.gl hgi) (by rw [I.mg]; exact hmi) (by decide +kernel) (pa_cons (pe_var (X := Y.suite a ((a, oe) :: pn)) (i := i) (pos := p1) (by rw [I.N]; exact hN) (I.vis hv) hd hcd) (pa_cons h0 pa_nil (he2 _)) (he _)) (by decide) (by decide) (he _) (hpl _)
    rw [hK] at h
    exact h
  · obtain ⟨ds, b, e, hC, hb, m⟩ := m
    obtain ⟨w, g1, g2⟩ := S.val i _ e
    obtain ⟨rfl, fs, k1, k2⟩ := g2.excD
    exact ⟨.ref a, g1, hC, ⟨fs, (hide_some k1).2⟩, v, cv, b, rfl, hv2, ht C b hb, q _ _ B H α (Af.refl S.bs) (.bl b) m⟩
/-- isinstance(e, D), D an own class -/
theorem je_xiC {CD : Nat} (hX : ∀ C, isX C = true → ExC c.K cF fI C) (ht : ∀ C b, tab C = some b → PySem.W.kitOne c.K (.ref C) (.ref CD) = some b) (hgi : sc.names.lookup ("isinstance" : Str) = some .globalImplicit) (hmi : c.mg ("isinstance" : Str) = none) (hgy : sc.names.lookup y = some .globalImplicit) (hmy : c.mg y = some (.ref CD)) (hN : N[i]? = some x) (hv : Vis sc x) (hd : (x == ("__debug__" : Str)) = false := by decide) (hcd : (x == ("__classdict__" : Str)) = false := by decide) (hdy : (y == ("__debug__" : Str)) = false := by decide)
    (he : ∀ env, starEach [.Name x p1, .Name y p2] env = (false, eval (.Name x p1) env) :: starEach [.Name y p2] env := by intros; rfl) (he2 : ∀ env, starEach [.Name y p2] env = (false, eval (.Name y p2) env) :: starEach [] env := by intros; rfl) (hpl : ∀ env, (backTo pos (starEach [.Name y p2] env)).any (·.1) = false := by intros; rfl) : JE (c.sx a dx C) N sc (.Call (.Name "isinstance" p) [.Name x p1, .Name y p2] [] pos) (kXi i isX tab a dx C) :=
  je_xi (v := .ref CD) hX ht (fun u r => r) (fun X I => pe_glob (I.gl hgy) (by rw [I.mg]; exact hmy) rfl hdy) hgi hmi hN hv hd hcd he he2 hpl
/-- .. a built-in class -/
theorem je_xiT {T : String} (hX : ∀ C, isX C = true → ExC c.K cF fI C) (ht : ∀ C b, tab C = some b → PySem.W.kitOne c.K (.ref C) (.type T) = some b) (hgi : sc.names.lookup ("isinstance" : Str) = some .globalImplicit) (hmi : c.mg ("isinstance" : Str) = none) (hgy : sc.names.lookup y = some .globalImplicit) (hmy : c.mg y = none) (hby : bootBuiltins y = some (.type T)) (hN : N[i]? = some x) (hv : Vis sc x) (hd : (x == ("__debug__" : Str)) = false := by decide) (hcd : (x == ("__classdict__" : Str)) = false := by decide) (hdy : (y == ("__debug__" : Str)) = false := by decide) (hny : y ≠ "__name__" := by decide)
    (he : ∀ env, starEach [.Name x p1, .Name y p2] env = (false, eval (.Name x p1) env) :: starEach [.Name y p2] env := by intros; rfl) (he2 : ∀ env, starEach [.Name y p2] env = (false, eval (.Name y p2) env) :: starEach [] env := by intros; rfl) (hpl : ∀ env, (backTo pos (starEach [.Name y p2] env)).any (·.1) = false := by intros; rfl) : JE (c.sx a dx C) N sc (.Call (.Name "isinstance" p) [.Name x p1, .Name y p2] [] pos) (kXi i isX tab a dx C) :=
  je_xi (v := .ty T) hX ht (fun u r => r) (fun X I => pe_bltn (I.gl hgy) (by rw [I.mg]; exact hmy) hby rfl hny hdy) hgi hmi hN hv hd hcd he he2 hpl
end
end Hz
namespace Hz
open PySem L2
variable {c : C0} {N : List Str} {sc : Scope}
theorem RpL.rep {K : Frag} {H : Hp} {vs : List V} {ds : List D} (r : RpL K H vs ds) : ∀ n : Nat, RpL K H (List.replicate n vs).flatten (List.replicate n ds).flatten
  | 0 => .nil
  | n + 1 => by
    rw [List.replicate_succ, List.replicate_succ, List.flatten_cons, List.flatten_cons]
    exact r.append (RpL.rep r n)
def dRep : D → D → Option D
  | .list a, .int k => if k < 2 ^ 63 ∧ -(2 ^ 63) ≤ k ∧ a.length * k.toNat ≤ 100000 then some (.list (List.replicate k.toNat a).flatten) else none
  | _, _ => none
/-- the new cell is let go, but stays hidden -/
theorem Af.drop {K : Frag} {B B' : Addr → Bool} {H H' : Hp} {α α' : AH} {l : Addr} {d : D} (a : Af K B H α B' H' (aset α' l d)) (n : α' l = none) : Af K B H α B' H' α' :=
  ⟨a.sub, ⟨fun x e q => a.bs.cel x e (by rw [aset_ne (fun z => by rw [z, n] at q; cases q)]; exact q), a.bs.bk⟩, a.keep, fun x nx hx => by
    by_cases z : x = l
    · rw [z]; exact n
    · have := a.fr x nx hx
      rw [aset_ne z] at this
      exact this, a.grow⟩
theorem sf_rep {K : Frag} {W : WX} {ta tb : TE} {ma mb : ME} (ha : Sf K W ta ma) (hb : Sd K W tb mb) : Sf K W (tOp rRep ta tb) (bop dRep ma mb) := fun B σ H ρ α S Qm Em m Q q x => by
  refine ha B σ H ρ α S _ Em m _ (fun l d B1 H1 α1 A1 nl m => ?_) x
  have A1' := A1.drop nl
  refine hb B1 σ H1 ρ α1 (S.step A1') _ Em m _ (fun y e B2 H2 α2 A2 r2 m => ?_) (x.after S.bs A1')
  obtain ⟨d', hd, e', he, z, hz, mq⟩ := m
  obtain ⟨b1, hc⟩ := A1.bs.cel l d aset_same
  obtain ⟨b2, k2⟩ := A2.keep l b1 nl
  unfold dRep at hz
  split at hz
  · rename_i ds k
    split at hz
    · rename_i hk
      cases hz
      have ed : d = .list ds := by
        generalize eo : H1 l = o at hc
        cases hc with
        | own h =>
          cases d with
          | list es => cases hd; rfl
          | dict es =>
            obtain ⟨kvs, _, h2⟩ := h
            cases h2 with
            | nil => cases hd
            | @cons k _ _ _ _ _ _ => cases k <;> cases hd
          | _ => exact h.elim
        | obj h => cases hd
      subst ed
      obtain ⟨_, vs, g1, g2⟩ := A1.bs.list aset_same
      have A12 := A1'.trans S.bs A2
      have g3 : H2 l = some (.lst vs) := k2.trans g1
      have g4 : RpL K (hide B2 H2) vs ds := g2.mono A2.sub
      refine ⟨l, k, vs, rfl, (vw_rs A2.bs r2 he).int, g3, hk.2.1, hk.1, Nat.le_trans (by rw [g4.length]; exact hk.2.2) (by decide), fun p hp => ?_⟩
      have sb : Sub H2 (upd H2 p (.lst (List.replicate k.toNat vs).flatten)) := Sub.new hp
      exact q p (.list (List.replicate k.toNat ds).flatten) _ _ α2 (A12.trans S.bs (Af.cell (c := .list (List.replicate k.toNat ds).flatten) A2.bs sb hp (.own ⟨_, upd_same, (g4.rep _).mono (sub_ins hp (hsub sb))⟩))) (A2.bs.new hp) mq
    · cases hz
  · cases hz
theorem cf_rep {a b : Expr} {ma mb : ME} {pos : Pos} (ha : JF c N sc a ma) (hb : JE c N sc b mb) : JF c N sc (.BinOp a .Mult b pos) (bop dRep ma mb) := by
  obtain ⟨ta, p1, s1⟩ := ha
  obtain ⟨tb, p2, s2⟩ := hb
  exact ⟨_, fun X W I T => pe_op (op_rep (X := X)) (p1 X W I T) (p2 X W I T), fun W => sf_rep (s1 W) (s2 W)⟩
def muInsert (ds as : List D) : Option (D × List D) := match as with
  | [.int i, d] => if ds.length < 100000 ∧ 0 ≤ i ∧ i < 2 ^ 63 then some (.none, ds.take i.toNat ++ [d] ++ ds.drop i.toNat) else none
  | _ => none
theorem mu_insert {K : Frag} {XS : Cx → Prop} : MuD K XS "list.insert" muInsert := ⟨_, fun X _ => mt_insert, fun B H l vs ds us as z ds' bk bl hl r ra e Q q => by
  unfold muInsert at e
  split at e
  · rename_i i d
    split at e
    · rename_i hn
      cases e
      cases ra with
      | cons r1 r2 =>
        cases r2 with
        | cons r2 r3 =>
          cases r3
          cases r1
          exact ⟨l, vs, i, _, rfl, rfl, hl, Nat.lt_of_lt_of_le (by rw [r.length]; exact hn.1) (by decide), hn.2.1, hn.2.2, q _ _ (((r.take _).append (.cons r2 .nil)).append (r.drop _)) .non⟩
    · cases e
  · cases e⟩
theorem list_extendW (l : Addr) (items : Array Value) (n : Nat) (b : Addr) (items2 : Array Value) (n2 : Nat) (dd2 : Option Addr) (sl2 : Array (Option Value)) (hc0 : ¬(!items.isEmpty && Builtin.List.listTooLong (items.size + items2.size)) = true) (hc1 : items.size ≤ sizeLine) (hs2 : items.size + items2.size ≤ sizeLine + 1) :
    Meets (Builtin.«list.extend» ⟨[.ref l, .ref b], []⟩) (fun _ R s => s.heap.get? l = some { cls := .type "list", dict := none, data := .seq items n, slots := #[] } ∧ s.heap.get? b = some { cls := .type "list", dict := dd2, data := .seq items2 n2, slots := sl2 } ∧ R (.ok (.ret Value.none)) { s with heap := s.heap.update l (Obj.mapSeq fun x => x ++ items2) }) :=
  .of_wp fun prog w A R s h => by
    obtain ⟨hp, g, d, tk, os⟩ := s; obtain ⟨hl, hb, h⟩ := h; have f1 := AutoSeq1.idx_int; have f2 := AutoSeq1.sub_tuple_tuple; have f3 := AutoSeq1.sub_list_list; have f4 := AutoSeq1.sub_tuple_list; have f5 := AutoSeq1.sub_list_tuple
    have hz' : (items ++ items2).size ≤ sizeLine + 1 := by rw [Array.size_append]; exact hs2
    wp_walk using (wpAny_updateSeq hl rfl (hz := hc1) (_hz' := hz')), AutoSeq1.wpAny_loadPart' hl, AutoSeq1.wpAny_loadPart' hb; exact ⟨_, rfl, h⟩
def rExtW (K : Frag) : V → List V → Hp → VK → Prop := fun x vs H Q => ∃ l b xs zs, x = .ref l ∧ vs = [.ref b] ∧ H l = some (.lst xs) ∧ SqL K H b zs ∧ xs.length + zs.length ≤ sizeLine ∧ Q .non (upd H l (.lst (xs ++ zs)))
theorem mt_extendW {X : Cx} : MtM X "list.extend" (rExtW X.K) := by
  intro pins s σ H x vs v us Q I rx rv h
  obtain ⟨l, b, xs, zs, rfl, rfl, hH, hB, hz, q⟩ := h
  cases rx
  obtain ⟨u, rfl, ru⟩ := rv.one
  cases ru
  obtain ⟨z, its, n, r, hl, e⟩ := I.lstM hH
  obtain ⟨its2, r2, pl2, hz2⟩ := I.list hB
  have l2 := r2.length
  obtain ⟨⟨cls2, dd2, data2, sl2⟩, ho2, hc2, n2, hd2⟩ := pl2.isList
  simp only at hc2 hd2
  subst hc2 hd2
  have hsz : its.toArray.size + its2.toArray.size ≤ sizeLine := by rw [List.size_toArray, List.size_toArray]; omega
  have hlong : ¬ (!its.toArray.isEmpty && Builtin.List.listTooLong (its.toArray.size + its2.toArray.size)) = true := by
    rw [notLongL hsz, Bool.and_false]
    exact Bool.false_ne_true
  refine call_meets PySem.F.slot_list_extend ⟨_, e, rfl⟩ PySem.F.entry_list_extend (PySem.F.args_list_extend_2 _ _)
    (list_extendW l its.toArray n b its2.toArray n2 dd2 sl2 hlong (by rw [List.size_toArray]; omega) (by omega)) ⟨e, ho2, ?_⟩
  refine ⟨.non, _, I.lset (its' := its ++ its2) hH e (by simp) (r.append r2) ?_, rfl, q⟩
  rw [List.length_append]
  omega
/-- o.extend(e), e a list -/
def extK (mo me : ME) : ME := fun ρ α Q E => mo ρ α (fun o α1 => cellL α1 o fun _ _ => me ρ α1 (fun e α2 => cellL α2 o fun a ds => ∃ es, vw α2 e = some (.list es) ∧ ds.length + es.length ≤ 100000 ∧ Q .none (aset α2 a (.list (ds ++ es)))) E) E
theorem je_ext {o e : Expr} {p2 p3 : Pos} {mo me : ME} (h1 : JE c N sc o mo) (h : JE c N sc e me)
    (hbase : ∀ env, attributeBase o "extend" env (eval o env) = eval o env := by intros; rfl)
    (hfew : ∀ env, ((backTo p3 (starEach [e] env)).all (fun x => !x.1) && (backToKw p3 (keywordEach [] env)).all (fun x => x.1.isSome) && decide (([e] : List Expr).length + ([] : List Keyword).length + (if ([] : List Keyword).isEmpty then 0 else 1) < 30)) = true := by intros; rfl)
    (hline : (p2.endLine == p3.line) = true := by rfl) (hs : ∀ env, starEach [e] env = (false, eval e env) :: starEach [] env := by intros; rfl) (hplain : ∀ env, (backTo p3 (starEach [] env)).any (·.1) = false := by intros; rfl) :
    JE c N sc (.Call (.Attribute o "extend" p2) [e] [] p3) (extK mo me) := by
  obtain ⟨t, a1, a2⟩ := h
  obtain ⟨u, b1, b2⟩ := h1
  refine ⟨fun W => tBM c.K "list" (rExtW c.K) (u W) (tCons (t W) tNil), fun X W I T => ?_, fun W B σ H ρ α S Qm Em m Q q x => ?_⟩
  · have q := pe_bm (cpos := p3) (apos := p2) PySem.F.plainAttrs_list PySem.F.slot_list_extend PySem.F.type_list_extend (mt_extendW (X := X)) (b1 X W I T) (pa_cons (a1 X W I T) pa_nil (hs _)) (hbase _) (hfew _) hline (hs _) (hplain _)
    rw [I.K] at q
    exact q
  · refine b2 W B σ H ρ α S _ Em m _ (fun v o B1 H1 α1 A1 r1 m => ?_) x
    obtain ⟨a, ds, rfl, e1, m⟩ := m
    obtain ⟨bb1, vs, g1, g2⟩ := A1.bs.list e1
    have hv := r1.cell
    subst hv
    refine ⟨.inl ⟨rfl, vs, .inl (.inl g1)⟩, ?_⟩
    refine a2 W B1 σ H1 ρ α1 (S.step A1) _ Em m _ (fun w e B2 H2 α2 A2 r2 m => ?_) (x.after S.bs A1)
    obtain ⟨a', ds', ea, e2, es, he, hl, m⟩ := m
    cases dref_inj ea
    obtain ⟨bb2, vs', g3, g4⟩ := A2.bs.list e2
    obtain ⟨b, xs, rfl, k1, k2⟩ := (vw_rs A2.bs r2 he).list
    refine ⟨a, b, vs', xs, rfl, rfl, g3, k1, Nat.le_trans (by rw [g4.length, k2.length]; exact hl) (by decide), ?_⟩
    have w := Af.write (o := .lst (vs' ++ xs)) (c := .list (ds' ++ es)) A2.bs e2 (.own ⟨_, rfl, g4.append k2⟩)
    exact q .non .none B2 _ _ ((A1.trans S.bs A2).trans S.bs w) .non m
def numsC (lo st : Int) : Nat → List D
  | 0 => []
  | n + 1 => .int lo :: numsC (lo + st) st n
theorem numsC_length : ∀ (n : Nat) (lo st : Int), (numsC lo st n).length = n
  | 0, _, _ => rfl
  | n + 1, lo, st => congrArg (· + 1) (numsC_length n (lo + st) st)
theorem numsC_get : ∀ (n : Nat) (lo st : Int) (i : Nat) (d : D), (numsC lo st n)[i]? = some d → i < n ∧ d = .int (lo + (i : Nat) * st)
  | 0, lo, st, i, d, h => by simp [numsC] at h
  | n + 1, lo, st, 0, d, h => by
    simp [numsC] at h
    exact ⟨by omega, by rw [← h]; simp⟩
  | n + 1, lo, st, i + 1, d, h => by
    have h' : (numsC (lo + st) st n)[i]? = some d := h
    obtain ⟨a, b⟩ := numsC_get n (lo + st) st i d h'
    refine ⟨by omega, ?_⟩
    rw [b]
    congr 1
    rw [show ((i + 1 : Nat) : Int) = (i : Int) + 1 from rfl, Int.add_mul, Int.one_mul]
    omega
theorem it_rangeC {B : Addr → Bool} {K : Frag} {H : Hp} {G : AH → Prop} {lo st : Int} {n : Nat} : ItOk K (Itc lo st n) G B H (numsC lo st n) := fun B' H' α' sb bk g => ⟨fun i d hi => by
  obtain ⟨a, b⟩ := numsC_get n lo st i d hi
  refine ⟨a, fun x H'' y => ?_⟩
  obtain ⟨rfl, rfl⟩ := y
  refine ⟨Sub.refl _, ?_⟩
  rw [b]
  exact .int _, by rw [numsC_length]; exact Nat.le_refl n⟩
def rangeK3 (m : ML) : MI := fun ρ α Q E => m ρ α (fun ds α1 => ∃ i j k : Int, ds = [.int i, .int j, .int k] ∧ (k ≠ 0 ∧ k.natAbs < 1073741824 ∧ Builtin.Range.small i j k = true) ∧ Q (numsC i k (Builtin.Range.rangeSize i j k).toNat) (fun _ => True) α1) E
theorem ji_range3 {a b e tg : Expr} {p pos : Pos} {ma : ML} (hg : sc.names.lookup ("range" : Str) = some .globalImplicit) (hm : c.mg ("range" : Str) = none) (h : JL c N sc [a, b, e] ma) (hs : ∀ env, starEach [a, b, e] env = (false, eval a env) :: starEach [b, e] env := by intros; rfl) (hpl : ∀ env, (backTo pos (starEach [b, e] env)).any (·.1) = false := by intros; rfl) : JI c N sc tg (.Call (.Name "range" p) [a, b, e] [] pos) (rangeK3 ma) := by
  obtain ⟨t, h1, h2⟩ := h
  refine ⟨fun W => iRng3 (t W), fun X W I T => pi_range3 (I.gl hg) (by rw [I.mg]; exact hm) (h1 X W I T) (hs _) (hpl _), fun W B σ H ρ α S Qm Em m R q x => h2 W B σ H ρ α S _ Em m _ (fun vs ds B1 H1 α1 A r m => ?_) x⟩
  obtain ⟨i, j, k, rfl, hb, m⟩ := m
  cases r with
  | cons r1 r2 =>
    cases r2 with
    | cons r2 r3 =>
      cases r3 with
      | cons r3 r4 =>
        cases r4
        cases r1
        cases r2
        cases r3
        exact ⟨i, j, k, _, rfl, ⟨hb.1, hb.2.1, hb.2.2, PyProof.Rows.rangeSize_toNat i j k⟩, q _ _ _ B1 H1 α1 A it_rangeC m⟩
abbrev HeldD (c : C0) (k : Nat) (f : Addr) (np : Nat) (fm : Fm) : Prop := ∃ (fd : FuncData) (ps : List Str), FnOk c.P c.w c.K c.mg c.base (L2.CX c.P c.w) k f fd ps (fun vs H Q E => vs.length = ps.length ∧ spD c.K fm vs H Q E) ∧ PySem.W.keepIn c.K (.ref f) = true ∧ Binds c.K fd ps [] ∧ ps.length = np
theorem HeldD.ex {c : C0} {k : Nat} {f : Addr} {np : Nat} {fm : Fm} (h : HeldD c k f np fm) : ∃ (fd : FuncData) (ps : List Str), FnOk c.P c.w c.K c.mg c.base (L2.CX c.P c.w) k f fd ps (fun vs H Q E => vs.length = ps.length ∧ spD c.K fm vs H Q E) ∧ PySem.W.keepIn c.K (.ref f) = true ∧ Binds c.K fd ps [] ∧ ps.length = np := h
end Hz
namespace Hz
open PySem L2
variable {c : C0} {N : List Str} {sc : Scope}
section
variable {e b : Expr} {es : List Expr} {me mb : ME} {pos p p1 p2 : Pos} {x : Str} {g : D → D → Option D}
theorem v_ (i : Nat) (hN : N[i]? = some x := by rfl) (hv : Vis sc x := by first | exact Or.inl rfl | exact Or.inr (Or.inl rfl) | exact Or.inr (Or.inr rfl)) (hd : (x == ("__debug__" : Str)) = false := by decide) (hcd : (x == ("__classdict__" : Str)) = false := by decide) : JE c N sc (.Name x pos) (kV i) := ce_var hN hv hd hcd
theorem g_int {i : Int} (hg : sc.names.lookup x = some .globalImplicit := by rfl) (hm : ∃ t, c.mg x = some (.int i t)) (hd : (x == ("__debug__" : Str)) = false := by decide) : JE c N sc (.Name x pos) (kC (.int i)) := by
  obtain ⟨t, h⟩ := hm
  exact ce_glob (v := .int i) hg h ⟨t, rfl⟩ (fun _ => .int i) hd
theorem g_str {i : Str} (hg : sc.names.lookup x = some .globalImplicit := by rfl) (hm : ∃ t, c.mg x = some (.str i t)) (hd : (x == ("__debug__" : Str)) = false := by decide) : JE c N sc (.Name x pos) (kC (.str i)) := by
  obtain ⟨t, h⟩ := hm
  exact ce_glob (v := .str i) hg h ⟨t, rfl⟩ (fun _ => .str i) hd
theorem set_ (i : Nat) (nd : N.Nodup) (h : JE c N sc e me) (hN : N[i]? = some x := by rfl) (hs : Sto c sc x := by first | exact Or.inl rfl | exact Or.inr ⟨rfl, rfl⟩) (hw : ∀ env, swapsWith e (some (.Name x p1)) pos.line env = pure false := by intros; rfl) : JS c N sc (.Assign [.Name x p1] e pos) (asgS me (setv i)) := js_set nd hN hs h hw
theorem tg_ (i : Nat) (nd : N.Nodup) (hN : N[i]? = some x := by rfl) (hs : Sto c sc x := by first | exact Or.inl rfl | exact Or.inr ⟨rfl, rfl⟩) : JTg c N sc (.Name x pos) [i] (setv i) := jtg_name nd hN hs
/-- y = [..] on one line -/
theorem setLc_ (i : Nat) {oc : List Str} {tg iter : Expr} {ifs : List Expr} {scope : Scope} {spos : Pos} {own : List (Str × Nat)} {js : List Nat} {mi : MI} {mg : D → En → Option En} {mt : MT} (nd : N.Nodup)
    (hi : JI c N sc tg iter mi) (ok : BlkOk N sc scope own) (hg : JTg (c.inO oc) N (relS scope sc) tg js mg) (ht : JTs (c.inO oc) N (relS scope sc) ifs mt) (he : JE (c.inO oc) N (relS scope sc) e me)
    (hN : N[i]? = some x := by rfl) (hx : sc.names.lookup x = some .local := by rfl) (hk : sc.kind = .function := by rfl) (hl : (p1.line == pos.line) = true := by rfl) (hn : (scope.names.any fun (n, k) => n == x && (k == .local || k == .cell)) = false := by decide +kernel)
    (hj : (js.all fun j => (own.map (·.2)).contains j) = true := by rfl) (hc : c.cm = true := by rfl) (ho : (oc.all fun x => scope.names.lookup x == some .cell) = true := by rfl) (hs : ∀ env x, foldedSetIterable iter env x = pure x := by intros; rfl) : JS c N sc (.Assign [.Name x p1] (.ListComp e [⟨tg, iter, ifs, 0⟩] scope pos) spos) (asgS (lcK (own.map (·.2)) mi mg mt me) (setv i)) :=
  js_lc (f := id) (fun _ _ _ _ h => h.sd) nd hN hx hk hl hn hi ok hg ht he hj hc ho hs
/-- .. a cell -/
theorem newLc_ (i : Nat) {oc : List Str} {tg iter : Expr} {ifs : List Expr} {scope : Scope} {spos : Pos} {own : List (Str × Nat)} {js : List Nat} {mi : MI} {mg : D → En → Option En} {mt : MT} (nd : N.Nodup)
    (hi : JI c N sc tg iter mi) (ok : BlkOk N sc scope own) (hg : JTg (c.inO oc) N (relS scope sc) tg js mg) (ht : JTs (c.inO oc) N (relS scope sc) ifs mt) (he : JE (c.inO oc) N (relS scope sc) e me)
    (hN : N[i]? = some x := by rfl) (hx : sc.names.lookup x = some .local := by rfl) (hk : sc.kind = .function := by rfl) (hl : (p1.line == pos.line) = true := by rfl) (hn : (scope.names.any fun (n, k) => n == x && (k == .local || k == .cell)) = false := by decide +kernel)
    (hj : (js.all fun j => (own.map (·.2)).contains j) = true := by rfl) (hc : c.cm = true := by rfl) (ho : (oc.all fun x => scope.names.lookup x == some .cell) = true := by rfl) (hs : ∀ env x, foldedSetIterable iter env x = pure x := by intros; rfl) : JS c N sc (.Assign [.Name x p1] (.ListComp e [⟨tg, iter, ifs, 0⟩] scope pos) spos) (asgS (newK (lcK (own.map (·.2)) mi mg mt me)) (setv i)) :=
  js_lc (f := newK) (fun _ _ _ _ h => h.new) nd hN hx hk hl hn hi ok hg ht he hj hc ho hs
end
def dIAdd : D → D → Option D
  | .int a, .int b => some (.int (a + b))
  | .str a, .str b => if a.length + b.length ≤ 100000 then some (.str (a ++ b)) else none
  | _, _ => none
theorem o_iadd : OpD c.K (In c N sc) (inplaceOp .Add) dIAdd := by
  refine ⟨_, fun X I => OpR.or (X := X) iop_add iop_add_str, fun B H x y d e z bk hx hy hz Q q => ?_⟩
  unfold dIAdd at hz
  split at hz
  · cases hz
    exact .inl ⟨_, _, hx.int, hy.int, q _ H (Sub.refl H) (.int _)⟩
  · split at hz
    · rename_i hl
      cases hz
      exact .inr ⟨_, _, hx.str, hy.str, sz5 hl, q _ H (Sub.refl H) (.str _)⟩
    · cases hz
  · cases hz
def At (c : C0) (x : Str) (st : Stmt) (ps : List Str) (dvs : List V) (js : List Nat) : Prop := ∃ f, AtF c x x st ps dvs js f ∧ c.mg x = some (.ref f)
def MeAt (c : C0) (C : Nat) (m qual : Str) (st : Stmt) (ps : List Str) (dvs : List V) (js : List Nat) : Prop := ∃ f, AtF c m qual st ps dvs js f ∧ Meth c.K C m f
def InAt (c : C0) (C : Nat) (x qual : Str) (st : Stmt) (ps : List Str) (dvs : List V) (js : List Nat) : Prop := ∃ f, AtF c "__init__" qual st ps dvs js f ∧ Mk c.K C f ∧ c.mg x = some (.ref C)
def PrF (c : C0) (k : Nat) (x : Str) (ps : List Str) (dvs : List V) (js : List Nat) (fm : Fm) : Prop := ∃ f, Pro c k f ps dvs js fm ∧ c.mg x = some (.ref f)
def PrM (c : C0) (k C : Nat) (m : Str) (ps : List Str) (dvs : List V) (js : List Nat) (fm : Fm) : Prop := ∃ f, Pro c k f ps dvs js fm ∧ Meth c.K C m f
def PrI (c : C0) (k C : Nat) (x : Str) (ps : List Str) (dvs : List V) (js : List Nat) (fm : Fm) : Prop := ∃ f, Pro c k f ps dvs js fm ∧ Mk c.K C f ∧ c.mg x = some (.ref C)
section
variable {x m qual : Str} {st : Stmt} {ps : List Str} {dvs : List V} {js : List Nat} {k C np : Nat} {mm : MS} {fm : Fm}
theorem At.run (A : At c x st ps dvs js) (S : FnScope N ps (defScope st)) (h : JB (c.at_ k) N (defScope st) (defBody st) mm) (hn : ps.length ≤ N.length := by decide) : PrF c (k + 1) x ps dvs js (runF ps.length N.length mm) :=
  let ⟨f, a, m⟩ := A; ⟨f, a.run S h hn, m⟩
theorem At.runP (A : At c x st ps dvs js) (S : FnScope N ps (defScope st)) (h : JB (c.at_ k) N (defScope st) (defBody st) mm) (hn : ps.length ≤ N.length := by decide) : PrF c (k + 1) x ps dvs js (Hz.runP ps.length N.length mm) :=
  let ⟨f, a, m⟩ := A; ⟨f, a.runP S h hn, m⟩
theorem MeAt.run (A : MeAt c C m qual st ps dvs js) (S : FnScope N ps (defScope st)) (h : JB (c.at_ k) N (defScope st) (defBody st) mm) (hn : ps.length ≤ N.length := by decide) : PrM c (k + 1) C m ps dvs js (runF ps.length N.length mm) :=
  let ⟨f, a, m⟩ := A; ⟨f, a.run S h hn, m⟩
theorem MeAt.runP (A : MeAt c C m qual st ps dvs js) (S : FnScope N ps (defScope st)) (h : JB (c.at_ k) N (defScope st) (defBody st) mm) (hn : ps.length ≤ N.length := by decide) : PrM c (k + 1) C m ps dvs js (Hz.runP ps.length N.length mm) :=
  let ⟨f, a, m⟩ := A; ⟨f, a.runP S h hn, m⟩
theorem InAt.run (A : InAt c C x qual st ps dvs js) (S : FnScope N ps (defScope st)) (h : JB (c.at_ k) N (defScope st) (defBody st) mm) (hn : ps.length ≤ N.length := by decide) : PrI c (k + 1) C x ps dvs js (runF ps.length N.length mm) :=
  let ⟨f, a, m, q⟩ := A; ⟨f, a.run S h hn, m, q⟩
theorem PrF.fn (P : PrF c k x ps dvs js fm) : FnD c k x ps.length [] fm := let ⟨f, p, m⟩ := P; p.fn m
theorem PrM.mt (P : PrM c k C m ps dvs js fm) (hp : ps.length = np + 1 := by rfl) : MtD c k C m np [] fm := let ⟨f, p, m⟩ := P; p.mt m hp
theorem PrM.mtd (P : PrM c k C m ps dvs js fm) (j : Nat) (ds : List D) (hj : j ∈ js) (hd : ∀ H, RpL c.K H (dvs.drop j) ds) (hp : ps.length = np + 1 + ds.length := by rfl) : MtD c k C m np ds fm := let ⟨f, p, m⟩ := P; p.mtd m j ds hj hd hp
theorem PrI.mk_ (P : PrI c k C x ps dvs js fm) (hp : ps.length = np + 1 := by rfl) : MkD c k x C np [] fm := let ⟨f, p, m, q⟩ := P; p.mk_ m q hp
theorem PrI.mkd (P : PrI c k C x ps dvs js fm) (j : Nat) (ds : List D) (hj : j ∈ js) (hd : ∀ H, RpL c.K H (dvs.drop j) ds) (hp : ps.length = np + 1 + ds.length := by rfl) : MkD c k x C np ds fm := let ⟨f, p, m, q⟩ := P; p.mkd m q j ds hj hd hp
end
theorem kit_self {K : Frag} {C : Addr} : PySem.W.kitOne K (.ref C) (.ref C) = some true := if_pos (beq_self_eq_true _)
theorem kit_other {K : Frag} {C : Addr} {T : String} (h1 : PySem.W.isClsIn K C = true) (h2 : PySem.W.typeIn K (.ref C) = some (.type "type")) (h3 : PySem.W.notFirst K C (.type T) = true) : PySem.W.kitOne K (.type T) (.ref C) = some false := by
  have ne : (Value.type T == Value.ref C) = false := by
    cases z : (Value.type T == Value.ref C) with
    | false => rfl
    | true => exact nomatch (eq_of_beq z)
  unfold PySem.W.notFirst at h3
  rw [ne, Bool.false_or] at h3
  unfold PySem.W.kitOne
  rw [if_neg (by rw [ne]; exact Bool.false_ne_true)]
  show (if ((PySem.W.clsIn K C).isSome && PySem.W.typeIn K (.ref C) == some (.type "type")) = true then PySem.W.subIn K (.type T) (.ref C) else none) = some false
  rw [if_pos]
  · exact eq_of_beq h3
  · rw [h2, show (PySem.W.clsIn K C).isSome = true from h1]
    rfl
/-- isinstance(an A, D), both own classes, A below D or D itself -/
theorem kit_sub {K : Frag} {A D : Addr} (h1 : PySem.W.isClsIn K D = true) (h2 : PySem.W.typeIn K (.ref D) = some (.type "type")) (h3 : PySem.W.subIn K (.ref A) (.ref D) = some true) : PySem.W.kitOne K (.ref A) (.ref D) = some true := by
  unfold PySem.W.kitOne
  split
  · rfl
  · show (if ((PySem.W.clsIn K D).isSome && PySem.W.typeIn K (.ref D) == some (.type "type")) = true then PySem.W.subIn K (.ref A) (.ref D) else none) = some true
    rw [if_pos]
    · exact h3
    · rw [h2, show (PySem.W.clsIn K D).isSome = true from h1]
      rfl
theorem kit_T {K : Frag} {A : Addr} {T : String} (h0 : PySem.W.kitMeta T = true) (h3 : PySem.W.subIn K (.ref A) (.type T) = some true) : PySem.W.kitOne K (.ref A) (.type T) = some true := by
  unfold PySem.W.kitOne
  rw [if_neg (by simp)]
  show (if PySem.W.kitMeta T = true then PySem.W.subIn K (.ref A) (.type T) else none) = some true
  rw [if_pos h0]
  exact h3
end Hz
namespace Hz
open PySem L2
variable {c : C0} {N : List Str} {sc : Scope}
/-- an own class, by its facts -/
structure ClsK (K : Frag) (mg : Str → Option Value) (x : Str) (C : Nat) : Prop where
  mg : mg x = some (.ref C)
  cl : Cls K C
  ha : PySem.W.findIn K (.ref C) "__class__" = some (some (.builtin "object.__class__"))
  hn : PySem.W.specialIn K (.builtin "object.__class__") "__get__" = some (some (.builtin "getset_descriptor.__get__"))
  htk : PySem.W.takesIn K (.builtin "object.__class__") = some true
  hm : PySem.W.mroIn K C (.type "object") = some true
  self : PySem.W.kitOne K (.ref C) (.ref C) = some true
  kNone : PySem.W.kitOne K (.type "NoneType") (.ref C) = some false
  kBool : PySem.W.kitOne K (.type "bool") (.ref C) = some false
  kInt : PySem.W.kitOne K (.type "int") (.ref C) = some false
  kStr : PySem.W.kitOne K (.type "str") (.ref C) = some false
  kList : PySem.W.kitOne K (.type "list") (.ref C) = some false
  kTuple : PySem.W.kitOne K (.type "tuple") (.ref C) = some false
  fList : PySem.W.notFirst K C (.type "list") = true
  fTuple : PySem.W.notFirst K C (.type "tuple") = true
abbrev ClsD (c : C0) (x : Str) (C : Nat) : Prop := ClsK c.K c.mg x C
def isOb (C : Nat) : D → Bool
  | .dict ((.none, .int k) :: _) => decide (k = Int.ofNat C)
  | _ => false
theorem isOb_oD {C : Nat} {d : D} (h : isOb C d = true) : ∃ fs, d = oD C fs := by
  unfold isOb at h
  split at h
  · rename_i k fs
    exact ⟨fs, by unfold oD; rw [of_decide_eq_true h]⟩
  · cases h
def isiCB (C : Nat) : D → Option Bool
  | .none => some false
  | .bool _ => some false
  | .int _ => some false
  | .str _ => some false
  | .list _ => some false
  | .tuple _ => some false
  | d => if isOb C d = true then some true else none
theorem isiC_of {C : Nat} {x : Str} (T : ClsD c x C) {B : Addr → Bool} {H : Hp} {v : V} {d : D} {b : Bool} (h : Rs c.K B H v d) (e : isiCB C d = some b) : ∃ t, TyX c.K H v t ∧ PySem.W.kitOne c.K t (.ref C) = some b := by
  by_cases ho : isOb C d = true
  · obtain ⟨fs, rfl⟩ := isOb_oD ho
    obtain ⟨a, dx, gs, rfl, h1, h2⟩ := h.oD
    have eb : b = true := by
      have : isiCB C (oD C fs) = some true := by
        unfold isiCB oD at *
        simp only []
        rw [if_pos ho]
      rw [this] at e
      cases e
      rfl
    subst eb
    exact ⟨.ref C, .base (.ins h1 T.cl T.ha T.hn T.htk T.hm), T.self⟩
  · have h := h.rp
    cases h with
    | non => cases e; exact ⟨_, .base .non, T.kNone⟩
    | bl k => cases e; exact ⟨_, .base (.bl k), T.kBool⟩
    | int k => cases e; exact ⟨_, .base (.int k), T.kInt⟩
    | str k => cases e; exact ⟨_, .base (.str k), T.kStr⟩
    | lst hs _ =>
      cases e
      refine ⟨.type "list", ?_, T.kList⟩
      rcases hs with (h | ⟨o, h⟩) | ⟨o, its, n, h1, h2, _⟩
      · exact .base (.lst h)
      · exact .base (.frz h)
      · exact .kList h1 h2
    | tup hs _ _ =>
      cases e
      refine ⟨.type "tuple", ?_, T.kTuple⟩
      rcases hs with (h | ⟨o, h⟩) | ⟨o, its, n, h1, h2, _⟩
      · exact .base (.tup h)
      · exact .fTuple h
      · exact .kTuple h1 h2
    | _ =>
      simp only [isiCB, if_neg ho] at e
      cases e
def isiCK (C : Nat) (m : ME) : ME := fun ρ α Q E => m ρ α (fun d α1 => oq (vw α1 d) fun d' => oq (isiCB C d') fun b => Q (.bool b) α1) E
theorem je_isiC {C : Nat} {y : Str} {p p2 pos : Pos} {e : Expr} {me : ME} (T : ClsD c y C) (hg : sc.names.lookup ("isinstance" : Str) = some .globalImplicit) (hm : c.mg ("isinstance" : Str) = none) (hgy : sc.names.lookup y = some .globalImplicit) (ha : JE c N sc e me)
    (hdb : (y == ("__debug__" : Str)) = false := by decide)
    (he : ∀ env, starEach [e, .Name y p2] env = (false, eval e env) :: starEach [.Name y p2] env := by intros; rfl) (hpl : ∀ env, (backTo pos (starEach [.Name y p2] env)).any (·.1) = false := by intros; rfl) :
    JE c N sc (.Call (.Name "isinstance" p) [e, .Name y p2] [] pos) (isiCK C me) := by
  obtain ⟨t, a1, a2⟩ := ha
  refine ⟨fun W => tCB (rIsi c.K) (tCons (t W) (tCons (tC (.ref C)) tNil)), fun X W I TT => ?_, fun W B σ H ρ α S Qm Em m Q q x => ?_⟩
  · have h := pe_callB (x := "isinstance") (p := p) (pos := pos) (call_isi (X := X)) (I.gl hg) (by rw [I.mg]; exact hm) (by decide +kernel) (pa_cons (a1 X W I TT) (pa_cons (pe_glob (pos := p2) (v := .ref C) (I.gl hgy) (by rw [I.mg]; exact T.mg) rfl hdb) pa_nil) (he _)) (by decide) (by decide) (he _) (hpl _)
    rw [I.K] at h
    exact h
  · refine a2 W B σ H ρ α S _ Em m _ (fun v d B1 H1 α1 A1 r1 m => ?_) x
    obtain ⟨d', hd, z, hz, m⟩ := m
    obtain ⟨t, h1, h2⟩ := isiC_of T (vw_rs A1.bs r1 hd) hz
    exact ⟨v, .ref C, t, .ref C, z, rfl, .own C, h1, h2, q _ _ B1 H1 α1 A1 (.bl z) m⟩
end Hz
namespace Hz
open PySem L2
section
variable {c : C0} {N : List Str} {sc : Scope}
def dIsT : D → D → Option D
  | .bool a, .bool b => some (.bool (decide (a = b)))
  | _, _ => none
def dIsNotT : D → D → Option D
  | .bool a, .bool b => some (.bool (!decide (a = b)))
  | _, _ => none
end
end Hz
namespace Hz
open PySem L2
def it2 (b : Bool) (A B : Prop) : Prop := (b = true → A) ∧ (b = false → B)
def tb (d : D) (R : Bool → Prop) : Prop := ∃ b, d = .bool b ∧ R b
def ti (d : D) (R : Int → Prop) : Prop := ∃ b, d = .int b ∧ R b
def ts (d : D) (R : Str → Prop) : Prop := ∃ b, d = .str b ∧ R b
def cal (np : Nat) (fm : Fm) (as : List D) (ds : List D) (α : AH) (Q : QD) (E : QX) : Prop := as.length = np ∧ fm (as ++ ds) α Q E
def pr2 (ds : List D) (R : D → D → Prop) : Prop := ∃ d e, ds = [d, e] ∧ R d e
theorem pr2_of {d e : D} {R : D → D → Prop} (h : R d e) : pr2 [d, e] R := ⟨d, e, rfl, h⟩
def lenOk (ds : List D) (P : Prop) : Prop := ds.length ≤ 100000 ∧ P
theorem lok {ds : List D} {P : Prop} (e : decide (ds.length ≤ 100000) = true) (h : P) : lenOk ds P := ⟨of_decide_eq_true e, h⟩
section
variable {A B : Prop} {b : Bool} {p : Prop} {RB : Bool → Prop}
theorem tb_b (h : RB b) : tb (.bool b) RB := ⟨b, rfl, h⟩
theorem ti_b {R : Int → Prop} {b} (h : R b) : ti (.int b) R := ⟨b, rfl, h⟩
theorem ts_b {R : Str → Prop} {b} (h : R b) : ts (.str b) R := ⟨b, rfl, h⟩
theorem it2_dec [Decidable p] (h : p → A) (k : ¬ p → B) : it2 (decide p) A B := ⟨fun e => h (of_decide_eq_true e), fun e => k (of_decide_eq_false e)⟩
theorem it2_t (h : A) : it2 true A B := ⟨fun _ => h, fun e => (nomatch e)⟩
theorem it2_f (h : B) : it2 false A B := ⟨fun e => (nomatch e), fun _ => h⟩
theorem it2_not (h : it2 b B A) : it2 (!b) A B := by
  cases b with
  | false => exact it2_t (h.2 rfl)
  | true => exact it2_f (h.1 rfl)
theorem oq_id {α : Type} {o : Option α} {Q : α → Prop} (h : oq o Q) : oq o Q := h
theorem oq_some {α : Type} {z : α} {Q : α → Prop} (h : Q z) : oq (some z) Q := ⟨z, rfl, h⟩
end
section
variable {ρ ρ' : En} {α α' : AH} {Q : QD} {QB : Bool → AH → Prop} {QL : List D → AH → Prop} {QO : Option Int → AH → Prop} {E : QX} {D' : Md} {d e : D} {i j : Nat} {ma mb md : ME} {mt mt2 : MT} {ml : ML} {m1 m2 : MS} {g g' : D → D → Option D} {f : List D → Option D} {fm : Fm} {tg : D → En → Option En} {G : AH → Prop}
def we (Q : QD) (E : QX) : Md := { nx := fun _ α' => Q .none α', rt := Q, bk := fun _ _ => False, ct := fun _ _ => False, ex := fun x _ α' => E x α' }
theorem we_nx (h : Q .none α) : (we Q E).nx ρ α := h
theorem we_rt (h : Q d α) : (we Q E).rt d α := h
theorem we_ex {y : Ex} (h : E y α) : (we Q E).ex y ρ α := h
def wn (D : Md) (n : En → AH → Prop) : Md := { D with nx := n }
def wl (D : Md) (n : En → AH → Prop) : Md := { D with nx := n, ct := n, bk := D.nx }
def wx (D : Md) (x : Ex → En → AH → Prop) : Md := { D with ex := x }
def wh (D : Md) (i : Nat) : Md := { nx := fun ρ2 α2 => D.nx (ρ2.set i none) α2, rt := D.rt, bk := fun ρ2 α2 => D.bk (ρ2.set i none) α2, ct := fun ρ2 α2 => D.ct (ρ2.set i none) α2, ex := fun _ _ _ => False }
section
variable {n : En → AH → Prop} {x : Ex → En → AH → Prop} {y : Ex}
theorem wn_nx (h : n ρ α) : (wn D' n).nx ρ α := h
theorem wn_rt (h : D'.rt d α) : (wn D' n).rt d α := h
theorem wn_bk (h : D'.bk ρ α) : (wn D' n).bk ρ α := h
theorem wn_ct (h : D'.ct ρ α) : (wn D' n).ct ρ α := h
theorem wn_ex (h : D'.ex y ρ α) : (wn D' n).ex y ρ α := h
theorem wl_nx (h : n ρ α) : (wl D' n).nx ρ α := h
theorem wl_rt (h : D'.rt d α) : (wl D' n).rt d α := h
theorem wl_bk (h : D'.nx ρ α) : (wl D' n).bk ρ α := h
theorem wl_ct (h : n ρ α) : (wl D' n).ct ρ α := h
theorem wl_ex (h : D'.ex y ρ α) : (wl D' n).ex y ρ α := h
theorem wx_nx (h : D'.nx ρ α) : (wx D' x).nx ρ α := h
theorem wx_rt (h : D'.rt d α) : (wx D' x).rt d α := h
theorem wx_bk (h : D'.bk ρ α) : (wx D' x).bk ρ α := h
theorem wx_ct (h : D'.ct ρ α) : (wx D' x).ct ρ α := h
theorem wx_ex (h : x y ρ α) : (wx D' x).ex y ρ α := h
theorem wh_nx {i : Nat} (h : D'.nx (ρ.set i none) α) : (wh D' i).nx ρ α := h
theorem wh_rt {i : Nat} (h : D'.rt d α) : (wh D' i).rt d α := h
theorem wh_bk {i : Nat} (h : D'.bk (ρ.set i none) α) : (wh D' i).bk ρ α := h
theorem wh_ct {i : Nat} (h : D'.ct (ρ.set i none) α) : (wh D' i).ct ρ α := h
end
theorem w_kC (h : Q d α) : kC d ρ α Q E := h
theorem w_kV (e : ρ[i]? = some (some d)) (h : Q d α) : kV i ρ α Q E := ⟨d, e, h⟩
theorem w_new (h : ma ρ α (fun c α1 => ∀ p, α1 p = none → Q (dref p) (aset α1 p c)) E) : newK ma ρ α Q E := h
theorem w_frz (h : ma ρ α (fun d α1 => ∃ p c, d = dref p ∧ α1 p = some c ∧ Q c (adel α1 p)) E) : frzK ma ρ α Q E := h
theorem fr_of {p : Addr} {c : D} {α1 : AH} {R : D → AH → Prop} (e : α1 p = some c) (h : R c (adel α1 p)) : ∃ p' c', dref p = dref p' ∧ α1 p' = some c' ∧ R c' (adel α1 p') := ⟨p, c, rfl, e, h⟩
theorem w_bop (h : ma ρ α (fun d α1 => mb ρ α1 (fun e α2 => oq (vw α2 d) fun d' => oq (vw α2 e) fun e' => oq (g d' e') fun z => Q z α2) E) E) : bop g ma mb ρ α Q E := h
theorem w_tst (h : ma ρ α (fun d α1 => tb d fun b => QB b α1) E) : tst ma ρ α QB E := h
theorem w_val (h : mt ρ α (fun b α1 => Q (.bool b) α1) E) : valK mt ρ α Q E := h
theorem w_not (h : mt ρ α (fun b α1 => QB (!b) α1) E) : notK mt ρ α QB E := h
theorem it2_eq {b : Bool} {A B : Prop} : it2 b A B = (if b = true then A else B) := by
  cases b
  · exact propext ⟨fun h => h.2 rfl, fun h => it2_f h⟩
  · exact propext ⟨fun h => h.1 rfl, fun h => it2_t h⟩
theorem w_and (h : mt ρ α (fun b α1 => it2 b (mt2 ρ α1 QB E) (QB false α1)) E) : andK mt mt2 ρ α QB E := by
  simp only [it2_eq] at h
  exact h
theorem w_or (h : mt ρ α (fun b α1 => it2 b (QB true α1) (mt2 ρ α1 QB E)) E) : orK mt mt2 ρ α QB E := by
  simp only [it2_eq] at h
  exact h
theorem w_andV (h : mt ρ α (fun b α1 => it2 b (mb ρ α1 Q E) (Q (.bool false) α1)) E) : andV mt mb ρ α Q E := by
  simp only [it2_eq] at h
  exact h
theorem w_orV (h : mt ρ α (fun b α1 => it2 b (Q (.bool true) α1) (mb ρ α1 Q E)) E) : orV mt mb ρ α Q E := by
  simp only [it2_eq] at h
  exact h
theorem w_ifK (h : mt ρ α (fun b α1 => it2 b (ma ρ α1 Q E) (mb ρ α1 Q E)) E) : ifK mt ma mb ρ α Q E := by
  simp only [it2_eq] at h
  exact h
theorem w_chain (h : ma ρ α (fun d α1 => mb ρ α1 (fun e α2 => oq (g d e) fun z => tb z fun b => it2 b (md ρ α2 (fun f α3 => oq (g' e f) fun z' => Q z' α3) E) (Q (.bool false) α2)) E) E) : chainK g g' ma mb md ρ α Q E := by
  simp only [it2_eq] at h
  exact h
theorem w_nil (h : QL [] α) : nilK ρ α QL E := h
theorem w_cons (h : ma ρ α (fun d α1 => ml ρ α1 (fun ds α2 => QL (d :: ds) α2) E) E) : consK ma ml ρ α QL E := h
theorem w_tup (h : ml ρ α (fun ds α1 => lenOk ds (Q (.tuple ds) α1)) E) : tupK ml ρ α Q E := h
theorem w_lst (h : ml ρ α (fun ds α1 => lenOk ds (Q (.list ds) α1)) E) : lstK ml ρ α Q E := h
theorem w_call {np : Nat} {ds : List D} (h : ml ρ α (fun as α1 => cal np fm as ds α1 Q E) E) : callN np fm ds ml ρ α Q E := h
theorem cal_of {np : Nat} {as ds : List D} (e : as.length = np) (h : fm (as ++ ds) α Q E) : cal np fm as ds α Q E := ⟨e, h⟩
theorem w_neg (h : ma ρ α (fun d α1 => ti d fun i => Q (.int (-i)) α1) E) : negK ma ρ α Q E := h
theorem w_b1 (h : ma ρ α (fun d α1 => oq (vw α1 d) fun d' => oq (f [d']) fun z => Q z α1) E) : b1K f ma ρ α Q E := h
theorem w_bn (h : ml ρ α (fun ds α1 => oq (mapV α1 ds) fun es => oq (f es) fun z => Q z α1) E) : bnK f ml ρ α Q E := h
theorem w_isi {T : String} (h : ma ρ α (fun d α1 => oq (vw α1 d) fun d' => oq (isiB T d') fun b => Q (.bool b) α1) E) : isiK T ma ρ α Q E := h
theorem w_met {f : Str → List D → Option D} (h : ma ρ α (fun o α1 => ts o fun x => ml ρ α1 (fun ds α2 => oq (mapV α2 ds) fun es => oq (f x es) fun z => Q z α2) E) E) : metK f ma ml ρ α Q E := h
theorem w_pnone (h : QO none α) : pnone ρ α QO E := h
theorem w_psome (h : ma ρ α (fun d α1 => ti d fun i => QO (some i) α1) E) : psome ma ρ α QO E := h
theorem w_cut {mlo mhi : MP} (h : ma ρ α (fun d α1 => mlo ρ α1 (fun l α2 => mhi ρ α2 (fun h α3 => oq (vw α3 d) fun d' => oq (dCut d' l h) fun z => Q z α3) E) E) E) : cutK ma mlo mhi ρ α Q E := h
theorem w_yes (h : QB true α) : yesK ρ α QB E := h
def cel (α : AH) (o : D) (Q : Addr → List D → Prop) : Prop := cellL α o Q
theorem cel_of {p : Addr} {ds : List D} {R : Addr → List D → Prop} (e : α p = some (.list ds)) (h : R p ds) : cel α (dref p) R := ⟨p, ds, rfl, e, h⟩
theorem w_mut {fu : List D → List D → Option (D × List D)} (h : ma ρ α (fun o α1 => cel α1 o fun _ _ => ml ρ α1 (fun as α2 => cel α2 o fun a ds => oq (fu ds as) fun z => Q z.1 (aset α2 a (.list z.2))) E) E) : mutK fu ma ml ρ α Q E := h
def exD (P : Option D) (R : List D → Prop) : Prop := ∃ es, P = some (.list es) ∧ R es
theorem exD_of {P : Option D} {R : List D → Prop} {es : List D} (e : P = some (.list es)) (h : R es) : exD P R := ⟨es, e, h⟩
theorem w_ext (h : ma ρ α (fun o α1 => cel α1 o fun _ _ => mb ρ α1 (fun e α2 => cel α2 o fun a ds => exD (vw α2 e) fun es => ds.length + es.length ≤ 100000 ∧ Q .none (aset α2 a (.list (ds ++ es)))) E) E) : extK ma mb ρ α Q E := h
theorem w_fld {C : Nat} {f : Str} (h : ma ρ α (fun d α1 => oq (vw α1 d) fun o => oq (fldD C f o) fun z => Q z α1) E) : fldK C f ma ρ α Q E := h
theorem w_meth {C np : Nat} {m : Str} {ds : List D} (h : ma ρ α (fun o α1 => oq (vw α1 o) fun od => noF C m od = true ∧ ml ρ α1 (fun as α2 => cal np (fun xs => fm (o :: xs)) as ds α2 Q E) E) E) : methK C m np fm ds ma ml ρ α Q E := h
theorem w_mk {C np : Nat} {ds : List D} (h : ml ρ α (fun as α1 => as.length = np ∧ ∀ p, α1 p = none → fm (dref p :: (as ++ ds)) (aset α1 p (oD C [])) (fun v α2 => v = .none ∧ Q (dref p) α2) E) E) : mkK C np fm ds ml ρ α Q E := h
section
variable {QI : List D → (AH → Prop) → AH → Prop}
def tlG (α1 : AH) (d : D) (QI : List D → (AH → Prop) → AH → Prop) : Prop := ∃ ds, vw α1 d = some (.list ds) ∧ QI ds (fun α' => vw α' d = some (.list ds)) α1
theorem tlG_l {ds : List D} (h : QI ds (fun _ => True) α) : tlG α (.list ds) QI := by
  refine ⟨ds, rfl, ?_⟩
  have e : (fun α' : AH => vw α' (.list ds) = some (.list ds)) = fun _ => True := funext fun a => propext ⟨fun _ => trivial, fun _ => rfl⟩
  rw [e]
  exact h
theorem tlG_r {p : Addr} {ds : List D} (e : α p = some (.list ds)) (h : QI ds (fun α' => vw α' (dref p) = some (.list ds)) α) : tlG α (dref p) QI := ⟨ds, e, h⟩
theorem w_list (h : ma ρ α (fun d α1 => tlG α1 d QI) E) : listK ma ρ α QI E := h
def ttG (α1 : AH) (d : D) (QI : List D → (AH → Prop) → AH → Prop) : Prop := ∃ ds, d = .tuple ds ∧ QI ds (fun _ => True) α1
theorem ttG_t {ds : List D} (h : QI ds (fun _ => True) α) : ttG α (.tuple ds) QI := ⟨ds, rfl, h⟩
theorem w_tuple (h : ma ρ α (fun d α1 => ttG α1 d QI) E) : tupleK ma ρ α QI E := h
theorem w_str (h : ma ρ α (fun d α1 => ts d fun x => QI (x.cps.toList.map fun k => .str ⟨#[k]⟩) (fun _ => True) α1) E) : strK ma ρ α QI E := h
def rg1 (ds : List D) (R : List D → Prop) : Prop := ∃ n : Int, ds = [.int n] ∧ (-(2 ^ 62) ≤ n ∧ n < 2 ^ 62) ∧ R (nums 0 n.toNat)
theorem rg1_of {n : Int} {R : List D → Prop} (e : -(2 ^ 62) ≤ n ∧ n < 2 ^ 62) (h : R (nums 0 n.toNat)) : rg1 [.int n] R := ⟨n, rfl, e, h⟩
theorem w_range1 (h : ml ρ α (fun ds α1 => rg1 ds fun xs => QI xs (fun _ => True) α1) E) : rangeK1 ml ρ α QI E := h
def rg2 (ds : List D) (R : List D → Prop) : Prop := ∃ a b : Int, ds = [.int a, .int b] ∧ (-(2 ^ 62) ≤ a ∧ a < 2 ^ 62 ∧ -(2 ^ 62) ≤ b ∧ b < 2 ^ 62) ∧ R (nums a (b - a).toNat)
theorem rg2_of {a b : Int} {R : List D → Prop} (e : -(2 ^ 62) ≤ a ∧ a < 2 ^ 62 ∧ -(2 ^ 62) ≤ b ∧ b < 2 ^ 62) (h : R (nums a (b - a).toNat)) : rg2 [.int a, .int b] R := ⟨a, b, rfl, e, h⟩
theorem w_range2 (h : ml ρ α (fun ds α1 => rg2 ds fun xs => QI xs (fun _ => True) α1) E) : rangeK2 ml ρ α QI E := h
def rg3 (ds : List D) (R : List D → Prop) : Prop := ∃ i j k : Int, ds = [.int i, .int j, .int k] ∧ (k ≠ 0 ∧ k.natAbs < 1073741824 ∧ Builtin.Range.small i j k = true) ∧ R (numsC i k (Builtin.Range.rangeSize i j k).toNat)
theorem rg3_of {i j k : Int} {R : List D → Prop} (e : k ≠ 0 ∧ k.natAbs < 1073741824 ∧ Builtin.Range.small i j k = true) (h : R (numsC i k (Builtin.Range.rangeSize i j k).toNat)) : rg3 [.int i, .int j, .int k] R := ⟨i, j, k, rfl, e, h⟩
theorem w_range3 (h : ml ρ α (fun ds α1 => rg3 ds fun xs => QI xs (fun _ => True) α1) E) : rangeK3 ml ρ α QI E := h
end
theorem oq_isiB {T : String} {b : Bool} {R : Bool → Prop} (e : isiB T d = some b) (h : R b) : oq (isiB T d) R := ⟨b, e, h⟩
theorem w_tryA {exm : Nat → Option Bool} {mb : MS} {ms : Nat → Nat → Nat → MS} (h : mb ρ α (wx D' fun x ρ' α' => oq (exm x.C) fun b => it2 b (∀ a dx, ms a dx x.C (ρ'.set i (some (excD a dx x.C x.fs))) α' (wh D' i)) (D'.ex x ρ' α'))) : tryA i exm mb ms ρ α D' := by
  simp only [it2_eq, wx, wh] at h
  exact h
theorem w_try {exm : Nat → Option Bool} {mb ms : MS} (h : mb ρ α (wx D' fun x ρ' α' => oq (exm x.C) fun b => it2 b (ms ρ' α' (wx D' fun _ _ _ => False)) (D'.ex x ρ' α'))) : tryS exm mb ms ρ α D' := by
  simp only [it2_eq, wx] at h
  exact h
theorem w_xi {isX : Nat → Bool} {tab : Nat → Option Bool} {a dx C : Nat} {b : Bool} {ds : List (D × D)} (e : ρ[i]? = some (some (excD a dx C ds))) (h1 : isX C = true) (h2 : tab C = some b) (h : Q (.bool b) α) : kXi i isX tab a dx C ρ α Q E := ⟨ds, b, e, h1, h2, h⟩
theorem w_xf {isX : Nat → Bool} {f : Str} {a dx C : Nat} {ds : List (D × D)} (e : ρ[i]? = some (some (excD a dx C ds))) (h1 : isX C = true) (h2 : lookF f ds = some d) (h : Q d α) : kXf i f isX a dx C ρ α Q E := ⟨ds, d, e, h1, h2, h⟩
theorem w_seq (h : m1 ρ α (wn D' fun ρ1 α1 => m2 ρ1 α1 D')) : seqS m1 m2 ρ α D' := h
theorem w_seqI (I : En → AH → Prop) (h2 : ∀ ρ α, I ρ α → m2 ρ α D') (h1 : ∀ X : En → AH → Prop, (∀ ρ α, I ρ α → X ρ α) → m1 ρ α (wn D' X)) : seqS m1 m2 ρ α D' := h1 _ h2
def bar (f : En → AH → Prop) : En → AH → Prop := f
theorem bar_of {f : En → AH → Prop} (h : f ρ α) : bar f ρ α := h
theorem w_seqB (h : m1 ρ α (wn D' (bar fun ρ1 α1 => m2 ρ1 α1 D'))) : seqS m1 m2 ρ α D' := h
theorem w_next (h : D'.nx ρ α) : nextS ρ α D' := h
theorem w_break (h : D'.bk ρ α) : breakS ρ α D' := h
theorem w_cont (h : D'.ct ρ α) : contS ρ α D' := h
theorem w_drop (h : ma ρ α (fun _ α1 => D'.nx ρ α1) (fun x α1 => D'.ex x ρ α1)) : dropS ma ρ α D' := h
theorem w_ret (h : ma ρ α (fun d α1 => D'.rt d α1) (fun x α1 => D'.ex x ρ α1)) : retS ma ρ α D' := h
theorem w_retN (h : D'.rt .none α) : retN ρ α D' := h
theorem w_if (h : mt ρ α (fun b α1 => it2 b (m1 ρ α1 D') (m2 ρ α1 D')) (fun x α1 => D'.ex x ρ α1)) : ifS mt m1 m2 ρ α D' := by
  simp only [it2_eq] at h
  exact h
theorem w_asg (h : ma ρ α (fun d α1 => oq (tg d ρ) fun ρ1 => D'.nx ρ1 α1) (fun x α1 => D'.ex x ρ α1)) : asgS ma tg ρ α D' := h
theorem oq_setv2 {R : En → Prop} (e : ρ.set i (some d) = ρ') (h : R ρ') : oq (setv i d ρ) R := ⟨_, rfl, by rw [e]; exact h⟩
theorem oq_tgNil {R : En → Prop} (h : R ρ) : oq (tgNil [] ρ) R := ⟨_, rfl, h⟩
theorem oq_tgCons {mh : D → En → Option En} {mr : List D → En → Option En} {ds : List D} {R : En → Prop} (h : oq (mh d ρ) fun ρ1 => oq (mr ds ρ1) R) : oq (tgCons mh mr (d :: ds) ρ) R := by
  obtain ⟨r1, e1, r2, e2, q⟩ := h
  exact ⟨r2, by show (mh d ρ).bind (mr ds) = _; simp [e1, e2], q⟩
theorem oq_tgTup {mr : List D → En → Option En} {n : Nat} {ds : List D} {R : En → Prop} (e : ds.length = n) (h : oq (mr ds ρ) R) : oq (tgTup n mr (.tuple ds) ρ) R := by
  obtain ⟨r1, e1, q⟩ := h
  exact ⟨r1, by show (if ds.length = n then mr ds ρ else none) = _; rw [if_pos e, e1], q⟩
theorem w_frzS {p : Addr} {c : D} (e : ρ[i]? = some (some (dref p))) (e2 : α p = some c) (h : m1 (ρ.set i (some c)) (adel α p) D') : frzS i m1 ρ α D' := ⟨p, c, e, e2, h⟩
theorem w_aug {d0 : D} (e0 : ρ[i]? = some (some d0)) (h : ma ρ α (fun e α1 => oq (g d0 e) fun z => D'.nx (ρ.set i (some z)) α1) (fun x α1 => D'.ex x ρ α1)) : augS g i ma ρ α D' := ⟨d0, e0, h⟩
theorem w_seti (h : ma ρ α (fun d α1 => mb ρ α1 (fun o α2 => md ρ α2 (fun k α3 => cel α3 o fun a ds => ti k fun i => oq (ixN ds.length i) fun j => D'.nx ρ (aset α3 a (.list (ds.set j d)))) (fun x α1 => D'.ex x ρ α1)) (fun x α1 => D'.ex x ρ α1)) (fun x α1 => D'.ex x ρ α1)) : setiS ma mb md ρ α D' := h
def ceo (C : Nat) (α : AH) (o : D) (Q : Addr → List (D × D) → Prop) : Prop := cellO C α o Q
theorem ceo_of {C : Nat} {p : Addr} {fs : List (D × D)} {R : Addr → List (D × D) → Prop} (e : α p = some (oD C fs)) (h : R p fs) : ceo C α (dref p) R := ⟨p, fs, rfl, e, h⟩
theorem w_seta {C : Nat} {f : Str} (h : ma ρ α (fun d α1 => mb ρ α1 (fun o α2 => ceo C α2 o fun a fs => fs.length < 900 ∧ D'.nx ρ (aset α2 a (oD C (putD f d fs)))) (fun x α1 => D'.ex x ρ α1)) (fun x α1 => D'.ex x ρ α1)) : setaS C f ma mb ρ α D' := h
theorem w_auga {C : Nat} {f : Str} (h : ma ρ α (fun o α1 => ceo C α1 o fun _ fs0 => oq (lookF f fs0) fun d => mb ρ α1 (fun e α2 => oq (g d e) fun z => ceo C α2 o fun a fs => fs.length < 900 ∧ D'.nx ρ (aset α2 a (oD C (putD f z fs)))) (fun x α1 => D'.ex x ρ α1)) (fun x α1 => D'.ex x ρ α1)) : augaS C f g ma mb ρ α D' := h
theorem w_raise {C : Nat} (h : ma ρ α (fun d α1 => D'.ex ⟨C, [(.str "place", d)]⟩ ρ α1) (fun x α1 => D'.ex x ρ α1)) : raiseS C ma ρ α D' := h
theorem w_for {mi : MI} {mb : MS} (h : mi ρ α (fun ds G α1 => forD tg mb G D' ds ρ α1) (fun x α1 => D'.ex x ρ α1)) : forS mi tg mb ρ α D' := h
theorem for_inv {mb : MS} {ds : List D} (I : List D → En → AH → Prop) (h0 : I ds ρ α) (hG : ∀ ds ρ α, I ds ρ α → G α) (h2 : ∀ ρ α, I [] ρ α → D'.nx ρ α)
    (h1 : ∀ d ds ρ α, I (d :: ds) ρ α → ∀ X : En → AH → Prop, (∀ ρ α, I ds ρ α → X ρ α) → oq (tg d ρ) fun ρ1 => mb ρ1 α (wl D' X)) : forD tg mb G D' ds ρ α := by
  induction ds generalizing ρ α with
  | nil => exact ⟨hG _ _ _ h0, h2 _ _ h0⟩
  | cons d ds ih => exact ⟨hG _ _ _ h0, h1 d ds ρ α h0 _ fun ρ α q => ih q⟩
theorem for_nums {mb : MS} {n : Nat} {lo : Int} (I : Nat → En → AH → Prop) (h0 : I 0 ρ α) (h2 : ∀ ρ α, I n ρ α → D'.nx ρ α)
    (h1 : ∀ k, k < n → ∀ ρ α, I k ρ α → ∀ X : En → AH → Prop, (∀ ρ α, I (k + 1) ρ α → X ρ α) → oq (tg (.int (lo + (k : Nat))) ρ) fun ρ1 => mb ρ1 α (wl D' X)) : forD tg mb (fun _ => True) D' (nums lo n) ρ α := by
  refine for_inv (fun r ρ α => ∃ m k : Nat, k + m = n ∧ r = nums (lo + (k : Nat)) m ∧ I k ρ α) ⟨n, 0, by omega, by simp, h0⟩ (fun _ _ _ _ => trivial) ?_ ?_
  · rintro ρ α ⟨m, k, e1, e2, i⟩
    cases m with
    | zero =>
      obtain rfl : k = n := by omega
      exact h2 _ _ i
    | succ m => simp [nums] at e2
  · rintro d ds ρ α ⟨m, k, e1, e2, i⟩ X hX
    cases m with
    | zero => simp [nums] at e2
    | succ m =>
      obtain ⟨rfl, rfl⟩ := List.cons.inj e2
      refine h1 k (by omega) _ _ i X fun ρ α i => hX _ _ ⟨m, k + 1, by omega, ?_, i⟩
      congr 1
      omega
theorem for_map {β : Type} {mb : MS} {xs : List β} {u : β → D} {ds : List D} (e : ds = xs.map u) (I : Nat → En → AH → Prop) (h0 : I 0 ρ α) (h2 : ∀ ρ α, I xs.length ρ α → D'.nx ρ α)
    (h1 : ∀ k (hk : k < xs.length), ∀ ρ α, I k ρ α → ∀ X : En → AH → Prop, (∀ ρ α, I (k + 1) ρ α → X ρ α) → oq (tg (u xs[k]) ρ) fun ρ1 => mb ρ1 α (wl D' X)) : forD tg mb (fun _ => True) D' ds ρ α := by
  subst e
  refine for_inv (fun r ρ α => ∃ k : Nat, k ≤ xs.length ∧ r = (xs.drop k).map u ∧ I k ρ α) ⟨0, by omega, by simp, h0⟩ (fun _ _ _ _ => trivial) ?_ ?_
  · rintro ρ α ⟨k, e1, e2, i⟩
    have : k = xs.length := by
      have := congrArg List.length e2
      simp at this
      omega
    subst this
    exact h2 _ _ i
  · rintro d ds ρ α ⟨k, e1, e2, i⟩ X hX
    have hk : k < xs.length := by
      have := congrArg List.length e2
      simp at this
      omega
    rw [List.drop_eq_getElem_cons hk, List.map_cons] at e2
    obtain ⟨rfl, rfl⟩ := List.cons.inj e2
    exact h1 k hk _ _ i X fun ρ α i => hX _ _ ⟨k + 1, by omega, rfl, i⟩
theorem w_par {i j : Nat} (h : ml ρ α (fun ds α1 => pr2 ds fun d e => D'.nx ((ρ.set i (some d)).set j (some e)) α1) (fun x α1 => D'.ex x ρ α1)) : parS i j ml ρ α D' := h
theorem fd_nil {mb : MS} (hG : G α) (h : D'.nx ρ α) : forD tg mb G D' [] ρ α := ⟨hG, h⟩
theorem fd_cons {mb : MS} {ds : List D} (hG : G α) (h : oq (tg d ρ) fun ρ1 => mb ρ1 α (wl D' fun ρ2 α2 => forD tg mb G D' ds ρ2 α2)) : forD tg mb G D' (d :: ds) ρ α := ⟨hG, h⟩
theorem w_while {mb : MS} (V : Nat → En → AH → Prop) (n : Nat) (h0 : V n ρ α) (h : ∀ m ρ α, V m ρ α → ∀ X : En → AH → Prop, (∀ m' ρ α, m' < m → V m' ρ α → X ρ α) → mt ρ α (fun b α1 => it2 b (mb ρ α1 (wl D' X)) (D'.nx ρ α1)) (fun x α1 => D'.ex x ρ α1)) : whileS mt mb ρ α D' := by
  refine ⟨V, ⟨n, h0⟩, fun m ρ α v => ?_⟩
  have := h m ρ α v (fun ρ2 α2 => ∃ m', m' < m ∧ V m' ρ2 α2) fun m' ρ α l v => ⟨m', l, v⟩
  simp only [it2_eq] at this
  exact this
theorem w_lc {vs : List Nat} {mi : MI} (h : mi ρ α (fun ds G α1 => lcD vs tg mt ma G ρ Q ds [] α1) E) : lcK vs mi tg mt ma ρ α Q E := h
theorem lc_inv {vs : List Nat} {ds acc : List D} (I : List D → List D → AH → Prop) (h0 : I ds acc α) (hG : ∀ ds acc α, I ds acc α → G α) (h2 : ∀ acc α, I [] acc α → Q (.list acc) α)
    (h1 : ∀ d ds acc α, I (d :: ds) acc α → ∀ X : List D → AH → Prop, (∀ acc α, I ds acc α → X acc α) → oq (tg d (wipeA ρ vs)) fun ρ1 => mt ρ1 α (fun b α1 => it2 b (ma ρ1 α1 (fun y α2 => acc.length < 100000 ∧ X (acc ++ [y]) α2) NX) (X acc α1)) NX) : lcD vs tg mt ma G ρ Q ds acc α := by
  induction ds generalizing acc α with
  | nil => exact ⟨hG _ _ _ h0, h2 _ _ h0⟩
  | cons d ds ih =>
    refine ⟨hG _ _ _ h0, ?_⟩
    have := h1 d ds acc α h0 (fun acc α => lcD vs tg mt ma G ρ Q ds acc α) fun acc α q => ih q
    simp only [it2_eq] at this
    exact this
/-- a comprehension whose test and element leave the cells alone -/
theorem lc_fm {β : Type} {vs : List Nat} (xs : List β) (u : β → D) (p : β → Bool) (g : β → D) {ds : List D} (hds : ds = xs.map u) (hl : xs.length ≤ 100000) (hG : G α)
    (h : ∀ x, x ∈ xs → oq (tg (u x) (wipeA ρ vs)) fun ρ1 => (∀ R : Bool → AH → Prop, R (p x) α → mt ρ1 α R NX) ∧ (p x = true → ∀ R : D → AH → Prop, R (g x) α → ma ρ1 α R NX)) (q : Q (.list ((xs.filter p).map g)) α) : lcD vs tg mt ma G ρ Q ds [] α := by
  refine lc_inv (fun r acc α' => α' = α ∧ ∃ as bs, xs = as ++ bs ∧ acc = (as.filter p).map g ∧ r = bs.map u) ⟨rfl, [], xs, rfl, rfl, hds⟩ (fun _ _ _ e => e.1 ▸ hG) ?_ ?_
  · rintro acc α' ⟨rfl, as, bs, e, rfl, e2⟩
    cases bs with
    | nil =>
      simp at e
      rw [← e]
      exact q
    | cons b bs => simp at e2
  · rintro d r acc α' ⟨rfl, as, bs, e, rfl, e2⟩ X hX
    cases bs with
    | nil => simp at e2
    | cons b bs =>
      simp at e2
      obtain ⟨rfl, rfl⟩ := e2
      obtain ⟨ρ2, e3, g1, g2⟩ := h b (by rw [e]; simp)
      refine ⟨ρ2, e3, g1 _ ⟨fun t => g2 t _ ⟨?_, hX _ _ ⟨rfl, as ++ [b], bs, by simp [e], by simp [t], rfl⟩⟩, fun t => hX _ _ ⟨rfl, as ++ [b], bs, by simp [e], by simp [t], rfl⟩⟩⟩
      have := congrArg List.length e
      have := List.length_filter_le p as
      simp at *
      omega
theorem lc_map {β : Type} {vs : List Nat} (xs : List β) (u : β → D) (g : β → D) {ds : List D} (hds : ds = xs.map u) (hl : xs.length ≤ 100000) (hG : G α)
    (h : ∀ x, x ∈ xs → oq (tg (u x) (wipeA ρ vs)) fun ρ1 => ∀ R : D → AH → Prop, R (g x) α → ma ρ1 α R NX) (q : Q (.list (xs.map g)) α) : lcD vs tg yesK ma G ρ Q ds [] α := by
  refine lc_fm xs u (fun _ => true) g hds hl hG (fun x hx => ?_) (by rw [List.filter_eq_self.mpr (by simp)]; exact q)
  obtain ⟨ρ1, e, k⟩ := h x hx
  exact ⟨ρ1, e, fun R r => r, fun _ R r => k R r⟩
theorem w_runF {p n : Nat} {ds : List D} (hl : ds.length = p) (h : m1 (ds.map some ++ List.replicate (n - p) none) α (we Q E)) : runF p n m1 ds α Q E := ⟨hl, h⟩
theorem w_runP {p n : Nat} {ds : List D} (hl : ds.length = p) (h : m1 (ds.map some ++ List.replicate (n - p) none) α (we (fun d α' => Q d (arst α α')) (fun x α' => E x (arst α α')))) : runP p n m1 ds α Q E := ⟨hl, h⟩
/-- it answers d, leaving the cells -/
def pu (f : Fm) (ds : List D) (d : D) : Prop := ∀ (α : AH) (Q : QD) (E : QX), Q d α → f ds α Q E
/-- it raises x, leaving the cells -/
def px (f : Fm) (ds : List D) (x : Ex) : Prop := ∀ (α : AH) (Q : QD) (E : QX), E x α → f ds α Q E
theorem pu_P {p n : Nat} {ds : List D} (hl : ds.length = p) (h : ∀ (α : AH) (R : QD) (X : QX), R d α → m1 (ds.map some ++ List.replicate (n - p) none) α (we R X)) : pu (runP p n m1) ds d := fun α Q E q =>
  w_runP hl (h α (fun d α' => Q d (arst α α')) (fun x α' => E x (arst α α')) (by rw [arst_self]; exact q))
theorem pu.go {ds : List D} (P : pu fm ds d) (h : Q d α) : fm ds α Q E := P α Q E h
theorem px.go {ds : List D} {x : Ex} (P : px fm ds x) (h : E x α) : fm ds α Q E := P α Q E h
theorem vw_i {R : D → Prop} {i : Int} (h : R (.int i)) : oq (vw α (.int i)) R := ⟨_, rfl, h⟩
theorem vw_s {R : D → Prop} {i : Str} (h : R (.str i)) : oq (vw α (.str i)) R := ⟨_, rfl, h⟩
theorem vw_b {R : D → Prop} {i : Bool} (h : R (.bool i)) : oq (vw α (.bool i)) R := ⟨_, rfl, h⟩
theorem vw_n {R : D → Prop} (h : R .none) : oq (vw α .none) R := ⟨_, rfl, h⟩
theorem vw_l {R : D → Prop} {i : List D} (h : R (.list i)) : oq (vw α (.list i)) R := ⟨_, rfl, h⟩
theorem vw_t {R : D → Prop} {i : List D} (h : R (.tuple i)) : oq (vw α (.tuple i)) R := ⟨_, rfl, h⟩
theorem vw_sc {R : D → Prop} {i : List Int} (h : R (scriptD i)) : oq (vw α (scriptD i)) R := ⟨_, rfl, h⟩
theorem vw_o {R : D → Prop} {C : Nat} {i : List (D × D)} (h : R (oD C i)) : oq (vw α (oD C i)) R := ⟨_, rfl, h⟩
theorem vw_r {R : D → Prop} {p : Addr} {c : D} (e : α p = some c) (h : R c) : oq (vw α (dref p)) R := ⟨_, e, h⟩
theorem mv_nil {R : List D → Prop} (h : R []) : oq (mapV α []) R := ⟨_, rfl, h⟩
theorem mv_cons {R : List D → Prop} {ds : List D} (h : oq (vw α d) fun z => oq (mapV α ds) fun r => R (z :: r)) : oq (mapV α (d :: ds)) R := by
  obtain ⟨z, e, r, e2, q⟩ := h
  exact ⟨_, by unfold mapV; simp [e, e2], q⟩
end
section
variable {Q : D → Prop} {d e : D} {x y z : Int} {s t : Str} {ds es : List D} {i j : Nat} {xs ys : List Int}
theorem oq_add_i {Q : D → Prop} (h : Q (.int (x + y))) : oq (dAdd (.int x) (.int y)) Q := ⟨_, rfl, h⟩
theorem oq_add_s {Q : D → Prop} (l : s.length + t.length ≤ 100000) (h : Q (.str (s ++ t))) : oq (dAdd (.str s) (.str t)) Q := ⟨_, if_pos l, h⟩
theorem oq_add_l {Q : D → Prop} (l : ds.length + es.length ≤ 100000) (h : Q (.list (ds ++ es))) : oq (dAdd (.list ds) (.list es)) Q := ⟨_, if_pos l, h⟩
theorem oq_add_t {Q : D → Prop} (l : ds.length + es.length ≤ 100000) (h : Q (.tuple (ds ++ es))) : oq (dAdd (.tuple ds) (.tuple es)) Q := ⟨_, if_pos l, h⟩
theorem oq_cat {Q : D → Prop} (l : ds.length + es.length ≤ 100000) (h : Q (.list (ds ++ es))) : oq (dCat (.list ds) (.list es)) Q := ⟨_, if_pos l, h⟩
theorem oq_sub {Q : D → Prop} (h : Q (.int (x - y))) : oq (dSub (.int x) (.int y)) Q := ⟨_, rfl, h⟩
theorem oq_mul {Q : D → Prop} (l : (-(2 ^ 64) < x ∧ x < 2 ^ 64) ∨ (-(2 ^ 64) < y ∧ y < 2 ^ 64)) (h : Q (.int (x * y))) : oq (dMul (.int x) (.int y)) Q := ⟨_, if_pos l, h⟩
theorem oq_mod {Q : D → Prop} (l : 0 < y) (h : Q (.int (x % y))) : oq (dMod (.int x) (.int y)) Q := ⟨_, if_pos l, h⟩
theorem oq_div {Q : D → Prop} (l : 0 < y ∧ y < 2 ^ 80) (h : Q (.int (x / y))) : oq (dDiv (.int x) (.int y)) Q := ⟨_, if_pos l, h⟩
theorem oq_pow {Q : D → Prop} (l : 0 ≤ y ∧ y ≤ 1000000 ∧ x.natAbs < 2 ^ 64) (h : Q (.int (x ^ y.toNat))) : oq (dPow (.int x) (.int y)) Q := ⟨_, if_pos l, h⟩
theorem oq_shl {Q : D → Prop} (l : 0 ≤ y ∧ y ≤ 1000000 ∧ x.natAbs < 2 ^ 64) (h : Q (.int (x * 2 ^ y.toNat))) : oq (dShl (.int x) (.int y)) Q := ⟨_, if_pos l, h⟩
theorem oq_shr {Q : D → Prop} (l : 0 ≤ y) (h : Q (.int (x / 2 ^ y.toNat))) : oq (dShr (.int x) (.int y)) Q := ⟨_, if_pos l, h⟩
theorem oq_lt {Q : D → Prop} (h : Q (.bool (decide (x < y)))) : oq (dLt (.int x) (.int y)) Q := ⟨_, rfl, h⟩
theorem oq_le {Q : D → Prop} (h : Q (.bool (decide (x ≤ y)))) : oq (dLe (.int x) (.int y)) Q := ⟨_, rfl, h⟩
theorem oq_gt {Q : D → Prop} (h : Q (.bool (decide (y < x)))) : oq (dGt (.int x) (.int y)) Q := ⟨_, rfl, h⟩
theorem oq_ge {Q : D → Prop} (h : Q (.bool (decide (y ≤ x)))) : oq (dGe (.int x) (.int y)) Q := ⟨_, rfl, h⟩
theorem oq_eq_i {Q : D → Prop} (h : Q (.bool (decide (x = y)))) : oq (dEq (.int x) (.int y)) Q := ⟨_, rfl, h⟩
theorem oq_ne_i {Q : D → Prop} (h : Q (.bool (!decide (x = y)))) : oq (dNe (.int x) (.int y)) Q := ⟨_, rfl, h⟩
theorem oq_eq_s {Q : D → Prop} (h : Q (.bool (decide (s = t)))) : oq (dEq (.str s) (.str t)) Q := ⟨_, rfl, h⟩
theorem oq_ne_s {Q : D → Prop} (h : Q (.bool (!decide (s = t)))) : oq (dNe (.str s) (.str t)) Q := ⟨_, rfl, h⟩
theorem oq_eq_b {Q : D → Prop} {a b : Bool} (h : Q (.bool (decide (a = b)))) : oq (dEq (.bool a) (.bool b)) Q := ⟨_, by unfold dEq dEqB; cases a <;> cases b <;> rfl, h⟩
theorem oq_ne_b {Q : D → Prop} {a b : Bool} (h : Q (.bool (!decide (a = b)))) : oq (dNe (.bool a) (.bool b)) Q := ⟨_, by unfold dNe dEqB; cases a <;> cases b <;> rfl, h⟩
theorem oq_eq_d {Q : D → Prop} {b : Bool} (e1 : dEqB d e = some b) (h : Q (.bool b)) : oq (dEq d e) Q := ⟨_, by unfold dEq; rw [e1]; rfl, h⟩
theorem oq_ne_d {Q : D → Prop} {b : Bool} (e1 : dEqB d e = some b) (h : Q (.bool (!b))) : oq (dNe d e) Q := ⟨_, by unfold dNe; rw [e1]; rfl, h⟩
theorem oq_is {Q : D → Prop} (h : Q (.bool (isNoneD d))) : oq (dIs d .none) Q := ⟨_, rfl, h⟩
theorem oq_isNot {Q : D → Prop} (h : Q (.bool (!isNoneD d))) : oq (dIsNot d .none) Q := ⟨_, rfl, h⟩
theorem oq_in_s {Q : D → Prop} {k : Nat} (h : Q (.bool (decide (k ∈ t.cps.toList)))) : oq (dIn (.str ⟨#[k]⟩) (.str t)) Q := ⟨_, rfl, h⟩
theorem oq_notIn_s {Q : D → Prop} {k : Nat} (h : Q (.bool (!decide (k ∈ t.cps.toList)))) : oq (dNotIn (.str ⟨#[k]⟩) (.str t)) Q := ⟨_, rfl, h⟩
theorem ixN_in {n : Nat} {i : Int} (h0 : 0 ≤ i) (h1 : i < n) : ixN n i = some i.toNat := by unfold ixN; rw [if_pos h0, if_pos h1]
theorem oq_ix_l {Q : D → Prop} {i : Int} (h0 : 0 ≤ i) (h1 : i < ds.length) (h : ∀ z, ds[i.toNat]? = some z → Q z) : oq (dIx (.list ds) (.int i)) Q := by
  have l : i.toNat < ds.length := by omega
  refine ⟨ds[i.toNat], ?_, h _ (List.getElem?_eq_getElem l)⟩
  show (ixN ds.length i).bind _ = _
  rw [ixN_in h0 h1]
  exact List.getElem?_eq_getElem l
theorem oq_ix_s {Q : D → Prop} {i : Int} (hz : s.length ≤ 100000) (h0 : 0 ≤ i) (h1 : i < s.length) (h : ∀ k, s.cps.toList[i.toNat]? = some k → Q (.str ⟨#[k]⟩)) : oq (dIx (.str s) (.int i)) Q := by
  have l : i.toNat < s.cps.toList.length := by
    have : s.cps.toList.length = s.length := rfl
    omega
  refine ⟨_, ?_, h _ (List.getElem?_eq_getElem l)⟩
  show (if s.length ≤ 100000 then _ else _) = _
  rw [if_pos hz, show ixN s.cps.toList.length i = some i.toNat from ixN_in h0 h1]
  show (s.cps.toList[i.toNat]?).map _ = _
  rw [List.getElem?_eq_getElem l]
  rfl
theorem oq_len_l {Q : D → Prop} (h : Q (.int ds.length)) : oq (dLen [.list ds]) Q := ⟨_, rfl, h⟩
theorem oq_len_t {Q : D → Prop} (h : Q (.int ds.length)) : oq (dLen [.tuple ds]) Q := ⟨_, rfl, h⟩
theorem oq_len_s {Q : D → Prop} (l : s.length ≤ 100000) (h : Q (.int s.length)) : oq (dLen [.str s]) Q := ⟨_, if_pos l, h⟩
theorem oq_int {Q : D → Prop} (h : Q (.int x)) : oq (dInt [.int x]) Q := ⟨_, rfl, h⟩
theorem oq_abs {Q : D → Prop} (h : Q (.int (if x < 0 then -x else x))) : oq (dAbs [.int x]) Q := ⟨_, rfl, h⟩
theorem oq_ord {Q : D → Prop} {k : Nat} (h : Q (.int k)) : oq (dOrd [.str ⟨#[k]⟩]) Q := ⟨_, rfl, h⟩
theorem oq_cut_l {Q : D → Prop} {lo hi : Option Int} (h : Q (.list (cutD ds lo hi))) : oq (dCut (.list ds) lo hi) Q := ⟨_, rfl, h⟩
theorem oq_cut_t {Q : D → Prop} {lo hi : Option Int} (h : Q (.tuple (cutD ds lo hi))) : oq (dCut (.tuple ds) lo hi) Q := ⟨_, rfl, h⟩
theorem oq_cut_s {Q : D → Prop} {lo hi : Option Int} (l : s.length ≤ 100000) (h : Q (.str (cutS s lo hi))) : oq (dCut (.str s) lo hi) Q := ⟨_, if_pos l, h⟩
theorem oq_append {Q : D × List D → Prop} (l : ds.length < 100000) (h : Q (.none, ds ++ [d])) : oq (muAppend ds [d]) Q := ⟨_, if_pos l, h⟩
theorem oq_list_l {Q : D → Prop} (h : Q (.list ds)) : oq (dList [.list ds]) Q := ⟨_, rfl, h⟩
theorem oq_list_t {Q : D → Prop} (h : Q (.list ds)) : oq (dList [.tuple ds]) Q := ⟨_, rfl, h⟩
theorem oq_tuple_l {Q : D → Prop} (h : Q (.tuple ds)) : oq (dTuple [.list ds]) Q := ⟨_, rfl, h⟩
theorem oq_tuple_t {Q : D → Prop} (h : Q (.tuple ds)) : oq (dTuple [.tuple ds]) Q := ⟨_, rfl, h⟩
theorem oq_max2 {Q : D → Prop} (h : Q (.int (if y > x then y else x))) : oq (dMax2 [.int x, .int y]) Q := ⟨_, rfl, h⟩
theorem oq_min2 {Q : D → Prop} (h : Q (.int (if y < x then y else x))) : oq (dMin2 [.int x, .int y]) Q := ⟨_, rfl, h⟩
theorem toStrs_map {α : Type} (f : α → Str) : ∀ xs : List α, toStrs (xs.map fun x => PyData.str (f x)) = some (xs.map f)
  | [] => rfl
  | x :: xs => by
    show (toStrs (xs.map fun x => PyData.str (f x))).map _ = _
    rw [toStrs_map f xs]
    rfl
theorem oq_ix_lk {ds : List D} {i : Int} {z : D} {Q : D → Prop} (e : ((ixN ds.length i).bind fun j => ds[j]?) = some z) (h : Q z) : oq (dIx (.list ds) (.int i)) Q := ⟨z, e, h⟩
theorem oq_ix_tk {ds : List D} {i : Int} {z : D} {Q : D → Prop} (e : ((ixN ds.length i).bind fun j => ds[j]?) = some z) (h : Q z) : oq (dIx (.tuple ds) (.int i)) Q := ⟨z, e, h⟩
theorem oq_ixN_k {n : Nat} {i : Int} {j : Nat} {Q : Nat → Prop} (e : ixN n i = some j) (h : Q j) : oq (ixN n i) Q := ⟨j, e, h⟩
theorem oq_len_sc {ns : List Int} {Q : D → Prop} (h : Q (.int ns.length)) : oq (dLen [scriptD ns]) Q := ⟨_, by unfold scriptD dLen; simp, h⟩
theorem oq_ix_sc {ns : List Int} {i : Int} {Q : D → Prop} (h0 : 0 ≤ i) (h1 : i < ns.length) (h : ∀ z, ns[i.toNat]? = some z → Q (.int z)) : oq (dIx (scriptD ns) (.int i)) Q := by
  refine oq_ix_l h0 (by simpa using h1) fun z e => ?_
  have l : i.toNat < ns.length := by omega
  rw [List.getElem?_map, List.getElem?_eq_getElem l] at e
  cases e
  exact h _ (List.getElem?_eq_getElem l)
theorem oq_rep {a : List D} {k : Int} {Q : D → Prop} (l : k < 2 ^ 63 ∧ -(2 ^ 63) ≤ k ∧ a.length * k.toNat ≤ 100000) (h : Q (.list (List.replicate k.toNat a).flatten)) : oq (dRep (.list a) (.int k)) Q := ⟨_, if_pos l, h⟩
theorem oq_insert {ds : List D} {d : D} {i : Int} {Q : D × List D → Prop} (l : ds.length < 100000 ∧ 0 ≤ i ∧ i < 2 ^ 63) (h : Q (.none, ds.take i.toNat ++ [d] ++ ds.drop i.toNat)) : oq (muInsert ds [.int i, d]) Q := ⟨_, if_pos l, h⟩
theorem okD_ints (k : Nat) : ∀ xs : List Int, (xs.map PyData.int).all (okD k) = true
  | [] => rfl
  | x :: xs => by
    rw [List.map_cons, List.all_cons, okD_ints k xs]
    cases k <;> rfl
theorem eqv_ints : ∀ xs ys : List Int, PyData.eqvAll (xs.map PyData.int) (ys.map PyData.int) = decide (xs = ys)
  | [], [] => by simp [PyData.eqvAll]
  | [], y :: ys => by simp [PyData.eqvAll]
  | x :: xs, [] => by simp [PyData.eqvAll]
  | x :: xs, y :: ys => by
    simp only [List.map_cons, PyData.eqvAll, PyData.eqv]
    rw [eqv_ints xs ys]
    by_cases h : x = y <;> simp [h]
theorem dEqB_il (xs ys : List Int) : dEqB (.list (xs.map .int)) (.list (ys.map .int)) = some (decide (xs = ys)) := by
  show (if okD 60 (.list (xs.map .int)) = true ∧ okD 60 (.list (ys.map .int)) = true then _ else _) = _
  rw [if_pos ⟨okD_ints 59 xs, okD_ints 59 ys⟩]
  simp only [PyData.eqv]
  rw [eqv_ints]
theorem dEqB_it (xs ys : List Int) : dEqB (.tuple (xs.map .int)) (.tuple (ys.map .int)) = some (decide (xs = ys)) := by
  show (if okD 60 (.tuple (xs.map .int)) = true ∧ okD 60 (.tuple (ys.map .int)) = true then _ else _) = _
  rw [if_pos ⟨okD_ints 59 xs, okD_ints 59 ys⟩]
  simp only [PyData.eqv]
  rw [eqv_ints]
theorem oq_eq_il (h : Q (.bool (decide (xs = ys)))) : oq (dEq (.list (xs.map .int)) (.list (ys.map .int))) Q := oq_eq_d (dEqB_il xs ys) h
theorem oq_ne_il (h : Q (.bool (!decide (xs = ys)))) : oq (dNe (.list (xs.map .int)) (.list (ys.map .int))) Q := oq_ne_d (dEqB_il xs ys) h
theorem oq_eq_it (h : Q (.bool (decide (xs = ys)))) : oq (dEq (.tuple (xs.map .int)) (.tuple (ys.map .int))) Q := oq_eq_d (dEqB_it xs ys) h
theorem oq_ne_it (h : Q (.bool (!decide (xs = ys)))) : oq (dNe (.tuple (xs.map .int)) (.tuple (ys.map .int))) Q := oq_ne_d (dEqB_it xs ys) h
def lexI : List Int → List Int → Bool
  | [], [] => false
  | [], _ :: _ => true
  | _ :: _, [] => false
  | x :: xs, y :: ys => if x = y then lexI xs ys else decide (x < y)
theorem lexI_eq : ∀ xs ys : List Int, PySem.W.listLt xs ys = lexI xs ys
  | [], [] => rfl
  | [], _ :: _ => rfl
  | _ :: _, [] => rfl
  | x :: xs, y :: ys => by
    show (if x = y then PySem.W.listLt xs ys else _) = (if x = y then lexI xs ys else _)
    rw [lexI_eq xs ys]
    rfl
theorem alike_ints : ∀ xs ys : List Int, PySem.W.alikeAll (xs.map PyData.int) (ys.map PyData.int) = true := fun xs ys => PySem.W.alikeAll_map xs ys
theorem okC_il (xs ys : List Int) : okC (.list (xs.map .int)) (.list (ys.map .int)) = true := by
  unfold okC
  rw [show okD 60 (.list (xs.map .int)) = true from okD_ints 59 xs, show okD 60 (.list (ys.map .int)) = true from okD_ints 59 ys]
  simp only [PySem.W.alike]
  rw [alike_ints]
  rfl
theorem okC_it (xs ys : List Int) : okC (.tuple (xs.map .int)) (.tuple (ys.map .int)) = true := by
  unfold okC
  rw [show okD 60 (.tuple (xs.map .int)) = true from okD_ints 59 xs, show okD 60 (.tuple (ys.map .int)) = true from okD_ints 59 ys]
  simp only [PySem.W.alike]
  rw [alike_ints]
  rfl
theorem lt_il (xs ys : List Int) : PySem.W.dataLt (.list (xs.map .int)) (.list (ys.map .int)) = lexI xs ys := (PySem.W.DatumOrd.lt_eq xs ys).trans (lexI_eq xs ys)
theorem lt_it (xs ys : List Int) : PySem.W.dataLt (.tuple (xs.map .int)) (.tuple (ys.map .int)) = lexI xs ys := (PySem.W.DatumOrd.lt_eq (PySem.W.Tup.mk xs) (PySem.W.Tup.mk ys)).trans (lexI_eq xs ys)
theorem oq_lt_il (h : Q (.bool (lexI xs ys))) : oq (dLt (.list (xs.map .int)) (.list (ys.map .int))) Q := by
  refine ⟨_, ?_, h⟩
  show (if okC _ _ = true then some (PyData.bool (PySem.W.dataLt _ _)) else none) = _
  rw [if_pos (okC_il xs ys), lt_il]
theorem oq_lt_it (h : Q (.bool (lexI xs ys))) : oq (dLt (.tuple (xs.map .int)) (.tuple (ys.map .int))) Q := by
  refine ⟨_, ?_, h⟩
  show (if okC _ _ = true then some (PyData.bool (PySem.W.dataLt _ _)) else none) = _
  rw [if_pos (okC_it xs ys), lt_it]
theorem nums_map : ∀ (n : Nat) (lo : Int), nums lo n = (List.range n).map fun k => .int (lo + (k : Nat))
  | 0, _ => rfl
  | n + 1, lo => by
    rw [List.range_succ_eq_map, List.map_cons, List.map_map]
    show PyData.int lo :: nums (lo + 1) n = _
    rw [nums_map n (lo + 1)]
    congr 1
    · simp
    · refine List.map_congr_left fun k _ => ?_
      show PyData.int _ = PyData.int _
      congr 1
      show lo + 1 + (k : Int) = lo + ((k : Int) + 1)
      omega
theorem numsC_map : ∀ (n : Nat) (lo st : Int), numsC lo st n = (List.range n).map fun k => .int (lo + (k : Nat) * st)
  | 0, _, _ => rfl
  | n + 1, lo, st => by
    rw [List.range_succ_eq_map, List.map_cons, List.map_map]
    show PyData.int lo :: numsC (lo + st) st n = _
    rw [numsC_map n (lo + st) st]
    congr 1
    · simp
    · refine List.map_congr_left fun k _ => ?_
      show PyData.int _ = PyData.int _
      congr 1
      show lo + st + (k : Int) * st = lo + ((k : Int) + 1) * st
      rw [Int.add_mul, Int.one_mul]
      omega
theorem oq_iadd_i (h : Q (.int (x + y))) : oq (dIAdd (.int x) (.int y)) Q := ⟨_, rfl, h⟩
theorem oq_iadd_s (l : s.length + t.length ≤ 100000) (h : Q (.str (s ++ t))) : oq (dIAdd (.str s) (.str t)) Q := ⟨_, if_pos l, h⟩
theorem oq_isT {a b : Bool} (q : Q (.bool (decide (a = b)))) : oq (dIsT (.bool a) (.bool b)) Q := ⟨_, rfl, q⟩
theorem oq_isNotT {a b : Bool} (q : Q (.bool (!decide (a = b)))) : oq (dIsNotT (.bool a) (.bool b)) Q := ⟨_, rfl, q⟩
theorem oq_ix_li {i : Int} (h0 : 0 ≤ i) (h1 : i < xs.length) (q : Q (.int (xs.getD i.toNat 0))) : oq (dIx (.list (xs.map .int)) (.int i)) Q := by
  refine oq_ix_l h0 (by simpa using h1) fun z e => ?_
  have l : i.toNat < xs.length := by omega
  rw [List.getElem?_map, List.getElem?_eq_getElem l] at e
  cases e
  rwa [List.getD_eq_getElem?_getD, List.getElem?_eq_getElem l] at q
theorem oq_ix_m {k : Nat} (h : k < xs.length) (q : Q (.int (xs.getD k 0))) : oq (dIx (.list (xs.map .int)) (.int k)) Q := by
  refine oq_ix_l (by omega) (by simpa using h) fun z e => ?_
  rw [Int.toNat_natCast, List.getElem?_map, List.getElem?_eq_getElem h] at e
  cases e
  rwa [List.getD_eq_getElem?_getD, List.getElem?_eq_getElem h] at q
end
end Hz
namespace Hz
open PySem L2
def S (l : List Nat) : Str := ⟨l.toArray⟩
theorem S_len (l : List Nat) : (S l).length = l.length := by
  show l.toArray.size = _
  simp
theorem S_cps (l : List Nat) : (S l).cps.toList = l := by
  show l.toArray.toList = _
  simp
theorem S_self (z : Str) : S z.cps.toList = z := by
  apply congrArg Str.mk
  simp
theorem S_app (a b : List Nat) : S a ++ S b = S (a ++ b) := by
  apply congrArg Str.mk
  apply Array.toList_inj.mp
  simp [S, Str.cps_append]
theorem S_chars (l : List Nat) : ((S l).cps.toList.map fun k => PyData.str ⟨#[k]⟩) = l.map fun k => PyData.str (S [k]) := by
  rw [S_cps]
  rfl
theorem oq_ix_S {l : List Nat} {i : Int} {R : D → Prop} (hz : l.length ≤ 100000) (h0 : 0 ≤ i) (h1 : i < l.length) (h : R (.str (S [l.getD i.toNat 0]))) : oq (dIx (.str (S l)) (.int i)) R := by
  refine oq_ix_s (by rw [S_len]; exact hz) h0 (by rw [S_len]; exact h1) fun k e => ?_
  rw [S_cps] at e
  have : k = l.getD i.toNat 0 := by
    rw [List.getD_eq_getElem?_getD, e]
    rfl
  rw [this]
  exact h
theorem oq_join_S {ks : List Nat} {R : D → Prop} (l : ks.length ≤ 100000) (h : R (.str (S ks))) : oq (dJoin (PySem.Str.ofString "") [.list (ks.map fun k => .str (S [k]))]) R := by
  refine ⟨_, ?_, h⟩
  show (toStrs (ks.map fun k => PyData.str (S [k]))).bind _ = _
  rw [toStrs_map]
  show (if _ then _ else _) = _
  rw [if_pos]
  · congr 2
    show Builtin.Str.glued (PySem.Str.ofString "") _ = _
    rw [StrLaws.glued_eq_join]
    exact PyProof.Rows.join_ones ks
  · have z : (PySem.Str.ofString "").length = 0 := by decide
    have s1 : ∀ ks : List Nat, ((ks.map fun k => S [k]).map (·.length)).sum = ks.length := by
      intro ks
      induction ks with
      | nil => rfl
      | cons k ks ih =>
        simp only [List.map_cons, List.sum_cons, List.length_cons, ih]
        show 1 + _ = _
        omega
    rw [s1, z, List.length_map]
    omega
def pos (c : Nat) : List Nat → Nat → List Nat
  | [], _ => []
  | x :: l, i => if x = c then i :: pos c l (i + 1) else pos c l (i + 1)
theorem oq_notIn_S {k : Nat} {l : List Nat} {R : D → Prop} (h : R (.bool (!decide (k ∈ l)))) : oq (dNotIn (.str (S [k])) (.str (S l))) R := by
  refine oq_notIn_s ?_
  rw [S_cps]
  exact h
theorem oq_len_S {l : List Nat} {R : D → Prop} (hl : l.length ≤ 100000) (h : R (.int l.length)) : oq (dLen [.str (S l)]) R := oq_len_s (by rw [S_len]; exact hl) (by rw [S_len]; exact h)
theorem oq_iadd_S {a b : List Nat} {R : D → Prop} (hl : a.length + b.length ≤ 100000) (h : R (.str (S (a ++ b)))) : oq (dIAdd (.str (S a)) (.str (S b))) R := oq_iadd_s (by rw [S_len, S_len]; exact hl) (by rw [S_app]; exact h)
theorem oq_add_S {a b : List Nat} {R : D → Prop} (hl : a.length + b.length ≤ 100000) (h : R (.str (S (a ++ b)))) : oq (dAdd (.str (S a)) (.str (S b))) R := oq_add_s (by rw [S_len, S_len]; exact hl) (by rw [S_app]; exact h)
end Hz
namespace Hz
open PySem L2
end Hz
namespace Hz
open PySem L2
def kEqB : D → D → Bool
  | .int a, .int b => decide (a = b)
  | .str a, .str b => decide (a = b)
  | _, _ => false
def isK : D → Bool
  | .int _ => true
  | .str _ => true
  | _ => false
def realD (ds : List (D × D)) : Bool := ds.all fun p => isK p.1
def lookP (k : D) : List (D × D) → Option D
  | [] => none
  | (j, d) :: r => if kEqB j k = true then some d else lookP k r
def putP (k d : D) (ds : List (D × D)) : List (D × D) := if (lookP k ds).isSome = true then ds.map (fun p => if kEqB p.1 k = true then (p.1, d) else p) else ds ++ [(k, d)]
def dropP (k : D) (ds : List (D × D)) : List (D × D) := ds.filter fun p => !kEqB p.1 k
theorem kEqB_kD (a b : Key) : kEqB (kD a) (kD b) = decide (a = b) := by
  cases a <;> cases b <;> simp [kD, kEqB]
theorem RpK.length {K : Frag} {H : Hp} : ∀ {kvs : List (Key × V)} {ds : List (D × D)}, RpK K H kvs ds → kvs.length = ds.length
  | _, _, .nil => rfl
  | _, _, .cons h r => by rw [List.length_cons, List.length_cons, r.length]
theorem RpK.look {K : Frag} {H : Hp} (κ : Key) : ∀ {kvs : List (Key × V)} {ds : List (D × D)}, RpK K H kvs ds → (lookP (kD κ) ds = none ∧ valV kvs κ = none) ∨ ∃ d v, lookP (kD κ) ds = some d ∧ valV kvs κ = some v ∧ Rp K H v d
  | _, _, .nil => .inl ⟨rfl, rfl⟩
  | _, _, .cons (k := k) (v := v) (d := d) h r => by
    have e : kEqB (kD k) (kD κ) = decide (k = κ) := kEqB_kD k κ
    by_cases q : k = κ
    · refine .inr ⟨d, v, ?_, valV_pos q, h⟩
      rw [lookP, e, decide_eq_true q, if_pos rfl]
    · rw [lookP, e, decide_eq_false q, if_neg (by simp), valV_neg q]
      exact r.look κ
theorem RpK.append {K : Frag} {H : Hp} : ∀ {kvs ls : List (Key × V)} {ds es : List (D × D)}, RpK K H kvs ds → RpK K H ls es → RpK K H (kvs ++ ls) (ds ++ es)
  | _, _, _, _, .nil, s => s
  | _, _, _, _, .cons h r, s => .cons h (r.append s)
theorem RpK.mapK {K : Frag} {H : Hp} {κ : Key} {w : V} {e : D} (q : Rp K H w e) : ∀ {kvs : List (Key × V)} {ds : List (D × D)}, RpK K H kvs ds → RpK K H (kvs.map fun kv => if kv.1 = κ then (kv.1, w) else kv) (ds.map fun p => if kEqB p.1 (kD κ) = true then (p.1, e) else p)
  | _, _, .nil => .nil
  | _, _, .cons (k := k) (v := v) (d := d) h r => by
    have z : kEqB (kD k) (kD κ) = decide (k = κ) := kEqB_kD k κ
    rw [List.map_cons, List.map_cons]
    simp only [z]
    by_cases c : k = κ
    · rw [if_pos c, decide_eq_true c, if_pos rfl]
      exact .cons q (r.mapK q)
    · rw [if_neg c, decide_eq_false c, if_neg (by simp)]
      exact .cons h (r.mapK q)
theorem RpK.put {K : Frag} {H : Hp} {κ : Key} {w : V} {e : D} {kvs : List (Key × V)} {ds : List (D × D)} (q : Rp K H w e) (r : RpK K H kvs ds) : RpK K H (putK kvs κ w) (putP (kD κ) e ds) := by
  unfold putK putP
  rw [valV_any]
  rcases r.look κ with ⟨h1, h2⟩ | ⟨d, v, h1, h2, _⟩
  · rw [h1, h2]
    exact r.append (.cons q .nil)
  · rw [h1, h2]
    exact r.mapK q
theorem RpK.drop {K : Frag} {H : Hp} {κ : Key} : ∀ {kvs : List (Key × V)} {ds : List (D × D)}, RpK K H kvs ds → RpK K H (dropK kvs κ) (dropP (kD κ) ds)
  | _, _, .nil => .nil
  | _, _, .cons (k := k) (v := v) (d := d) h r => by
    have z : kEqB (kD k) (kD κ) = decide (k = κ) := kEqB_kD k κ
    have ih := r.drop (κ := κ)
    unfold dropK dropP at ih ⊢
    by_cases c : k = κ
    · rw [List.filter_cons_of_neg (by simp [c]), List.filter_cons_of_neg (by show ¬ (!kEqB (kD k) (kD κ)) = true; rw [z, decide_eq_true c]; simp)]
      exact ih
    · rw [List.filter_cons_of_pos (by simp [c]), List.filter_cons_of_pos (by show (!kEqB (kD k) (kD κ)) = true; rw [z, decide_eq_false c]; rfl)]
      exact .cons h ih
theorem Bs.dict {K : Frag} {B : Addr → Bool} {H : Hp} {α : AH} {l : Addr} {ds : List (D × D)} (S : Bs K B H α) (h : α l = some (.dict ds)) (r : realD ds = true) : B l = true ∧ ∃ kvs, H l = some (.dK kvs) ∧ RpK K (hide B H) kvs ds := by
  obtain ⟨h1, h2⟩ := S.cel l _ h
  refine ⟨h1, ?_⟩
  generalize ez : PyData.dict ds = z at h2
  generalize eo : H l = o at h2
  cases h2 with
  | own h =>
    subst ez
    exact h
  | obj h =>
    injection ez with ez
    subst ez
    cases r
end Hz
namespace Hz
open PySem L2
section
variable {c : C0} {N : List Str} {sc : Scope} {o e i f tg : Expr} {p p2 p3 pos p1 : Pos} {me mo mi ma mb mk md : ME} {K : Frag} {W : WX} {x : Str}
theorem Paired.imp {α β : Type} {F G : α → β → Prop} (h : ∀ a b, F a b → G a b) : ∀ {as : List α} {bs : List β}, Paired F as bs → Paired G as bs
  | _, _, .nil => .nil
  | _, _, .cons a r => .cons (h _ _ a) (Paired.imp h r)
end
end Hz
namespace Hz
open PySem L2
section
variable {ρ : En} {α : AH} {Q : QD} {QL : List D → AH → Prop} {E : QX} {D' : Md} {ma mb md mo mk me : ME} {g : D → D → Option D} {R : List (D × D) → Prop}
theorem w_isiC {C : Nat} (h : ma ρ α (fun d α1 => oq (vw α1 d) fun d' => oq (isiCB C d') fun b => Q (.bool b) α1) E) : isiCK C ma ρ α Q E := h
end
end Hz
namespace Hz
open PySem L2
def dAnd : D → D → Option D
  | .int a, .int b => if b = 2 ^ (b + 1).toNat.log2 - 1 then some (.int (a % 2 ^ (b + 1).toNat.log2)) else none
  | _, _ => none
theorem o_and {c : C0} {N : List Str} {sc : Scope} : OpD c.K (In c N sc) (binaryOp .BitAnd) dAnd := by
  refine ⟨_, fun X I => op_andM, fun B H x y d e z bk hx hy hz Q q => ?_⟩
  unfold dAnd at hz
  split at hz
  · split at hz
    · rename_i hc
      cases hz
      have e := hy.int
      rw [hc] at e
      exact ⟨_, _, hx.int, e, q _ H (Sub.refl H) (.int _)⟩
    · cases hz
  · cases hz
theorem oq_and255 {x : Int} {R : D → Prop} (h : R (.int (x % 256))) : oq (dAnd (.int x) (.int 255)) R := ⟨_, by
  have e : ((255 : Int) + 1).toNat.log2 = 8 := by decide +kernel
  show (if (255 : Int) = 2 ^ ((255 : Int) + 1).toNat.log2 - 1 then some (PyData.int (x % 2 ^ ((255 : Int) + 1).toNat.log2)) else none) = some (PyData.int (x % 256))
  rw [e]
  rfl, h⟩
end Hz
namespace PySem
namespace HandSPX
section
variable {M : Model} {A : Around} {E : Value → Shared → Prop} {s : Shared} {Z : Obj → Prop} {base : Heap} {env : Env} {outer : List Env} {L L' e : Addr}
/-- noted elsewhere before: noted anew -/
theorem hz_look_other {Q : Unit → Shared → Prop} (zz : Steady Z) (fr : A.frames = some (env :: outer)) (ef : env.frame = some L) (ne : L' ≠ L) (held : HeldZ base (env :: outer) e Z L' s.heap)
    (goal : ∀ g, HeldZ base (env :: outer) e Z L g → s.heap.UpToSlots g → Q () { s with heap := g }) : wpAny M A (noteFrame (.ref e) env) Q E s := by
  rcases held with ⟨kb, en, fl, oe, fs, T, oT, us, ge, ze, de, f1, nT, nTe, gT, dT, f3⟩
  unfold noteFrame
  simp only [ef]
  refine wpAny_bind (wpAny_field ge de f1 ?_)
  rw [if_pos (by simp : (Value.ref T != Value.none) = true)]
  refine wpAny_bind (wpAny_field gT dT f3 ?_)
  have nr : ¬ ((rawInt L' == rawInt L) = true) := by
    intro q
    apply ne
    have q2 : ((L' : Nat) : Int) = ((L : Nat) : Int) := by simpa [rawInt] using q
    exact Int.ofNat_inj.mp q2
  rw [if_neg nr]
  refine wpAny_bind (wpAny_setField gT dT (Array.getElem?_eq_some_iff.mp f3).1 ?_)
  have oth : ∀ b, b ≠ T → (s.heap.update T (Obj.mapFields (·.setIfInBounds 3 Value.none))).get? b = s.heap.get? b := fun b nb => Heap.get?_update_other _ _ (Ne.symm nb)
  have nrec : ∀ b o, s.heap.get? b = some o → (∀ vs, o.data ≠ .fields vs) → b ≠ T := fun b o gb nf q => by
    rw [q, gT] at gb
    injection gb with gb
    subst gb
    exact nf us dT
  refine wpAny_entryZ zz fr (fl.of_keeps fun b o gb nf => ⟨o, (oth b (nrec b o gb nf)).trans gb, rfl⟩) ef ((oth e (Ne.symm nTe)).trans ge) (fun b o gb => (oth b fun q => by rw [q, nT] at gb; cases gb).trans (kb b o gb)) en de (Array.getElem?_eq_some_iff.mp f1).1 ze fun g hN => ?_
  obtain ⟨y1, y2, y3, y4⟩ := hN
  exact goal g ⟨y1, en, y2, y3⟩ fun b o gb nf => y4 b o ((oth b (nrec b o gb nf)).trans gb) nf
end
end HandSPX
end PySem
namespace L2
open PySem PySem.Spec PyProof.Rows
theorem hz_frames_less {h B G : Heap} (k : ∀ b, B.get? b = none → G.get? b = none) : ∀ {l : List Env}, h.FunFrames B l → h.FunFrames G l
  | [], _ => trivial
  | _ :: _, ⟨k1, ⟨L, o, a1, a2, a3, a4⟩, r⟩ => ⟨k1, ⟨L, o, a1, k L a2, a3, a4⟩, hz_frames_less k r⟩
/-- an exception in a block's air, its block let go: in the air of the def -/
theorem hz_comp_air {X : Cx} {pins : List (Addr × Obj)} {σ : St} {H3 : Hp} {s3 : Shared} {scope : Scope} {ce : Env} {fp : List Addr} {xe E1 : Value → Shared → Prop} {W : WX} (I3 : Inv X pins σ H3 s3) (es : X.stack = X.env :: X.outer) (ef : X.env.frame = some X.env.locals) (tk : Takes X W)
    (f3 : ∀ b ∈ fp, FpOk X pins H3 b ∧ b < s3.heap.objs.size) (cL : ce.locals = s3.heap.objs.size) (cF : ce.frame = X.env.frame) {u : Value} {s' : Shared} (x : XE ((X.blk s3 H3 scope ce fp).tr [] xe) (fun cls d _ H' => W cls d σ H') u s') :
    wpAny (model X.prog X.w) X.A (noteFrame u ce) (fun _ s'' => CompFails (model X.prog X.w) X.A X.xe ce u s'') E1 s' := by
  obtain ⟨a, B, sI, pins', σ', H', cls, d, rfl, J, nb, up, sky, na, os, ag, w⟩ := x
  have frs' : X.A.frames = some (X.env :: X.outer) := by rw [I3.ok.frames, es]
  rw [noteFrame_env _ cF]
  have J7 : Inv X pins σ H' sI := I3.call' (ch := fp) J.os J.base J.hok J.bare fun b hb => ⟨(f3 b hb).1.2.2.2.1, (f3 b hb).1.2.1, (f3 b hb).1.2.2.2.2.1, (f3 b hb).1.2.2.2.2.2⟩
  have hC : H' ce.locals = none := J.free
  obtain ⟨m, hn, _⟩ := J.loc
  have hn : sI.heap.Ns ce.locals m := hn
  have fin : ∀ g, HandSPX.HeldZ B (X.env :: X.outer) a (Zc cls d) X.env.locals g → s'.heap.UpToSlots g → CompFails (model X.prog X.w) X.A X.xe ce (.ref a) { s' with heap := g } := by
    intro g hh up1
    have up2 := up.trans up1
    have hng := up2.ns hn
    refine ⟨m, hng, fun h2 m2 hn2 hs2 => ?_⟩
    have hs2 : Heap.SameBut ce.locals g h2 := hs2
    obtain ⟨G, g1, g2⟩ := restrict B fun b => decide (b ≠ ce.locals)
    obtain ⟨F, j1, j2⟩ := restrict sI.heap fun b => decide (b ≠ ce.locals)
    have gB : ∀ b o, G.get? b = some o → b ≠ ce.locals ∧ B.get? b = some o := fun b o e => by
      by_cases q : b = ce.locals
      · rw [g2 b (by simp [q])] at e
        cases e
      · rw [g1 b (by simp [q])] at e
        exact ⟨q, e⟩
    have gN : ∀ b, B.get? b = none → G.get? b = none := fun b e => by
      cases q : G.get? b with
      | none => rfl
      | some o =>
        rw [(gB b o q).2] at e
        cases e
    obtain ⟨k1, k2, k3, oe, vs, T, oT, ts, he, hz, hd, h1, hnT, hTe, hT, hdT, h3⟩ := hh
    obtain ⟨oC, esC, epC, hoC, hdC, _⟩ := hng
    have aC : a ≠ ce.locals := fun q => by
      rw [q] at he
      rw [hoC] at he
      cases he
      rw [hdC] at hd
      cases hd
    have TC : T ≠ ce.locals := fun q => by
      rw [q] at hT
      rw [hoC] at hT
      cases hT
      rw [hdC] at hdT
      cases hdT
    have he2 : h2.get? a = some oe := (hs2.2 a aC).trans he
    have hT2 : h2.get? T = some oT := (hs2.2 T TC).trans hT
    have q1 : G.StaysIn h2 := fun b o e => (hs2.2 b (gB b o e).1).trans (k1 b o (gB b o e).2)
    have q3 : h2.FunFrames G (X.env :: X.outer) := hz_frames_less gN (Heap.FunFrames.sameBut hs2 hn2 k3)
    have q4 : HandSPX.TracedZ h2 G a (Zc cls d) (rawInt X.env.locals) := ⟨oe, vs, T, oT, ts, he2, hz, hd, h1, gN T hnT, hTe, hT2, hdT, h3⟩
    obtain ⟨f0, f1, f2, f4, f5, f6⟩ := I3.fpOk (b := ce.locals) (Nat.le_of_eq cL.symm) hC
    have JF : Inv X pins σ H' { sI with heap := F } := J7.turned (t' := sI.toks) (fun b o nbC e => (j1 b (by simp [nbC])).trans e) f0 f1 f4 f5 f6
    have upF : F.UpToSlots h2 := fun b o e nf => by
      by_cases q : b = ce.locals
      · rw [j2 b (by simp [q])] at e
        cases e
      · rw [j1 b (by simp [q])] at e
        obtain ⟨sl, e2⟩ := up2 b o e nf
        exact ⟨sl, (hs2.2 b q).trans e2⟩
    have nb2 : ∀ b o, F.get? b = some o → b ∉ frs X.stack → G.get? b = some o := fun b o e hb => by
      by_cases q : b = ce.locals
      · rw [j2 b (by simp [q])] at e
        cases e
      · rw [j1 b (by simp [q])] at e
        rw [g1 b (by simp [q])]
        exact nb b o e hb
    unfold PySem.passOn
    refine wpAny_bind (wpAny_field he2 hd h1 ?_)
    rw [if_neg (by simp : ¬ ((Value.ref T == Value.none) = true))]
    have go : wpAny (model X.prog X.w) X.A (setFlight (.ref a) ce.frame) (fun _ s4 => wpAny (model X.prog X.w) X.A (throw (.ref a) : Sem Value) (fun _ _ => False) X.xe s4) X.xe { s' with heap := h2 } := by
      rw [cF, ef]
      refine HandSPX.setFlight_anyZ (fr := some X.env.locals) q1 q3 q4 fun h4 k1' k2' k3' up4 => wpAny_throw (tk _ _ ?_)
      exact ⟨a, G, _, pins, σ, H', cls, d, rfl, JF, nb2, upF.trans up4, .inr (.inr (by rw [es]; exact ⟨k1', gN a k2, k2', k3'⟩)), na, os, ag, w⟩
    first
      | exact wpAny_bind (wpAny_pure (wpAny_bind go))
      | exact wpAny_bind go
  have sky : Sky B X.stack a (Zc cls d) ce.locals s'.heap := sky
  rw [es] at sky
  rcases sky with ⟨c1, c2, c3, oe, vs, c4, c5, c6, c7⟩ | fl | hl
  · exact HandSPX.look_newZ Zc.steady frs' c3 ef c4 c1 c2 c6 c7 c5 fin
  · exact HandSPX.looks_onZ Zc.steady frs' ef fl fin
  · refine HandSPX.hz_look_other Zc.steady frs' ef (fun q => ?_) hl fin
    have := I3.lt
    rw [← q, cL] at this
    exact Nat.lt_irrefl _ this
/-- [elt for tg in iter if ..], its block's exceptions handed on; the list is the value -/
theorem hz_pe_lc {X : Cx} {W : WX} {elt tg iter : Expr} {ifs : List Expr} {scope : Scope} {own : List (Str × Nat)} {pos : Pos} {wi : TI} {g : TG} {tt : WX → TT} {te : WX → TE}
    (tk : Takes X W) (es : X.stack = X.env :: X.outer) (ef : X.env.frame = some X.env.locals) (hc : X.calm = true) (hN : X.N.Nodup) (hi : PI X tg iter wi) (ok : BlkOk X.N X.env.scope scope own)
    (hg : ∀ (s : Shared) (H : Hp) (C : Addr) (cl : List (Str × Addr)) (fp : List Addr) (xe : Value → Shared → Prop), PassesOwn (model X.prog X.w) X.A (compEnvC scope cl C X.env) xe → PG ((X.blk s H scope (compEnvC scope cl C X.env) fp).tr [] xe) tg g)
    (ht : ∀ (s : Shared) (H : Hp) (C : Addr) (cl : List (Str × Addr)) (fp : List Addr) (xe : Value → Shared → Prop) (W' : WX), Takes ((X.blk s H scope (compEnvC scope cl C X.env) fp).tr [] xe) W' → PassesOwn (model X.prog X.w) X.A (compEnvC scope cl C X.env) xe → PTs ((X.blk s H scope (compEnvC scope cl C X.env) fp).tr [] xe) ifs (tt W'))
    (he : ∀ (s : Shared) (H : Hp) (C : Addr) (cl : List (Str × Addr)) (fp : List Addr) (xe : Value → Shared → Prop) (W' : WX), Takes ((X.blk s H scope (compEnvC scope cl C X.env) fp).tr [] xe) W' → PassesOwn (model X.prog X.w) X.A (compEnvC scope cl C X.env) xe → PE ((X.blk s H scope (compEnvC scope cl C X.env) fp).tr [] xe) elt (te W'))
    (hs : ∀ x, foldedSetIterable iter X.env x = pure x) :
    PE X (.ListComp elt [⟨tg, iter, ifs, 0⟩] scope pos) (fun σ H Q => tLc wi g (tt fun cls d _ H' => W cls d σ H') (te fun cls d _ H' => W cls d σ H') (own.map (·.2)) σ H Q) := by
  refine ⟨fun pins s σ H Q I h => ?_⟩
  rw [eval_ListComp]
  have free : ∀ y ∈ scope.names, y.2 = .free → ∃ c, X.env.cells.lookup y.1 = some c := fun y hy e => by
    rcases ok.free y hy e with k | k <;> exact I.ok.has _ (by first | exact .inl k | exact .inr k)
  refine comprehension_at (use := none) rfl hs (closure_ok free) ok.kind (fun y hy e => by rw [ok.uniq y hy, e]) (thn (hi.run pins s σ H _ I h) fun xv s1 hx => thn hx fun itv s2 h2 => ?_)
  obtain ⟨it, fp, tn, J, H2, rfl, I2, T, st2, f2, q⟩ := h2
  refine wpAny_newObj_type (newEnv_comp ?_) (Nat.zero_le _)
  obtain ⟨D, hD⟩ : ∃ D, s2.heap.objs.size = D := ⟨_, rfl⟩
  rw [hD]
  have D0 : H2 D = none := I2.hok.fresh (Nat.le_of_eq hD)
  obtain ⟨Wn, ⟨m0, w0⟩, turn⟩ := q D D0
  generalize e3 : ({ s2 with heap := s2.heap.push { cls := .type "list", data := .seq ([] : List Value).toArray } } : Shared) = s3
  have h3 : s3.heap = s2.heap.push { cls := .type "list", data := .seq ([] : List Value).toArray } := by rw [← e3]
  have I3 : Inv X pins σ (upd H2 D (.lst [])) s3 := by
    rw [← e3]
    refine I2.laid (t' := s2.toks) (fun b o z => Heap.get?_push_of_some _ z) (Nat.le_of_eq hD) ⟨Nat.zero_le _, [], 0, .nil, ?_⟩
    rw [← hD]
    exact Heap.get?_push_size _ rfl
  have below : ∀ b ∈ fp, b < s2.heap.objs.size := fun b hb => by
    obtain ⟨o, z, _⟩ := T.obj _ _ st2 b hb
    exact Heap.lt_size z
  have f3 : ∀ b ∈ fp, FpOk X pins (upd H2 D (.lst [])) b ∧ b < s3.heap.objs.size := fun b hb => by
    have lt := below b hb
    refine ⟨⟨?_, (f2 b hb).2⟩, by rw [h3, Heap.size_push]; exact Nat.lt_succ_of_lt lt⟩
    rw [upd_ne (by rw [← hD]; exact Nat.ne_of_lt lt)]
    exact (f2 b hb).1
  have st3 : tn 0 s3.heap := T.keep _ _ _ st2 fun b _ o z => by rw [h3]; exact Heap.get?_push_of_some _ z
  have I4 := block_start I3 ok hN f3
  have g' := hg s3 (upd H2 D (.lst [])) s3.heap.objs.size (cellsFrom (s3.heap.objs.size + 1) scope.names (cloFrom X.env.cells scope.names [])) fp
  have t' := ht s3 (upd H2 D (.lst [])) s3.heap.objs.size (cellsFrom (s3.heap.objs.size + 1) scope.names (cloFrom X.env.cells scope.names [])) fp
  have e' := he s3 (upd H2 D (.lst [])) s3.heap.objs.size (cellsFrom (s3.heap.objs.size + 1) scope.names (cloFrom X.env.cells scope.names [])) fp
  show codeAny _ _ (.compStart (.ListComp elt [⟨tg, iter, ifs, 0⟩] scope pos) 0 (.ref it) (.ref D) (compEnvC scope (cellsFrom (s3.heap.objs.size + 1) scope.names (cloFrom X.env.cells scope.names [])) s3.heap.objs.size X.env))
    (compEnds (model X.prog X.w) X.A X.xe none (EP X pins σ Q) (.ref D) (compEnvC scope (cellsFrom (s3.heap.objs.size + 1) scope.names (cloFrom X.env.cells scope.names [])) s3.heap.objs.size X.env)) { s3 with heap := pushCells (s3.heap.push { cls := .type "dict", data := .dict #[] }) scope.names }
  have fpN : ∀ b ∈ fp, (upd H2 D (.lst [])) b = none := fun b hb => (f3 b hb).1.1
  obtain ⟨ce, hce⟩ : ∃ ce, compEnvC scope (cellsFrom (s3.heap.objs.size + 1) scope.names (cloFrom X.env.cells scope.names [])) s3.heap.objs.size X.env = ce := ⟨_, rfl⟩
  have cL : ce.locals = s3.heap.objs.size := by rw [← hce]; rfl
  have cF : ce.frame = X.env.frame := by rw [← hce]; rfl
  rw [hce] at I4 g' t' e' ⊢
  obtain ⟨H3, hH3⟩ : ∃ H3, upd H2 D (.lst []) = H3 := ⟨_, rfl⟩
  rw [hH3] at I3 I4 g' t' e' w0 fpN f3
  generalize e4 : ({ s3 with heap := pushCells (s3.heap.push { cls := .type "dict", data := .dict #[] }) scope.names } : Shared) = s4 at I4 ⊢
  have st4 : tn 0 s4.heap := T.keep _ _ _ st3 fun b _ o z => by rw [← e4]; exact pushCells_keeps _ _ _ _ (Heap.get?_push_of_some _ z)
  -- the block's exceptions
  obtain ⟨xe, hxe⟩ : ∃ xe, notedBy (model X.prog X.w) X.A ce (fun u s' => CompFails (model X.prog X.w) X.A X.xe ce u s') = xe := ⟨_, rfl⟩
  have po : PassesOwn (model X.prog X.w) X.A ce xe := by
    rw [← hxe]
    exact PassesOwn.looking
  have tkB : Takes ((X.blk s3 H3 scope ce fp).tr [] xe) (fun cls d _ H' => W cls d σ H') := fun u s' x => by
    show xe u s'
    rw [← hxe]
    exact hz_comp_air I3 es ef tk f3 cL cF x
  have pg := g' xe po
  have pt := t' xe _ tkB po
  have pe := e' xe _ tkB po
  have stat : ∀ {σ' : St} {H' : Hp} {s' : Shared}, Inv ((X.blk s3 H3 scope ce fp).tr [] xe) [] σ' H' s' → (∀ b ∈ fp, H' b = none) → ∀ b ∈ fp, FpOk ((X.blk s3 H3 scope ce fp).tr [] xe) [] H' b := fun {σ' H' s'} J' hn b hb =>
    ⟨hn b hb, (J'.ok.exf b hb).1, J'.ok.exfs b hb, .inl hb, fun x c z => (J'.ok.exf b hb).2 x c z, fun p hp => absurd (show p ∈ ([] : List (Addr × Obj)) ++ [] from hp) (by simp)⟩
  have I4 : Inv ((X.blk s3 H3 scope ce fp).tr [] xe) [] (wipe σ (own.map (·.2))) H3 s4 := I4.toTry xe
  have loop : codeAny (model X.prog X.w) X.A (.compLoop (.ListComp elt [⟨tg, iter, ifs, 0⟩] scope pos) 0 (.ref it) (.ref D) ce) (compEnds (model X.prog X.w) X.A X.xe none (EP X pins σ Q) (.ref D) ce) s4 := by
    refine compLoop_any (fun n s' => ∃ i H', Inv ((X.blk s3 H3 scope ce fp).tr [] xe) [] (wipe σ (own.map (·.2))) H' s' ∧ tn i s'.heap ∧ (∀ b ∈ fp, H' b = none) ∧ Wn i n H') ?_ m0 ⟨0, H3, I4, st4, fpN, w0⟩
    have lift : ∀ u s', xe u s' → notedBy (model X.prog X.w) X.A ce (fun u s' => compEnds (model X.prog X.w) X.A X.xe none (EP X pins σ Q) (.ref D) ce (.error u) s') u s' := fun u s' z => by
      rw [← hxe] at z
      exact z
    rintro n s5 ⟨i, H5, I5, st5, n5, w5⟩
    rcases turn i n H5 w5 with ⟨stop, qq⟩ | ⟨go, Nx, hNx, step⟩
    · refine thnF (T.done ((X.blk s3 H3 scope ce fp).tr [] xe) rfl rfl rfl hc i [] s5 _ H5 (fun _ _ => False) I5 (stat I5 n5) st5 stop) fun r s6 ⟨hr, I6⟩ => ?_
      subst hr
      have I7 : Inv X pins σ H5 s6 := I3.call' (ch := fp) I6.os I6.base I6.hok I6.bare fun b hb => ⟨(f3 b hb).1.2.2.2.1, (f3 b hb).1.2.1, (f3 b hb).1.2.2.2.2.1, (f3 b hb).1.2.2.2.2.2⟩
      have nC : H5 ce.locals = none := I6.free
      obtain ⟨m, hn, _⟩ := I6.loc
      obtain ⟨f0, f1, _, f4, f5, f6⟩ := I3.fpOk (b := ce.locals) (Nat.le_of_eq cL.symm) nC
      exact ⟨m, hn, fun h'' sb => ⟨.ref D, H5, I7.turned (t' := s6.toks) (fun b o nb z => (sb.2 b nb).trans z) f0 f1 f4 f5 f6, rfl, qq⟩⟩
    · refine thnF (T.item ((X.blk s3 H3 scope ce fp).tr [] xe) rfl rfl rfl hc i [] s5 _ H5 (fun _ _ => False) I5 (stat I5 n5) st5 go) fun r s6 ⟨u, hr, h6⟩ => ?_
      subst hr
      refine thnF h6 fun _ s7 ⟨x, H7, I7, r7, y7, st7, n7⟩ => ?_
      have P7 := I7.pinned (stat I7 n7) (T.obj _ _ st7)
      refine wpAny_mono (pg.run _ s7 _ H7 x u _ P7 r7 (step x H7 y7)) (fun _ s8 k8 => ?_) lift
      obtain ⟨σ8, H8, I8, hw8, q8⟩ := k8
      refine wpAny_mono (pt.run _ s8 σ8 H8 _ I8 q8) (fun b s9 k9 => ?_) lift
      obtain ⟨H9, I9, q9⟩ := k9
      have fin : ∀ {s' : Shared} {H' : Hp}, Inv ((X.blk s3 H3 scope ce fp).tr [] xe) ([] ++ pinsAt fp s7.heap) σ8 H' s' → Nx H' → ∃ m, m < n ∧ ∃ i H', Inv ((X.blk s3 H3 scope ce fp).tr [] xe) [] (wipe σ (own.map (·.2))) H' s' ∧ tn i s'.heap ∧ (∀ b ∈ fp, H' b = none) ∧ Wn i m H' := fun {s' H'} J' nx => by
        obtain ⟨m', hm, w'⟩ := hNx H' nx
        have pinned : ∀ b ∈ fp, ∀ o, s7.heap.get? b = some o → s'.heap.get? b = some o ∧ H' b = none := fun b hb o z =>
          let y := J'.pin (b, o) (List.mem_append_right _ (List.mem_append_right _ (mem_pinsAt hb z)))
          ⟨y.1, y.2.1⟩
        have len : (wipe σ (own.map (·.2))).length = σ8.length := by rw [← hw8, wipe_length]
        refine ⟨m', hm, i + 1, H', (J'.unpinned (pins := [])).weak len (fun j v z => ?_), T.keep _ _ _ st7 fun b hb o z => (pinned b hb o z).1, fun b hb => ?_, w'⟩
        · rw [← hw8] at z
          exact (wipe_some z).1
        · obtain ⟨o, z, _⟩ := T.obj _ _ st7 b hb
          exact (pinned b hb o z).2
      cases b with
      | false => exact fin I9 q9
      | true =>
        refine wpAny_mono (pe.run _ s9 σ8 H9 _ I9 q9) (fun z s10 k10 => ?_) lift
        obtain ⟨yv, H10, I10, r10, acc, hD10, hz10, nx⟩ := k10
        exact app_ok (X := (X.blk s3 H3 scope ce fp).tr [] xe) I10 hD10 hz10 r10 fun s11 I11 => fin I11 nx
  exact codeAny_compStart_list loop (T.self X.A 0 _ _ _ st4 loop)
end L2
namespace Hz
open PySem L2
def lcDX (vs : List Nat) (mg : D → En → Option En) (mt : MT) (me : ME) (G : AH → Prop) (ρ : En) (Q : QD) (E : QX) : List D → List D → AH → Prop
  | [], acc, α => G α ∧ Q (.list acc) α
  | d :: ds, acc, α => G α ∧ oq (mg d (wipeA ρ vs)) fun ρ1 => mt ρ1 α (fun b α1 => if b = true then me ρ1 α1 (fun y α2 => acc.length < 100000 ∧ lcDX vs mg mt me G ρ Q E ds (acc ++ [y]) α2) E else lcDX vs mg mt me G ρ Q E ds acc α1) E
def lcXK (vs : List Nat) (mi : MI) (mg : D → En → Option En) (mt : MT) (me : ME) : ME := fun ρ α Q E => mi ρ α (fun ds G α1 => lcDX vs mg mt me G ρ Q E ds [] α1) E
section
variable {K : Frag} {W : WX} {vs js : List Nat} {mi : MI} {mg : D → En → Option En} {mt : MT} {me : ME} {wi : TI} {g : TG} {tt : WX → TT} {te : WX → TE}
theorem sf_lcX (hi : SI K W wi mi) (hg : SgT K js g mg) (hj : ∀ j, j ∈ js → j ∈ vs) (ht : ∀ W, Stt K W (tt W) mt) (he : ∀ W, Sd K W (te W) me) : Sf K W (fun σ H Q => tLc wi g (tt fun cls d _ H' => W cls d σ H') (te fun cls d _ H' => W cls d σ H') vs σ H Q) (lcXK vs mi mg mt me) := fun B σ H ρ α S Qm Em m Q q x => by
  refine hi B σ H ρ α S _ Em m _ (fun J ds G B1 H1 α1 A ok m => ?_) x
  have S1 := S.step A
  have x1 := x.after S.bs A
  intro l hl
  refine ⟨fun i n H' => ∃ B' α' vacc acc, Af K B1 H1 α1 B' H' α' ∧ B' l = true ∧ α' l = none ∧ H' l = some (.lst vacc) ∧ RpL K (hide B' H') vacc acc ∧ n = ds.length - i ∧ i ≤ ds.length ∧ lcDX vs mg mt me G ρ Qm Em (ds.drop i) acc α',
    ⟨ds.length, ins l B1, α1, [], [], Af.hid S1.bs hl, ins_self, S1.bs.new hl, upd_same, .nil, by simp, Nat.zero_le _, by simpa using m⟩, ?_⟩
  rintro i n H' ⟨B', α', vacc, acc, A', bl, nl, el, rl, rfl, hle, hf⟩
  have hG : G α' := by
    cases q : ds.drop i with
    | nil => rw [q] at hf; exact hf.1
    | cons _ _ => rw [q] at hf; exact hf.1
  obtain ⟨go, stop⟩ := ok B' H' α' A'.sub A'.bs hG
  by_cases hlt : i < ds.length
  · obtain ⟨d, hd⟩ : ∃ d, ds[i]? = some d := ⟨_, List.getElem?_eq_getElem hlt⟩
    have dr : ds.drop i = d :: ds.drop (i + 1) := by
      rw [List.drop_eq_getElem_cons hlt]
      rw [List.getElem?_eq_getElem hlt] at hd
      cases hd
      rfl
    rw [dr] at hf
    obtain ⟨_, ρ2, e2, hf⟩ := hf
    obtain ⟨g1, g2⟩ := go i d hd
    refine .inr ⟨g1, fun H2 => ∃ B2 α2 vacc acc, Af K B1 H1 α1 B2 H2 α2 ∧ B2 l = true ∧ α2 l = none ∧ H2 l = some (.lst vacc) ∧ RpL K (hide B2 H2) vacc acc ∧ lcDX vs mg mt me G ρ Qm Em (ds.drop (i + 1)) acc α2,
      fun H2 ⟨B2, α2, va, ac, k1, k2, k3, k4, k5, k6⟩ => ⟨ds.length - (i + 1), by omega, B2, α2, va, ac, k1, k2, k3, k4, k5, rfl, hlt, k6⟩, fun x H2 y => ?_⟩
    obtain ⟨sb, rx⟩ := g2 x H2 y
    have Ab := Af.of_sub A'.bs sb
    have A2 := A'.trans S1.bs Ab
    have x2 := x1.after S1.bs A2
    have Sw : SR K B' (wipe σ vs) H2 (wipeA ρ vs) α' := (S1.step A2).wipe
    refine hg B' _ H2 _ α' x d ρ2 Sw rx e2 _ fun σ3 S3 loc len => ⟨wipe_back (fun j h => (loc j h).1) hj len, ?_⟩
    have el2 : H2 l = some (.lst vacc) := sb _ _ el
    have x3 : SX K (fun cls d _ H' => W cls d σ H') B' σ3 H2 α' Em := fun y B'' α'' cls d H'' a r e => x2 y B'' α'' cls d H'' a r e
    refine ht _ B' σ3 H2 ρ2 α' S3 _ Em hf _ (fun b B3 H3 α3 A3 m => ?_) x3
    obtain ⟨b3, h3⟩ := A3.keep l bl nl
    have n3 : α3 l = none := A3.fr l nl (by rw [el2]; exact fun z => nomatch z)
    have r3 := rl.mono (hsub sb |>.trans A3.sub)
    have A13 := A2.trans S1.bs A3
    cases b with
    | false => exact ⟨B3, α3, vacc, acc, A13, b3, n3, h3.trans el2, r3, m⟩
    | true =>
      refine he _ B3 σ3 H3 ρ2 α3 (S3.step A3) _ Em m _ (fun v d4 B4 H4 α4 A4 r4 m => ?_) (x3.after S3.bs A3)
      obtain ⟨b4, h4⟩ := A4.keep l b3 n3
      have e4 : H4 l = some (.lst vacc) := h4.trans (h3.trans el2)
      have n4 : α4 l = none := A4.fr l n3 (by rw [h3, el2]; exact fun z => nomatch z)
      have A14 := A13.trans S1.bs A4
      have ra := r3.mono A4.sub
      obtain ⟨w1, w2⟩ := Af.hidW (o := .lst (vacc ++ [v])) S1.bs A14 hl b4 n4
      exact ⟨vacc, e4, by rw [ra.length]; exact Nat.lt_of_lt_of_le m.1 (by decide), B4, α4, vacc ++ [v], acc ++ [d4], w1, b4, n4, upd_same, (ra.append (.cons r4 .nil)).mono w2, m.2⟩
  · have ei : i = ds.length := by omega
    subst ei
    rw [List.drop_length] at hf
    refine .inl ⟨stop, ?_⟩
    exact q l (.list acc) B' H' α' (A.trans S.bs (A'.hidC hl bl (.own ⟨vacc, el, rl⟩))) nl hf.2
end
section
variable {c : C0} {N : List Str} {sc scope : Scope} {elt tg iter : Expr} {ifs : List Expr} {pos : Pos} {own : List (Str × Nat)} {js : List Nat} {mi : MI} {mg : D → En → Option En} {mt : MT} {me : ME}
theorem jf_lcX {oc : List Str} (nd : N.Nodup) (hi : JI c N sc tg iter mi) (ok : BlkOk N sc scope own) (hg : JTg (c.inO oc) N (relS scope sc) tg js mg) (ht : JTs (c.inO oc) N (relS scope sc) ifs mt) (he : JE (c.inO oc) N (relS scope sc) elt me)
    (hj : (js.all fun j => (own.map (·.2)).contains j) = true := by rfl) (hc : c.cm = true := by rfl) (htop : c.top = true := by rfl) (ho : (oc.all fun x => scope.names.lookup x == some .cell) = true := by rfl) (hs : ∀ env x, foldedSetIterable iter env x = pure x := by intros; rfl) : JF c N sc (.ListComp elt [⟨tg, iter, ifs, 0⟩] scope pos) (lcXK (own.map (·.2)) mi mg mt me) := by
  obtain ⟨wi, a1, a2⟩ := hi
  obtain ⟨g, b1, b2⟩ := hg
  obtain ⟨tt, c1, c2⟩ := ht
  obtain ⟨te, d1, d2⟩ := he
  refine ⟨fun W σ H Q => tLc (wi W) g (tt fun cls d _ H' => W cls d σ H') (te fun cls d _ H' => W cls d σ H') (own.map (·.2)) σ H Q, fun X W I T => ?_, fun W => sf_lcX (a2 W) b2 (fun j h => ?_) c2 d2⟩
  · exact hz_pe_lc T (I.fs htop).1 (I.fs htop).2 (I.calm hc) (by rw [I.N]; exact nd) (a1 X W I T) (by rw [I.N, I.sc]; exact ok) (fun s H C cl fp xe po => b1 _ ((I.blk ho s H C cl fp).tr rfl po)) (fun s H C cl fp xe W' tk po => c1 _ _ ((I.blk ho s H C cl fp).tr rfl po) tk) (fun s H C cl fp xe W' tk po => d1 _ _ ((I.blk ho s H C cl fp).tr rfl po) tk) (hs _)
  · have := (List.all_eq_true.mp hj) j h
    simpa using this
end
section
variable {α : AH} {ρ : En} {Q : QD} {E : QX} {mi : MI} {mt : MT} {ma : ME} {tg : D → En → Option En} {G : AH → Prop}
theorem w_lcX {vs : List Nat} (h : mi ρ α (fun ds G α1 => lcDX vs tg mt ma G ρ Q E ds [] α1) E) : lcXK vs mi tg mt ma ρ α Q E := h
theorem lc_invX {vs : List Nat} {ds acc : List D} (I : List D → List D → AH → Prop) (h0 : I ds acc α) (hG : ∀ ds acc α, I ds acc α → G α) (h2 : ∀ acc α, I [] acc α → Q (.list acc) α)
    (h1 : ∀ d ds acc α, I (d :: ds) acc α → ∀ X : List D → AH → Prop, (∀ acc α, I ds acc α → X acc α) → oq (tg d (wipeA ρ vs)) fun ρ1 => mt ρ1 α (fun b α1 => it2 b (ma ρ1 α1 (fun y α2 => acc.length < 100000 ∧ X (acc ++ [y]) α2) E) (X acc α1)) E) : lcDX vs tg mt ma G ρ Q E ds acc α := by
  induction ds generalizing acc α with
  | nil => exact ⟨hG _ _ _ h0, h2 _ _ h0⟩
  | cons d ds ih =>
    refine ⟨hG _ _ _ h0, ?_⟩
    have := h1 d ds acc α h0 (fun acc α => lcDX vs tg mt ma G ρ Q E ds acc α) fun acc α q => ih q
    simp only [it2_eq] at this
    exact this
end
end Hz
namespace K47
open PySem L2 Hz
def isX (C_Entry C_Reader C_FolderkinError C_InvalidBlock C_InvalidBytes gX : Nat) : Nat → Bool := fun C => decide (C = C_InvalidBlock) || decide (C = C_InvalidBytes)
def exm_InvalidBytes (C_Entry C_Reader C_FolderkinError C_InvalidBlock C_InvalidBytes gX : Nat) : Nat → Option Bool := fun C => if C = C_InvalidBlock then some false else if C = C_InvalidBytes then some true else none
def xi_FolderkinError (C_Entry C_Reader C_FolderkinError C_InvalidBlock C_InvalidBytes gX : Nat) : Nat → Option Bool := fun C => if C = C_InvalidBlock then some true else if C = C_InvalidBytes then some true else none
def xi_ValueError (C_Entry C_Reader C_FolderkinError C_InvalidBlock C_InvalidBytes gX : Nat) : Nat → Option Bool := fun C => if C = C_InvalidBlock then some true else if C = C_InvalidBytes then some true else none
def m_block_number (C_Entry C_Reader C_FolderkinError C_InvalidBlock C_InvalidBytes gX : Nat) : MS := seqS (asgS (kC (.int 1)) (setv 1))
  (seqS (forS (listK (kV 0)) (setv 2) (asgS (bop dAdd (bop dMul (kV 1) (kC (.int 256))) (kV 2)) (setv 1)))
  (retS (kV 1)))
def f_block_number (C_Entry C_Reader C_FolderkinError C_InvalidBlock C_InvalidBytes gX : Nat) : Fm := runP 1 3 (m_block_number C_Entry C_Reader C_FolderkinError C_InvalidBlock C_InvalidBytes gX)
def m_block_size (C_Entry C_Reader C_FolderkinError C_InvalidBlock C_InvalidBytes gX : Nat) : MS := seqS (forS (rangeK2 (consK (kC (.int 1)) (consK (bop dAdd (kC (.int 4)) (kC (.int 1))) (nilK)))) (setv 1) (ifS (tst (bop dEq (bop dShr (kV 0) (bop dMul (kC (.int 8)) (kV 1))) (kC (.int 1)))) (retS (kV 1)) (nextS)))
  (retS (kC (.int 0)))
def f_block_size (C_Entry C_Reader C_FolderkinError C_InvalidBlock C_InvalidBytes gX : Nat) : Fm := runP 1 2 (m_block_size C_Entry C_Reader C_FolderkinError C_InvalidBlock C_InvalidBytes gX)
def m_is_block (C_Entry C_Reader C_FolderkinError C_InvalidBlock C_InvalidBytes gX : Nat) : MS := retS (bop dGt (callN 1 (f_block_size C_Entry C_Reader C_FolderkinError C_InvalidBlock C_InvalidBytes gX) [] (consK (kV 0) (nilK))) (kC (.int 0)))
def f_is_block (C_Entry C_Reader C_FolderkinError C_InvalidBlock C_InvalidBytes gX : Nat) : Fm := runP 1 1 (m_is_block C_Entry C_Reader C_FolderkinError C_InvalidBlock C_InvalidBytes gX)
def m_block_bytes (C_Entry C_Reader C_FolderkinError C_InvalidBlock C_InvalidBytes gX : Nat) : MS := seqS (ifS (notK (tst (callN 1 (f_is_block C_Entry C_Reader C_FolderkinError C_InvalidBlock C_InvalidBytes gX) [] (consK (kV 0) (nilK))))) (raiseS C_InvalidBlock (kC (.int 0))) (nextS))
  (seqS (asgS (newK (lstK (nilK))) (setv 1))
  (seqS (whileS (tst (bop dGt (kV 0) (kC (.int 1)))) (seqS (dropS (mutK muInsert (kV 1) (consK (kC (.int 0)) (consK (bop dMod (kV 0) (kC (.int 256))) (nilK)))))
  (asgS (bop dDiv (kV 0) (kC (.int 256))) (setv 0))))
  (retS (frzK (kV 1)))))
def f_block_bytes (C_Entry C_Reader C_FolderkinError C_InvalidBlock C_InvalidBytes gX : Nat) : Fm := runP 1 2 (m_block_bytes C_Entry C_Reader C_FolderkinError C_InvalidBlock C_InvalidBytes gX)
def m_Entry_init (C_Entry C_Reader C_FolderkinError C_InvalidBlock C_InvalidBytes gX : Nat) : MS := seqS (setaS C_Entry "name" (kV 1) (kV 0))
  (seqS (setaS C_Entry "vector" (kV 2) (kV 0))
  (seqS (setaS C_Entry "height" (kV 3) (kV 0))
  (seqS (setaS C_Entry "maker" (kV 4) (kV 0))
  (seqS (setaS C_Entry "deleted" (kV 5) (kV 0))
  (seqS (setaS C_Entry "time" (kV 6) (kV 0))
  (setaS C_Entry "blocks" (kV 7) (kV 0)))))))
def f_Entry_init (C_Entry C_Reader C_FolderkinError C_InvalidBlock C_InvalidBytes gX : Nat) : Fm := runF 8 8 (m_Entry_init C_Entry C_Reader C_FolderkinError C_InvalidBlock C_InvalidBytes gX)
def m_character_of (C_Entry C_Reader C_FolderkinError C_InvalidBlock C_InvalidBytes gX : Nat) : MS := seqS (asgS (bop dSub (kV 0) (kC (.int 45))) (setv 1))
  (seqS (ifS (orK (tst (bop dLt (kV 1) (kC (.int 0)))) (orK (tst (bop dGe (kV 1) (b1K dLen (kC (.str "-./0123456789:;<=>?\x40ABCDEFGHIJKLMNOPQRSTUVWXYZ[\\]^_`abcdefghijklmnopqrstuvwxyz{|}~"))))) (tst (bop dNotIn (bop dIx (kC (.str "-./0123456789:;<=>?\x40ABCDEFGHIJKLMNOPQRSTUVWXYZ[\\]^_`abcdefghijklmnopqrstuvwxyz{|}~")) (kV 1)) (kC (.str "-./0123456789ABCDEFGHIJKLMNOPQRSTUVWXYZ_abcdefghijklmnopqrstuvwxyz~")))))) (retS (kC .none)) (nextS))
  (retS (bop dIx (kC (.str "-./0123456789:;<=>?\x40ABCDEFGHIJKLMNOPQRSTUVWXYZ[\\]^_`abcdefghijklmnopqrstuvwxyz{|}~")) (kV 1))))
def f_character_of (C_Entry C_Reader C_FolderkinError C_InvalidBlock C_InvalidBytes gX : Nat) : Fm := runP 1 2 (m_character_of C_Entry C_Reader C_FolderkinError C_InvalidBlock C_InvalidBytes gX)
def m_number_bytes (C_Entry C_Reader C_FolderkinError C_InvalidBlock C_InvalidBytes gX : Nat) : MS := retS (lstK (consK (bop dShr (kV 0) (kC (.int 24))) (consK (bop dAnd (bop dShr (kV 0) (kC (.int 16))) (kC (.int 255))) (consK (bop dAnd (bop dShr (kV 0) (kC (.int 8))) (kC (.int 255))) (consK (bop dAnd (kV 0) (kC (.int 255))) (nilK))))))
def f_number_bytes (C_Entry C_Reader C_FolderkinError C_InvalidBlock C_InvalidBytes gX : Nat) : Fm := runP 1 1 (m_number_bytes C_Entry C_Reader C_FolderkinError C_InvalidBlock C_InvalidBytes gX)
def m_name_bytes (C_Entry C_Reader C_FolderkinError C_InvalidBlock C_InvalidBytes gX : Nat) : MS := retS (bop dAdd (lstK (consK (b1K dLen (kV 0)) (nilK))) (lcK [1] (strK (kV 0)) (setv 1) (yesK) (b1K dOrd (kV 1))))
def f_name_bytes (C_Entry C_Reader C_FolderkinError C_InvalidBlock C_InvalidBytes gX : Nat) : Fm := runP 1 2 (m_name_bytes C_Entry C_Reader C_FolderkinError C_InvalidBlock C_InvalidBytes gX)
def m_vector_bytes (C_Entry C_Reader C_FolderkinError C_InvalidBlock C_InvalidBytes gX : Nat) : MS := seqS (asgS (newK (lstK (consK (b1K dLen (kV 0)) (nilK)))) (setv 1))
  (seqS (forS (tupleK (kV 0)) (tgTup 2 (tgCons (setv 2) (tgCons (setv 3) (tgNil)))) (seqS (dropS (mutK muAppend (kV 1) (consK (kV 2) (nilK))))
  (dropS (extK (kV 1) (callN 1 (f_number_bytes C_Entry C_Reader C_FolderkinError C_InvalidBlock C_InvalidBytes gX) [] (consK (kV 3) (nilK)))))))
  (retS (frzK (kV 1))))
def f_vector_bytes (C_Entry C_Reader C_FolderkinError C_InvalidBlock C_InvalidBytes gX : Nat) : Fm := runP 1 4 (m_vector_bytes C_Entry C_Reader C_FolderkinError C_InvalidBlock C_InvalidBytes gX)
def m_data_bytes (C_Entry C_Reader C_FolderkinError C_InvalidBlock C_InvalidBytes gX : Nat) : MS := retS (bop dAdd (lstK (consK (b1K dLen (kV 0)) (nilK))) (b1K dList (kV 0)))
def f_data_bytes (C_Entry C_Reader C_FolderkinError C_InvalidBlock C_InvalidBytes gX : Nat) : Fm := runP 1 1 (m_data_bytes C_Entry C_Reader C_FolderkinError C_InvalidBlock C_InvalidBytes gX)
def m_entry_bytes (C_Entry C_Reader C_FolderkinError C_InvalidBlock C_InvalidBytes gX : Nat) : MS := seqS (asgS (newK (bop dCat (bop dAdd (callN 1 (f_number_bytes C_Entry C_Reader C_FolderkinError C_InvalidBlock C_InvalidBytes gX) [] (consK (kV 1) (nilK))) (callN 1 (f_name_bytes C_Entry C_Reader C_FolderkinError C_InvalidBlock C_InvalidBytes gX) [] (consK (fldK C_Entry "name" (kV 0)) (nilK)))) (callN 1 (f_vector_bytes C_Entry C_Reader C_FolderkinError C_InvalidBlock C_InvalidBytes gX) [] (consK (fldK C_Entry "vector" (kV 0)) (nilK))))) (setv 2))
  (seqS (dropS (extK (kV 2) (bop dAdd (bop dAdd (callN 1 (f_number_bytes C_Entry C_Reader C_FolderkinError C_InvalidBlock C_InvalidBytes gX) [] (consK (fldK C_Entry "height" (kV 0)) (nilK))) (lstK (consK (bop dIx (fldK C_Entry "maker" (kV 0)) (kC (.int 0))) (nilK)))) (callN 1 (f_number_bytes C_Entry C_Reader C_FolderkinError C_InvalidBlock C_InvalidBytes gX) [] (consK (bop dIx (fldK C_Entry "maker" (kV 0)) (kC (.int 1))) (nilK))))))
  (seqS (dropS (extK (kV 2) (bop dAdd (bop dAdd (lstK (consK (b1K dInt (fldK C_Entry "deleted" (kV 0))) (nilK))) (callN 1 (f_number_bytes C_Entry C_Reader C_FolderkinError C_InvalidBlock C_InvalidBytes gX) [] (consK (fldK C_Entry "time" (kV 0)) (nilK)))) (lstK (consK (b1K dLen (fldK C_Entry "blocks" (kV 0))) (nilK))))))
  (seqS (forS (tupleK (fldK C_Entry "blocks" (kV 0))) (setv 3) (dropS (extK (kV 2) (callN 1 (f_data_bytes C_Entry C_Reader C_FolderkinError C_InvalidBlock C_InvalidBytes gX) [] (consK (callN 1 (f_block_bytes C_Entry C_Reader C_FolderkinError C_InvalidBlock C_InvalidBytes gX) [] (consK (kV 3) (nilK))) (nilK))))))
  (retS (frzK (kV 2))))))
def f_entry_bytes (C_Entry C_Reader C_FolderkinError C_InvalidBlock C_InvalidBytes gX : Nat) : Fm := runP 2 4 (m_entry_bytes C_Entry C_Reader C_FolderkinError C_InvalidBlock C_InvalidBytes gX)
def m_Reader_init (C_Entry C_Reader C_FolderkinError C_InvalidBlock C_InvalidBytes gX : Nat) : MS := seqS (setaS C_Reader "data" (kV 1) (kV 0))
  (setaS C_Reader "at" (kV 2) (kV 0))
def f_Reader_init (C_Entry C_Reader C_FolderkinError C_InvalidBlock C_InvalidBytes gX : Nat) : Fm := runF 3 3 (m_Reader_init C_Entry C_Reader C_FolderkinError C_InvalidBlock C_InvalidBytes gX)
def m_Reader_byte (C_Entry C_Reader C_FolderkinError C_InvalidBlock C_InvalidBytes gX : Nat) : MS := seqS (ifS (orK (tst (bop dGe (fldK C_Reader "at" (kV 0)) (b1K dLen (fldK C_Reader "data" (kV 0))))) (notK (tst (chainK dLe dLe (kV 1) (bop dIx (fldK C_Reader "data" (kV 0)) (fldK C_Reader "at" (kV 0))) (kV 2))))) (raiseS C_InvalidBytes (fldK C_Reader "at" (kV 0))) (nextS))
  (seqS (augaS C_Reader "at" dIAdd (kV 0) (kC (.int 1)))
  (retS (bop dIx (fldK C_Reader "data" (kV 0)) (bop dSub (fldK C_Reader "at" (kV 0)) (kC (.int 1))))))
def f_Reader_byte (C_Entry C_Reader C_FolderkinError C_InvalidBlock C_InvalidBytes gX : Nat) : Fm := runP 3 3 (m_Reader_byte C_Entry C_Reader C_FolderkinError C_InvalidBlock C_InvalidBytes gX)
def m_Reader_number (C_Entry C_Reader C_FolderkinError C_InvalidBlock C_InvalidBytes gX : Nat) : MS := seqS (asgS (methK C_Reader "byte" 0 (f_Reader_byte C_Entry C_Reader C_FolderkinError C_InvalidBlock C_InvalidBytes gX) [.int 0, .int 255] (kV 0) nilK) (setv 2))
  (seqS (asgS (bop dAdd (bop dMul (kV 2) (kC (.int 256))) (methK C_Reader "byte" 0 (f_Reader_byte C_Entry C_Reader C_FolderkinError C_InvalidBlock C_InvalidBytes gX) [.int 0, .int 255] (kV 0) nilK)) (setv 2))
  (seqS (asgS (bop dAdd (bop dMul (kV 2) (kC (.int 256))) (methK C_Reader "byte" 0 (f_Reader_byte C_Entry C_Reader C_FolderkinError C_InvalidBlock C_InvalidBytes gX) [.int 0, .int 255] (kV 0) nilK)) (setv 2))
  (retS (bop dAdd (bop dMul (kV 2) (kC (.int 256))) (methK C_Reader "byte" 1 (f_Reader_byte C_Entry C_Reader C_FolderkinError C_InvalidBlock C_InvalidBytes gX) [.int 255] (kV 0) (consK (ifK (tst (bop dEq (kV 2) (kC (.int 0)))) (kV 1) (kC (.int 0))) (nilK)))))))
def f_Reader_number (C_Entry C_Reader C_FolderkinError C_InvalidBlock C_InvalidBytes gX : Nat) : Fm := runP 2 3 (m_Reader_number C_Entry C_Reader C_FolderkinError C_InvalidBlock C_InvalidBytes gX)
def m_Reader_device (C_Entry C_Reader C_FolderkinError C_InvalidBlock C_InvalidBytes gX : Nat) : MS := retS (methK C_Reader "byte" 2 (f_Reader_byte C_Entry C_Reader C_FolderkinError C_InvalidBlock C_InvalidBytes gX) [] (kV 0) (consK (kC (.int 1)) (consK (kC (.int 9)) (nilK))))
def f_Reader_device (C_Entry C_Reader C_FolderkinError C_InvalidBlock C_InvalidBytes gX : Nat) : Fm := runP 1 1 (m_Reader_device C_Entry C_Reader C_FolderkinError C_InvalidBlock C_InvalidBytes gX)
def m_Reader_name (C_Entry C_Reader C_FolderkinError C_InvalidBlock C_InvalidBytes gX : Nat) : MS := seqS (asgS (kC (.str "")) (setv 1))
  (seqS (forS (rangeK1 (consK (methK C_Reader "byte" 2 (f_Reader_byte C_Entry C_Reader C_FolderkinError C_InvalidBlock C_InvalidBytes gX) [] (kV 0) (consK (kC (.int 1)) (consK (kC (.int 40)) (nilK)))) (nilK))) (setv 2) (seqS (asgS (callN 1 (f_character_of C_Entry C_Reader C_FolderkinError C_InvalidBlock C_InvalidBytes gX) [] (consK (methK C_Reader "byte" 0 (f_Reader_byte C_Entry C_Reader C_FolderkinError C_InvalidBlock C_InvalidBytes gX) [.int 0, .int 255] (kV 0) nilK) (nilK))) (setv 3))
  (seqS (ifS (tst (bop dIs (kV 3) (kC .none))) (raiseS C_InvalidBytes (bop dSub (fldK C_Reader "at" (kV 0)) (kC (.int 1)))) (nextS))
  (augS dIAdd 1 (kV 3)))))
  (retS (kV 1)))
def f_Reader_name (C_Entry C_Reader C_FolderkinError C_InvalidBlock C_InvalidBytes gX : Nat) : Fm := runP 1 4 (m_Reader_name C_Entry C_Reader C_FolderkinError C_InvalidBlock C_InvalidBytes gX)
def m_Reader_vector (C_Entry C_Reader C_FolderkinError C_InvalidBlock C_InvalidBytes gX : Nat) : MS := seqS (asgS (newK (lstK (nilK))) (setv 1))
  (seqS (asgS (kC (.int 0)) (setv 2))
  (seqS (forS (rangeK3 (consK (bop dSub (methK C_Reader "byte" 2 (f_Reader_byte C_Entry C_Reader C_FolderkinError C_InvalidBlock C_InvalidBytes gX) [] (kV 0) (consK (kC (.int 1)) (consK (kC (.int 9)) (nilK)))) (kC (.int 1))) (consK (negK (kC (.int 1))) (consK (negK (kC (.int 1))) (nilK))))) (setv 3) (seqS (asgS (methK C_Reader "byte" 2 (f_Reader_byte C_Entry C_Reader C_FolderkinError C_InvalidBlock C_InvalidBytes gX) [] (kV 0) (consK (bop dAdd (kV 2) (kC (.int 1))) (consK (bop dSub (kC (.int 9)) (kV 3)) (nilK)))) (setv 2))
  (dropS (mutK muAppend (kV 1) (consK (tupK (consK (kV 2) (consK (methK C_Reader "number" 1 (f_Reader_number C_Entry C_Reader C_FolderkinError C_InvalidBlock C_InvalidBytes gX) [] (kV 0) (consK (kC (.int 1)) (nilK))) (nilK)))) (nilK))))))
  (retS (b1K dTuple (kV 1)))))
def f_Reader_vector (C_Entry C_Reader C_FolderkinError C_InvalidBlock C_InvalidBytes gX : Nat) : Fm := runP 1 4 (m_Reader_vector C_Entry C_Reader C_FolderkinError C_InvalidBlock C_InvalidBytes gX)
def m_Reader_row (C_Entry C_Reader C_FolderkinError C_InvalidBlock C_InvalidBytes gX : Nat) : MS := retS (lcXK [2] (rangeK1 (consK (methK C_Reader "byte" 2 (f_Reader_byte C_Entry C_Reader C_FolderkinError C_InvalidBlock C_InvalidBytes gX) [] (kV 0) (consK (kV 1) (consK (kC (.int 4)) (nilK)))) (nilK))) (setv 2) (yesK) (methK C_Reader "byte" 0 (f_Reader_byte C_Entry C_Reader C_FolderkinError C_InvalidBlock C_InvalidBytes gX) [.int 0, .int 255] (kV 0) nilK))
def f_Reader_row (C_Entry C_Reader C_FolderkinError C_InvalidBlock C_InvalidBytes gX : Nat) : Fm := runP 2 3 (m_Reader_row C_Entry C_Reader C_FolderkinError C_InvalidBlock C_InvalidBytes gX)
def m_Reader_block (C_Entry C_Reader C_FolderkinError C_InvalidBlock C_InvalidBytes gX : Nat) : MS := retS (callN 1 (f_block_number C_Entry C_Reader C_FolderkinError C_InvalidBlock C_InvalidBytes gX) [] (consK (methK C_Reader "row" 1 (f_Reader_row C_Entry C_Reader C_FolderkinError C_InvalidBlock C_InvalidBytes gX) [] (kV 0) (consK (kV 1) (nilK))) (nilK)))
def f_Reader_block (C_Entry C_Reader C_FolderkinError C_InvalidBlock C_InvalidBytes gX : Nat) : Fm := runP 2 2 (m_Reader_block C_Entry C_Reader C_FolderkinError C_InvalidBlock C_InvalidBytes gX)
def m_Reader_entry (C_Entry C_Reader C_FolderkinError C_InvalidBlock C_InvalidBytes gX : Nat) : MS := seqS (asgS (methK C_Reader "number" 1 (f_Reader_number C_Entry C_Reader C_FolderkinError C_InvalidBlock C_InvalidBytes gX) [] (kV 0) (consK (kC (.int 1)) (nilK))) (setv 1))
  (seqS (asgS (methK C_Reader "name" 0 (f_Reader_name C_Entry C_Reader C_FolderkinError C_InvalidBlock C_InvalidBytes gX) [] (kV 0) nilK) (setv 2))
  (seqS (asgS (methK C_Reader "vector" 0 (f_Reader_vector C_Entry C_Reader C_FolderkinError C_InvalidBlock C_InvalidBytes gX) [] (kV 0) nilK) (setv 3))
  (seqS (asgS (methK C_Reader "number" 1 (f_Reader_number C_Entry C_Reader C_FolderkinError C_InvalidBlock C_InvalidBytes gX) [] (kV 0) (consK (kC (.int 1)) (nilK))) (setv 4))
  (seqS (asgS (tupK (consK (methK C_Reader "device" 0 (f_Reader_device C_Entry C_Reader C_FolderkinError C_InvalidBlock C_InvalidBytes gX) [] (kV 0) nilK) (consK (methK C_Reader "number" 1 (f_Reader_number C_Entry C_Reader C_FolderkinError C_InvalidBlock C_InvalidBytes gX) [] (kV 0) (consK (kC (.int 1)) (nilK))) (nilK)))) (setv 5))
  (seqS (asgS (bop dEq (methK C_Reader "byte" 2 (f_Reader_byte C_Entry C_Reader C_FolderkinError C_InvalidBlock C_InvalidBytes gX) [] (kV 0) (consK (kC (.int 0)) (consK (kC (.int 1)) (nilK)))) (kC (.int 1))) (setv 6))
  (seqS (asgS (methK C_Reader "number" 0 (f_Reader_number C_Entry C_Reader C_FolderkinError C_InvalidBlock C_InvalidBytes gX) [.int 0] (kV 0) nilK) (setv 7))
  (seqS (asgS (newK (lstK (nilK))) (setv 8))
  (seqS (forS (rangeK3 (consK (bop dSub (methK C_Reader "byte" 2 (f_Reader_byte C_Entry C_Reader C_FolderkinError C_InvalidBlock C_InvalidBytes gX) [] (kV 0) (consK (kC (.int 0)) (consK (ifK (tst (kV 6)) (kC (.int 0)) (kC (.int 255))) (nilK)))) (kC (.int 1))) (consK (negK (kC (.int 1))) (consK (negK (kC (.int 1))) (nilK))))) (setv 9) (dropS (mutK muAppend (kV 8) (consK (methK C_Reader "block" 1 (f_Reader_block C_Entry C_Reader C_FolderkinError C_InvalidBlock C_InvalidBytes gX) [] (kV 0) (consK (ifK (tst (bop dEq (kV 9) (kC (.int 0)))) (kC (.int 1)) (kC (.int 4))) (nilK))) (nilK)))))
  (retS (tupK (consK (frzK (mkK C_Entry 7 (f_Entry_init C_Entry C_Reader C_FolderkinError C_InvalidBlock C_InvalidBytes gX) [] (consK (kV 2) (consK (kV 3) (consK (kV 4) (consK (kV 5) (consK (kV 6) (consK (kV 7) (consK (b1K dTuple (kV 8)) (nilK)))))))))) (consK (kV 1) (nilK)))))))))))))
def f_Reader_entry (C_Entry C_Reader C_FolderkinError C_InvalidBlock C_InvalidBytes gX : Nat) : Fm := runP 1 10 (m_Reader_entry C_Entry C_Reader C_FolderkinError C_InvalidBlock C_InvalidBytes gX)
def m_law_draw (C_Entry C_Reader C_FolderkinError C_InvalidBlock C_InvalidBytes gX : Nat) : MS := seqS (ifS (tst (bop dEq (bop dIx (kV 0) (kC (.int 1))) (kC (.int 0)))) (seqS (asgS (bop dIx (kV 0) (kC (.int 0))) (setv 4))
  (seqS (asgS (kC (.int 0)) (setv 5))
  (seqS (ifS (tst (bop dGt (b1K dLen (kV 1)) (kC (.int 0)))) (asgS (b1K dInt (bop dIx (kV 1) (bop dMod (kV 4) (b1K dLen (kV 1))))) (setv 5)) (nextS))
  (seqS (ifS (tst (bop dLt (kV 5) (kC (.int 0)))) (asgS (bop dSub (kC (.int 1)) (bop dMul (kC (.int 2)) (kV 5))) (setv 5)) (nextS))
  (seqS (ifS (andK (tst (bop dGe (kV 5) (bop dPow (kC (.int 10)) (kC (.int 18))))) (tst (bop dLt (kV 4) (b1K dLen (kV 1))))) (setiS (kV 5) (kV 0) (kC (.int 1))) (seqS (asgS (bop dMod (b1K dInt (bop dAdd (bop dAdd (bop dMul (kV 5) (kC (.int 69069))) (bop dMul (kV 4) (kC (.int 40503)))) (kC (.int 12345)))) (kC (.int 2147483629))) (setv 6))
  (setiS (bop dAdd (kC (.int 1)) (bop dMod (b1K dInt (bop dAdd (bop dMul (kV 6) (kC (.int 6364136223846793005))) (bop dMul (kV 4) (kC (.int 1442695040888963407))))) (kC (.int 2305843009213693951)))) (kV 0) (kC (.int 1)))))
  (setiS (bop dAdd (kV 4) (kC (.int 1))) (kV 0) (kC (.int 0)))))))) (nextS))
  (seqS (asgS (bop dMod (b1K dInt (bop dIx (kV 0) (kC (.int 1)))) (kV 2)) (setv 3))
  (seqS (setiS (bop dDiv (bop dIx (kV 0) (kC (.int 1))) (kV 2)) (kV 0) (kC (.int 1)))
  (retS (kV 3))))
def f_law_draw (C_Entry C_Reader C_FolderkinError C_InvalidBlock C_InvalidBytes gX : Nat) : Fm := runP 3 7 (m_law_draw C_Entry C_Reader C_FolderkinError C_InvalidBlock C_InvalidBytes gX)
def m_law_all (C_Entry C_Reader C_FolderkinError C_InvalidBlock C_InvalidBytes gX : Nat) : MS := retS (kC (.str "-./0123456789ABCDEFGHIJKLMNOPQRSTUVWXYZ_abcdefghijklmnopqrstuvwxyz~"))
def f_law_all (C_Entry C_Reader C_FolderkinError C_InvalidBlock C_InvalidBytes gX : Nat) : Fm := runP 0 0 (m_law_all C_Entry C_Reader C_FolderkinError C_InvalidBlock C_InvalidBytes gX)
def m_law_count (C_Entry C_Reader C_FolderkinError C_InvalidBlock C_InvalidBytes gX : Nat) : MS := seqS (asgS (callN 3 (f_law_draw C_Entry C_Reader C_FolderkinError C_InvalidBlock C_InvalidBytes gX) [] (consK (kV 0) (consK (kV 1) (consK (kC (.int 4)) (nilK))))) (setv 3))
  (seqS (ifS (tst (bop dEq (kV 3) (kC (.int 0)))) (retS (bop dIx (lstK (consK (kC (.int 1)) (consK (kC (.int 255)) (consK (kC (.int 256)) (consK (kC (.int 65535)) (consK (kC (.int 65536)) (consK (kC (.int 16777216)) (consK (kC (.int 4294967295)) (consK (kV 2) (nilK)))))))))) (callN 3 (f_law_draw C_Entry C_Reader C_FolderkinError C_InvalidBlock C_InvalidBytes gX) [] (consK (kV 0) (consK (kV 1) (consK (kC (.int 8)) (nilK))))))) (nextS))
  (seqS (ifS (tst (bop dEq (kV 3) (kC (.int 1)))) (retS (bop dAdd (kV 2) (callN 3 (f_law_draw C_Entry C_Reader C_FolderkinError C_InvalidBlock C_InvalidBytes gX) [] (consK (kV 0) (consK (kV 1) (consK (bop dSub (kC (.int 4294967296)) (kV 2)) (nilK))))))) (nextS))
  (retS (bop dAdd (kV 2) (callN 3 (f_law_draw C_Entry C_Reader C_FolderkinError C_InvalidBlock C_InvalidBytes gX) [] (consK (kV 0) (consK (kV 1) (consK (kC (.int 20)) (nilK)))))))))
def f_law_count (C_Entry C_Reader C_FolderkinError C_InvalidBlock C_InvalidBytes gX : Nat) : Fm := runP 3 4 (m_law_count C_Entry C_Reader C_FolderkinError C_InvalidBlock C_InvalidBytes gX)
def m_law_name (C_Entry C_Reader C_FolderkinError C_InvalidBlock C_InvalidBytes gX : Nat) : MS := seqS (asgS (bop dAdd (kC (.int 1)) (callN 3 (f_law_draw C_Entry C_Reader C_FolderkinError C_InvalidBlock C_InvalidBytes gX) [] (consK (kV 0) (consK (kV 1) (consK (kC (.int 5)) (nilK)))))) (setv 2))
  (seqS (ifS (tst (bop dEq (callN 3 (f_law_draw C_Entry C_Reader C_FolderkinError C_InvalidBlock C_InvalidBytes gX) [] (consK (kV 0) (consK (kV 1) (consK (kC (.int 8)) (nilK))))) (kC (.int 0)))) (asgS (bop dSub (kC (.int 40)) (callN 3 (f_law_draw C_Entry C_Reader C_FolderkinError C_InvalidBlock C_InvalidBytes gX) [] (consK (kV 0) (consK (kV 1) (consK (kC (.int 3)) (nilK)))))) (setv 2)) (nextS))
  (retS (metK dJoin (kC (.str "")) (consK (lcK [3] (rangeK1 (consK (kV 2) (nilK))) (setv 3) (yesK) (bop dIx (callN 0 (f_law_all C_Entry C_Reader C_FolderkinError C_InvalidBlock C_InvalidBytes gX) [] nilK) (callN 3 (f_law_draw C_Entry C_Reader C_FolderkinError C_InvalidBlock C_InvalidBytes gX) [] (consK (kV 0) (consK (kV 1) (consK (kC (.int 67)) (nilK))))))) (nilK)))))
def f_law_name (C_Entry C_Reader C_FolderkinError C_InvalidBlock C_InvalidBytes gX : Nat) : Fm := runP 2 4 (m_law_name C_Entry C_Reader C_FolderkinError C_InvalidBlock C_InvalidBytes gX)
def m_law_vector (C_Entry C_Reader C_FolderkinError C_InvalidBlock C_InvalidBytes gX : Nat) : MS := seqS (asgS (bop dAdd (kC (.int 1)) (callN 3 (f_law_draw C_Entry C_Reader C_FolderkinError C_InvalidBlock C_InvalidBytes gX) [] (consK (kV 0) (consK (kV 1) (consK (kC (.int 511)) (nilK)))))) (setv 2))
  (seqS (ifS (tst (bop dGt (callN 3 (f_law_draw C_Entry C_Reader C_FolderkinError C_InvalidBlock C_InvalidBytes gX) [] (consK (kV 0) (consK (kV 1) (consK (kC (.int 3)) (nilK))))) (kC (.int 0)))) (asgS (bop dShl (kC (.int 1)) (callN 3 (f_law_draw C_Entry C_Reader C_FolderkinError C_InvalidBlock C_InvalidBytes gX) [] (consK (kV 0) (consK (kV 1) (consK (kC (.int 9)) (nilK)))))) (setv 2)) (nextS))
  (retS (b1K dTuple (lcK [3] (rangeK1 (consK (kC (.int 9)) (nilK))) (setv 3) (tst (bop dEq (bop dAnd (bop dShr (kV 2) (kV 3)) (kC (.int 1))) (kC (.int 1)))) (tupK (consK (bop dAdd (kV 3) (kC (.int 1))) (consK (callN 3 (f_law_count C_Entry C_Reader C_FolderkinError C_InvalidBlock C_InvalidBytes gX) [] (consK (kV 0) (consK (kV 1) (consK (kC (.int 1)) (nilK))))) (nilK))))))))
def f_law_vector (C_Entry C_Reader C_FolderkinError C_InvalidBlock C_InvalidBytes gX : Nat) : Fm := runP 2 4 (m_law_vector C_Entry C_Reader C_FolderkinError C_InvalidBlock C_InvalidBytes gX)
def m_law_block (C_Entry C_Reader C_FolderkinError C_InvalidBlock C_InvalidBytes gX : Nat) : MS := seqS (asgS (kC (.int 0)) (setv 1))
  (seqS (forS (listK (kV 0)) (setv 2) (asgS (bop dAdd (bop dMul (kC (.int 256)) (kV 1)) (kV 2)) (setv 1)))
  (retS (bop dAdd (kV 1) (bop dIx (lstK (consK (kC (.int 0)) (consK (kC (.int 256)) (consK (kC (.int 65536)) (consK (kC (.int 16777216)) (consK (kC (.int 4294967296)) (nilK))))))) (b1K dLen (kV 0))))))
def f_law_block (C_Entry C_Reader C_FolderkinError C_InvalidBlock C_InvalidBytes gX : Nat) : Fm := runP 1 3 (m_law_block C_Entry C_Reader C_FolderkinError C_InvalidBlock C_InvalidBytes gX)
def m_law_row (C_Entry C_Reader C_FolderkinError C_InvalidBlock C_InvalidBytes gX : Nat) : MS := retS (lcK [3] (rangeK1 (consK (kV 2) (nilK))) (setv 3) (yesK) (bop dIx (lstK (consK (kC (.int 0)) (consK (kC (.int 255)) (consK (callN 3 (f_law_draw C_Entry C_Reader C_FolderkinError C_InvalidBlock C_InvalidBytes gX) [] (consK (kV 0) (consK (kV 1) (consK (kC (.int 256)) (nilK))))) (nilK))))) (callN 3 (f_law_draw C_Entry C_Reader C_FolderkinError C_InvalidBlock C_InvalidBytes gX) [] (consK (kV 0) (consK (kV 1) (consK (kC (.int 3)) (nilK)))))))
def f_law_row (C_Entry C_Reader C_FolderkinError C_InvalidBlock C_InvalidBytes gX : Nat) : Fm := runP 3 4 (m_law_row C_Entry C_Reader C_FolderkinError C_InvalidBlock C_InvalidBytes gX)
def m_law_entry (C_Entry C_Reader C_FolderkinError C_InvalidBlock C_InvalidBytes gX : Nat) : MS := seqS (asgS (bop dEq (callN 3 (f_law_draw C_Entry C_Reader C_FolderkinError C_InvalidBlock C_InvalidBytes gX) [] (consK (kV 0) (consK (kV 1) (consK (kC (.int 4)) (nilK))))) (kC (.int 0))) (setv 2))
  (seqS (asgS (newK (lstK (nilK))) (setv 3))
  (seqS (ifS (notK (tst (kV 2))) (seqS (asgS (newK (lcK [6] (rangeK1 (consK (callN 3 (f_law_draw C_Entry C_Reader C_FolderkinError C_InvalidBlock C_InvalidBytes gX) [] (consK (kV 0) (consK (kV 1) (consK (kC (.int 3)) (nilK))))) (nilK))) (setv 6) (yesK) (callN 3 (f_law_row C_Entry C_Reader C_FolderkinError C_InvalidBlock C_InvalidBytes gX) [] (consK (kV 0) (consK (kV 1) (consK (kC (.int 4)) (nilK))))))) (setv 3))
  (seqS (ifS (tst (bop dEq (callN 3 (f_law_draw C_Entry C_Reader C_FolderkinError C_InvalidBlock C_InvalidBytes gX) [] (consK (kV 0) (consK (kV 1) (consK (kC (.int 12)) (nilK))))) (kC (.int 0)))) (asgS (newK (bop dCat (kV 3) (lcK [6] (rangeK1 (consK (bop dAdd (kC (.int 250)) (callN 3 (f_law_draw C_Entry C_Reader C_FolderkinError C_InvalidBlock C_InvalidBytes gX) [] (consK (kV 0) (consK (kV 1) (consK (kC (.int 3)) (nilK)))))) (nilK))) (setv 6) (yesK) (lstK (consK (bop dMod (kV 6) (kC (.int 256))) (consK (kC (.int 0)) (consK (kC (.int 7)) (consK (bop dSub (kC (.int 255)) (bop dMod (kV 6) (kC (.int 256)))) (nilK))))))))) (setv 3)) (nextS))
  (seqS (dropS (mutK muAppend (kV 3) (consK (callN 3 (f_law_row C_Entry C_Reader C_FolderkinError C_InvalidBlock C_InvalidBytes gX) [] (consK (kV 0) (consK (kV 1) (consK (bop dAdd (kC (.int 1)) (callN 3 (f_law_draw C_Entry C_Reader C_FolderkinError C_InvalidBlock C_InvalidBytes gX) [] (consK (kV 0) (consK (kV 1) (consK (kC (.int 4)) (nilK)))))) (nilK))))) (nilK))))
  (ifS (tst (bop dEq (callN 3 (f_law_draw C_Entry C_Reader C_FolderkinError C_InvalidBlock C_InvalidBytes gX) [] (consK (kV 0) (consK (kV 1) (consK (kC (.int 4)) (nilK))))) (kC (.int 0)))) (asgS (newK (lstK (nilK))) (setv 3)) (nextS))))) (nextS))
  (seqS (asgS (tupK (consK (bop dAdd (kC (.int 1)) (callN 3 (f_law_draw C_Entry C_Reader C_FolderkinError C_InvalidBlock C_InvalidBytes gX) [] (consK (kV 0) (consK (kV 1) (consK (kC (.int 9)) (nilK)))))) (consK (callN 3 (f_law_count C_Entry C_Reader C_FolderkinError C_InvalidBlock C_InvalidBytes gX) [] (consK (kV 0) (consK (kV 1) (consK (kC (.int 1)) (nilK))))) (nilK)))) (setv 4))
  (seqS (asgS (tupK (consK (callN 2 (f_law_name C_Entry C_Reader C_FolderkinError C_InvalidBlock C_InvalidBytes gX) [] (consK (kV 0) (consK (kV 1) (nilK)))) (consK (callN 2 (f_law_vector C_Entry C_Reader C_FolderkinError C_InvalidBlock C_InvalidBytes gX) [] (consK (kV 0) (consK (kV 1) (nilK)))) (consK (callN 3 (f_law_count C_Entry C_Reader C_FolderkinError C_InvalidBlock C_InvalidBytes gX) [] (consK (kV 0) (consK (kV 1) (consK (kC (.int 1)) (nilK))))) (consK (kV 4) (consK (kV 2) (nilK))))))) (setv 5))
  (seqS (asgS (bop dAdd (kV 5) (tupK (consK (callN 3 (f_law_count C_Entry C_Reader C_FolderkinError C_InvalidBlock C_InvalidBytes gX) [] (consK (kV 0) (consK (kV 1) (consK (kC (.int 0)) (nilK))))) (consK (b1K dTuple (lcK [7] (listK (kV 3)) (setv 7) (yesK) (callN 1 (f_law_block C_Entry C_Reader C_FolderkinError C_InvalidBlock C_InvalidBytes gX) [] (consK (kV 7) (nilK))))) (nilK))))) (setv 5))
  (retS (tupK (consK (kV 5) (consK (callN 3 (f_law_count C_Entry C_Reader C_FolderkinError C_InvalidBlock C_InvalidBytes gX) [] (consK (kV 0) (consK (kV 1) (consK (kC (.int 1)) (nilK))))) (nilK))))))))))
def f_law_entry (C_Entry C_Reader C_FolderkinError C_InvalidBlock C_InvalidBytes gX : Nat) : Fm := runP 2 8 (m_law_entry C_Entry C_Reader C_FolderkinError C_InvalidBlock C_InvalidBytes gX)
def m_law_four (C_Entry C_Reader C_FolderkinError C_InvalidBlock C_InvalidBytes gX : Nat) : MS := retS (lstK (consK (bop dDiv (kV 0) (kC (.int 16777216))) (consK (bop dMod (bop dDiv (kV 0) (kC (.int 65536))) (kC (.int 256))) (consK (bop dMod (bop dDiv (kV 0) (kC (.int 256))) (kC (.int 256))) (consK (bop dMod (kV 0) (kC (.int 256))) (nilK))))))
def f_law_four (C_Entry C_Reader C_FolderkinError C_InvalidBlock C_InvalidBytes gX : Nat) : Fm := runP 1 1 (m_law_four C_Entry C_Reader C_FolderkinError C_InvalidBlock C_InvalidBytes gX)
def m_law_name_written (C_Entry C_Reader C_FolderkinError C_InvalidBlock C_InvalidBytes gX : Nat) : MS := retS (bop dAdd (lstK (consK (b1K dLen (kV 0)) (nilK))) (lcK [1] (strK (kV 0)) (setv 1) (yesK) (b1K dOrd (kV 1))))
def f_law_name_written (C_Entry C_Reader C_FolderkinError C_InvalidBlock C_InvalidBytes gX : Nat) : Fm := runP 1 2 (m_law_name_written C_Entry C_Reader C_FolderkinError C_InvalidBlock C_InvalidBytes gX)
def m_law_vector_written (C_Entry C_Reader C_FolderkinError C_InvalidBlock C_InvalidBytes gX : Nat) : MS := seqS (asgS (lstK (consK (b1K dLen (kV 0)) (nilK))) (setv 1))
  (seqS (forS (tupleK (kV 0)) (tgTup 2 (tgCons (setv 2) (tgCons (setv 3) (tgNil)))) (asgS (bop dAdd (bop dAdd (kV 1) (lstK (consK (kV 2) (nilK)))) (callN 1 (f_law_four C_Entry C_Reader C_FolderkinError C_InvalidBlock C_InvalidBytes gX) [] (consK (kV 3) (nilK)))) (setv 1)))
  (retS (kV 1)))
def f_law_vector_written (C_Entry C_Reader C_FolderkinError C_InvalidBlock C_InvalidBytes gX : Nat) : Fm := runP 1 4 (m_law_vector_written C_Entry C_Reader C_FolderkinError C_InvalidBlock C_InvalidBytes gX)
def m_law_block_written (C_Entry C_Reader C_FolderkinError C_InvalidBlock C_InvalidBytes gX : Nat) : MS := seqS (asgS (lstK (nilK)) (setv 1))
  (seqS (forS (rangeK1 (consK (kC (.int 4)) (nilK))) (setv 2) (ifS (tst (bop dGt (kV 0) (kC (.int 1)))) (seqS (asgS (bop dAdd (lstK (consK (bop dMod (b1K dInt (kV 0)) (kC (.int 256))) (nilK))) (kV 1)) (setv 1))
  (asgS (bop dDiv (kV 0) (kC (.int 256))) (setv 0))) (nextS)))
  (retS (bop dAdd (lstK (consK (b1K dLen (kV 1)) (nilK))) (kV 1))))
def f_law_block_written (C_Entry C_Reader C_FolderkinError C_InvalidBlock C_InvalidBytes gX : Nat) : Fm := runP 1 3 (m_law_block_written C_Entry C_Reader C_FolderkinError C_InvalidBlock C_InvalidBytes gX)
def m_law_entry_written (C_Entry C_Reader C_FolderkinError C_InvalidBlock C_InvalidBytes gX : Nat) : MS := seqS (asgS (kV 0) (tgTup 7 (tgCons (setv 4) (tgCons (setv 5) (tgCons (setv 6) (tgCons (setv 7) (tgCons (setv 8) (tgCons (setv 9) (tgCons (setv 10) (tgNil))))))))))
  (seqS (asgS (newK (bop dCat (bop dAdd (bop dAdd (callN 1 (f_law_four C_Entry C_Reader C_FolderkinError C_InvalidBlock C_InvalidBytes gX) [] (consK (kV 1) (nilK))) (callN 1 (f_law_name_written C_Entry C_Reader C_FolderkinError C_InvalidBlock C_InvalidBytes gX) [] (consK (kV 4) (nilK)))) (callN 1 (f_law_vector_written C_Entry C_Reader C_FolderkinError C_InvalidBlock C_InvalidBytes gX) [] (consK (kV 5) (nilK)))) (callN 1 (f_law_four C_Entry C_Reader C_FolderkinError C_InvalidBlock C_InvalidBytes gX) [] (consK (kV 6) (nilK))))) (setv 2))
  (seqS (asgS (newK (bop dCat (bop dAdd (bop dAdd (bop dAdd (bop dAdd (kV 2) (lstK (consK (bop dIx (kV 7) (kC (.int 0))) (nilK)))) (callN 1 (f_law_four C_Entry C_Reader C_FolderkinError C_InvalidBlock C_InvalidBytes gX) [] (consK (bop dIx (kV 7) (kC (.int 1))) (nilK)))) (lstK (consK (b1K dInt (kV 8)) (nilK)))) (callN 1 (f_law_four C_Entry C_Reader C_FolderkinError C_InvalidBlock C_InvalidBytes gX) [] (consK (kV 9) (nilK)))) (lstK (consK (b1K dLen (kV 10)) (nilK))))) (setv 2))
  (seqS (forS (tupleK (kV 10)) (setv 3) (dropS (extK (kV 2) (callN 1 (f_law_block_written C_Entry C_Reader C_FolderkinError C_InvalidBlock C_InvalidBytes gX) [] (consK (kV 3) (nilK))))))
  (retS (frzK (kV 2))))))
def f_law_entry_written (C_Entry C_Reader C_FolderkinError C_InvalidBlock C_InvalidBytes gX : Nat) : Fm := runP 2 11 (m_law_entry_written C_Entry C_Reader C_FolderkinError C_InvalidBlock C_InvalidBytes gX)
def m_law_made (C_Entry C_Reader C_FolderkinError C_InvalidBlock C_InvalidBytes gX : Nat) : MS := seqS (asgS (kV 0) (tgTup 7 (tgCons (setv 1) (tgCons (setv 2) (tgCons (setv 3) (tgCons (setv 4) (tgCons (setv 5) (tgCons (setv 6) (tgCons (setv 7) (tgNil))))))))))
  (retS (frzK (mkK C_Entry 7 (f_Entry_init C_Entry C_Reader C_FolderkinError C_InvalidBlock C_InvalidBytes gX) [] (consK (kV 1) (consK (kV 2) (consK (kV 3) (consK (kV 4) (consK (kV 5) (consK (kV 6) (consK (kV 7) (nilK)))))))))))
def f_law_made (C_Entry C_Reader C_FolderkinError C_InvalidBlock C_InvalidBytes gX : Nat) : Fm := runP 1 8 (m_law_made C_Entry C_Reader C_FolderkinError C_InvalidBlock C_InvalidBytes gX)
def m_law_fields (C_Entry C_Reader C_FolderkinError C_InvalidBlock C_InvalidBytes gX : Nat) : MS := seqS (ifS (orK (notK (tst (isiCK C_Entry (kV 0)))) (notK (tst (isiK "bool" (fldK C_Entry "deleted" (kV 0)))))) (retS (kC .none)) (nextS))
  (retS (tupK (consK (fldK C_Entry "name" (kV 0)) (consK (fldK C_Entry "vector" (kV 0)) (consK (fldK C_Entry "height" (kV 0)) (consK (fldK C_Entry "maker" (kV 0)) (consK (fldK C_Entry "deleted" (kV 0)) (consK (fldK C_Entry "time" (kV 0)) (consK (fldK C_Entry "blocks" (kV 0)) (nilK))))))))))
def f_law_fields (C_Entry C_Reader C_FolderkinError C_InvalidBlock C_InvalidBytes gX : Nat) : Fm := runP 1 1 (m_law_fields C_Entry C_Reader C_FolderkinError C_InvalidBlock C_InvalidBytes gX)
def m_law_take (C_Entry C_Reader C_FolderkinError C_InvalidBlock C_InvalidBytes gX : Nat) : MS := seqS (ifS (andK (tst (bop dLt (bop dIx (kV 1) (kC (.int 1))) (kC (.int 0)))) (orK (tst (bop dGe (bop dIx (kV 1) (kC (.int 0))) (b1K dLen (kV 0)))) (notK (tst (chainK dLe dLe (kV 2) (bop dIx (kV 0) (bop dIx (kV 1) (kC (.int 0)))) (kV 3)))))) (setiS (bop dIx (kV 1) (kC (.int 0))) (kV 1) (kC (.int 1))) (nextS))
  (seqS (ifS (tst (bop dGe (bop dIx (kV 1) (kC (.int 1))) (kC (.int 0)))) (retS (kV 2)) (nextS))
  (seqS (setiS (bop dAdd (bop dIx (kV 1) (kC (.int 0))) (kC (.int 1))) (kV 1) (kC (.int 0)))
  (retS (bop dIx (kV 0) (bop dSub (bop dIx (kV 1) (kC (.int 0))) (kC (.int 1)))))))
def f_law_take (C_Entry C_Reader C_FolderkinError C_InvalidBlock C_InvalidBytes gX : Nat) : Fm := runP 4 4 (m_law_take C_Entry C_Reader C_FolderkinError C_InvalidBlock C_InvalidBytes gX)
def m_law_number_read (C_Entry C_Reader C_FolderkinError C_InvalidBlock C_InvalidBytes gX : Nat) : MS := seqS (asgS (kC (.int 0)) (setv 3))
  (seqS (forS (rangeK1 (consK (kC (.int 3)) (nilK))) (setv 4) (asgS (bop dAdd (bop dMul (kC (.int 256)) (kV 3)) (callN 4 (f_law_take C_Entry C_Reader C_FolderkinError C_InvalidBlock C_InvalidBytes gX) [] (consK (kV 0) (consK (kV 1) (consK (kC (.int 0)) (consK (kC (.int 255)) (nilK))))))) (setv 3)))
  (seqS (ifS (tst (bop dGt (kV 3) (kC (.int 0)))) (asgS (kC (.int 0)) (setv 2)) (nextS))
  (retS (bop dAdd (bop dMul (kC (.int 256)) (kV 3)) (callN 4 (f_law_take C_Entry C_Reader C_FolderkinError C_InvalidBlock C_InvalidBytes gX) [] (consK (kV 0) (consK (kV 1) (consK (kV 2) (consK (kC (.int 255)) (nilK))))))))))
def f_law_number_read (C_Entry C_Reader C_FolderkinError C_InvalidBlock C_InvalidBytes gX : Nat) : Fm := runP 3 5 (m_law_number_read C_Entry C_Reader C_FolderkinError C_InvalidBlock C_InvalidBytes gX)
def m_law_name_read (C_Entry C_Reader C_FolderkinError C_InvalidBlock C_InvalidBytes gX : Nat) : MS := seqS (asgS (kC (.str "")) (setv 2))
  (seqS (forS (rangeK1 (consK (callN 4 (f_law_take C_Entry C_Reader C_FolderkinError C_InvalidBlock C_InvalidBytes gX) [] (consK (kV 0) (consK (kV 1) (consK (kC (.int 1)) (consK (kC (.int 40)) (nilK)))))) (nilK))) (setv 3) (seqS (asgS (callN 4 (f_law_take C_Entry C_Reader C_FolderkinError C_InvalidBlock C_InvalidBytes gX) [] (consK (kV 0) (consK (kV 1) (consK (kC (.int 45)) (consK (kC (.int 126)) (nilK)))))) (setv 4))
  (seqS (asgS (lcK [6] (strK (callN 0 (f_law_all C_Entry C_Reader C_FolderkinError C_InvalidBlock C_InvalidBytes gX) [] nilK)) (setv 6) (tst (bop dEq (b1K dOrd (kV 6)) (kV 4))) (kV 6)) (setv 5))
  (seqS (ifS (andK (tst (bop dLt (bop dIx (kV 1) (kC (.int 1))) (kC (.int 0)))) (tst (bop dEq (b1K dLen (kV 5)) (kC (.int 0))))) (setiS (bop dSub (bop dIx (kV 1) (kC (.int 0))) (kC (.int 1))) (kV 1) (kC (.int 1))) (nextS))
  (asgS (bop dAdd (kV 2) (metK dJoin (kC (.str "")) (consK (kV 5) (nilK)))) (setv 2))))))
  (retS (kV 2)))
def f_law_name_read (C_Entry C_Reader C_FolderkinError C_InvalidBlock C_InvalidBytes gX : Nat) : Fm := runP 2 7 (m_law_name_read C_Entry C_Reader C_FolderkinError C_InvalidBlock C_InvalidBytes gX)
def m_law_vector_read (C_Entry C_Reader C_FolderkinError C_InvalidBlock C_InvalidBytes gX : Nat) : MS := seqS (asgS (newK (lstK (nilK))) (setv 2))
  (seqS (asgS (kC (.int 0)) (setv 3))
  (seqS (asgS (callN 4 (f_law_take C_Entry C_Reader C_FolderkinError C_InvalidBlock C_InvalidBytes gX) [] (consK (kV 0) (consK (kV 1) (consK (kC (.int 1)) (consK (kC (.int 9)) (nilK)))))) (setv 4))
  (seqS (forS (rangeK1 (consK (kV 4) (nilK))) (setv 5) (seqS (asgS (callN 4 (f_law_take C_Entry C_Reader C_FolderkinError C_InvalidBlock C_InvalidBytes gX) [] (consK (kV 0) (consK (kV 1) (consK (bop dAdd (kV 3) (kC (.int 1))) (consK (bop dAdd (bop dSub (kC (.int 10)) (kV 4)) (kV 5)) (nilK)))))) (setv 3))
  (dropS (mutK muAppend (kV 2) (consK (tupK (consK (kV 3) (consK (callN 3 (f_law_number_read C_Entry C_Reader C_FolderkinError C_InvalidBlock C_InvalidBytes gX) [] (consK (kV 0) (consK (kV 1) (consK (kC (.int 1)) (nilK))))) (nilK)))) (nilK))))))
  (retS (b1K dTuple (kV 2))))))
def f_law_vector_read (C_Entry C_Reader C_FolderkinError C_InvalidBlock C_InvalidBytes gX : Nat) : Fm := runP 2 6 (m_law_vector_read C_Entry C_Reader C_FolderkinError C_InvalidBlock C_InvalidBytes gX)
def m_law_row_read (C_Entry C_Reader C_FolderkinError C_InvalidBlock C_InvalidBytes gX : Nat) : MS := retS (lcK [3] (rangeK1 (consK (callN 4 (f_law_take C_Entry C_Reader C_FolderkinError C_InvalidBlock C_InvalidBytes gX) [] (consK (kV 0) (consK (kV 1) (consK (kV 2) (consK (kC (.int 4)) (nilK)))))) (nilK))) (setv 3) (yesK) (callN 4 (f_law_take C_Entry C_Reader C_FolderkinError C_InvalidBlock C_InvalidBytes gX) [] (consK (kV 0) (consK (kV 1) (consK (kC (.int 0)) (consK (kC (.int 255)) (nilK)))))))
def f_law_row_read (C_Entry C_Reader C_FolderkinError C_InvalidBlock C_InvalidBytes gX : Nat) : Fm := runP 3 4 (m_law_row_read C_Entry C_Reader C_FolderkinError C_InvalidBlock C_InvalidBytes gX)
def m_law_entry_read (C_Entry C_Reader C_FolderkinError C_InvalidBlock C_InvalidBytes gX : Nat) : MS := seqS (asgS (callN 3 (f_law_number_read C_Entry C_Reader C_FolderkinError C_InvalidBlock C_InvalidBytes gX) [] (consK (kV 0) (consK (kV 1) (consK (kC (.int 1)) (nilK))))) (setv 2))
  (seqS (asgS (callN 2 (f_law_name_read C_Entry C_Reader C_FolderkinError C_InvalidBlock C_InvalidBytes gX) [] (consK (kV 0) (consK (kV 1) (nilK)))) (setv 3))
  (seqS (asgS (callN 2 (f_law_vector_read C_Entry C_Reader C_FolderkinError C_InvalidBlock C_InvalidBytes gX) [] (consK (kV 0) (consK (kV 1) (nilK)))) (setv 4))
  (seqS (asgS (callN 3 (f_law_number_read C_Entry C_Reader C_FolderkinError C_InvalidBlock C_InvalidBytes gX) [] (consK (kV 0) (consK (kV 1) (consK (kC (.int 1)) (nilK))))) (setv 5))
  (seqS (asgS (callN 4 (f_law_take C_Entry C_Reader C_FolderkinError C_InvalidBlock C_InvalidBytes gX) [] (consK (kV 0) (consK (kV 1) (consK (kC (.int 1)) (consK (kC (.int 9)) (nilK)))))) (setv 6))
  (seqS (asgS (tupK (consK (kV 6) (consK (callN 3 (f_law_number_read C_Entry C_Reader C_FolderkinError C_InvalidBlock C_InvalidBytes gX) [] (consK (kV 0) (consK (kV 1) (consK (kC (.int 1)) (nilK))))) (nilK)))) (setv 7))
  (seqS (asgS (callN 4 (f_law_take C_Entry C_Reader C_FolderkinError C_InvalidBlock C_InvalidBytes gX) [] (consK (kV 0) (consK (kV 1) (consK (kC (.int 0)) (consK (kC (.int 1)) (nilK)))))) (setv 8))
  (seqS (asgS (callN 3 (f_law_number_read C_Entry C_Reader C_FolderkinError C_InvalidBlock C_InvalidBytes gX) [] (consK (kV 0) (consK (kV 1) (consK (kC (.int 0)) (nilK))))) (setv 9))
  (seqS (asgS (callN 4 (f_law_take C_Entry C_Reader C_FolderkinError C_InvalidBlock C_InvalidBytes gX) [] (consK (kV 0) (consK (kV 1) (consK (kC (.int 0)) (consK (bop dMul (kC (.int 255)) (bop dSub (kC (.int 1)) (kV 8))) (nilK)))))) (setv 10))
  (seqS (asgS (newK (lstK (nilK))) (setv 11))
  (seqS (forS (rangeK1 (consK (kV 10) (nilK))) (setv 12) (dropS (mutK muAppend (kV 11) (consK (callN 1 (f_law_block C_Entry C_Reader C_FolderkinError C_InvalidBlock C_InvalidBytes gX) [] (consK (callN 3 (f_law_row_read C_Entry C_Reader C_FolderkinError C_InvalidBlock C_InvalidBytes gX) [] (consK (kV 0) (consK (kV 1) (consK (bop dIx (lstK (consK (kC (.int 4)) (consK (kC (.int 1)) (nilK)))) (b1K dInt (bop dEq (kV 12) (bop dSub (kV 10) (kC (.int 1)))))) (nilK))))) (nilK))) (nilK)))))
  (retS (tupK (consK (tupK (consK (kV 3) (consK (kV 4) (consK (kV 5) (consK (kV 7) (consK (bop dEq (kV 8) (kC (.int 1))) (consK (kV 9) (consK (b1K dTuple (kV 11)) (nilK))))))))) (consK (kV 2) (nilK)))))))))))))))
def f_law_entry_read (C_Entry C_Reader C_FolderkinError C_InvalidBlock C_InvalidBytes gX : Nat) : Fm := runP 2 13 (m_law_entry_read C_Entry C_Reader C_FolderkinError C_InvalidBlock C_InvalidBytes gX)
def m_law_value (C_Entry C_Reader C_FolderkinError C_InvalidBlock C_InvalidBytes gX : Nat) : MS := seqS (ifS (tst (bop dEq (kV 2) (kC (.int 0)))) (seqS (asgS (callN 3 (f_law_count C_Entry C_Reader C_FolderkinError C_InvalidBlock C_InvalidBytes gX) [] (consK (kV 0) (consK (kV 1) (consK (kC (.int 0)) (nilK))))) (setv 4))
  (retS (tupK (consK (callN 1 (f_law_four C_Entry C_Reader C_FolderkinError C_InvalidBlock C_InvalidBytes gX) [] (consK (kV 4) (nilK))) (consK (callN 1 (f_number_bytes C_Entry C_Reader C_FolderkinError C_InvalidBlock C_InvalidBytes gX) [] (consK (kV 4) (nilK))) (nilK)))))) (nextS))
  (seqS (ifS (tst (bop dEq (kV 2) (kC (.int 1)))) (seqS (asgS (callN 2 (f_law_name C_Entry C_Reader C_FolderkinError C_InvalidBlock C_InvalidBytes gX) [] (consK (kV 0) (consK (kV 1) (nilK)))) (setv 5))
  (retS (tupK (consK (callN 1 (f_law_name_written C_Entry C_Reader C_FolderkinError C_InvalidBlock C_InvalidBytes gX) [] (consK (kV 5) (nilK))) (consK (callN 1 (f_name_bytes C_Entry C_Reader C_FolderkinError C_InvalidBlock C_InvalidBytes gX) [] (consK (kV 5) (nilK))) (nilK)))))) (nextS))
  (seqS (ifS (tst (bop dEq (kV 2) (kC (.int 2)))) (seqS (asgS (callN 2 (f_law_vector C_Entry C_Reader C_FolderkinError C_InvalidBlock C_InvalidBytes gX) [] (consK (kV 0) (consK (kV 1) (nilK)))) (setv 6))
  (retS (tupK (consK (callN 1 (f_law_vector_written C_Entry C_Reader C_FolderkinError C_InvalidBlock C_InvalidBytes gX) [] (consK (kV 6) (nilK))) (consK (callN 1 (f_vector_bytes C_Entry C_Reader C_FolderkinError C_InvalidBlock C_InvalidBytes gX) [] (consK (kV 6) (nilK))) (nilK)))))) (nextS))
  (seqS (ifS (tst (bop dEq (kV 2) (kC (.int 3)))) (seqS (asgS (callN 2 (f_law_entry C_Entry C_Reader C_FolderkinError C_InvalidBlock C_InvalidBytes gX) [] (consK (kV 0) (consK (kV 1) (nilK)))) (tgTup 2 (tgCons (setv 8) (tgCons (setv 4) (tgNil)))))
  (retS (tupK (consK (callN 2 (f_law_entry_written C_Entry C_Reader C_FolderkinError C_InvalidBlock C_InvalidBytes gX) [] (consK (kV 8) (consK (kV 4) (nilK)))) (consK (callN 2 (f_entry_bytes C_Entry C_Reader C_FolderkinError C_InvalidBlock C_InvalidBytes gX) [] (consK (callN 1 (f_law_made C_Entry C_Reader C_FolderkinError C_InvalidBlock C_InvalidBytes gX) [] (consK (kV 8) (nilK))) (consK (kV 4) (nilK)))) (nilK)))))) (nextS))
  (seqS (ifS (tst (bop dEq (kV 2) (kC (.int 4)))) (seqS (asgS (callN 3 (f_law_row C_Entry C_Reader C_FolderkinError C_InvalidBlock C_InvalidBytes gX) [] (consK (kV 0) (consK (kV 1) (consK (bop dAdd (kC (.int 1)) (callN 3 (f_law_draw C_Entry C_Reader C_FolderkinError C_InvalidBlock C_InvalidBytes gX) [] (consK (kV 0) (consK (kV 1) (consK (kC (.int 4)) (nilK)))))) (nilK))))) (setv 7))
  (retS (tupK (consK (bop dAdd (lstK (consK (b1K dLen (kV 7)) (nilK))) (kV 7)) (consK (bop dAdd (lstK (consK (b1K dLen (kV 7)) (nilK))) (kV 7)) (nilK)))))) (nextS))
  (seqS (asgS (callN 3 (f_law_draw C_Entry C_Reader C_FolderkinError C_InvalidBlock C_InvalidBytes gX) [] (consK (kV 0) (consK (kV 1) (consK (kC (.int 256)) (nilK))))) (setv 3))
  (retS (tupK (consK (lstK (consK (kV 3) (nilK))) (consK (lstK (consK (kV 3) (nilK))) (nilK))))))))))
def f_law_value (C_Entry C_Reader C_FolderkinError C_InvalidBlock C_InvalidBytes gX : Nat) : Fm := runP 3 9 (m_law_value C_Entry C_Reader C_FolderkinError C_InvalidBlock C_InvalidBytes gX)
def m_law_changed (C_Entry C_Reader C_FolderkinError C_InvalidBlock C_InvalidBytes gX : Nat) : MS := seqS (asgS (callN 3 (f_law_draw C_Entry C_Reader C_FolderkinError C_InvalidBlock C_InvalidBytes gX) [] (consK (kV 0) (consK (kV 1) (consK (bop dAdd (b1K dLen (kV 2)) (kC (.int 1))) (nilK))))) (setv 3))
  (seqS (asgS (bop dIx (lstK (consK (kC (.int 0)) (consK (kC (.int 1)) (consK (kC (.int 2)) (consK (kC (.int 9)) (consK (kC (.int 10)) (consK (kC (.int 44)) (consK (kC (.int 255)) (consK (callN 3 (f_law_draw C_Entry C_Reader C_FolderkinError C_InvalidBlock C_InvalidBytes gX) [] (consK (kV 0) (consK (kV 1) (consK (kC (.int 256)) (nilK))))) (nilK)))))))))) (callN 3 (f_law_draw C_Entry C_Reader C_FolderkinError C_InvalidBlock C_InvalidBytes gX) [] (consK (kV 0) (consK (kV 1) (consK (kC (.int 8)) (nilK)))))) (setv 4))
  (seqS (asgS (callN 3 (f_law_draw C_Entry C_Reader C_FolderkinError C_InvalidBlock C_InvalidBytes gX) [] (consK (kV 0) (consK (kV 1) (consK (kC (.int 8)) (nilK))))) (setv 5))
  (seqS (ifS (tst (bop dEq (kV 5) (kC (.int 0)))) (retS (cutK (kV 2) (pnone) (psome (kV 3)))) (nextS))
  (seqS (ifS (tst (bop dEq (kV 5) (kC (.int 1)))) (retS (bop dAdd (cutK (kV 2) (pnone) (psome (kV 3))) (cutK (kV 2) (psome (bop dAdd (kV 3) (kC (.int 1)))) (pnone)))) (nextS))
  (seqS (ifS (tst (bop dEq (kV 5) (kC (.int 2)))) (retS (bop dAdd (bop dAdd (cutK (kV 2) (pnone) (psome (kV 3))) (lstK (consK (kV 4) (nilK)))) (cutK (kV 2) (psome (kV 3)) (pnone)))) (nextS))
  (seqS (ifS (andK (tst (bop dEq (kV 5) (kC (.int 3)))) (tst (bop dLt (kV 3) (b1K dLen (kV 2))))) (retS (bop dAdd (bop dAdd (cutK (kV 2) (pnone) (psome (kV 3))) (lstK (consK (kV 4) (nilK)))) (cutK (kV 2) (psome (bop dAdd (kV 3) (kC (.int 1)))) (pnone)))) (nextS))
  (retS (kV 2))))))))
def f_law_changed (C_Entry C_Reader C_FolderkinError C_InvalidBlock C_InvalidBytes gX : Nat) : Fm := runP 3 6 (m_law_changed C_Entry C_Reader C_FolderkinError C_InvalidBlock C_InvalidBytes gX)
def m_law_due (C_Entry C_Reader C_FolderkinError C_InvalidBlock C_InvalidBytes gX : Nat) : MS := seqS (asgS (newK (lstK (consK (kV 2) (consK (negK (kC (.int 1))) (nilK))))) (setv 5))
  (seqS (asgS (kC .none) (setv 6))
  (seqS (ifS (tst (bop dEq (kV 1) (kC (.int 0)))) (asgS (callN 3 (f_law_number_read C_Entry C_Reader C_FolderkinError C_InvalidBlock C_InvalidBytes gX) [] (consK (kV 0) (consK (kV 5) (consK (kV 3) (nilK))))) (setv 6)) (ifS (tst (bop dEq (kV 1) (kC (.int 1)))) (asgS (callN 2 (f_law_name_read C_Entry C_Reader C_FolderkinError C_InvalidBlock C_InvalidBytes gX) [] (consK (kV 0) (consK (kV 5) (nilK)))) (setv 6)) (ifS (tst (bop dEq (kV 1) (kC (.int 2)))) (asgS (callN 2 (f_law_vector_read C_Entry C_Reader C_FolderkinError C_InvalidBlock C_InvalidBytes gX) [] (consK (kV 0) (consK (kV 5) (nilK)))) (setv 6)) (ifS (tst (bop dEq (kV 1) (kC (.int 3)))) (asgS (callN 2 (f_law_entry_read C_Entry C_Reader C_FolderkinError C_InvalidBlock C_InvalidBytes gX) [] (consK (kV 0) (consK (kV 5) (nilK)))) (setv 6)) (ifS (tst (bop dEq (kV 1) (kC (.int 4)))) (asgS (callN 1 (f_law_block C_Entry C_Reader C_FolderkinError C_InvalidBlock C_InvalidBytes gX) [] (consK (callN 3 (f_law_row_read C_Entry C_Reader C_FolderkinError C_InvalidBlock C_InvalidBytes gX) [] (consK (kV 0) (consK (kV 5) (consK (kC (.int 1)) (nilK))))) (nilK))) (setv 6)) (ifS (tst (bop dEq (kV 1) (kC (.int 5)))) (asgS (callN 4 (f_law_take C_Entry C_Reader C_FolderkinError C_InvalidBlock C_InvalidBytes gX) [] (consK (kV 0) (consK (kV 5) (consK (kC (.int 1)) (consK (kC (.int 9)) (nilK)))))) (setv 6)) (asgS (callN 4 (f_law_take C_Entry C_Reader C_FolderkinError C_InvalidBlock C_InvalidBytes gX) [] (consK (kV 0) (consK (kV 5) (consK (kV 3) (consK (kV 4) (nilK)))))) (setv 6))))))))
  (seqS (ifS (tst (bop dGe (bop dIx (kV 5) (kC (.int 1))) (kC (.int 0)))) (retS (tupK (consK (kC .none) (consK (bop dIx (kV 5) (kC (.int 1))) (nilK))))) (nextS))
  (retS (tupK (consK (kV 6) (consK (bop dIx (kV 5) (kC (.int 0))) (nilK))))))))
def f_law_due (C_Entry C_Reader C_FolderkinError C_InvalidBlock C_InvalidBytes gX : Nat) : Fm := runP 5 7 (m_law_due C_Entry C_Reader C_FolderkinError C_InvalidBlock C_InvalidBytes gX)
def m_law_told_of (C_Entry C_Reader C_FolderkinError C_InvalidBlock C_InvalidBytes gX : Nat) : MS := seqS (ifS (tst (bop dEq (kV 1) (kC (.int 0)))) (retS (methK C_Reader "number" 1 (f_Reader_number C_Entry C_Reader C_FolderkinError C_InvalidBlock C_InvalidBytes gX) [] (kV 0) (consK (kV 2) (nilK)))) (nextS))
  (seqS (ifS (tst (bop dEq (kV 1) (kC (.int 1)))) (retS (methK C_Reader "name" 0 (f_Reader_name C_Entry C_Reader C_FolderkinError C_InvalidBlock C_InvalidBytes gX) [] (kV 0) nilK)) (nextS))
  (seqS (ifS (tst (bop dEq (kV 1) (kC (.int 2)))) (retS (methK C_Reader "vector" 0 (f_Reader_vector C_Entry C_Reader C_FolderkinError C_InvalidBlock C_InvalidBytes gX) [] (kV 0) nilK)) (nextS))
  (seqS (ifS (tst (bop dEq (kV 1) (kC (.int 3)))) (seqS (asgS (methK C_Reader "entry" 0 (f_Reader_entry C_Entry C_Reader C_FolderkinError C_InvalidBlock C_InvalidBytes gX) [] (kV 0) nilK) (tgTup 2 (tgCons (setv 4) (tgCons (setv 5) (tgNil)))))
  (retS (tupK (consK (callN 1 (f_law_fields C_Entry C_Reader C_FolderkinError C_InvalidBlock C_InvalidBytes gX) [] (consK (kV 4) (nilK))) (consK (kV 5) (nilK)))))) (nextS))
  (seqS (ifS (tst (bop dEq (kV 1) (kC (.int 4)))) (retS (methK C_Reader "block" 0 (f_Reader_block C_Entry C_Reader C_FolderkinError C_InvalidBlock C_InvalidBytes gX) [.int 1] (kV 0) nilK)) (nextS))
  (seqS (ifS (tst (bop dEq (kV 1) (kC (.int 5)))) (retS (methK C_Reader "device" 0 (f_Reader_device C_Entry C_Reader C_FolderkinError C_InvalidBlock C_InvalidBytes gX) [] (kV 0) nilK)) (nextS))
  (retS (methK C_Reader "byte" 2 (f_Reader_byte C_Entry C_Reader C_FolderkinError C_InvalidBlock C_InvalidBytes gX) [] (kV 0) (consK (kV 2) (consK (kV 3) (nilK))))))))))
def f_law_told_of (C_Entry C_Reader C_FolderkinError C_InvalidBlock C_InvalidBytes gX : Nat) : Fm := runP 4 6 (m_law_told_of C_Entry C_Reader C_FolderkinError C_InvalidBlock C_InvalidBytes gX)
def m_law_outcome (C_Entry C_Reader C_FolderkinError C_InvalidBlock C_InvalidBytes gX : Nat) : MS := seqS (asgS (mkK C_Reader 2 (f_Reader_init C_Entry C_Reader C_FolderkinError C_InvalidBlock C_InvalidBytes gX) [] (consK (kV 0) (consK (kV 2) (nilK)))) (setv 5))
  (seqS (tryA 6 (exm_InvalidBytes C_Entry C_Reader C_FolderkinError C_InvalidBlock C_InvalidBytes gX) (asgS (callN 4 (f_law_told_of C_Entry C_Reader C_FolderkinError C_InvalidBlock C_InvalidBytes gX) [] (consK (kV 5) (consK (kV 1) (consK (kV 3) (consK (kV 4) (nilK)))))) (setv 7)) (fun a dx C => seqS (ifS (orK (notK (tst (kXi 6 (isX C_Entry C_Reader C_FolderkinError C_InvalidBlock C_InvalidBytes gX) (xi_FolderkinError C_Entry C_Reader C_FolderkinError C_InvalidBlock C_InvalidBytes gX) a dx C))) (notK (tst (kXi 6 (isX C_Entry C_Reader C_FolderkinError C_InvalidBlock C_InvalidBytes gX) (xi_ValueError C_Entry C_Reader C_FolderkinError C_InvalidBlock C_InvalidBytes gX) a dx C)))) (retS (kC .none)) (nextS))
  (retS (tupK (consK (kC .none) (consK (kXf 6 "place" (isX C_Entry C_Reader C_FolderkinError C_InvalidBlock C_InvalidBytes gX) a dx C) (nilK)))))))
  (retS (tupK (consK (kV 7) (consK (fldK C_Reader "at" (kV 5)) (nilK))))))
def f_law_outcome (C_Entry C_Reader C_FolderkinError C_InvalidBlock C_InvalidBytes gX : Nat) : Fm := runP 5 8 (m_law_outcome C_Entry C_Reader C_FolderkinError C_InvalidBlock C_InvalidBytes gX)
def m_law_in_turn (C_Entry C_Reader C_FolderkinError C_InvalidBlock C_InvalidBytes gX : Nat) : MS := seqS (asgS (callN 2 (f_law_entry C_Entry C_Reader C_FolderkinError C_InvalidBlock C_InvalidBytes gX) [] (consK (kV 0) (consK (kV 1) (nilK)))) (tgTup 2 (tgCons (setv 6) (tgCons (setv 7) (tgNil)))))
  (seqS (asgS (callN 2 (f_law_name C_Entry C_Reader C_FolderkinError C_InvalidBlock C_InvalidBytes gX) [] (consK (kV 0) (consK (kV 1) (nilK)))) (setv 2))
  (seqS (asgS (callN 2 (f_law_vector C_Entry C_Reader C_FolderkinError C_InvalidBlock C_InvalidBytes gX) [] (consK (kV 0) (consK (kV 1) (nilK)))) (setv 3))
  (seqS (asgS (bop dAdd (bop dAdd (bop dAdd (lstK (consK (kC (.int 5)) (nilK))) (callN 2 (f_law_entry_written C_Entry C_Reader C_FolderkinError C_InvalidBlock C_InvalidBytes gX) [] (consK (kV 6) (consK (kV 7) (nilK))))) (callN 1 (f_law_name_written C_Entry C_Reader C_FolderkinError C_InvalidBlock C_InvalidBytes gX) [] (consK (kV 2) (nilK)))) (callN 1 (f_law_four C_Entry C_Reader C_FolderkinError C_InvalidBlock C_InvalidBytes gX) [] (consK (kV 7) (nilK)))) (setv 4))
  (seqS (asgS (bop dAdd (bop dAdd (bop dAdd (kV 4) (callN 1 (f_law_vector_written C_Entry C_Reader C_FolderkinError C_InvalidBlock C_InvalidBytes gX) [] (consK (kV 3) (nilK)))) (lstK (consK (kC (.int 2)) (consK (kC (.int 0)) (consK (kC (.int 7)) (nilK)))))) (lstK (consK (kC (.int 9)) (nilK)))) (setv 4))
  (seqS (asgS (mkK C_Reader 2 (f_Reader_init C_Entry C_Reader C_FolderkinError C_InvalidBlock C_InvalidBytes gX) [] (consK (kV 4) (consK (kC (.int 1)) (nilK)))) (setv 5))
  (seqS (asgS (methK C_Reader "entry" 0 (f_Reader_entry C_Entry C_Reader C_FolderkinError C_InvalidBlock C_InvalidBytes gX) [] (kV 5) nilK) (tgTup 2 (tgCons (setv 8) (tgCons (setv 9) (tgNil)))))
  (seqS (ifS (orK (tst (bop dNe (callN 1 (f_law_fields C_Entry C_Reader C_FolderkinError C_InvalidBlock C_InvalidBytes gX) [] (consK (kV 8) (nilK))) (kV 6))) (orK (tst (bop dNe (kV 9) (kV 7))) (orK (tst (bop dNe (methK C_Reader "name" 0 (f_Reader_name C_Entry C_Reader C_FolderkinError C_InvalidBlock C_InvalidBytes gX) [] (kV 5) nilK) (kV 2))) (tst (bop dNe (methK C_Reader "number" 0 (f_Reader_number C_Entry C_Reader C_FolderkinError C_InvalidBlock C_InvalidBytes gX) [.int 0] (kV 5) nilK) (kV 7)))))) (retS (kC (.bool false))) (nextS))
  (retS (andV (tst (bop dEq (methK C_Reader "vector" 0 (f_Reader_vector C_Entry C_Reader C_FolderkinError C_InvalidBlock C_InvalidBytes gX) [] (kV 5) nilK) (kV 3))) (andV (tst (bop dEq (methK C_Reader "block" 0 (f_Reader_block C_Entry C_Reader C_FolderkinError C_InvalidBlock C_InvalidBytes gX) [.int 1] (kV 5) nilK) (kC (.int 65543)))) (andV (tst (bop dEq (methK C_Reader "device" 0 (f_Reader_device C_Entry C_Reader C_FolderkinError C_InvalidBlock C_InvalidBytes gX) [] (kV 5) nilK) (kC (.int 9)))) (bop dEq (fldK C_Reader "at" (kV 5)) (b1K dLen (kV 4))))))))))))))
def f_law_in_turn (C_Entry C_Reader C_FolderkinError C_InvalidBlock C_InvalidBytes gX : Nat) : Fm := runP 2 10 (m_law_in_turn C_Entry C_Reader C_FolderkinError C_InvalidBlock C_InvalidBytes gX)
def m_law (C_Entry C_Reader C_FolderkinError C_InvalidBlock C_InvalidBytes gX : Nat) : MS := seqS (asgS (newK (lstK (consK (kC (.int 0)) (consK (kC (.int 0)) (nilK))))) (setv 1))
  (seqS (ifS (andK (tst (bop dEq (callN 3 (f_law_draw C_Entry C_Reader C_FolderkinError C_InvalidBlock C_InvalidBytes gX) [] (consK (kV 1) (consK (kV 0) (consK (kC (.int 6)) (nilK))))) (kC (.int 0)))) (notK (tst (callN 2 (f_law_in_turn C_Entry C_Reader C_FolderkinError C_InvalidBlock C_InvalidBytes gX) [] (consK (kV 1) (consK (kV 0) (nilK))))))) (retS (kC (.bool false))) (nextS))
  (seqS (asgS (callN 3 (f_law_draw C_Entry C_Reader C_FolderkinError C_InvalidBlock C_InvalidBytes gX) [] (consK (kV 1) (consK (kV 0) (consK (kC (.int 7)) (nilK))))) (setv 2))
  (seqS (asgS (callN 3 (f_law_value C_Entry C_Reader C_FolderkinError C_InvalidBlock C_InvalidBytes gX) [] (consK (kV 1) (consK (kV 0) (consK (kV 2) (nilK))))) (tgTup 2 (tgCons (setv 9) (tgCons (setv 10) (tgNil)))))
  (seqS (ifS (orK (notK (tst (isiK "list" (kV 10)))) (tst (bop dNe (kV 10) (kV 9)))) (retS (kC (.bool false))) (nextS))
  (seqS (asgS (callN 3 (f_law_draw C_Entry C_Reader C_FolderkinError C_InvalidBlock C_InvalidBytes gX) [] (consK (kV 1) (consK (kV 0) (consK (kC (.int 4)) (nilK))))) (setv 3))
  (seqS (asgS (bop dAdd (bop dRep (lstK (consK (kC (.int 17)) (nilK))) (kV 3)) (callN 3 (f_law_changed C_Entry C_Reader C_FolderkinError C_InvalidBlock C_InvalidBytes gX) [] (consK (kV 1) (consK (kV 0) (consK (kV 9) (nilK)))))) (setv 4))
  (seqS (asgS (bop dAdd (kV 4) (callN 3 (f_law_row C_Entry C_Reader C_FolderkinError C_InvalidBlock C_InvalidBytes gX) [] (consK (kV 1) (consK (kV 0) (consK (callN 3 (f_law_draw C_Entry C_Reader C_FolderkinError C_InvalidBlock C_InvalidBytes gX) [] (consK (kV 1) (consK (kV 0) (consK (kC (.int 4)) (nilK))))) (nilK)))))) (setv 4))
  (seqS (asgS (callN 3 (f_law_draw C_Entry C_Reader C_FolderkinError C_InvalidBlock C_InvalidBytes gX) [] (consK (kV 1) (consK (kV 0) (consK (kC (.int 2)) (nilK))))) (setv 5))
  (seqS (asgS (kC (.int 255)) (setv 6))
  (seqS (ifS (tst (bop dEq (kV 2) (kC (.int 6)))) (seqS (asgS (callN 3 (f_law_draw C_Entry C_Reader C_FolderkinError C_InvalidBlock C_InvalidBytes gX) [] (consK (kV 1) (consK (kV 0) (consK (kC (.int 256)) (nilK))))) (setv 5))
  (asgS (bop dAdd (kV 5) (callN 3 (f_law_draw C_Entry C_Reader C_FolderkinError C_InvalidBlock C_InvalidBytes gX) [] (consK (kV 1) (consK (kV 0) (consK (bop dSub (kC (.int 256)) (kV 5)) (nilK)))))) (setv 6))) (nextS))
  (seqS (asgS (b1K dList (kV 4)) (setv 7))
  (seqS (asgS (callN 5 (f_law_outcome C_Entry C_Reader C_FolderkinError C_InvalidBlock C_InvalidBytes gX) [] (consK (kV 7) (consK (kV 2) (consK (kV 3) (consK (kV 5) (consK (kV 6) (nilK))))))) (setv 8))
  (seqS (ifS (orK (tst (bop dNe (kV 7) (kV 4))) (tst (bop dNe (kV 8) (callN 5 (f_law_due C_Entry C_Reader C_FolderkinError C_InvalidBlock C_InvalidBytes gX) [] (consK (kV 4) (consK (kV 2) (consK (kV 3) (consK (kV 5) (consK (kV 6) (nilK)))))))))) (retS (kC (.bool false))) (nextS))
  (seqS (ifS (andK (tst (bop dGt (b1K dLen (kV 4)) (kV 3))) (tst (bop dNe (methK C_Reader "byte" 0 (f_Reader_byte C_Entry C_Reader C_FolderkinError C_InvalidBlock C_InvalidBytes gX) [.int 0, .int 255] (mkK C_Reader 2 (f_Reader_init C_Entry C_Reader C_FolderkinError C_InvalidBlock C_InvalidBytes gX) [] (consK (kV 4) (consK (kV 3) (nilK)))) nilK) (bop dIx (kV 4) (kV 3))))) (retS (kC (.bool false))) (nextS))
  (seqS (ifS (andK (tst (bop dEq (kV 3) (kC (.int 0)))) (andK (tst (bop dEq (kV 2) (kC (.int 0)))) (tst (bop dEq (kV 5) (kC (.int 0)))))) (retS (andV (tst (bop dEq (fldK C_Reader "at" (mkK C_Reader 1 (f_Reader_init C_Entry C_Reader C_FolderkinError C_InvalidBlock C_InvalidBytes gX) [.int 0] (consK (kV 4) (nilK)))) (kC (.int 0)))) (orV (tst (bop dIs (bop dIx (kV 8) (kC (.int 0))) (kC .none))) (bop dEq (methK C_Reader "number" 0 (f_Reader_number C_Entry C_Reader C_FolderkinError C_InvalidBlock C_InvalidBytes gX) [.int 0] (mkK C_Reader 1 (f_Reader_init C_Entry C_Reader C_FolderkinError C_InvalidBlock C_InvalidBytes gX) [.int 0] (consK (kV 4) (nilK))) nilK) (bop dIx (kV 8) (kC (.int 0))))))) (nextS))
  (retS (kC (.bool true))))))))))))))))))
def f_law (C_Entry C_Reader C_FolderkinError C_InvalidBlock C_InvalidBytes gX : Nat) : Fm := runF 1 11 (m_law C_Entry C_Reader C_FolderkinError C_InvalidBlock C_InvalidBytes gX)
end K47
namespace K47
open PySem L2 Hz
def top (i : Nat) : Stmt := PySem.Challenge.pw_folderkin_k47_values_as_bytes.main.body.getD i (.Pass ⟨0, 0, 0, 0⟩)
def inC (s : Stmt) (j : Nat) : Stmt := match s with
  | .ClassDef (body := b) .. => b.getD j (.Pass ⟨0, 0, 0, 0⟩)
  | s => s
abbrev s_block_number : Stmt := top 7
abbrev s_block_size : Stmt := top 8
abbrev s_is_block : Stmt := top 9
abbrev s_block_bytes : Stmt := top 10
abbrev s_Entry_init : Stmt := inC (top 12) 0
abbrev s_character_of : Stmt := top 18
abbrev s_number_bytes : Stmt := top 21
abbrev s_name_bytes : Stmt := top 22
abbrev s_vector_bytes : Stmt := top 23
abbrev s_data_bytes : Stmt := top 24
abbrev s_entry_bytes : Stmt := top 25
abbrev s_Reader_init : Stmt := inC (top 26) 0
abbrev s_Reader_byte : Stmt := inC (top 26) 1
abbrev s_Reader_number : Stmt := inC (top 26) 2
abbrev s_Reader_device : Stmt := inC (top 26) 3
abbrev s_Reader_name : Stmt := inC (top 26) 4
abbrev s_Reader_vector : Stmt := inC (top 26) 5
abbrev s_Reader_row : Stmt := inC (top 26) 6
abbrev s_Reader_block : Stmt := inC (top 26) 7
abbrev s_Reader_entry : Stmt := inC (top 26) 8
abbrev s_law_draw : Stmt := top 28
abbrev s_law_all : Stmt := top 29
abbrev s_law_count : Stmt := top 30
abbrev s_law_name : Stmt := top 31
abbrev s_law_vector : Stmt := top 32
abbrev s_law_block : Stmt := top 33
abbrev s_law_row : Stmt := top 34
abbrev s_law_entry : Stmt := top 35
abbrev s_law_four : Stmt := top 36
abbrev s_law_name_written : Stmt := top 37
abbrev s_law_vector_written : Stmt := top 38
abbrev s_law_block_written : Stmt := top 39
abbrev s_law_entry_written : Stmt := top 40
abbrev s_law_made : Stmt := top 41
abbrev s_law_fields : Stmt := top 42
abbrev s_law_take : Stmt := top 43
abbrev s_law_number_read : Stmt := top 44
abbrev s_law_name_read : Stmt := top 45
abbrev s_law_vector_read : Stmt := top 46
abbrev s_law_row_read : Stmt := top 47
abbrev s_law_entry_read : Stmt := top 48
abbrev s_law_value : Stmt := top 49
abbrev s_law_changed : Stmt := top 50
abbrev s_law_due : Stmt := top 51
abbrev s_law_told_of : Stmt := top 52
abbrev s_law_outcome : Stmt := top 53
abbrev s_law_in_turn : Stmt := top 54
abbrev s_law : Stmt := top 55
abbrev s_X : Stmt := inC (top 1) 0
theorem form_X : InitForm s_X := ⟨⟨_, _, _, _, _, _, _, _, _, _, _, rfl, by intros; rfl, by intros; rfl, by intros; rfl⟩, ⟨rfl, rfl, rfl, rfl⟩, rfl, rfl, rfl, by decide +kernel, by decide +kernel, rfl, fun _ _ _ _ _ _ _ _ us hl => match us, hl with | [_, _], _ => rfl⟩
theorem sc_block_number : FnScope ["data", "number", "byte"] ["data"] (defScope s_block_number) := ⟨rfl, rfl, rfl, by decide +kernel, rfl, by decide +kernel, by decide +kernel⟩
theorem sc_block_size : FnScope ["number", "size"] ["number"] (defScope s_block_size) := ⟨rfl, rfl, rfl, by decide +kernel, rfl, by decide +kernel, by decide +kernel⟩
theorem sc_is_block : FnScope ["number"] ["number"] (defScope s_is_block) := ⟨rfl, rfl, rfl, by decide +kernel, rfl, by decide +kernel, by decide +kernel⟩
theorem sc_block_bytes : FnScope ["number", "data"] ["number"] (defScope s_block_bytes) := ⟨rfl, rfl, rfl, by decide +kernel, rfl, by decide +kernel, by decide +kernel⟩
theorem sc_Entry_init : FnScope ["self", "name", "vector", "height", "maker", "deleted", "time", "blocks"] ["self", "name", "vector", "height", "maker", "deleted", "time", "blocks"] (defScope s_Entry_init) := ⟨rfl, rfl, rfl, by decide +kernel, rfl, by decide +kernel, by decide +kernel⟩
theorem sc_character_of : FnScope ["code", "at"] ["code"] (defScope s_character_of) := ⟨rfl, rfl, rfl, by decide +kernel, rfl, by decide +kernel, by decide +kernel⟩
theorem sc_number_bytes : FnScope ["number"] ["number"] (defScope s_number_bytes) := ⟨rfl, rfl, rfl, by decide +kernel, rfl, by decide +kernel, by decide +kernel⟩
theorem sc_name_bytes : FnScope ["name", "char"] ["name"] (defScope s_name_bytes) := ⟨rfl, rfl, rfl, by decide +kernel, rfl, by decide +kernel, by decide +kernel⟩
theorem sc_vector_bytes : FnScope ["vector", "data", "device", "count"] ["vector"] (defScope s_vector_bytes) := ⟨rfl, rfl, rfl, by decide +kernel, rfl, by decide +kernel, by decide +kernel⟩
theorem sc_data_bytes : FnScope ["data"] ["data"] (defScope s_data_bytes) := ⟨rfl, rfl, rfl, by decide +kernel, rfl, by decide +kernel, by decide +kernel⟩
theorem sc_entry_bytes : FnScope ["entry", "number", "data", "block"] ["entry", "number"] (defScope s_entry_bytes) := ⟨rfl, rfl, rfl, by decide +kernel, rfl, by decide +kernel, by decide +kernel⟩
theorem sc_Reader_init : FnScope ["self", "data", "at"] ["self", "data", "at"] (defScope s_Reader_init) := ⟨rfl, rfl, rfl, by decide +kernel, rfl, by decide +kernel, by decide +kernel⟩
theorem sc_Reader_byte : FnScope ["self", "least", "most"] ["self", "least", "most"] (defScope s_Reader_byte) := ⟨rfl, rfl, rfl, by decide +kernel, rfl, by decide +kernel, by decide +kernel⟩
theorem sc_Reader_number : FnScope ["self", "least", "number"] ["self", "least"] (defScope s_Reader_number) := ⟨rfl, rfl, rfl, by decide +kernel, rfl, by decide +kernel, by decide +kernel⟩
theorem sc_Reader_device : FnScope ["self"] ["self"] (defScope s_Reader_device) := ⟨rfl, rfl, rfl, by decide +kernel, rfl, by decide +kernel, by decide +kernel⟩
theorem sc_Reader_name : FnScope ["self", "name", "count", "char"] ["self"] (defScope s_Reader_name) := ⟨rfl, rfl, rfl, by decide +kernel, rfl, by decide +kernel, by decide +kernel⟩
theorem sc_Reader_vector : FnScope ["self", "pairs", "device", "rest"] ["self"] (defScope s_Reader_vector) := ⟨rfl, rfl, rfl, by decide +kernel, rfl, by decide +kernel, by decide +kernel⟩
theorem sc_Reader_row : FnScope ["self", "least", "count"] ["self", "least"] (defScope s_Reader_row) := ⟨rfl, rfl, rfl, by decide +kernel, rfl, by decide +kernel, by decide +kernel⟩
theorem sc_Reader_block : FnScope ["self", "least"] ["self", "least"] (defScope s_Reader_block) := ⟨rfl, rfl, rfl, by decide +kernel, rfl, by decide +kernel, by decide +kernel⟩
theorem sc_Reader_entry : FnScope ["self", "number", "name", "vector", "height", "maker", "deleted", "time", "blocks", "rest"] ["self"] (defScope s_Reader_entry) := ⟨rfl, rfl, rfl, by decide +kernel, rfl, by decide +kernel, by decide +kernel⟩
theorem sc_law_draw : FnScope ["_law_state", "_law_script", "_law_size", "_law_digit", "_law_at", "_law_cell", "_law_first"] ["_law_state", "_law_script", "_law_size"] (defScope s_law_draw) := ⟨rfl, rfl, rfl, by decide +kernel, rfl, by decide +kernel, by decide +kernel⟩
theorem sc_law_all : FnScope [] [] (defScope s_law_all) := ⟨rfl, rfl, rfl, by decide +kernel, rfl, by decide +kernel, by decide +kernel⟩
theorem sc_law_count : FnScope ["_law_state", "_law_script", "_law_least", "_law_kind"] ["_law_state", "_law_script", "_law_least"] (defScope s_law_count) := ⟨rfl, rfl, rfl, by decide +kernel, rfl, by decide +kernel, by decide +kernel⟩
theorem sc_law_name : FnScope ["_law_state", "_law_script", "_law_size", "_law_k"] ["_law_state", "_law_script"] (defScope s_law_name) := ⟨rfl, rfl, rfl, by decide +kernel, rfl, by decide +kernel, by decide +kernel⟩
theorem sc_law_vector : FnScope ["_law_state", "_law_script", "_law_mask", "_law_k"] ["_law_state", "_law_script"] (defScope s_law_vector) := ⟨rfl, rfl, rfl, by decide +kernel, rfl, by decide +kernel, by decide +kernel⟩
theorem sc_law_block : FnScope ["_law_row_here", "_law_value_here", "_law_byte"] ["_law_row_here"] (defScope s_law_block) := ⟨rfl, rfl, rfl, by decide +kernel, rfl, by decide +kernel, by decide +kernel⟩
theorem sc_law_row : FnScope ["_law_state", "_law_script", "_law_size", "_law_k"] ["_law_state", "_law_script", "_law_size"] (defScope s_law_row) := ⟨rfl, rfl, rfl, by decide +kernel, rfl, by decide +kernel, by decide +kernel⟩
theorem sc_law_entry : FnScope ["_law_state", "_law_script", "_law_deleted", "_law_rows", "_law_maker", "_law_fields_here", "_law_k", "_law_row_here"] ["_law_state", "_law_script"] (defScope s_law_entry) := ⟨rfl, rfl, rfl, by decide +kernel, rfl, by decide +kernel, by decide +kernel⟩
theorem sc_law_four : FnScope ["_law_number"] ["_law_number"] (defScope s_law_four) := ⟨rfl, rfl, rfl, by decide +kernel, rfl, by decide +kernel, by decide +kernel⟩
theorem sc_law_name_written : FnScope ["_law_name_here", "_law_char"] ["_law_name_here"] (defScope s_law_name_written) := ⟨rfl, rfl, rfl, by decide +kernel, rfl, by decide +kernel, by decide +kernel⟩
theorem sc_law_vector_written : FnScope ["_law_vector_here", "_law_data", "_law_device", "_law_count_here"] ["_law_vector_here"] (defScope s_law_vector_written) := ⟨rfl, rfl, rfl, by decide +kernel, rfl, by decide +kernel, by decide +kernel⟩
theorem sc_law_block_written : FnScope ["_law_block_here", "_law_row_here", "_law_k"] ["_law_block_here"] (defScope s_law_block_written) := ⟨rfl, rfl, rfl, by decide +kernel, rfl, by decide +kernel, by decide +kernel⟩
theorem sc_law_entry_written : FnScope ["_law_fields_here", "_law_number", "_law_data", "_law_block_here", "_law_name_here", "_law_vector_here", "_law_height", "_law_maker", "_law_deleted", "_law_time", "_law_blocks"] ["_law_fields_here", "_law_number"] (defScope s_law_entry_written) := ⟨rfl, rfl, rfl, by decide +kernel, rfl, by decide +kernel, by decide +kernel⟩
theorem sc_law_made : FnScope ["_law_fields_here", "_law_name_here", "_law_vector_here", "_law_height", "_law_maker", "_law_deleted", "_law_time", "_law_blocks"] ["_law_fields_here"] (defScope s_law_made) := ⟨rfl, rfl, rfl, by decide +kernel, rfl, by decide +kernel, by decide +kernel⟩
theorem sc_law_fields : FnScope ["_law_entry_here"] ["_law_entry_here"] (defScope s_law_fields) := ⟨rfl, rfl, rfl, by decide +kernel, rfl, by decide +kernel, by decide +kernel⟩
theorem sc_law_take : FnScope ["_law_data", "_law_box", "_law_least", "_law_most"] ["_law_data", "_law_box", "_law_least", "_law_most"] (defScope s_law_take) := ⟨rfl, rfl, rfl, by decide +kernel, rfl, by decide +kernel, by decide +kernel⟩
theorem sc_law_number_read : FnScope ["_law_data", "_law_box", "_law_least", "_law_value_here", "_law_k"] ["_law_data", "_law_box", "_law_least"] (defScope s_law_number_read) := ⟨rfl, rfl, rfl, by decide +kernel, rfl, by decide +kernel, by decide +kernel⟩
theorem sc_law_name_read : FnScope ["_law_data", "_law_box", "_law_name_here", "_law_k", "_law_code", "_law_found", "_law_char"] ["_law_data", "_law_box"] (defScope s_law_name_read) := ⟨rfl, rfl, rfl, by decide +kernel, rfl, by decide +kernel, by decide +kernel⟩
theorem sc_law_vector_read : FnScope ["_law_data", "_law_box", "_law_pairs", "_law_device", "_law_many", "_law_k"] ["_law_data", "_law_box"] (defScope s_law_vector_read) := ⟨rfl, rfl, rfl, by decide +kernel, rfl, by decide +kernel, by decide +kernel⟩
theorem sc_law_row_read : FnScope ["_law_data", "_law_box", "_law_least", "_law_k"] ["_law_data", "_law_box", "_law_least"] (defScope s_law_row_read) := ⟨rfl, rfl, rfl, by decide +kernel, rfl, by decide +kernel, by decide +kernel⟩
theorem sc_law_entry_read : FnScope ["_law_data", "_law_box", "_law_number", "_law_name_here", "_law_vector_here", "_law_height", "_law_device", "_law_maker", "_law_deleted", "_law_time", "_law_many", "_law_blocks", "_law_k"] ["_law_data", "_law_box"] (defScope s_law_entry_read) := ⟨rfl, rfl, rfl, by decide +kernel, rfl, by decide +kernel, by decide +kernel⟩
theorem sc_law_value : FnScope ["_law_state", "_law_script", "_law_kind", "_law_byte", "_law_number", "_law_name_here", "_law_vector_here", "_law_row_here", "_law_fields_here"] ["_law_state", "_law_script", "_law_kind"] (defScope s_law_value) := ⟨rfl, rfl, rfl, by decide +kernel, rfl, by decide +kernel, by decide +kernel⟩
theorem sc_law_changed : FnScope ["_law_state", "_law_script", "_law_data", "_law_at", "_law_byte", "_law_kind"] ["_law_state", "_law_script", "_law_data"] (defScope s_law_changed) := ⟨rfl, rfl, rfl, by decide +kernel, rfl, by decide +kernel, by decide +kernel⟩
theorem sc_law_due : FnScope ["_law_data", "_law_kind", "_law_at", "_law_least", "_law_most", "_law_box", "_law_found"] ["_law_data", "_law_kind", "_law_at", "_law_least", "_law_most"] (defScope s_law_due) := ⟨rfl, rfl, rfl, by decide +kernel, rfl, by decide +kernel, by decide +kernel⟩
theorem sc_law_told_of : FnScope ["_law_reader", "_law_kind", "_law_least", "_law_most", "_law_entry_here", "_law_number"] ["_law_reader", "_law_kind", "_law_least", "_law_most"] (defScope s_law_told_of) := ⟨rfl, rfl, rfl, by decide +kernel, rfl, by decide +kernel, by decide +kernel⟩
theorem sc_law_outcome : FnScope ["_law_data", "_law_kind", "_law_at", "_law_least", "_law_most", "_law_reader", "error", "_law_found"] ["_law_data", "_law_kind", "_law_at", "_law_least", "_law_most"] (defScope s_law_outcome) := ⟨rfl, rfl, rfl, by decide +kernel, rfl, by decide +kernel, by decide +kernel⟩
theorem sc_law_in_turn : FnScope ["_law_state", "_law_script", "_law_name_here", "_law_vector_here", "_law_data", "_law_reader", "_law_fields_here", "_law_number", "_law_entry_here", "_law_told"] ["_law_state", "_law_script"] (defScope s_law_in_turn) := ⟨rfl, rfl, rfl, by decide +kernel, rfl, by decide +kernel, by decide +kernel⟩
theorem sc_law : FnScope ["_law_script", "_law_state", "_law_kind", "_law_at", "_law_data", "_law_least", "_law_most", "_law_given", "_law_found", "_law_due_here", "_law_written"] ["_law_script"] (defScope s_law) := ⟨rfl, rfl, rfl, by decide +kernel, rfl, by decide +kernel, by decide +kernel⟩
structure Facts (c : C0) (C_Entry C_Reader C_FolderkinError C_InvalidBlock C_InvalidBytes gX : Nat) : Prop where
  b_ValueError : c.mg "ValueError" = none
  b_bool : c.mg "bool" = none
  b_int : c.mg "int" = none
  b_isinstance : c.mg "isinstance" = none
  b_len : c.mg "len" = none
  b_list : c.mg "list" = none
  b_ord : c.mg "ord" = none
  b_range : c.mg "range" = none
  b_tuple : c.mg "tuple" = none
  k_MOST_DEVICE : ∃ t, c.mg "MOST_DEVICE" = some (.int 9 t)
  k_BLOCK : ∃ t, c.mg "BLOCK" = some (.int 4 t)
  k_MOST_NAME : ∃ t, c.mg "MOST_NAME" = some (.int 40 t)
  k_FIRST_CODE : ∃ t, c.mg "FIRST_CODE" = some (.int 45 t)
  k_TABLE : ∃ t, c.mg "TABLE" = some (.str "-./0123456789:;<=>?\x40ABCDEFGHIJKLMNOPQRSTUVWXYZ[\\]^_`abcdefghijklmnopqrstuvwxyz{|}~" t)
  k_CHARACTERS : ∃ t, c.mg "CHARACTERS" = some (.str "-./0123456789ABCDEFGHIJKLMNOPQRSTUVWXYZ_abcdefghijklmnopqrstuvwxyz~" t)
  k_MOST_BLOCKS : ∃ t, c.mg "MOST_BLOCKS" = some (.int 255 t)
  cl_Entry : ClsD c "Entry" C_Entry
  na_Entry_name : NoAttr c.K C_Entry "name"
  na_Entry_vector : NoAttr c.K C_Entry "vector"
  na_Entry_height : NoAttr c.K C_Entry "height"
  na_Entry_maker : NoAttr c.K C_Entry "maker"
  na_Entry_deleted : NoAttr c.K C_Entry "deleted"
  na_Entry_time : NoAttr c.K C_Entry "time"
  na_Entry_blocks : NoAttr c.K C_Entry "blocks"
  cl_Reader : ClsD c "Reader" C_Reader
  na_Reader_data : NoAttr c.K C_Reader "data"
  na_Reader_at : NoAttr c.K C_Reader "at"
  x_FolderkinError : ExD c C_FolderkinError gX "FolderkinError" C_FolderkinError
  x_InvalidBlock : ExD c C_FolderkinError gX "InvalidBlock" C_InvalidBlock
  x_InvalidBytes : ExD c C_FolderkinError gX "InvalidBytes" C_InvalidBytes
  em_InvalidBlock_InvalidBytes : PySem.W.exmOne c.K (.ref C_InvalidBlock) (.ref C_InvalidBytes) = some false
  em_InvalidBytes_InvalidBytes : PySem.W.exmOne c.K (.ref C_InvalidBytes) (.ref C_InvalidBytes) = some true
  ki_InvalidBlock_FolderkinError : PySem.W.kitOne c.K (.ref C_InvalidBlock) (.ref C_FolderkinError) = some true
  ki_InvalidBytes_FolderkinError : PySem.W.kitOne c.K (.ref C_InvalidBytes) (.ref C_FolderkinError) = some true
  ki_InvalidBlock_ValueError : PySem.W.kitOne c.K (.ref C_InvalidBlock) (.type "ValueError") = some true
  ki_InvalidBytes_ValueError : PySem.W.kitOne c.K (.ref C_InvalidBytes) (.type "ValueError") = some true
  a_block_number : At c "block_number" s_block_number ["data"] [] []
  a_block_size : At c "block_size" s_block_size ["number"] [] []
  a_is_block : At c "is_block" s_is_block ["number"] [] []
  a_block_bytes : At c "block_bytes" s_block_bytes ["number"] [] []
  a_Entry_init : InAt c C_Entry "Entry" "Entry.__init__" s_Entry_init ["self", "name", "vector", "height", "maker", "deleted", "time", "blocks"] [] []
  a_character_of : At c "character_of" s_character_of ["code"] [] []
  a_number_bytes : At c "number_bytes" s_number_bytes ["number"] [] []
  a_name_bytes : At c "name_bytes" s_name_bytes ["name"] [] []
  a_vector_bytes : At c "vector_bytes" s_vector_bytes ["vector"] [] []
  a_data_bytes : At c "data_bytes" s_data_bytes ["data"] [] []
  a_entry_bytes : At c "entry_bytes" s_entry_bytes ["entry", "number"] [] []
  a_Reader_init : InAt c C_Reader "Reader" "Reader.__init__" s_Reader_init ["self", "data", "at"] [V.int 0] [0]
  a_Reader_byte : MeAt c C_Reader "byte" "Reader.byte" s_Reader_byte ["self", "least", "most"] [V.int 0, V.int 255] [0, 1]
  a_Reader_number : MeAt c C_Reader "number" "Reader.number" s_Reader_number ["self", "least"] [V.int 0] [0]
  a_Reader_device : MeAt c C_Reader "device" "Reader.device" s_Reader_device ["self"] [] []
  a_Reader_name : MeAt c C_Reader "name" "Reader.name" s_Reader_name ["self"] [] []
  a_Reader_vector : MeAt c C_Reader "vector" "Reader.vector" s_Reader_vector ["self"] [] []
  a_Reader_row : MeAt c C_Reader "row" "Reader.row" s_Reader_row ["self", "least"] [V.int 1] []
  a_Reader_block : MeAt c C_Reader "block" "Reader.block" s_Reader_block ["self", "least"] [V.int 1] [0]
  a_Reader_entry : MeAt c C_Reader "entry" "Reader.entry" s_Reader_entry ["self"] [] []
  a_law_draw : At c "_law_draw" s_law_draw ["_law_state", "_law_script", "_law_size"] [] []
  a_law_all : At c "_law_all" s_law_all [] [] []
  a_law_count : At c "_law_count" s_law_count ["_law_state", "_law_script", "_law_least"] [] []
  a_law_name : At c "_law_name" s_law_name ["_law_state", "_law_script"] [] []
  a_law_vector : At c "_law_vector" s_law_vector ["_law_state", "_law_script"] [] []
  a_law_block : At c "_law_block" s_law_block ["_law_row_here"] [] []
  a_law_row : At c "_law_row" s_law_row ["_law_state", "_law_script", "_law_size"] [] []
  a_law_entry : At c "_law_entry" s_law_entry ["_law_state", "_law_script"] [] []
  a_law_four : At c "_law_four" s_law_four ["_law_number"] [] []
  a_law_name_written : At c "_law_name_written" s_law_name_written ["_law_name_here"] [] []
  a_law_vector_written : At c "_law_vector_written" s_law_vector_written ["_law_vector_here"] [] []
  a_law_block_written : At c "_law_block_written" s_law_block_written ["_law_block_here"] [] []
  a_law_entry_written : At c "_law_entry_written" s_law_entry_written ["_law_fields_here", "_law_number"] [] []
  a_law_made : At c "_law_made" s_law_made ["_law_fields_here"] [] []
  a_law_fields : At c "_law_fields" s_law_fields ["_law_entry_here"] [] []
  a_law_take : At c "_law_take" s_law_take ["_law_data", "_law_box", "_law_least", "_law_most"] [] []
  a_law_number_read : At c "_law_number_read" s_law_number_read ["_law_data", "_law_box", "_law_least"] [] []
  a_law_name_read : At c "_law_name_read" s_law_name_read ["_law_data", "_law_box"] [] []
  a_law_vector_read : At c "_law_vector_read" s_law_vector_read ["_law_data", "_law_box"] [] []
  a_law_row_read : At c "_law_row_read" s_law_row_read ["_law_data", "_law_box", "_law_least"] [] []
  a_law_entry_read : At c "_law_entry_read" s_law_entry_read ["_law_data", "_law_box"] [] []
  a_law_value : At c "_law_value" s_law_value ["_law_state", "_law_script", "_law_kind"] [] []
  a_law_changed : At c "_law_changed" s_law_changed ["_law_state", "_law_script", "_law_data"] [] []
  a_law_due : At c "_law_due" s_law_due ["_law_data", "_law_kind", "_law_at", "_law_least", "_law_most"] [] []
  a_law_told_of : At c "_law_told_of" s_law_told_of ["_law_reader", "_law_kind", "_law_least", "_law_most"] [] []
  a_law_outcome : At c "_law_outcome" s_law_outcome ["_law_data", "_law_kind", "_law_at", "_law_least", "_law_most"] [] []
  a_law_in_turn : At c "_law_in_turn" s_law_in_turn ["_law_state", "_law_script"] [] []
  a_law : At c "law" s_law ["_law_script"] [] []
section
variable {c : C0} {C_Entry C_Reader C_FolderkinError C_InvalidBlock C_InvalidBytes gX : Nat}
theorem isX_ok (T : Facts c C_Entry C_Reader C_FolderkinError C_InvalidBlock C_InvalidBytes gX) : ∀ C, isX C_Entry C_Reader C_FolderkinError C_InvalidBlock C_InvalidBytes gX C = true → ExC c.K C_FolderkinError gX C := fun C h => by
  unfold isX at h
  simp at h
  rcases h with rfl | rfl
  · exact T.x_InvalidBlock.e
  · exact T.x_InvalidBytes.e
theorem isX_np (T : Facts c C_Entry C_Reader C_FolderkinError C_InvalidBlock C_InvalidBytes gX) : ∀ C, isX C_Entry C_Reader C_FolderkinError C_InvalidBlock C_InvalidBytes gX C = true → PySem.W.findIn c.K (.ref C) "place" = some none := fun C h => (isX_ok (c := c) T C h).np
theorem exm_InvalidBytes_ok (T : Facts c C_Entry C_Reader C_FolderkinError C_InvalidBlock C_InvalidBytes gX) : ExM c C_InvalidBytes (exm_InvalidBytes C_Entry C_Reader C_FolderkinError C_InvalidBlock C_InvalidBytes gX) := fun C b h => by
  unfold exm_InvalidBytes at h
  split at h
  · rename_i e
    subst e
    cases h
    exact T.em_InvalidBlock_InvalidBytes
  split at h
  · rename_i e
    subst e
    cases h
    exact T.em_InvalidBytes_InvalidBytes
  cases h
theorem xi_FolderkinError_ok (T : Facts c C_Entry C_Reader C_FolderkinError C_InvalidBlock C_InvalidBytes gX) : ∀ C b, xi_FolderkinError C_Entry C_Reader C_FolderkinError C_InvalidBlock C_InvalidBytes gX C = some b → PySem.W.kitOne c.K (.ref C) (.ref C_FolderkinError) = some b := fun C b h => by
  unfold xi_FolderkinError at h
  split at h
  · rename_i e
    subst e
    cases h
    exact T.ki_InvalidBlock_FolderkinError
  split at h
  · rename_i e
    subst e
    cases h
    exact T.ki_InvalidBytes_FolderkinError
  cases h
theorem xi_ValueError_ok (T : Facts c C_Entry C_Reader C_FolderkinError C_InvalidBlock C_InvalidBytes gX) : ∀ C b, xi_ValueError C_Entry C_Reader C_FolderkinError C_InvalidBlock C_InvalidBytes gX C = some b → PySem.W.kitOne c.K (.ref C) (.type "ValueError") = some b := fun C b h => by
  unfold xi_ValueError at h
  split at h
  · rename_i e
    subst e
    cases h
    exact T.ki_InvalidBlock_ValueError
  split at h
  · rename_i e
    subst e
    cases h
    exact T.ki_InvalidBytes_ValueError
  cases h
theorem jb_block_number (T : Facts c C_Entry C_Reader C_FolderkinError C_InvalidBlock C_InvalidBytes gX) : JB (c.at_ 0) ["data", "number", "byte"] (defScope s_block_number) (defBody s_block_number) (m_block_number C_Entry C_Reader C_FolderkinError C_InvalidBlock C_InvalidBytes gX) :=
  jb_cons (set_ 1 sc_block_number.nd (ce_int))
    (jb_cons (js_for (ji_list (v_ 0)) (tg_ 2 sc_block_number.nd) (jb_one (set_ 1 sc_block_number.nd (ce_op o_add (ce_op o_mul (v_ 1) (ce_int)) (v_ 2)))))
    (jb_one (js_ret (v_ 1))))
theorem P_block_number (T : Facts c C_Entry C_Reader C_FolderkinError C_InvalidBlock C_InvalidBytes gX) : PrF c 1 "block_number" ["data"] [] [] (f_block_number C_Entry C_Reader C_FolderkinError C_InvalidBlock C_InvalidBytes gX) := T.a_block_number.runP sc_block_number (jb_block_number T)
theorem jb_block_size (T : Facts c C_Entry C_Reader C_FolderkinError C_InvalidBlock C_InvalidBytes gX) : JB (c.at_ 0) ["number", "size"] (defScope s_block_size) (defBody s_block_size) (m_block_size C_Entry C_Reader C_FolderkinError C_InvalidBlock C_InvalidBytes gX) :=
  jb_cons (js_for (ji_range2 rfl T.b_range (jl_cons (ce_int) (jl_cons (ce_op o_add (g_int (hm := T.k_BLOCK)) (ce_int)) (jl_nil)))) (tg_ 1 sc_block_size.nd) (jb_one (js_if (jt_cmp o_eq (ce_op o_shr (v_ 0) (ce_op o_mul (ce_int) (v_ 1))) (ce_int)) (jb_one (js_ret (v_ 1))) (jb_nil))))
    (jb_one (js_ret (ce_int)))
theorem P_block_size (T : Facts c C_Entry C_Reader C_FolderkinError C_InvalidBlock C_InvalidBytes gX) : PrF c 1 "block_size" ["number"] [] [] (f_block_size C_Entry C_Reader C_FolderkinError C_InvalidBlock C_InvalidBytes gX) := T.a_block_size.runP sc_block_size (jb_block_size T)
theorem jb_is_block (T : Facts c C_Entry C_Reader C_FolderkinError C_InvalidBlock C_InvalidBytes gX) : JB (c.at_ 1) ["number"] (defScope s_is_block) (defBody s_is_block) (m_is_block C_Entry C_Reader C_FolderkinError C_InvalidBlock C_InvalidBytes gX) :=
  jb_one (js_ret (ce_cmp o_gt (je_call (P_block_size (c := c) T).fn (Nat.le_of_ble_eq_true rfl) rfl (jl_cons (v_ 0) (jl_nil))) (ce_int)))
theorem P_is_block (T : Facts c C_Entry C_Reader C_FolderkinError C_InvalidBlock C_InvalidBytes gX) : PrF c 2 "is_block" ["number"] [] [] (f_is_block C_Entry C_Reader C_FolderkinError C_InvalidBlock C_InvalidBytes gX) := T.a_is_block.runP sc_is_block (jb_is_block T)
theorem jb_block_bytes (T : Facts c C_Entry C_Reader C_FolderkinError C_InvalidBlock C_InvalidBytes gX) : JB (c.at_ 2) ["number", "data"] (defScope s_block_bytes) (defBody s_block_bytes) (m_block_bytes C_Entry C_Reader C_FolderkinError C_InvalidBlock C_InvalidBytes gX) :=
  jb_cons (js_if (jt_not (jt_val (je_call (P_is_block (c := c) T).fn (Nat.le_of_ble_eq_true rfl) rfl (jl_cons (v_ 0) (jl_nil))))) (jb_one (js_raise T.x_InvalidBlock (Nat.le_of_ble_eq_true rfl) rfl (ce_int))) (jb_nil))
    (jb_cons (set_ 1 sc_block_bytes.nd (JF.new (jf_lst (jl_nil))))
    (jb_cons (js_while (jt_cmp o_gt (v_ 0) (ce_int)) (jb_cons (js_expr (je_mut mu_insert PySem.F.slot_list_insert PySem.F.type_list_insert (v_ 1) (jl_cons (ce_int) (jl_cons (ce_op o_mod (v_ 0) (ce_int)) (jl_nil)))))
    (jb_one (set_ 0 sc_block_bytes.nd (ce_op o_div (v_ 0) (ce_int))))))
    (jb_one (js_ret (JE.frz (v_ 1))))))
theorem P_block_bytes (T : Facts c C_Entry C_Reader C_FolderkinError C_InvalidBlock C_InvalidBytes gX) : PrF c 3 "block_bytes" ["number"] [] [] (f_block_bytes C_Entry C_Reader C_FolderkinError C_InvalidBlock C_InvalidBytes gX) := T.a_block_bytes.runP sc_block_bytes (jb_block_bytes T)
theorem jb_Entry_init (T : Facts c C_Entry C_Reader C_FolderkinError C_InvalidBlock C_InvalidBytes gX) : JB (c.at_ 0) ["self", "name", "vector", "height", "maker", "deleted", "time", "blocks"] (defScope s_Entry_init) (defBody s_Entry_init) (m_Entry_init C_Entry C_Reader C_FolderkinError C_InvalidBlock C_InvalidBytes gX) :=
  jb_cons (js_seta T.cl_Entry.cl T.na_Entry_name (v_ 1) (v_ 0))
    (jb_cons (js_seta T.cl_Entry.cl T.na_Entry_vector (v_ 2) (v_ 0))
    (jb_cons (js_seta T.cl_Entry.cl T.na_Entry_height (v_ 3) (v_ 0))
    (jb_cons (js_seta T.cl_Entry.cl T.na_Entry_maker (v_ 4) (v_ 0))
    (jb_cons (js_seta T.cl_Entry.cl T.na_Entry_deleted (v_ 5) (v_ 0))
    (jb_cons (js_seta T.cl_Entry.cl T.na_Entry_time (v_ 6) (v_ 0))
    (jb_one (js_seta T.cl_Entry.cl T.na_Entry_blocks (v_ 7) (v_ 0))))))))
theorem P_Entry_init (T : Facts c C_Entry C_Reader C_FolderkinError C_InvalidBlock C_InvalidBytes gX) : PrI c 1 C_Entry "Entry" ["self", "name", "vector", "height", "maker", "deleted", "time", "blocks"] [] [] (f_Entry_init C_Entry C_Reader C_FolderkinError C_InvalidBlock C_InvalidBytes gX) := T.a_Entry_init.run sc_Entry_init (jb_Entry_init T)
theorem jb_character_of (T : Facts c C_Entry C_Reader C_FolderkinError C_InvalidBlock C_InvalidBytes gX) : JB (c.at_ 0) ["code", "at"] (defScope s_character_of) (defBody s_character_of) (m_character_of C_Entry C_Reader C_FolderkinError C_InvalidBlock C_InvalidBytes gX) :=
  jb_cons (set_ 1 sc_character_of.nd (ce_op o_sub (v_ 0) (g_int (hm := T.k_FIRST_CODE))))
    (jb_cons (js_if (jt_w (jw_or (jt_cmp o_lt (v_ 1) (ce_int)) (jw_or (jt_cmp o_ge (v_ 1) (je_b1 c_len rfl T.b_len (by decide +kernel) (g_str (hm := T.k_TABLE)))) (jw_or1 (jt_cmp o_notIn (je_ix o_ix (g_str (hm := T.k_TABLE)) (v_ 1)) (g_str (hm := T.k_CHARACTERS))))))) (jb_one (js_ret (ce_non))) (jb_nil))
    (jb_one (js_ret (je_ix o_ix (g_str (hm := T.k_TABLE)) (v_ 1)))))
theorem P_character_of (T : Facts c C_Entry C_Reader C_FolderkinError C_InvalidBlock C_InvalidBytes gX) : PrF c 1 "character_of" ["code"] [] [] (f_character_of C_Entry C_Reader C_FolderkinError C_InvalidBlock C_InvalidBytes gX) := T.a_character_of.runP sc_character_of (jb_character_of T)
theorem jb_number_bytes (T : Facts c C_Entry C_Reader C_FolderkinError C_InvalidBlock C_InvalidBytes gX) : JB (c.at_ 0) ["number"] (defScope s_number_bytes) (defBody s_number_bytes) (m_number_bytes C_Entry C_Reader C_FolderkinError C_InvalidBlock C_InvalidBytes gX) :=
  jb_one (js_ret (JF.je (jf_lst (jl_cons (ce_op o_shr (v_ 0) (ce_int)) (jl_cons (ce_op o_and (ce_op o_shr (v_ 0) (ce_int)) (ce_int)) (jl_cons (ce_op o_and (ce_op o_shr (v_ 0) (ce_int)) (ce_int)) (jl_cons (ce_op o_and (v_ 0) (ce_int)) (jl_nil))))))))
theorem P_number_bytes (T : Facts c C_Entry C_Reader C_FolderkinError C_InvalidBlock C_InvalidBytes gX) : PrF c 1 "number_bytes" ["number"] [] [] (f_number_bytes C_Entry C_Reader C_FolderkinError C_InvalidBlock C_InvalidBytes gX) := T.a_number_bytes.runP sc_number_bytes (jb_number_bytes T)
theorem jb_name_bytes (T : Facts c C_Entry C_Reader C_FolderkinError C_InvalidBlock C_InvalidBytes gX) : JB (c.at_ 0) ["name", "char"] (defScope s_name_bytes) (defBody s_name_bytes) (m_name_bytes C_Entry C_Reader C_FolderkinError C_InvalidBlock C_InvalidBytes gX) :=
  jb_one (js_ret (ce_op o_add (JF.je (jf_lst (jl_cons (je_b1 c_len rfl T.b_len (by decide +kernel) (v_ 0)) (jl_nil)))) (JF.je (jf_lc (own := [("char", 1)]) (oc := []) sc_name_bytes.nd (ji_str (v_ 0)) (blkOk_by (by decide +kernel)) (tg_ 1 sc_name_bytes.nd) (jts_nil) (je_b1 c_ord rfl T.b_ord (by decide +kernel) (v_ 1))))))
theorem P_name_bytes (T : Facts c C_Entry C_Reader C_FolderkinError C_InvalidBlock C_InvalidBytes gX) : PrF c 1 "name_bytes" ["name"] [] [] (f_name_bytes C_Entry C_Reader C_FolderkinError C_InvalidBlock C_InvalidBytes gX) := T.a_name_bytes.runP sc_name_bytes (jb_name_bytes T)
theorem jb_vector_bytes (T : Facts c C_Entry C_Reader C_FolderkinError C_InvalidBlock C_InvalidBytes gX) : JB (c.at_ 1) ["vector", "data", "device", "count"] (defScope s_vector_bytes) (defBody s_vector_bytes) (m_vector_bytes C_Entry C_Reader C_FolderkinError C_InvalidBlock C_InvalidBytes gX) :=
  jb_cons (set_ 1 sc_vector_bytes.nd (JF.new (jf_lst (jl_cons (je_b1 c_len rfl T.b_len (by decide +kernel) (v_ 0)) (jl_nil)))))
    (jb_cons (js_for (ji_tup (v_ 0)) (jtg_tup (jtgs_cons (tg_ 2 sc_vector_bytes.nd) (jtgs_cons (tg_ 3 sc_vector_bytes.nd) (jtgs_nil)))) (jb_cons (js_expr (je_mut mu_append PySem.F.slot_list_append PySem.F.type_list_append (v_ 1) (jl_cons (v_ 2) (jl_nil))))
    (jb_one (js_expr (je_ext (v_ 1) (je_call (P_number_bytes (c := c) T).fn (Nat.le_of_ble_eq_true rfl) rfl (jl_cons (v_ 3) (jl_nil))))))))
    (jb_one (js_ret (JE.frz (v_ 1)))))
theorem P_vector_bytes (T : Facts c C_Entry C_Reader C_FolderkinError C_InvalidBlock C_InvalidBytes gX) : PrF c 2 "vector_bytes" ["vector"] [] [] (f_vector_bytes C_Entry C_Reader C_FolderkinError C_InvalidBlock C_InvalidBytes gX) := T.a_vector_bytes.runP sc_vector_bytes (jb_vector_bytes T)
theorem jb_data_bytes (T : Facts c C_Entry C_Reader C_FolderkinError C_InvalidBlock C_InvalidBytes gX) : JB (c.at_ 0) ["data"] (defScope s_data_bytes) (defBody s_data_bytes) (m_data_bytes C_Entry C_Reader C_FolderkinError C_InvalidBlock C_InvalidBytes gX) :=
  jb_one (js_ret (ce_op o_add (JF.je (jf_lst (jl_cons (je_b1 c_len rfl T.b_len (by decide +kernel) (v_ 0)) (jl_nil)))) (JF.je (jf_t1 cf_list rfl T.b_list (by decide +kernel) (v_ 0)))))
theorem P_data_bytes (T : Facts c C_Entry C_Reader C_FolderkinError C_InvalidBlock C_InvalidBytes gX) : PrF c 1 "data_bytes" ["data"] [] [] (f_data_bytes C_Entry C_Reader C_FolderkinError C_InvalidBlock C_InvalidBytes gX) := T.a_data_bytes.runP sc_data_bytes (jb_data_bytes T)
theorem jb_entry_bytes (T : Facts c C_Entry C_Reader C_FolderkinError C_InvalidBlock C_InvalidBytes gX) : JB (c.at_ 3) ["entry", "number", "data", "block"] (defScope s_entry_bytes) (defBody s_entry_bytes) (m_entry_bytes C_Entry C_Reader C_FolderkinError C_InvalidBlock C_InvalidBytes gX) :=
  jb_cons (set_ 2 sc_entry_bytes.nd (JF.new (cf_op of_cat (ce_op o_add (je_call (P_number_bytes (c := c) T).fn (Nat.le_of_ble_eq_true rfl) rfl (jl_cons (v_ 1) (jl_nil))) (je_call (P_name_bytes (c := c) T).fn (Nat.le_of_ble_eq_true rfl) rfl (jl_cons (je_fld (v_ 0) T.cl_Entry.cl T.na_Entry_name) (jl_nil)))) (je_call (P_vector_bytes (c := c) T).fn (Nat.le_of_ble_eq_true rfl) rfl (jl_cons (je_fld (v_ 0) T.cl_Entry.cl T.na_Entry_vector) (jl_nil))))))
    (jb_cons (js_expr (je_ext (v_ 2) (ce_op o_add (ce_op o_add (je_call (P_number_bytes (c := c) T).fn (Nat.le_of_ble_eq_true rfl) rfl (jl_cons (je_fld (v_ 0) T.cl_Entry.cl T.na_Entry_height) (jl_nil))) (JF.je (jf_lst (jl_cons (je_ix o_ix (je_fld (v_ 0) T.cl_Entry.cl T.na_Entry_maker) (ce_int)) (jl_nil))))) (je_call (P_number_bytes (c := c) T).fn (Nat.le_of_ble_eq_true rfl) rfl (jl_cons (je_ix o_ix (je_fld (v_ 0) T.cl_Entry.cl T.na_Entry_maker) (ce_int)) (jl_nil))))))
    (jb_cons (js_expr (je_ext (v_ 2) (ce_op o_add (ce_op o_add (JF.je (jf_lst (jl_cons (je_t1 c_int rfl T.b_int (by decide +kernel) (je_fld (v_ 0) T.cl_Entry.cl T.na_Entry_deleted)) (jl_nil)))) (je_call (P_number_bytes (c := c) T).fn (Nat.le_of_ble_eq_true rfl) rfl (jl_cons (je_fld (v_ 0) T.cl_Entry.cl T.na_Entry_time) (jl_nil)))) (JF.je (jf_lst (jl_cons (je_b1 c_len rfl T.b_len (by decide +kernel) (je_fld (v_ 0) T.cl_Entry.cl T.na_Entry_blocks)) (jl_nil)))))))
    (jb_cons (js_for (ji_tup (je_fld (v_ 0) T.cl_Entry.cl T.na_Entry_blocks)) (tg_ 3 sc_entry_bytes.nd) (jb_one (js_expr (je_ext (v_ 2) (je_call (P_data_bytes (c := c) T).fn (Nat.le_of_ble_eq_true rfl) rfl (jl_cons (je_call (P_block_bytes (c := c) T).fn (Nat.le_of_ble_eq_true rfl) rfl (jl_cons (v_ 3) (jl_nil))) (jl_nil)))))))
    (jb_one (js_ret (JE.frz (v_ 2)))))))
theorem P_entry_bytes (T : Facts c C_Entry C_Reader C_FolderkinError C_InvalidBlock C_InvalidBytes gX) : PrF c 4 "entry_bytes" ["entry", "number"] [] [] (f_entry_bytes C_Entry C_Reader C_FolderkinError C_InvalidBlock C_InvalidBytes gX) := T.a_entry_bytes.runP sc_entry_bytes (jb_entry_bytes T)
theorem jb_Reader_init (T : Facts c C_Entry C_Reader C_FolderkinError C_InvalidBlock C_InvalidBytes gX) : JB (c.at_ 0) ["self", "data", "at"] (defScope s_Reader_init) (defBody s_Reader_init) (m_Reader_init C_Entry C_Reader C_FolderkinError C_InvalidBlock C_InvalidBytes gX) :=
  jb_cons (js_seta T.cl_Reader.cl T.na_Reader_data (v_ 1) (v_ 0))
    (jb_one (js_seta T.cl_Reader.cl T.na_Reader_at (v_ 2) (v_ 0)))
theorem P_Reader_init (T : Facts c C_Entry C_Reader C_FolderkinError C_InvalidBlock C_InvalidBytes gX) : PrI c 1 C_Reader "Reader" ["self", "data", "at"] [V.int 0] [0] (f_Reader_init C_Entry C_Reader C_FolderkinError C_InvalidBlock C_InvalidBytes gX) := T.a_Reader_init.run sc_Reader_init (jb_Reader_init T)
theorem jb_Reader_byte (T : Facts c C_Entry C_Reader C_FolderkinError C_InvalidBlock C_InvalidBytes gX) : JB (c.at_ 2) ["self", "least", "most"] (defScope s_Reader_byte) (defBody s_Reader_byte) (m_Reader_byte C_Entry C_Reader C_FolderkinError C_InvalidBlock C_InvalidBytes gX) :=
  jb_cons (js_if (jt_w (jw_or (jt_cmp o_ge (je_fld (v_ 0) T.cl_Reader.cl T.na_Reader_at) (je_b1 c_len rfl T.b_len (by decide +kernel) (je_fld (v_ 0) T.cl_Reader.cl T.na_Reader_data))) (jw_or1 (jt_not (jt_chain o_le o_le (v_ 1) (je_ix o_ix (je_fld (v_ 0) T.cl_Reader.cl T.na_Reader_data) (je_fld (v_ 0) T.cl_Reader.cl T.na_Reader_at)) (v_ 2)))))) (jb_one (js_raise T.x_InvalidBytes (Nat.le_of_ble_eq_true rfl) rfl (je_fld (v_ 0) T.cl_Reader.cl T.na_Reader_at))) (jb_nil))
    (jb_cons (js_auga o_iadd T.cl_Reader.cl T.na_Reader_at (v_ 0) (ce_int))
    (jb_one (js_ret (je_ix o_ix (je_fld (v_ 0) T.cl_Reader.cl T.na_Reader_data) (ce_op o_sub (je_fld (v_ 0) T.cl_Reader.cl T.na_Reader_at) (ce_int))))))
theorem P_Reader_byte (T : Facts c C_Entry C_Reader C_FolderkinError C_InvalidBlock C_InvalidBytes gX) : PrM c 3 C_Reader "byte" ["self", "least", "most"] [V.int 0, V.int 255] [0, 1] (f_Reader_byte C_Entry C_Reader C_FolderkinError C_InvalidBlock C_InvalidBytes gX) := T.a_Reader_byte.runP sc_Reader_byte (jb_Reader_byte T)
theorem jb_Reader_number (T : Facts c C_Entry C_Reader C_FolderkinError C_InvalidBlock C_InvalidBytes gX) : JB (c.at_ 3) ["self", "least", "number"] (defScope s_Reader_number) (defBody s_Reader_number) (m_Reader_number C_Entry C_Reader C_FolderkinError C_InvalidBlock C_InvalidBytes gX) :=
  jb_cons (set_ 2 sc_Reader_number.nd (je_meth0 T.cl_Reader.cl ((P_Reader_byte (c := c) T).mtd (np := 0) 0 [.int 0, .int 255] (by simp) (fun H => by repeat constructor)) (Nat.le_of_ble_eq_true rfl) (v_ 0)))
    (jb_cons (set_ 2 sc_Reader_number.nd (ce_op o_add (ce_op o_mul (v_ 2) (ce_int)) (je_meth0 T.cl_Reader.cl ((P_Reader_byte (c := c) T).mtd (np := 0) 0 [.int 0, .int 255] (by simp) (fun H => by repeat constructor)) (Nat.le_of_ble_eq_true rfl) (v_ 0))))
    (jb_cons (set_ 2 sc_Reader_number.nd (ce_op o_add (ce_op o_mul (v_ 2) (ce_int)) (je_meth0 T.cl_Reader.cl ((P_Reader_byte (c := c) T).mtd (np := 0) 0 [.int 0, .int 255] (by simp) (fun H => by repeat constructor)) (Nat.le_of_ble_eq_true rfl) (v_ 0))))
    (jb_one (js_ret (ce_op o_add (ce_op o_mul (v_ 2) (ce_int)) (je_meth T.cl_Reader.cl ((P_Reader_byte (c := c) T).mtd (np := 1) 1 [.int 255] (by simp) (fun H => by repeat constructor)) (Nat.le_of_ble_eq_true rfl) (v_ 0) (jl_cons (je_if (jt_cmp o_eq (v_ 2) (ce_int)) (v_ 1) (ce_int)) (jl_nil))))))))
theorem P_Reader_number (T : Facts c C_Entry C_Reader C_FolderkinError C_InvalidBlock C_InvalidBytes gX) : PrM c 4 C_Reader "number" ["self", "least"] [V.int 0] [0] (f_Reader_number C_Entry C_Reader C_FolderkinError C_InvalidBlock C_InvalidBytes gX) := T.a_Reader_number.runP sc_Reader_number (jb_Reader_number T)
theorem jb_Reader_device (T : Facts c C_Entry C_Reader C_FolderkinError C_InvalidBlock C_InvalidBytes gX) : JB (c.at_ 3) ["self"] (defScope s_Reader_device) (defBody s_Reader_device) (m_Reader_device C_Entry C_Reader C_FolderkinError C_InvalidBlock C_InvalidBytes gX) :=
  jb_one (js_ret (je_meth T.cl_Reader.cl (P_Reader_byte (c := c) T).mt (Nat.le_of_ble_eq_true rfl) (v_ 0) (jl_cons (ce_int) (jl_cons (g_int (hm := T.k_MOST_DEVICE)) (jl_nil)))))
theorem P_Reader_device (T : Facts c C_Entry C_Reader C_FolderkinError C_InvalidBlock C_InvalidBytes gX) : PrM c 4 C_Reader "device" ["self"] [] [] (f_Reader_device C_Entry C_Reader C_FolderkinError C_InvalidBlock C_InvalidBytes gX) := T.a_Reader_device.runP sc_Reader_device (jb_Reader_device T)
theorem jb_Reader_name (T : Facts c C_Entry C_Reader C_FolderkinError C_InvalidBlock C_InvalidBytes gX) : JB (c.at_ 3) ["self", "name", "count", "char"] (defScope s_Reader_name) (defBody s_Reader_name) (m_Reader_name C_Entry C_Reader C_FolderkinError C_InvalidBlock C_InvalidBytes gX) :=
  jb_cons (set_ 1 sc_Reader_name.nd (ce_str))
    (jb_cons (js_for (ji_range1 rfl T.b_range (jl_cons (je_meth T.cl_Reader.cl (P_Reader_byte (c := c) T).mt (Nat.le_of_ble_eq_true rfl) (v_ 0) (jl_cons (ce_int) (jl_cons (g_int (hm := T.k_MOST_NAME)) (jl_nil)))) (jl_nil))) (tg_ 2 sc_Reader_name.nd) (jb_cons (set_ 3 sc_Reader_name.nd (je_call (P_character_of (c := c) T).fn (Nat.le_of_ble_eq_true rfl) rfl (jl_cons (je_meth0 T.cl_Reader.cl ((P_Reader_byte (c := c) T).mtd (np := 0) 0 [.int 0, .int 255] (by simp) (fun H => by repeat constructor)) (Nat.le_of_ble_eq_true rfl) (v_ 0)) (jl_nil))))
    (jb_cons (js_if (jt_cmp o_is (v_ 3) (ce_non)) (jb_one (js_raise T.x_InvalidBytes (Nat.le_of_ble_eq_true rfl) rfl (ce_op o_sub (je_fld (v_ 0) T.cl_Reader.cl T.na_Reader_at) (ce_int)))) (jb_nil))
    (jb_one (js_aug (i := 1) sc_Reader_name.nd o_iadd (v_ 3))))))
    (jb_one (js_ret (v_ 1))))
theorem P_Reader_name (T : Facts c C_Entry C_Reader C_FolderkinError C_InvalidBlock C_InvalidBytes gX) : PrM c 4 C_Reader "name" ["self"] [] [] (f_Reader_name C_Entry C_Reader C_FolderkinError C_InvalidBlock C_InvalidBytes gX) := T.a_Reader_name.runP sc_Reader_name (jb_Reader_name T)
theorem jb_Reader_vector (T : Facts c C_Entry C_Reader C_FolderkinError C_InvalidBlock C_InvalidBytes gX) : JB (c.at_ 4) ["self", "pairs", "device", "rest"] (defScope s_Reader_vector) (defBody s_Reader_vector) (m_Reader_vector C_Entry C_Reader C_FolderkinError C_InvalidBlock C_InvalidBytes gX) :=
  jb_cons (set_ 1 sc_Reader_vector.nd (JF.new (jf_lst (jl_nil))))
    (jb_cons (set_ 2 sc_Reader_vector.nd (ce_int))
    (jb_cons (js_for (ji_range3 rfl T.b_range (jl_cons (ce_op o_sub (je_meth T.cl_Reader.cl (P_Reader_byte (c := c) T).mt (Nat.le_of_ble_eq_true rfl) (v_ 0) (jl_cons (ce_int) (jl_cons (g_int (hm := T.k_MOST_DEVICE)) (jl_nil)))) (ce_int)) (jl_cons (je_neg (ce_int)) (jl_cons (je_neg (ce_int)) (jl_nil))))) (tg_ 3 sc_Reader_vector.nd) (jb_cons (set_ 2 sc_Reader_vector.nd (je_meth T.cl_Reader.cl (P_Reader_byte (c := c) T).mt (Nat.le_of_ble_eq_true rfl) (v_ 0) (jl_cons (ce_op o_add (v_ 2) (ce_int)) (jl_cons (ce_op o_sub (g_int (hm := T.k_MOST_DEVICE)) (v_ 3)) (jl_nil)))))
    (jb_one (js_expr (je_mut mu_append PySem.F.slot_list_append PySem.F.type_list_append (v_ 1) (jl_cons (je_tup (jl_cons (v_ 2) (jl_cons (je_meth T.cl_Reader.cl (P_Reader_number (c := c) T).mt (Nat.le_of_ble_eq_true rfl) (v_ 0) (jl_cons (ce_int) (jl_nil))) (jl_nil)))) (jl_nil)))))))
    (jb_one (js_ret (je_t1 c_tuple rfl T.b_tuple (by decide +kernel) (v_ 1))))))
theorem P_Reader_vector (T : Facts c C_Entry C_Reader C_FolderkinError C_InvalidBlock C_InvalidBytes gX) : PrM c 5 C_Reader "vector" ["self"] [] [] (f_Reader_vector C_Entry C_Reader C_FolderkinError C_InvalidBlock C_InvalidBytes gX) := T.a_Reader_vector.runP sc_Reader_vector (jb_Reader_vector T)
theorem jb_Reader_row (T : Facts c C_Entry C_Reader C_FolderkinError C_InvalidBlock C_InvalidBytes gX) : JB (c.at_ 3) ["self", "least", "count"] (defScope s_Reader_row) (defBody s_Reader_row) (m_Reader_row C_Entry C_Reader C_FolderkinError C_InvalidBlock C_InvalidBytes gX) :=
  jb_one (js_ret (JF.je (jf_lcX (own := [("count", 2)]) (oc := []) sc_Reader_row.nd (ji_range1 rfl T.b_range (jl_cons (je_meth T.cl_Reader.cl (P_Reader_byte (c := c) T).mt (Nat.le_of_ble_eq_true rfl) (v_ 0) (jl_cons (v_ 1) (jl_cons (g_int (hm := T.k_BLOCK)) (jl_nil)))) (jl_nil))) (blkOk_by (by decide +kernel)) (tg_ 2 sc_Reader_row.nd) (jts_nil) (je_meth0 T.cl_Reader.cl ((P_Reader_byte (c := c) T).mtd (np := 0) 0 [.int 0, .int 255] (by simp) (fun H => by repeat constructor)) (Nat.le_of_ble_eq_true rfl) (v_ 0)))))
theorem P_Reader_row (T : Facts c C_Entry C_Reader C_FolderkinError C_InvalidBlock C_InvalidBytes gX) : PrM c 4 C_Reader "row" ["self", "least"] [V.int 1] [] (f_Reader_row C_Entry C_Reader C_FolderkinError C_InvalidBlock C_InvalidBytes gX) := T.a_Reader_row.runP sc_Reader_row (jb_Reader_row T)
theorem jb_Reader_block (T : Facts c C_Entry C_Reader C_FolderkinError C_InvalidBlock C_InvalidBytes gX) : JB (c.at_ 4) ["self", "least"] (defScope s_Reader_block) (defBody s_Reader_block) (m_Reader_block C_Entry C_Reader C_FolderkinError C_InvalidBlock C_InvalidBytes gX) :=
  jb_one (js_ret (je_call (P_block_number (c := c) T).fn (Nat.le_of_ble_eq_true rfl) rfl (jl_cons (je_meth T.cl_Reader.cl (P_Reader_row (c := c) T).mt (Nat.le_of_ble_eq_true rfl) (v_ 0) (jl_cons (v_ 1) (jl_nil))) (jl_nil))))
theorem P_Reader_block (T : Facts c C_Entry C_Reader C_FolderkinError C_InvalidBlock C_InvalidBytes gX) : PrM c 5 C_Reader "block" ["self", "least"] [V.int 1] [0] (f_Reader_block C_Entry C_Reader C_FolderkinError C_InvalidBlock C_InvalidBytes gX) := T.a_Reader_block.runP sc_Reader_block (jb_Reader_block T)
theorem jb_Reader_entry (T : Facts c C_Entry C_Reader C_FolderkinError C_InvalidBlock C_InvalidBytes gX) : JB (c.at_ 5) ["self", "number", "name", "vector", "height", "maker", "deleted", "time", "blocks", "rest"] (defScope s_Reader_entry) (defBody s_Reader_entry) (m_Reader_entry C_Entry C_Reader C_FolderkinError C_InvalidBlock C_InvalidBytes gX) :=
  jb_cons (set_ 1 sc_Reader_entry.nd (je_meth T.cl_Reader.cl (P_Reader_number (c := c) T).mt (Nat.le_of_ble_eq_true rfl) (v_ 0) (jl_cons (ce_int) (jl_nil))))
    (jb_cons (set_ 2 sc_Reader_entry.nd (je_meth0 T.cl_Reader.cl (P_Reader_name (c := c) T).mt (Nat.le_of_ble_eq_true rfl) (v_ 0)))
    (jb_cons (set_ 3 sc_Reader_entry.nd (je_meth0 T.cl_Reader.cl (P_Reader_vector (c := c) T).mt (Nat.le_of_ble_eq_true rfl) (v_ 0)))
    (jb_cons (set_ 4 sc_Reader_entry.nd (je_meth T.cl_Reader.cl (P_Reader_number (c := c) T).mt (Nat.le_of_ble_eq_true rfl) (v_ 0) (jl_cons (ce_int) (jl_nil))))
    (jb_cons (set_ 5 sc_Reader_entry.nd (je_tup (jl_cons (je_meth0 T.cl_Reader.cl (P_Reader_device (c := c) T).mt (Nat.le_of_ble_eq_true rfl) (v_ 0)) (jl_cons (je_meth T.cl_Reader.cl (P_Reader_number (c := c) T).mt (Nat.le_of_ble_eq_true rfl) (v_ 0) (jl_cons (ce_int) (jl_nil))) (jl_nil)))))
    (jb_cons (set_ 6 sc_Reader_entry.nd (ce_cmp o_eq (je_meth T.cl_Reader.cl (P_Reader_byte (c := c) T).mt (Nat.le_of_ble_eq_true rfl) (v_ 0) (jl_cons (ce_int) (jl_cons (ce_int) (jl_nil)))) (ce_int)))
    (jb_cons (set_ 7 sc_Reader_entry.nd (je_meth0 T.cl_Reader.cl ((P_Reader_number (c := c) T).mtd (np := 0) 0 [.int 0] (by simp) (fun H => by repeat constructor)) (Nat.le_of_ble_eq_true rfl) (v_ 0)))
    (jb_cons (set_ 8 sc_Reader_entry.nd (JF.new (jf_lst (jl_nil))))
    (jb_cons (js_for (ji_range3 rfl T.b_range (jl_cons (ce_op o_sub (je_meth T.cl_Reader.cl (P_Reader_byte (c := c) T).mt (Nat.le_of_ble_eq_true rfl) (v_ 0) (jl_cons (ce_int) (jl_cons (je_if (jt_val (v_ 6)) (ce_int) (g_int (hm := T.k_MOST_BLOCKS))) (jl_nil)))) (ce_int)) (jl_cons (je_neg (ce_int)) (jl_cons (je_neg (ce_int)) (jl_nil))))) (tg_ 9 sc_Reader_entry.nd) (jb_one (js_expr (je_mut mu_append PySem.F.slot_list_append PySem.F.type_list_append (v_ 8) (jl_cons (je_meth T.cl_Reader.cl (P_Reader_block (c := c) T).mt (Nat.le_of_ble_eq_true rfl) (v_ 0) (jl_cons (je_if (jt_cmp o_eq (v_ 9) (ce_int)) (ce_int) (g_int (hm := T.k_BLOCK))) (jl_nil))) (jl_nil))))))
    (jb_one (js_ret (je_tup (jl_cons (JE.frz (je_mk (P_Entry_init (c := c) T).mk_ (Nat.le_of_ble_eq_true rfl) rfl (jl_cons (v_ 2) (jl_cons (v_ 3) (jl_cons (v_ 4) (jl_cons (v_ 5) (jl_cons (v_ 6) (jl_cons (v_ 7) (jl_cons (je_t1 c_tuple rfl T.b_tuple (by decide +kernel) (v_ 8)) (jl_nil)))))))))) (jl_cons (v_ 1) (jl_nil))))))))))))))
theorem P_Reader_entry (T : Facts c C_Entry C_Reader C_FolderkinError C_InvalidBlock C_InvalidBytes gX) : PrM c 6 C_Reader "entry" ["self"] [] [] (f_Reader_entry C_Entry C_Reader C_FolderkinError C_InvalidBlock C_InvalidBytes gX) := T.a_Reader_entry.runP sc_Reader_entry (jb_Reader_entry T)
theorem jb_law_draw (T : Facts c C_Entry C_Reader C_FolderkinError C_InvalidBlock C_InvalidBytes gX) : JB (c.at_ 0) ["_law_state", "_law_script", "_law_size", "_law_digit", "_law_at", "_law_cell", "_law_first"] (defScope s_law_draw) (defBody s_law_draw) (m_law_draw C_Entry C_Reader C_FolderkinError C_InvalidBlock C_InvalidBytes gX) :=
  jb_cons (js_if (jt_cmp o_eq (je_ix o_ix (v_ 0) (ce_int)) (ce_int)) (jb_cons (set_ 4 sc_law_draw.nd (je_ix o_ix (v_ 0) (ce_int)))
    (jb_cons (set_ 5 sc_law_draw.nd (ce_int))
    (jb_cons (js_if (jt_cmp o_gt (je_b1 c_len rfl T.b_len (by decide +kernel) (v_ 1)) (ce_int)) (jb_one (set_ 5 sc_law_draw.nd (je_t1 c_int rfl T.b_int (by decide +kernel) (je_ix o_ix (v_ 1) (ce_op o_mod (v_ 4) (je_b1 c_len rfl T.b_len (by decide +kernel) (v_ 1))))))) (jb_nil))
    (jb_cons (js_if (jt_cmp o_lt (v_ 5) (ce_int)) (jb_one (set_ 5 sc_law_draw.nd (ce_op o_sub (ce_int) (ce_op o_mul (ce_int) (v_ 5))))) (jb_nil))
    (jb_cons (js_if (jt_w (jw_and (jt_cmp o_ge (v_ 5) (ce_op o_pow (ce_int) (ce_int))) (jw_and1 (jt_cmp o_lt (v_ 4) (je_b1 c_len rfl T.b_len (by decide +kernel) (v_ 1)))))) (jb_one (js_seti (v_ 5) (v_ 0) (ce_int))) (jb_cons (set_ 6 sc_law_draw.nd (ce_op o_mod (je_t1 c_int rfl T.b_int (by decide +kernel) (ce_op o_add (ce_op o_add (ce_op o_mul (v_ 5) (ce_int)) (ce_op o_mul (v_ 4) (ce_int))) (ce_int))) (ce_int)))
    (jb_one (js_seti (ce_op o_add (ce_int) (ce_op o_mod (je_t1 c_int rfl T.b_int (by decide +kernel) (ce_op o_add (ce_op o_mul (v_ 6) (ce_int)) (ce_op o_mul (v_ 4) (ce_int)))) (ce_int))) (v_ 0) (ce_int)))))
    (jb_one (js_seti (ce_op o_add (v_ 4) (ce_int)) (v_ 0) (ce_int)))))))) (jb_nil))
    (jb_cons (set_ 3 sc_law_draw.nd (ce_op o_mod (je_t1 c_int rfl T.b_int (by decide +kernel) (je_ix o_ix (v_ 0) (ce_int))) (v_ 2)))
    (jb_cons (js_seti (ce_op o_div (je_ix o_ix (v_ 0) (ce_int)) (v_ 2)) (v_ 0) (ce_int))
    (jb_one (js_ret (v_ 3)))))
theorem P_law_draw (T : Facts c C_Entry C_Reader C_FolderkinError C_InvalidBlock C_InvalidBytes gX) : PrF c 1 "_law_draw" ["_law_state", "_law_script", "_law_size"] [] [] (f_law_draw C_Entry C_Reader C_FolderkinError C_InvalidBlock C_InvalidBytes gX) := T.a_law_draw.runP sc_law_draw (jb_law_draw T)
theorem jb_law_all (T : Facts c C_Entry C_Reader C_FolderkinError C_InvalidBlock C_InvalidBytes gX) : JB (c.at_ 0) [] (defScope s_law_all) (defBody s_law_all) (m_law_all C_Entry C_Reader C_FolderkinError C_InvalidBlock C_InvalidBytes gX) :=
  jb_one (js_ret (ce_str))
theorem P_law_all (T : Facts c C_Entry C_Reader C_FolderkinError C_InvalidBlock C_InvalidBytes gX) : PrF c 1 "_law_all" [] [] [] (f_law_all C_Entry C_Reader C_FolderkinError C_InvalidBlock C_InvalidBytes gX) := T.a_law_all.runP sc_law_all (jb_law_all T)
theorem jb_law_count (T : Facts c C_Entry C_Reader C_FolderkinError C_InvalidBlock C_InvalidBytes gX) : JB (c.at_ 1) ["_law_state", "_law_script", "_law_least", "_law_kind"] (defScope s_law_count) (defBody s_law_count) (m_law_count C_Entry C_Reader C_FolderkinError C_InvalidBlock C_InvalidBytes gX) :=
  jb_cons (set_ 3 sc_law_count.nd (je_call (P_law_draw (c := c) T).fn (Nat.le_of_ble_eq_true rfl) rfl (jl_cons (v_ 0) (jl_cons (v_ 1) (jl_cons (ce_int) (jl_nil))))))
    (jb_cons (js_if (jt_cmp o_eq (v_ 3) (ce_int)) (jb_one (js_ret (je_ix o_ix (JF.je (jf_lst (jl_cons (ce_int) (jl_cons (ce_int) (jl_cons (ce_int) (jl_cons (ce_int) (jl_cons (ce_int) (jl_cons (ce_int) (jl_cons (ce_int) (jl_cons (v_ 2) (jl_nil))))))))))) (je_call (P_law_draw (c := c) T).fn (Nat.le_of_ble_eq_true rfl) rfl (jl_cons (v_ 0) (jl_cons (v_ 1) (jl_cons (ce_int) (jl_nil)))))))) (jb_nil))
    (jb_cons (js_if (jt_cmp o_eq (v_ 3) (ce_int)) (jb_one (js_ret (ce_op o_add (v_ 2) (je_call (P_law_draw (c := c) T).fn (Nat.le_of_ble_eq_true rfl) rfl (jl_cons (v_ 0) (jl_cons (v_ 1) (jl_cons (ce_op o_sub (ce_int) (v_ 2)) (jl_nil)))))))) (jb_nil))
    (jb_one (js_ret (ce_op o_add (v_ 2) (je_call (P_law_draw (c := c) T).fn (Nat.le_of_ble_eq_true rfl) rfl (jl_cons (v_ 0) (jl_cons (v_ 1) (jl_cons (ce_int) (jl_nil))))))))))
theorem P_law_count (T : Facts c C_Entry C_Reader C_FolderkinError C_InvalidBlock C_InvalidBytes gX) : PrF c 2 "_law_count" ["_law_state", "_law_script", "_law_least"] [] [] (f_law_count C_Entry C_Reader C_FolderkinError C_InvalidBlock C_InvalidBytes gX) := T.a_law_count.runP sc_law_count (jb_law_count T)
theorem jb_law_name (T : Facts c C_Entry C_Reader C_FolderkinError C_InvalidBlock C_InvalidBytes gX) : JB (c.at_ 1) ["_law_state", "_law_script", "_law_size", "_law_k"] (defScope s_law_name) (defBody s_law_name) (m_law_name C_Entry C_Reader C_FolderkinError C_InvalidBlock C_InvalidBytes gX) :=
  jb_cons (set_ 2 sc_law_name.nd (ce_op o_add (ce_int) (je_call (P_law_draw (c := c) T).fn (Nat.le_of_ble_eq_true rfl) rfl (jl_cons (v_ 0) (jl_cons (v_ 1) (jl_cons (ce_int) (jl_nil)))))))
    (jb_cons (js_if (jt_cmp o_eq (je_call (P_law_draw (c := c) T).fn (Nat.le_of_ble_eq_true rfl) rfl (jl_cons (v_ 0) (jl_cons (v_ 1) (jl_cons (ce_int) (jl_nil))))) (ce_int)) (jb_one (set_ 2 sc_law_name.nd (ce_op o_sub (ce_int) (je_call (P_law_draw (c := c) T).fn (Nat.le_of_ble_eq_true rfl) rfl (jl_cons (v_ 0) (jl_cons (v_ 1) (jl_cons (ce_int) (jl_nil)))))))) (jb_nil))
    (jb_one (js_ret (je_met Hz.m_join PySem.F.slot_str_join PySem.F.type_str_join (ce_str) (jl_cons (JF.je (jf_lc (own := [("_law_k", 3)]) (oc := []) sc_law_name.nd (ji_range1 rfl T.b_range (jl_cons (v_ 2) (jl_nil))) (blkOk_by (by decide +kernel)) (tg_ 3 sc_law_name.nd) (jts_nil) (je_ix o_ix (je_call0 (P_law_all (c := c) T).fn (Nat.le_of_ble_eq_true rfl) rfl) (je_call (P_law_draw (c := c) T).fn (Nat.le_of_ble_eq_true rfl) rfl (jl_cons (v_ 0) (jl_cons (v_ 1) (jl_cons (ce_int) (jl_nil)))))))) (jl_nil))))))
theorem P_law_name (T : Facts c C_Entry C_Reader C_FolderkinError C_InvalidBlock C_InvalidBytes gX) : PrF c 2 "_law_name" ["_law_state", "_law_script"] [] [] (f_law_name C_Entry C_Reader C_FolderkinError C_InvalidBlock C_InvalidBytes gX) := T.a_law_name.runP sc_law_name (jb_law_name T)
theorem jb_law_vector (T : Facts c C_Entry C_Reader C_FolderkinError C_InvalidBlock C_InvalidBytes gX) : JB (c.at_ 2) ["_law_state", "_law_script", "_law_mask", "_law_k"] (defScope s_law_vector) (defBody s_law_vector) (m_law_vector C_Entry C_Reader C_FolderkinError C_InvalidBlock C_InvalidBytes gX) :=
  jb_cons (set_ 2 sc_law_vector.nd (ce_op o_add (ce_int) (je_call (P_law_draw (c := c) T).fn (Nat.le_of_ble_eq_true rfl) rfl (jl_cons (v_ 0) (jl_cons (v_ 1) (jl_cons (ce_int) (jl_nil)))))))
    (jb_cons (js_if (jt_cmp o_gt (je_call (P_law_draw (c := c) T).fn (Nat.le_of_ble_eq_true rfl) rfl (jl_cons (v_ 0) (jl_cons (v_ 1) (jl_cons (ce_int) (jl_nil))))) (ce_int)) (jb_one (set_ 2 sc_law_vector.nd (ce_op o_shl (ce_int) (je_call (P_law_draw (c := c) T).fn (Nat.le_of_ble_eq_true rfl) rfl (jl_cons (v_ 0) (jl_cons (v_ 1) (jl_cons (ce_int) (jl_nil)))))))) (jb_nil))
    (jb_one (js_ret (je_t1 c_tuple rfl T.b_tuple (by decide +kernel) (JF.je (jf_lc (own := [("_law_k", 3)]) (oc := []) sc_law_vector.nd (ji_range1 rfl T.b_range (jl_cons (ce_int) (jl_nil))) (blkOk_by (by decide +kernel)) (tg_ 3 sc_law_vector.nd) (jts_one (jt_cmp o_eq (ce_op o_and (ce_op o_shr (v_ 2) (v_ 3)) (ce_int)) (ce_int))) (je_tup (jl_cons (ce_op o_add (v_ 3) (ce_int)) (jl_cons (je_call (P_law_count (c := c) T).fn (Nat.le_of_ble_eq_true rfl) rfl (jl_cons (v_ 0) (jl_cons (v_ 1) (jl_cons (ce_int) (jl_nil))))) (jl_nil))))))))))
theorem P_law_vector (T : Facts c C_Entry C_Reader C_FolderkinError C_InvalidBlock C_InvalidBytes gX) : PrF c 3 "_law_vector" ["_law_state", "_law_script"] [] [] (f_law_vector C_Entry C_Reader C_FolderkinError C_InvalidBlock C_InvalidBytes gX) := T.a_law_vector.runP sc_law_vector (jb_law_vector T)
theorem jb_law_block (T : Facts c C_Entry C_Reader C_FolderkinError C_InvalidBlock C_InvalidBytes gX) : JB (c.at_ 0) ["_law_row_here", "_law_value_here", "_law_byte"] (defScope s_law_block) (defBody s_law_block) (m_law_block C_Entry C_Reader C_FolderkinError C_InvalidBlock C_InvalidBytes gX) :=
  jb_cons (set_ 1 sc_law_block.nd (ce_int))
    (jb_cons (js_for (ji_list (v_ 0)) (tg_ 2 sc_law_block.nd) (jb_one (set_ 1 sc_law_block.nd (ce_op o_add (ce_op o_mul (ce_int) (v_ 1)) (v_ 2)))))
    (jb_one (js_ret (ce_op o_add (v_ 1) (je_ix o_ix (JF.je (jf_lst (jl_cons (ce_int) (jl_cons (ce_int) (jl_cons (ce_int) (jl_cons (ce_int) (jl_cons (ce_int) (jl_nil)))))))) (je_b1 c_len rfl T.b_len (by decide +kernel) (v_ 0)))))))
theorem P_law_block (T : Facts c C_Entry C_Reader C_FolderkinError C_InvalidBlock C_InvalidBytes gX) : PrF c 1 "_law_block" ["_law_row_here"] [] [] (f_law_block C_Entry C_Reader C_FolderkinError C_InvalidBlock C_InvalidBytes gX) := T.a_law_block.runP sc_law_block (jb_law_block T)
theorem jb_law_row (T : Facts c C_Entry C_Reader C_FolderkinError C_InvalidBlock C_InvalidBytes gX) : JB (c.at_ 1) ["_law_state", "_law_script", "_law_size", "_law_k"] (defScope s_law_row) (defBody s_law_row) (m_law_row C_Entry C_Reader C_FolderkinError C_InvalidBlock C_InvalidBytes gX) :=
  jb_one (js_ret (JF.je (jf_lc (own := [("_law_k", 3)]) (oc := []) sc_law_row.nd (ji_range1 rfl T.b_range (jl_cons (v_ 2) (jl_nil))) (blkOk_by (by decide +kernel)) (tg_ 3 sc_law_row.nd) (jts_nil) (je_ix o_ix (JF.je (jf_lst (jl_cons (ce_int) (jl_cons (ce_int) (jl_cons (je_call (P_law_draw (c := c) T).fn (Nat.le_of_ble_eq_true rfl) rfl (jl_cons (v_ 0) (jl_cons (v_ 1) (jl_cons (ce_int) (jl_nil))))) (jl_nil)))))) (je_call (P_law_draw (c := c) T).fn (Nat.le_of_ble_eq_true rfl) rfl (jl_cons (v_ 0) (jl_cons (v_ 1) (jl_cons (ce_int) (jl_nil)))))))))
theorem P_law_row (T : Facts c C_Entry C_Reader C_FolderkinError C_InvalidBlock C_InvalidBytes gX) : PrF c 2 "_law_row" ["_law_state", "_law_script", "_law_size"] [] [] (f_law_row C_Entry C_Reader C_FolderkinError C_InvalidBlock C_InvalidBytes gX) := T.a_law_row.runP sc_law_row (jb_law_row T)
theorem jb_law_entry (T : Facts c C_Entry C_Reader C_FolderkinError C_InvalidBlock C_InvalidBytes gX) : JB (c.at_ 3) ["_law_state", "_law_script", "_law_deleted", "_law_rows", "_law_maker", "_law_fields_here", "_law_k", "_law_row_here"] (defScope s_law_entry) (defBody s_law_entry) (m_law_entry C_Entry C_Reader C_FolderkinError C_InvalidBlock C_InvalidBytes gX) :=
  jb_cons (set_ 2 sc_law_entry.nd (ce_cmp o_eq (je_call (P_law_draw (c := c) T).fn (Nat.le_of_ble_eq_true rfl) rfl (jl_cons (v_ 0) (jl_cons (v_ 1) (jl_cons (ce_int) (jl_nil))))) (ce_int)))
    (jb_cons (set_ 3 sc_law_entry.nd (JF.new (jf_lst (jl_nil))))
    (jb_cons (js_if (jt_not (jt_val (v_ 2))) (jb_cons (newLc_ 3 (own := [("_law_k", 6)]) (oc := []) sc_law_entry.nd (ji_range1 rfl T.b_range (jl_cons (je_call (P_law_draw (c := c) T).fn (Nat.le_of_ble_eq_true rfl) rfl (jl_cons (v_ 0) (jl_cons (v_ 1) (jl_cons (ce_int) (jl_nil))))) (jl_nil))) (blkOk_by (by decide +kernel)) (tg_ 6 sc_law_entry.nd) (jts_nil) (je_call (P_law_row (c := c) T).fn (Nat.le_of_ble_eq_true rfl) rfl (jl_cons (v_ 0) (jl_cons (v_ 1) (jl_cons (ce_int) (jl_nil))))))
    (jb_cons (js_if (jt_cmp o_eq (je_call (P_law_draw (c := c) T).fn (Nat.le_of_ble_eq_true rfl) rfl (jl_cons (v_ 0) (jl_cons (v_ 1) (jl_cons (ce_int) (jl_nil))))) (ce_int)) (jb_one (set_ 3 sc_law_entry.nd (JF.new (cf_op of_cat (v_ 3) (JF.je (jf_lc (own := [("_law_k", 6)]) (oc := []) sc_law_entry.nd (ji_range1 rfl T.b_range (jl_cons (ce_op o_add (ce_int) (je_call (P_law_draw (c := c) T).fn (Nat.le_of_ble_eq_true rfl) rfl (jl_cons (v_ 0) (jl_cons (v_ 1) (jl_cons (ce_int) (jl_nil)))))) (jl_nil))) (blkOk_by (by decide +kernel)) (tg_ 6 sc_law_entry.nd) (jts_nil) (JF.je (jf_lst (jl_cons (ce_op o_mod (v_ 6) (ce_int)) (jl_cons (ce_int) (jl_cons (ce_int) (jl_cons (ce_op o_sub (ce_int) (ce_op o_mod (v_ 6) (ce_int))) (jl_nil))))))))))))) (jb_nil))
    (jb_cons (js_expr (je_mut mu_append PySem.F.slot_list_append PySem.F.type_list_append (v_ 3) (jl_cons (je_call (P_law_row (c := c) T).fn (Nat.le_of_ble_eq_true rfl) rfl (jl_cons (v_ 0) (jl_cons (v_ 1) (jl_cons (ce_op o_add (ce_int) (je_call (P_law_draw (c := c) T).fn (Nat.le_of_ble_eq_true rfl) rfl (jl_cons (v_ 0) (jl_cons (v_ 1) (jl_cons (ce_int) (jl_nil)))))) (jl_nil))))) (jl_nil))))
    (jb_one (js_if (jt_cmp o_eq (je_call (P_law_draw (c := c) T).fn (Nat.le_of_ble_eq_true rfl) rfl (jl_cons (v_ 0) (jl_cons (v_ 1) (jl_cons (ce_int) (jl_nil))))) (ce_int)) (jb_one (set_ 3 sc_law_entry.nd (JF.new (jf_lst (jl_nil))))) (jb_nil)))))) (jb_nil))
    (jb_cons (set_ 4 sc_law_entry.nd (je_tup (jl_cons (ce_op o_add (ce_int) (je_call (P_law_draw (c := c) T).fn (Nat.le_of_ble_eq_true rfl) rfl (jl_cons (v_ 0) (jl_cons (v_ 1) (jl_cons (ce_int) (jl_nil)))))) (jl_cons (je_call (P_law_count (c := c) T).fn (Nat.le_of_ble_eq_true rfl) rfl (jl_cons (v_ 0) (jl_cons (v_ 1) (jl_cons (ce_int) (jl_nil))))) (jl_nil)))))
    (jb_cons (set_ 5 sc_law_entry.nd (je_tup (jl_cons (je_call (P_law_name (c := c) T).fn (Nat.le_of_ble_eq_true rfl) rfl (jl_cons (v_ 0) (jl_cons (v_ 1) (jl_nil)))) (jl_cons (je_call (P_law_vector (c := c) T).fn (Nat.le_of_ble_eq_true rfl) rfl (jl_cons (v_ 0) (jl_cons (v_ 1) (jl_nil)))) (jl_cons (je_call (P_law_count (c := c) T).fn (Nat.le_of_ble_eq_true rfl) rfl (jl_cons (v_ 0) (jl_cons (v_ 1) (jl_cons (ce_int) (jl_nil))))) (jl_cons (v_ 4) (jl_cons (v_ 2) (jl_nil))))))))
    (jb_cons (set_ 5 sc_law_entry.nd (ce_op o_add (v_ 5) (je_tup (jl_cons (je_call (P_law_count (c := c) T).fn (Nat.le_of_ble_eq_true rfl) rfl (jl_cons (v_ 0) (jl_cons (v_ 1) (jl_cons (ce_int) (jl_nil))))) (jl_cons (je_t1 c_tuple rfl T.b_tuple (by decide +kernel) (JF.je (jf_lc (own := [("_law_row_here", 7)]) (oc := []) sc_law_entry.nd (ji_list (v_ 3)) (blkOk_by (by decide +kernel)) (tg_ 7 sc_law_entry.nd) (jts_nil) (je_call (P_law_block (c := c) T).fn (Nat.le_of_ble_eq_true rfl) rfl (jl_cons (v_ 7) (jl_nil)))))) (jl_nil))))))
    (jb_one (js_ret (je_tup (jl_cons (v_ 5) (jl_cons (je_call (P_law_count (c := c) T).fn (Nat.le_of_ble_eq_true rfl) rfl (jl_cons (v_ 0) (jl_cons (v_ 1) (jl_cons (ce_int) (jl_nil))))) (jl_nil)))))))))))
theorem P_law_entry (T : Facts c C_Entry C_Reader C_FolderkinError C_InvalidBlock C_InvalidBytes gX) : PrF c 4 "_law_entry" ["_law_state", "_law_script"] [] [] (f_law_entry C_Entry C_Reader C_FolderkinError C_InvalidBlock C_InvalidBytes gX) := T.a_law_entry.runP sc_law_entry (jb_law_entry T)
theorem jb_law_four (T : Facts c C_Entry C_Reader C_FolderkinError C_InvalidBlock C_InvalidBytes gX) : JB (c.at_ 0) ["_law_number"] (defScope s_law_four) (defBody s_law_four) (m_law_four C_Entry C_Reader C_FolderkinError C_InvalidBlock C_InvalidBytes gX) :=
  jb_one (js_ret (JF.je (jf_lst (jl_cons (ce_op o_div (v_ 0) (ce_int)) (jl_cons (ce_op o_mod (ce_op o_div (v_ 0) (ce_int)) (ce_int)) (jl_cons (ce_op o_mod (ce_op o_div (v_ 0) (ce_int)) (ce_int)) (jl_cons (ce_op o_mod (v_ 0) (ce_int)) (jl_nil))))))))
theorem P_law_four (T : Facts c C_Entry C_Reader C_FolderkinError C_InvalidBlock C_InvalidBytes gX) : PrF c 1 "_law_four" ["_law_number"] [] [] (f_law_four C_Entry C_Reader C_FolderkinError C_InvalidBlock C_InvalidBytes gX) := T.a_law_four.runP sc_law_four (jb_law_four T)
theorem jb_law_name_written (T : Facts c C_Entry C_Reader C_FolderkinError C_InvalidBlock C_InvalidBytes gX) : JB (c.at_ 0) ["_law_name_here", "_law_char"] (defScope s_law_name_written) (defBody s_law_name_written) (m_law_name_written C_Entry C_Reader C_FolderkinError C_InvalidBlock C_InvalidBytes gX) :=
  jb_one (js_ret (ce_op o_add (JF.je (jf_lst (jl_cons (je_b1 c_len rfl T.b_len (by decide +kernel) (v_ 0)) (jl_nil)))) (JF.je (jf_lc (own := [("_law_char", 1)]) (oc := []) sc_law_name_written.nd (ji_str (v_ 0)) (blkOk_by (by decide +kernel)) (tg_ 1 sc_law_name_written.nd) (jts_nil) (je_b1 c_ord rfl T.b_ord (by decide +kernel) (v_ 1))))))
theorem P_law_name_written (T : Facts c C_Entry C_Reader C_FolderkinError C_InvalidBlock C_InvalidBytes gX) : PrF c 1 "_law_name_written" ["_law_name_here"] [] [] (f_law_name_written C_Entry C_Reader C_FolderkinError C_InvalidBlock C_InvalidBytes gX) := T.a_law_name_written.runP sc_law_name_written (jb_law_name_written T)
theorem jb_law_vector_written (T : Facts c C_Entry C_Reader C_FolderkinError C_InvalidBlock C_InvalidBytes gX) : JB (c.at_ 1) ["_law_vector_here", "_law_data", "_law_device", "_law_count_here"] (defScope s_law_vector_written) (defBody s_law_vector_written) (m_law_vector_written C_Entry C_Reader C_FolderkinError C_InvalidBlock C_InvalidBytes gX) :=
  jb_cons (set_ 1 sc_law_vector_written.nd (JF.je (jf_lst (jl_cons (je_b1 c_len rfl T.b_len (by decide +kernel) (v_ 0)) (jl_nil)))))
    (jb_cons (js_for (ji_tup (v_ 0)) (jtg_tup (jtgs_cons (tg_ 2 sc_law_vector_written.nd) (jtgs_cons (tg_ 3 sc_law_vector_written.nd) (jtgs_nil)))) (jb_one (set_ 1 sc_law_vector_written.nd (ce_op o_add (ce_op o_add (v_ 1) (JF.je (jf_lst (jl_cons (v_ 2) (jl_nil))))) (je_call (P_law_four (c := c) T).fn (Nat.le_of_ble_eq_true rfl) rfl (jl_cons (v_ 3) (jl_nil)))))))
    (jb_one (js_ret (v_ 1))))
theorem P_law_vector_written (T : Facts c C_Entry C_Reader C_FolderkinError C_InvalidBlock C_InvalidBytes gX) : PrF c 2 "_law_vector_written" ["_law_vector_here"] [] [] (f_law_vector_written C_Entry C_Reader C_FolderkinError C_InvalidBlock C_InvalidBytes gX) := T.a_law_vector_written.runP sc_law_vector_written (jb_law_vector_written T)
theorem jb_law_block_written (T : Facts c C_Entry C_Reader C_FolderkinError C_InvalidBlock C_InvalidBytes gX) : JB (c.at_ 0) ["_law_block_here", "_law_row_here", "_law_k"] (defScope s_law_block_written) (defBody s_law_block_written) (m_law_block_written C_Entry C_Reader C_FolderkinError C_InvalidBlock C_InvalidBytes gX) :=
  jb_cons (set_ 1 sc_law_block_written.nd (JF.je (jf_lst (jl_nil))))
    (jb_cons (js_for (ji_range1 rfl T.b_range (jl_cons (ce_int) (jl_nil))) (tg_ 2 sc_law_block_written.nd) (jb_one (js_if (jt_cmp o_gt (v_ 0) (ce_int)) (jb_cons (set_ 1 sc_law_block_written.nd (ce_op o_add (JF.je (jf_lst (jl_cons (ce_op o_mod (je_t1 c_int rfl T.b_int (by decide +kernel) (v_ 0)) (ce_int)) (jl_nil)))) (v_ 1)))
    (jb_one (set_ 0 sc_law_block_written.nd (ce_op o_div (v_ 0) (ce_int))))) (jb_nil))))
    (jb_one (js_ret (ce_op o_add (JF.je (jf_lst (jl_cons (je_b1 c_len rfl T.b_len (by decide +kernel) (v_ 1)) (jl_nil)))) (v_ 1)))))
theorem P_law_block_written (T : Facts c C_Entry C_Reader C_FolderkinError C_InvalidBlock C_InvalidBytes gX) : PrF c 1 "_law_block_written" ["_law_block_here"] [] [] (f_law_block_written C_Entry C_Reader C_FolderkinError C_InvalidBlock C_InvalidBytes gX) := T.a_law_block_written.runP sc_law_block_written (jb_law_block_written T)
theorem jb_law_entry_written (T : Facts c C_Entry C_Reader C_FolderkinError C_InvalidBlock C_InvalidBytes gX) : JB (c.at_ 2) ["_law_fields_here", "_law_number", "_law_data", "_law_block_here", "_law_name_here", "_law_vector_here", "_law_height", "_law_maker", "_law_deleted", "_law_time", "_law_blocks"] (defScope s_law_entry_written) (defBody s_law_entry_written) (m_law_entry_written C_Entry C_Reader C_FolderkinError C_InvalidBlock C_InvalidBytes gX) :=
  jb_cons (js_asg (v_ 0) (jtg_tup (jtgs_cons (tg_ 4 sc_law_entry_written.nd) (jtgs_cons (tg_ 5 sc_law_entry_written.nd) (jtgs_cons (tg_ 6 sc_law_entry_written.nd) (jtgs_cons (tg_ 7 sc_law_entry_written.nd) (jtgs_cons (tg_ 8 sc_law_entry_written.nd) (jtgs_cons (tg_ 9 sc_law_entry_written.nd) (jtgs_cons (tg_ 10 sc_law_entry_written.nd) (jtgs_nil))))))))))
    (jb_cons (set_ 2 sc_law_entry_written.nd (JF.new (cf_op of_cat (ce_op o_add (ce_op o_add (je_call (P_law_four (c := c) T).fn (Nat.le_of_ble_eq_true rfl) rfl (jl_cons (v_ 1) (jl_nil))) (je_call (P_law_name_written (c := c) T).fn (Nat.le_of_ble_eq_true rfl) rfl (jl_cons (v_ 4) (jl_nil)))) (je_call (P_law_vector_written (c := c) T).fn (Nat.le_of_ble_eq_true rfl) rfl (jl_cons (v_ 5) (jl_nil)))) (je_call (P_law_four (c := c) T).fn (Nat.le_of_ble_eq_true rfl) rfl (jl_cons (v_ 6) (jl_nil))))))
    (jb_cons (set_ 2 sc_law_entry_written.nd (JF.new (cf_op of_cat (ce_op o_add (ce_op o_add (ce_op o_add (ce_op o_add (v_ 2) (JF.je (jf_lst (jl_cons (je_ix o_ix (v_ 7) (ce_int)) (jl_nil))))) (je_call (P_law_four (c := c) T).fn (Nat.le_of_ble_eq_true rfl) rfl (jl_cons (je_ix o_ix (v_ 7) (ce_int)) (jl_nil)))) (JF.je (jf_lst (jl_cons (je_t1 c_int rfl T.b_int (by decide +kernel) (v_ 8)) (jl_nil))))) (je_call (P_law_four (c := c) T).fn (Nat.le_of_ble_eq_true rfl) rfl (jl_cons (v_ 9) (jl_nil)))) (JF.je (jf_lst (jl_cons (je_b1 c_len rfl T.b_len (by decide +kernel) (v_ 10)) (jl_nil)))))))
    (jb_cons (js_for (ji_tup (v_ 10)) (tg_ 3 sc_law_entry_written.nd) (jb_one (js_expr (je_ext (v_ 2) (je_call (P_law_block_written (c := c) T).fn (Nat.le_of_ble_eq_true rfl) rfl (jl_cons (v_ 3) (jl_nil)))))))
    (jb_one (js_ret (JE.frz (v_ 2)))))))
theorem P_law_entry_written (T : Facts c C_Entry C_Reader C_FolderkinError C_InvalidBlock C_InvalidBytes gX) : PrF c 3 "_law_entry_written" ["_law_fields_here", "_law_number"] [] [] (f_law_entry_written C_Entry C_Reader C_FolderkinError C_InvalidBlock C_InvalidBytes gX) := T.a_law_entry_written.runP sc_law_entry_written (jb_law_entry_written T)
theorem jb_law_made (T : Facts c C_Entry C_Reader C_FolderkinError C_InvalidBlock C_InvalidBytes gX) : JB (c.at_ 2) ["_law_fields_here", "_law_name_here", "_law_vector_here", "_law_height", "_law_maker", "_law_deleted", "_law_time", "_law_blocks"] (defScope s_law_made) (defBody s_law_made) (m_law_made C_Entry C_Reader C_FolderkinError C_InvalidBlock C_InvalidBytes gX) :=
  jb_cons (js_asg (v_ 0) (jtg_tup (jtgs_cons (tg_ 1 sc_law_made.nd) (jtgs_cons (tg_ 2 sc_law_made.nd) (jtgs_cons (tg_ 3 sc_law_made.nd) (jtgs_cons (tg_ 4 sc_law_made.nd) (jtgs_cons (tg_ 5 sc_law_made.nd) (jtgs_cons (tg_ 6 sc_law_made.nd) (jtgs_cons (tg_ 7 sc_law_made.nd) (jtgs_nil))))))))))
    (jb_one (js_ret (JE.frz (je_mk (P_Entry_init (c := c) T).mk_ (Nat.le_of_ble_eq_true rfl) rfl (jl_cons (v_ 1) (jl_cons (v_ 2) (jl_cons (v_ 3) (jl_cons (v_ 4) (jl_cons (v_ 5) (jl_cons (v_ 6) (jl_cons (v_ 7) (jl_nil))))))))))))
theorem P_law_made (T : Facts c C_Entry C_Reader C_FolderkinError C_InvalidBlock C_InvalidBytes gX) : PrF c 3 "_law_made" ["_law_fields_here"] [] [] (f_law_made C_Entry C_Reader C_FolderkinError C_InvalidBlock C_InvalidBytes gX) := T.a_law_made.runP sc_law_made (jb_law_made T)
theorem jb_law_fields (T : Facts c C_Entry C_Reader C_FolderkinError C_InvalidBlock C_InvalidBytes gX) : JB (c.at_ 2) ["_law_entry_here"] (defScope s_law_fields) (defBody s_law_fields) (m_law_fields C_Entry C_Reader C_FolderkinError C_InvalidBlock C_InvalidBytes gX) :=
  jb_cons (js_if (jt_w (jw_or (jt_not (jt_val (je_isiC T.cl_Entry rfl T.b_isinstance rfl (v_ 0)))) (jw_or1 (jt_not (jt_val (je_isi (T := "bool") rfl T.b_isinstance rfl T.b_bool (by decide +kernel) (je_fld (v_ 0) T.cl_Entry.cl T.na_Entry_deleted))))))) (jb_one (js_ret (ce_non))) (jb_nil))
    (jb_one (js_ret (je_tup (jl_cons (je_fld (v_ 0) T.cl_Entry.cl T.na_Entry_name) (jl_cons (je_fld (v_ 0) T.cl_Entry.cl T.na_Entry_vector) (jl_cons (je_fld (v_ 0) T.cl_Entry.cl T.na_Entry_height) (jl_cons (je_fld (v_ 0) T.cl_Entry.cl T.na_Entry_maker) (jl_cons (je_fld (v_ 0) T.cl_Entry.cl T.na_Entry_deleted) (jl_cons (je_fld (v_ 0) T.cl_Entry.cl T.na_Entry_time) (jl_cons (je_fld (v_ 0) T.cl_Entry.cl T.na_Entry_blocks) (jl_nil)))))))))))
theorem P_law_fields (T : Facts c C_Entry C_Reader C_FolderkinError C_InvalidBlock C_InvalidBytes gX) : PrF c 3 "_law_fields" ["_law_entry_here"] [] [] (f_law_fields C_Entry C_Reader C_FolderkinError C_InvalidBlock C_InvalidBytes gX) := T.a_law_fields.runP sc_law_fields (jb_law_fields T)
theorem jb_law_take (T : Facts c C_Entry C_Reader C_FolderkinError C_InvalidBlock C_InvalidBytes gX) : JB (c.at_ 0) ["_law_data", "_law_box", "_law_least", "_law_most"] (defScope s_law_take) (defBody s_law_take) (m_law_take C_Entry C_Reader C_FolderkinError C_InvalidBlock C_InvalidBytes gX) :=
  jb_cons (js_if (jt_w (jw_and (jt_cmp o_lt (je_ix o_ix (v_ 1) (ce_int)) (ce_int)) (jw_and1 (jt_w (jw_or (jt_cmp o_ge (je_ix o_ix (v_ 1) (ce_int)) (je_b1 c_len rfl T.b_len (by decide +kernel) (v_ 0))) (jw_or1 (jt_not (jt_chain o_le o_le (v_ 2) (je_ix o_ix (v_ 0) (je_ix o_ix (v_ 1) (ce_int))) (v_ 3))))))))) (jb_one (js_seti (je_ix o_ix (v_ 1) (ce_int)) (v_ 1) (ce_int))) (jb_nil))
    (jb_cons (js_if (jt_cmp o_ge (je_ix o_ix (v_ 1) (ce_int)) (ce_int)) (jb_one (js_ret (v_ 2))) (jb_nil))
    (jb_cons (js_seti (ce_op o_add (je_ix o_ix (v_ 1) (ce_int)) (ce_int)) (v_ 1) (ce_int))
    (jb_one (js_ret (je_ix o_ix (v_ 0) (ce_op o_sub (je_ix o_ix (v_ 1) (ce_int)) (ce_int)))))))
theorem P_law_take (T : Facts c C_Entry C_Reader C_FolderkinError C_InvalidBlock C_InvalidBytes gX) : PrF c 1 "_law_take" ["_law_data", "_law_box", "_law_least", "_law_most"] [] [] (f_law_take C_Entry C_Reader C_FolderkinError C_InvalidBlock C_InvalidBytes gX) := T.a_law_take.runP sc_law_take (jb_law_take T)
theorem jb_law_number_read (T : Facts c C_Entry C_Reader C_FolderkinError C_InvalidBlock C_InvalidBytes gX) : JB (c.at_ 1) ["_law_data", "_law_box", "_law_least", "_law_value_here", "_law_k"] (defScope s_law_number_read) (defBody s_law_number_read) (m_law_number_read C_Entry C_Reader C_FolderkinError C_InvalidBlock C_InvalidBytes gX) :=
  jb_cons (set_ 3 sc_law_number_read.nd (ce_int))
    (jb_cons (js_for (ji_range1 rfl T.b_range (jl_cons (ce_int) (jl_nil))) (tg_ 4 sc_law_number_read.nd) (jb_one (set_ 3 sc_law_number_read.nd (ce_op o_add (ce_op o_mul (ce_int) (v_ 3)) (je_call (P_law_take (c := c) T).fn (Nat.le_of_ble_eq_true rfl) rfl (jl_cons (v_ 0) (jl_cons (v_ 1) (jl_cons (ce_int) (jl_cons (ce_int) (jl_nil))))))))))
    (jb_cons (js_if (jt_cmp o_gt (v_ 3) (ce_int)) (jb_one (set_ 2 sc_law_number_read.nd (ce_int))) (jb_nil))
    (jb_one (js_ret (ce_op o_add (ce_op o_mul (ce_int) (v_ 3)) (je_call (P_law_take (c := c) T).fn (Nat.le_of_ble_eq_true rfl) rfl (jl_cons (v_ 0) (jl_cons (v_ 1) (jl_cons (v_ 2) (jl_cons (ce_int) (jl_nil)))))))))))
theorem P_law_number_read (T : Facts c C_Entry C_Reader C_FolderkinError C_InvalidBlock C_InvalidBytes gX) : PrF c 2 "_law_number_read" ["_law_data", "_law_box", "_law_least"] [] [] (f_law_number_read C_Entry C_Reader C_FolderkinError C_InvalidBlock C_InvalidBytes gX) := T.a_law_number_read.runP sc_law_number_read (jb_law_number_read T)
theorem jb_law_name_read (T : Facts c C_Entry C_Reader C_FolderkinError C_InvalidBlock C_InvalidBytes gX) : JB (c.at_ 1) ["_law_data", "_law_box", "_law_name_here", "_law_k", "_law_code", "_law_found", "_law_char"] (defScope s_law_name_read) (defBody s_law_name_read) (m_law_name_read C_Entry C_Reader C_FolderkinError C_InvalidBlock C_InvalidBytes gX) :=
  jb_cons (set_ 2 sc_law_name_read.nd (ce_str))
    (jb_cons (js_for (ji_range1 rfl T.b_range (jl_cons (je_call (P_law_take (c := c) T).fn (Nat.le_of_ble_eq_true rfl) rfl (jl_cons (v_ 0) (jl_cons (v_ 1) (jl_cons (ce_int) (jl_cons (ce_int) (jl_nil)))))) (jl_nil))) (tg_ 3 sc_law_name_read.nd) (jb_cons (set_ 4 sc_law_name_read.nd (je_call (P_law_take (c := c) T).fn (Nat.le_of_ble_eq_true rfl) rfl (jl_cons (v_ 0) (jl_cons (v_ 1) (jl_cons (ce_int) (jl_cons (ce_int) (jl_nil)))))))
    (jb_cons (setLc_ 5 (own := [("_law_char", 6)]) (oc := []) sc_law_name_read.nd (ji_str (je_call0 (P_law_all (c := c) T).fn (Nat.le_of_ble_eq_true rfl) rfl)) (blkOk_by (by decide +kernel)) (tg_ 6 sc_law_name_read.nd) (jts_one (jt_cmp o_eq (je_b1 c_ord rfl T.b_ord (by decide +kernel) (v_ 6)) (v_ 4))) (v_ 6))
    (jb_cons (js_if (jt_w (jw_and (jt_cmp o_lt (je_ix o_ix (v_ 1) (ce_int)) (ce_int)) (jw_and1 (jt_cmp o_eq (je_b1 c_len rfl T.b_len (by decide +kernel) (v_ 5)) (ce_int))))) (jb_one (js_seti (ce_op o_sub (je_ix o_ix (v_ 1) (ce_int)) (ce_int)) (v_ 1) (ce_int))) (jb_nil))
    (jb_one (set_ 2 sc_law_name_read.nd (ce_op o_add (v_ 2) (je_met Hz.m_join PySem.F.slot_str_join PySem.F.type_str_join (ce_str) (jl_cons (v_ 5) (jl_nil))))))))))
    (jb_one (js_ret (v_ 2))))
theorem P_law_name_read (T : Facts c C_Entry C_Reader C_FolderkinError C_InvalidBlock C_InvalidBytes gX) : PrF c 2 "_law_name_read" ["_law_data", "_law_box"] [] [] (f_law_name_read C_Entry C_Reader C_FolderkinError C_InvalidBlock C_InvalidBytes gX) := T.a_law_name_read.runP sc_law_name_read (jb_law_name_read T)
theorem jb_law_vector_read (T : Facts c C_Entry C_Reader C_FolderkinError C_InvalidBlock C_InvalidBytes gX) : JB (c.at_ 2) ["_law_data", "_law_box", "_law_pairs", "_law_device", "_law_many", "_law_k"] (defScope s_law_vector_read) (defBody s_law_vector_read) (m_law_vector_read C_Entry C_Reader C_FolderkinError C_InvalidBlock C_InvalidBytes gX) :=
  jb_cons (set_ 2 sc_law_vector_read.nd (JF.new (jf_lst (jl_nil))))
    (jb_cons (set_ 3 sc_law_vector_read.nd (ce_int))
    (jb_cons (set_ 4 sc_law_vector_read.nd (je_call (P_law_take (c := c) T).fn (Nat.le_of_ble_eq_true rfl) rfl (jl_cons (v_ 0) (jl_cons (v_ 1) (jl_cons (ce_int) (jl_cons (ce_int) (jl_nil)))))))
    (jb_cons (js_for (ji_range1 rfl T.b_range (jl_cons (v_ 4) (jl_nil))) (tg_ 5 sc_law_vector_read.nd) (jb_cons (set_ 3 sc_law_vector_read.nd (je_call (P_law_take (c := c) T).fn (Nat.le_of_ble_eq_true rfl) rfl (jl_cons (v_ 0) (jl_cons (v_ 1) (jl_cons (ce_op o_add (v_ 3) (ce_int)) (jl_cons (ce_op o_add (ce_op o_sub (ce_int) (v_ 4)) (v_ 5)) (jl_nil)))))))
    (jb_one (js_expr (je_mut mu_append PySem.F.slot_list_append PySem.F.type_list_append (v_ 2) (jl_cons (je_tup (jl_cons (v_ 3) (jl_cons (je_call (P_law_number_read (c := c) T).fn (Nat.le_of_ble_eq_true rfl) rfl (jl_cons (v_ 0) (jl_cons (v_ 1) (jl_cons (ce_int) (jl_nil))))) (jl_nil)))) (jl_nil)))))))
    (jb_one (js_ret (je_t1 c_tuple rfl T.b_tuple (by decide +kernel) (v_ 2)))))))
theorem P_law_vector_read (T : Facts c C_Entry C_Reader C_FolderkinError C_InvalidBlock C_InvalidBytes gX) : PrF c 3 "_law_vector_read" ["_law_data", "_law_box"] [] [] (f_law_vector_read C_Entry C_Reader C_FolderkinError C_InvalidBlock C_InvalidBytes gX) := T.a_law_vector_read.runP sc_law_vector_read (jb_law_vector_read T)
theorem jb_law_row_read (T : Facts c C_Entry C_Reader C_FolderkinError C_InvalidBlock C_InvalidBytes gX) : JB (c.at_ 1) ["_law_data", "_law_box", "_law_least", "_law_k"] (defScope s_law_row_read) (defBody s_law_row_read) (m_law_row_read C_Entry C_Reader C_FolderkinError C_InvalidBlock C_InvalidBytes gX) :=
  jb_one (js_ret (JF.je (jf_lc (own := [("_law_k", 3)]) (oc := []) sc_law_row_read.nd (ji_range1 rfl T.b_range (jl_cons (je_call (P_law_take (c := c) T).fn (Nat.le_of_ble_eq_true rfl) rfl (jl_cons (v_ 0) (jl_cons (v_ 1) (jl_cons (v_ 2) (jl_cons (ce_int) (jl_nil)))))) (jl_nil))) (blkOk_by (by decide +kernel)) (tg_ 3 sc_law_row_read.nd) (jts_nil) (je_call (P_law_take (c := c) T).fn (Nat.le_of_ble_eq_true rfl) rfl (jl_cons (v_ 0) (jl_cons (v_ 1) (jl_cons (ce_int) (jl_cons (ce_int) (jl_nil)))))))))
theorem P_law_row_read (T : Facts c C_Entry C_Reader C_FolderkinError C_InvalidBlock C_InvalidBytes gX) : PrF c 2 "_law_row_read" ["_law_data", "_law_box", "_law_least"] [] [] (f_law_row_read C_Entry C_Reader C_FolderkinError C_InvalidBlock C_InvalidBytes gX) := T.a_law_row_read.runP sc_law_row_read (jb_law_row_read T)
theorem jb_law_entry_read (T : Facts c C_Entry C_Reader C_FolderkinError C_InvalidBlock C_InvalidBytes gX) : JB (c.at_ 3) ["_law_data", "_law_box", "_law_number", "_law_name_here", "_law_vector_here", "_law_height", "_law_device", "_law_maker", "_law_deleted", "_law_time", "_law_many", "_law_blocks", "_law_k"] (defScope s_law_entry_read) (defBody s_law_entry_read) (m_law_entry_read C_Entry C_Reader C_FolderkinError C_InvalidBlock C_InvalidBytes gX) :=
  jb_cons (set_ 2 sc_law_entry_read.nd (je_call (P_law_number_read (c := c) T).fn (Nat.le_of_ble_eq_true rfl) rfl (jl_cons (v_ 0) (jl_cons (v_ 1) (jl_cons (ce_int) (jl_nil))))))
    (jb_cons (set_ 3 sc_law_entry_read.nd (je_call (P_law_name_read (c := c) T).fn (Nat.le_of_ble_eq_true rfl) rfl (jl_cons (v_ 0) (jl_cons (v_ 1) (jl_nil)))))
    (jb_cons (set_ 4 sc_law_entry_read.nd (je_call (P_law_vector_read (c := c) T).fn (Nat.le_of_ble_eq_true rfl) rfl (jl_cons (v_ 0) (jl_cons (v_ 1) (jl_nil)))))
    (jb_cons (set_ 5 sc_law_entry_read.nd (je_call (P_law_number_read (c := c) T).fn (Nat.le_of_ble_eq_true rfl) rfl (jl_cons (v_ 0) (jl_cons (v_ 1) (jl_cons (ce_int) (jl_nil))))))
    (jb_cons (set_ 6 sc_law_entry_read.nd (je_call (P_law_take (c := c) T).fn (Nat.le_of_ble_eq_true rfl) rfl (jl_cons (v_ 0) (jl_cons (v_ 1) (jl_cons (ce_int) (jl_cons (ce_int) (jl_nil)))))))
    (jb_cons (set_ 7 sc_law_entry_read.nd (je_tup (jl_cons (v_ 6) (jl_cons (je_call (P_law_number_read (c := c) T).fn (Nat.le_of_ble_eq_true rfl) rfl (jl_cons (v_ 0) (jl_cons (v_ 1) (jl_cons (ce_int) (jl_nil))))) (jl_nil)))))
    (jb_cons (set_ 8 sc_law_entry_read.nd (je_call (P_law_take (c := c) T).fn (Nat.le_of_ble_eq_true rfl) rfl (jl_cons (v_ 0) (jl_cons (v_ 1) (jl_cons (ce_int) (jl_cons (ce_int) (jl_nil)))))))
    (jb_cons (set_ 9 sc_law_entry_read.nd (je_call (P_law_number_read (c := c) T).fn (Nat.le_of_ble_eq_true rfl) rfl (jl_cons (v_ 0) (jl_cons (v_ 1) (jl_cons (ce_int) (jl_nil))))))
    (jb_cons (set_ 10 sc_law_entry_read.nd (je_call (P_law_take (c := c) T).fn (Nat.le_of_ble_eq_true rfl) rfl (jl_cons (v_ 0) (jl_cons (v_ 1) (jl_cons (ce_int) (jl_cons (ce_op o_mul (ce_int) (ce_op o_sub (ce_int) (v_ 8))) (jl_nil)))))))
    (jb_cons (set_ 11 sc_law_entry_read.nd (JF.new (jf_lst (jl_nil))))
    (jb_cons (js_for (ji_range1 rfl T.b_range (jl_cons (v_ 10) (jl_nil))) (tg_ 12 sc_law_entry_read.nd) (jb_one (js_expr (je_mut mu_append PySem.F.slot_list_append PySem.F.type_list_append (v_ 11) (jl_cons (je_call (P_law_block (c := c) T).fn (Nat.le_of_ble_eq_true rfl) rfl (jl_cons (je_call (P_law_row_read (c := c) T).fn (Nat.le_of_ble_eq_true rfl) rfl (jl_cons (v_ 0) (jl_cons (v_ 1) (jl_cons (je_ix o_ix (JF.je (jf_lst (jl_cons (ce_int) (jl_cons (ce_int) (jl_nil))))) (je_t1 c_int rfl T.b_int (by decide +kernel) (ce_cmp o_eq (v_ 12) (ce_op o_sub (v_ 10) (ce_int))))) (jl_nil))))) (jl_nil))) (jl_nil))))))
    (jb_one (js_ret (je_tup (jl_cons (je_tup (jl_cons (v_ 3) (jl_cons (v_ 4) (jl_cons (v_ 5) (jl_cons (v_ 7) (jl_cons (ce_cmp o_eq (v_ 8) (ce_int)) (jl_cons (v_ 9) (jl_cons (je_t1 c_tuple rfl T.b_tuple (by decide +kernel) (v_ 11)) (jl_nil))))))))) (jl_cons (v_ 2) (jl_nil))))))))))))))))
theorem P_law_entry_read (T : Facts c C_Entry C_Reader C_FolderkinError C_InvalidBlock C_InvalidBytes gX) : PrF c 4 "_law_entry_read" ["_law_data", "_law_box"] [] [] (f_law_entry_read C_Entry C_Reader C_FolderkinError C_InvalidBlock C_InvalidBytes gX) := T.a_law_entry_read.runP sc_law_entry_read (jb_law_entry_read T)
theorem jb_law_value (T : Facts c C_Entry C_Reader C_FolderkinError C_InvalidBlock C_InvalidBytes gX) : JB (c.at_ 4) ["_law_state", "_law_script", "_law_kind", "_law_byte", "_law_number", "_law_name_here", "_law_vector_here", "_law_row_here", "_law_fields_here"] (defScope s_law_value) (defBody s_law_value) (m_law_value C_Entry C_Reader C_FolderkinError C_InvalidBlock C_InvalidBytes gX) :=
  jb_cons (js_if (jt_cmp o_eq (v_ 2) (ce_int)) (jb_cons (set_ 4 sc_law_value.nd (je_call (P_law_count (c := c) T).fn (Nat.le_of_ble_eq_true rfl) rfl (jl_cons (v_ 0) (jl_cons (v_ 1) (jl_cons (ce_int) (jl_nil))))))
    (jb_one (js_ret (je_tup (jl_cons (je_call (P_law_four (c := c) T).fn (Nat.le_of_ble_eq_true rfl) rfl (jl_cons (v_ 4) (jl_nil))) (jl_cons (je_call (P_number_bytes (c := c) T).fn (Nat.le_of_ble_eq_true rfl) rfl (jl_cons (v_ 4) (jl_nil))) (jl_nil))))))) (jb_nil))
    (jb_cons (js_if (jt_cmp o_eq (v_ 2) (ce_int)) (jb_cons (set_ 5 sc_law_value.nd (je_call (P_law_name (c := c) T).fn (Nat.le_of_ble_eq_true rfl) rfl (jl_cons (v_ 0) (jl_cons (v_ 1) (jl_nil)))))
    (jb_one (js_ret (je_tup (jl_cons (je_call (P_law_name_written (c := c) T).fn (Nat.le_of_ble_eq_true rfl) rfl (jl_cons (v_ 5) (jl_nil))) (jl_cons (je_call (P_name_bytes (c := c) T).fn (Nat.le_of_ble_eq_true rfl) rfl (jl_cons (v_ 5) (jl_nil))) (jl_nil))))))) (jb_nil))
    (jb_cons (js_if (jt_cmp o_eq (v_ 2) (ce_int)) (jb_cons (set_ 6 sc_law_value.nd (je_call (P_law_vector (c := c) T).fn (Nat.le_of_ble_eq_true rfl) rfl (jl_cons (v_ 0) (jl_cons (v_ 1) (jl_nil)))))
    (jb_one (js_ret (je_tup (jl_cons (je_call (P_law_vector_written (c := c) T).fn (Nat.le_of_ble_eq_true rfl) rfl (jl_cons (v_ 6) (jl_nil))) (jl_cons (je_call (P_vector_bytes (c := c) T).fn (Nat.le_of_ble_eq_true rfl) rfl (jl_cons (v_ 6) (jl_nil))) (jl_nil))))))) (jb_nil))
    (jb_cons (js_if (jt_cmp o_eq (v_ 2) (ce_int)) (jb_cons (js_asg (je_call (P_law_entry (c := c) T).fn (Nat.le_of_ble_eq_true rfl) rfl (jl_cons (v_ 0) (jl_cons (v_ 1) (jl_nil)))) (jtg_tup (jtgs_cons (tg_ 8 sc_law_value.nd) (jtgs_cons (tg_ 4 sc_law_value.nd) (jtgs_nil)))))
    (jb_one (js_ret (je_tup (jl_cons (je_call (P_law_entry_written (c := c) T).fn (Nat.le_of_ble_eq_true rfl) rfl (jl_cons (v_ 8) (jl_cons (v_ 4) (jl_nil)))) (jl_cons (je_call (P_entry_bytes (c := c) T).fn (Nat.le_of_ble_eq_true rfl) rfl (jl_cons (je_call (P_law_made (c := c) T).fn (Nat.le_of_ble_eq_true rfl) rfl (jl_cons (v_ 8) (jl_nil))) (jl_cons (v_ 4) (jl_nil)))) (jl_nil))))))) (jb_nil))
    (jb_cons (js_if (jt_cmp o_eq (v_ 2) (ce_int)) (jb_cons (set_ 7 sc_law_value.nd (je_call (P_law_row (c := c) T).fn (Nat.le_of_ble_eq_true rfl) rfl (jl_cons (v_ 0) (jl_cons (v_ 1) (jl_cons (ce_op o_add (ce_int) (je_call (P_law_draw (c := c) T).fn (Nat.le_of_ble_eq_true rfl) rfl (jl_cons (v_ 0) (jl_cons (v_ 1) (jl_cons (ce_int) (jl_nil)))))) (jl_nil))))))
    (jb_one (js_ret (je_tup (jl_cons (ce_op o_add (JF.je (jf_lst (jl_cons (je_b1 c_len rfl T.b_len (by decide +kernel) (v_ 7)) (jl_nil)))) (v_ 7)) (jl_cons (ce_op o_add (JF.je (jf_lst (jl_cons (je_b1 c_len rfl T.b_len (by decide +kernel) (v_ 7)) (jl_nil)))) (v_ 7)) (jl_nil))))))) (jb_nil))
    (jb_cons (set_ 3 sc_law_value.nd (je_call (P_law_draw (c := c) T).fn (Nat.le_of_ble_eq_true rfl) rfl (jl_cons (v_ 0) (jl_cons (v_ 1) (jl_cons (ce_int) (jl_nil))))))
    (jb_one (js_ret (je_tup (jl_cons (JF.je (jf_lst (jl_cons (v_ 3) (jl_nil)))) (jl_cons (JF.je (jf_lst (jl_cons (v_ 3) (jl_nil)))) (jl_nil)))))))))))
theorem P_law_value (T : Facts c C_Entry C_Reader C_FolderkinError C_InvalidBlock C_InvalidBytes gX) : PrF c 5 "_law_value" ["_law_state", "_law_script", "_law_kind"] [] [] (f_law_value C_Entry C_Reader C_FolderkinError C_InvalidBlock C_InvalidBytes gX) := T.a_law_value.runP sc_law_value (jb_law_value T)
theorem jb_law_changed (T : Facts c C_Entry C_Reader C_FolderkinError C_InvalidBlock C_InvalidBytes gX) : JB (c.at_ 1) ["_law_state", "_law_script", "_law_data", "_law_at", "_law_byte", "_law_kind"] (defScope s_law_changed) (defBody s_law_changed) (m_law_changed C_Entry C_Reader C_FolderkinError C_InvalidBlock C_InvalidBytes gX) :=
  jb_cons (set_ 3 sc_law_changed.nd (je_call (P_law_draw (c := c) T).fn (Nat.le_of_ble_eq_true rfl) rfl (jl_cons (v_ 0) (jl_cons (v_ 1) (jl_cons (ce_op o_add (je_b1 c_len rfl T.b_len (by decide +kernel) (v_ 2)) (ce_int)) (jl_nil))))))
    (jb_cons (set_ 4 sc_law_changed.nd (je_ix o_ix (JF.je (jf_lst (jl_cons (ce_int) (jl_cons (ce_int) (jl_cons (ce_int) (jl_cons (ce_int) (jl_cons (ce_int) (jl_cons (ce_int) (jl_cons (ce_int) (jl_cons (je_call (P_law_draw (c := c) T).fn (Nat.le_of_ble_eq_true rfl) rfl (jl_cons (v_ 0) (jl_cons (v_ 1) (jl_cons (ce_int) (jl_nil))))) (jl_nil))))))))))) (je_call (P_law_draw (c := c) T).fn (Nat.le_of_ble_eq_true rfl) rfl (jl_cons (v_ 0) (jl_cons (v_ 1) (jl_cons (ce_int) (jl_nil)))))))
    (jb_cons (set_ 5 sc_law_changed.nd (je_call (P_law_draw (c := c) T).fn (Nat.le_of_ble_eq_true rfl) rfl (jl_cons (v_ 0) (jl_cons (v_ 1) (jl_cons (ce_int) (jl_nil))))))
    (jb_cons (js_if (jt_cmp o_eq (v_ 5) (ce_int)) (jb_one (js_ret (je_cut (v_ 2) (jp_none) (jp_some (v_ 3))))) (jb_nil))
    (jb_cons (js_if (jt_cmp o_eq (v_ 5) (ce_int)) (jb_one (js_ret (ce_op o_add (je_cut (v_ 2) (jp_none) (jp_some (v_ 3))) (je_cut (v_ 2) (jp_some (ce_op o_add (v_ 3) (ce_int))) (jp_none))))) (jb_nil))
    (jb_cons (js_if (jt_cmp o_eq (v_ 5) (ce_int)) (jb_one (js_ret (ce_op o_add (ce_op o_add (je_cut (v_ 2) (jp_none) (jp_some (v_ 3))) (JF.je (jf_lst (jl_cons (v_ 4) (jl_nil))))) (je_cut (v_ 2) (jp_some (v_ 3)) (jp_none))))) (jb_nil))
    (jb_cons (js_if (jt_w (jw_and (jt_cmp o_eq (v_ 5) (ce_int)) (jw_and1 (jt_cmp o_lt (v_ 3) (je_b1 c_len rfl T.b_len (by decide +kernel) (v_ 2)))))) (jb_one (js_ret (ce_op o_add (ce_op o_add (je_cut (v_ 2) (jp_none) (jp_some (v_ 3))) (JF.je (jf_lst (jl_cons (v_ 4) (jl_nil))))) (je_cut (v_ 2) (jp_some (ce_op o_add (v_ 3) (ce_int))) (jp_none))))) (jb_nil))
    (jb_one (js_ret (v_ 2)))))))))
theorem P_law_changed (T : Facts c C_Entry C_Reader C_FolderkinError C_InvalidBlock C_InvalidBytes gX) : PrF c 2 "_law_changed" ["_law_state", "_law_script", "_law_data"] [] [] (f_law_changed C_Entry C_Reader C_FolderkinError C_InvalidBlock C_InvalidBytes gX) := T.a_law_changed.runP sc_law_changed (jb_law_changed T)
theorem jb_law_due (T : Facts c C_Entry C_Reader C_FolderkinError C_InvalidBlock C_InvalidBytes gX) : JB (c.at_ 4) ["_law_data", "_law_kind", "_law_at", "_law_least", "_law_most", "_law_box", "_law_found"] (defScope s_law_due) (defBody s_law_due) (m_law_due C_Entry C_Reader C_FolderkinError C_InvalidBlock C_InvalidBytes gX) :=
  jb_cons (set_ 5 sc_law_due.nd (JF.new (jf_lst (jl_cons (v_ 2) (jl_cons (je_neg (ce_int)) (jl_nil))))))
    (jb_cons (set_ 6 sc_law_due.nd (ce_non))
    (jb_cons (js_if (jt_cmp o_eq (v_ 1) (ce_int)) (jb_one (set_ 6 sc_law_due.nd (je_call (P_law_number_read (c := c) T).fn (Nat.le_of_ble_eq_true rfl) rfl (jl_cons (v_ 0) (jl_cons (v_ 5) (jl_cons (v_ 3) (jl_nil))))))) (jb_one (js_if (jt_cmp o_eq (v_ 1) (ce_int)) (jb_one (set_ 6 sc_law_due.nd (je_call (P_law_name_read (c := c) T).fn (Nat.le_of_ble_eq_true rfl) rfl (jl_cons (v_ 0) (jl_cons (v_ 5) (jl_nil)))))) (jb_one (js_if (jt_cmp o_eq (v_ 1) (ce_int)) (jb_one (set_ 6 sc_law_due.nd (je_call (P_law_vector_read (c := c) T).fn (Nat.le_of_ble_eq_true rfl) rfl (jl_cons (v_ 0) (jl_cons (v_ 5) (jl_nil)))))) (jb_one (js_if (jt_cmp o_eq (v_ 1) (ce_int)) (jb_one (set_ 6 sc_law_due.nd (je_call (P_law_entry_read (c := c) T).fn (Nat.le_of_ble_eq_true rfl) rfl (jl_cons (v_ 0) (jl_cons (v_ 5) (jl_nil)))))) (jb_one (js_if (jt_cmp o_eq (v_ 1) (ce_int)) (jb_one (set_ 6 sc_law_due.nd (je_call (P_law_block (c := c) T).fn (Nat.le_of_ble_eq_true rfl) rfl (jl_cons (je_call (P_law_row_read (c := c) T).fn (Nat.le_of_ble_eq_true rfl) rfl (jl_cons (v_ 0) (jl_cons (v_ 5) (jl_cons (ce_int) (jl_nil))))) (jl_nil))))) (jb_one (js_if (jt_cmp o_eq (v_ 1) (ce_int)) (jb_one (set_ 6 sc_law_due.nd (je_call (P_law_take (c := c) T).fn (Nat.le_of_ble_eq_true rfl) rfl (jl_cons (v_ 0) (jl_cons (v_ 5) (jl_cons (ce_int) (jl_cons (ce_int) (jl_nil)))))))) (jb_one (set_ 6 sc_law_due.nd (je_call (P_law_take (c := c) T).fn (Nat.le_of_ble_eq_true rfl) rfl (jl_cons (v_ 0) (jl_cons (v_ 5) (jl_cons (v_ 3) (jl_cons (v_ 4) (jl_nil)))))))))))))))))))
    (jb_cons (js_if (jt_cmp o_ge (je_ix o_ix (v_ 5) (ce_int)) (ce_int)) (jb_one (js_ret (je_tup (jl_cons (ce_non) (jl_cons (je_ix o_ix (v_ 5) (ce_int)) (jl_nil)))))) (jb_nil))
    (jb_one (js_ret (je_tup (jl_cons (v_ 6) (jl_cons (je_ix o_ix (v_ 5) (ce_int)) (jl_nil)))))))))
theorem P_law_due (T : Facts c C_Entry C_Reader C_FolderkinError C_InvalidBlock C_InvalidBytes gX) : PrF c 5 "_law_due" ["_law_data", "_law_kind", "_law_at", "_law_least", "_law_most"] [] [] (f_law_due C_Entry C_Reader C_FolderkinError C_InvalidBlock C_InvalidBytes gX) := T.a_law_due.runP sc_law_due (jb_law_due T)
theorem jb_law_told_of (T : Facts c C_Entry C_Reader C_FolderkinError C_InvalidBlock C_InvalidBytes gX) : JB (c.at_ 6) ["_law_reader", "_law_kind", "_law_least", "_law_most", "_law_entry_here", "_law_number"] (defScope s_law_told_of) (defBody s_law_told_of) (m_law_told_of C_Entry C_Reader C_FolderkinError C_InvalidBlock C_InvalidBytes gX) :=
  jb_cons (js_if (jt_cmp o_eq (v_ 1) (ce_int)) (jb_one (js_ret (je_meth T.cl_Reader.cl (P_Reader_number (c := c) T).mt (Nat.le_of_ble_eq_true rfl) (v_ 0) (jl_cons (v_ 2) (jl_nil))))) (jb_nil))
    (jb_cons (js_if (jt_cmp o_eq (v_ 1) (ce_int)) (jb_one (js_ret (je_meth0 T.cl_Reader.cl (P_Reader_name (c := c) T).mt (Nat.le_of_ble_eq_true rfl) (v_ 0)))) (jb_nil))
    (jb_cons (js_if (jt_cmp o_eq (v_ 1) (ce_int)) (jb_one (js_ret (je_meth0 T.cl_Reader.cl (P_Reader_vector (c := c) T).mt (Nat.le_of_ble_eq_true rfl) (v_ 0)))) (jb_nil))
    (jb_cons (js_if (jt_cmp o_eq (v_ 1) (ce_int)) (jb_cons (js_asg (je_meth0 T.cl_Reader.cl (P_Reader_entry (c := c) T).mt (Nat.le_of_ble_eq_true rfl) (v_ 0)) (jtg_tup (jtgs_cons (tg_ 4 sc_law_told_of.nd) (jtgs_cons (tg_ 5 sc_law_told_of.nd) (jtgs_nil)))))
    (jb_one (js_ret (je_tup (jl_cons (je_call (P_law_fields (c := c) T).fn (Nat.le_of_ble_eq_true rfl) rfl (jl_cons (v_ 4) (jl_nil))) (jl_cons (v_ 5) (jl_nil))))))) (jb_nil))
    (jb_cons (js_if (jt_cmp o_eq (v_ 1) (ce_int)) (jb_one (js_ret (je_meth0 T.cl_Reader.cl ((P_Reader_block (c := c) T).mtd (np := 0) 0 [.int 1] (by simp) (fun H => by repeat constructor)) (Nat.le_of_ble_eq_true rfl) (v_ 0)))) (jb_nil))
    (jb_cons (js_if (jt_cmp o_eq (v_ 1) (ce_int)) (jb_one (js_ret (je_meth0 T.cl_Reader.cl (P_Reader_device (c := c) T).mt (Nat.le_of_ble_eq_true rfl) (v_ 0)))) (jb_nil))
    (jb_one (js_ret (je_meth T.cl_Reader.cl (P_Reader_byte (c := c) T).mt (Nat.le_of_ble_eq_true rfl) (v_ 0) (jl_cons (v_ 2) (jl_cons (v_ 3) (jl_nil)))))))))))
theorem P_law_told_of (T : Facts c C_Entry C_Reader C_FolderkinError C_InvalidBlock C_InvalidBytes gX) : PrF c 7 "_law_told_of" ["_law_reader", "_law_kind", "_law_least", "_law_most"] [] [] (f_law_told_of C_Entry C_Reader C_FolderkinError C_InvalidBlock C_InvalidBytes gX) := T.a_law_told_of.runP sc_law_told_of (jb_law_told_of T)
theorem jb_law_outcome (T : Facts c C_Entry C_Reader C_FolderkinError C_InvalidBlock C_InvalidBytes gX) : JB (c.at_ 7) ["_law_data", "_law_kind", "_law_at", "_law_least", "_law_most", "_law_reader", "error", "_law_found"] (defScope s_law_outcome) (defBody s_law_outcome) (m_law_outcome C_Entry C_Reader C_FolderkinError C_InvalidBlock C_InvalidBytes gX) :=
  jb_cons (set_ 5 sc_law_outcome.nd (je_mk (P_Reader_init (c := c) T).mk_ (Nat.le_of_ble_eq_true rfl) rfl (jl_cons (v_ 0) (jl_cons (v_ 2) (jl_nil)))))
    (jb_cons (js_tryA (i := 6) sc_law_outcome.nd rfl rfl rfl T.x_InvalidBytes.mg (exm_InvalidBytes_ok (c := c) T) (jb_one (set_ 7 sc_law_outcome.nd (je_call (P_law_told_of (c := c) T).fn (Nat.le_of_ble_eq_true rfl) rfl (jl_cons (v_ 5) (jl_cons (v_ 1) (jl_cons (v_ 3) (jl_cons (v_ 4) (jl_nil)))))))) (fun a dx C => jb_cons (js_if (jt_w (jw_or (jt_not (jt_val (je_xiC (isX_ok (c := c) T) (xi_FolderkinError_ok (c := c) T) rfl T.b_isinstance rfl T.x_FolderkinError.mg rfl (Or.inl rfl) (i := 6)))) (jw_or1 (jt_not (jt_val (je_xiT (isX_ok (c := c) T) (xi_ValueError_ok (c := c) T) rfl T.b_isinstance rfl T.b_ValueError (by decide +kernel) rfl (Or.inl rfl) (i := 6))))))) (jb_one (js_ret (ce_non))) (jb_nil))
    (jb_one (js_ret (je_tup (jl_cons (ce_non) (jl_cons (je_xf (isX_ok (c := c) T) (isX_np (c := c) T) rfl (Or.inl rfl) (i := 6)) (jl_nil))))))))
    (jb_one (js_ret (je_tup (jl_cons (v_ 7) (jl_cons (je_fld (v_ 5) T.cl_Reader.cl T.na_Reader_at) (jl_nil)))))))
theorem P_law_outcome (T : Facts c C_Entry C_Reader C_FolderkinError C_InvalidBlock C_InvalidBytes gX) : PrF c 8 "_law_outcome" ["_law_data", "_law_kind", "_law_at", "_law_least", "_law_most"] [] [] (f_law_outcome C_Entry C_Reader C_FolderkinError C_InvalidBlock C_InvalidBytes gX) := T.a_law_outcome.runP sc_law_outcome (jb_law_outcome T)
theorem jb_law_in_turn (T : Facts c C_Entry C_Reader C_FolderkinError C_InvalidBlock C_InvalidBytes gX) : JB (c.at_ 6) ["_law_state", "_law_script", "_law_name_here", "_law_vector_here", "_law_data", "_law_reader", "_law_fields_here", "_law_number", "_law_entry_here", "_law_told"] (defScope s_law_in_turn) (defBody s_law_in_turn) (m_law_in_turn C_Entry C_Reader C_FolderkinError C_InvalidBlock C_InvalidBytes gX) :=
  jb_cons (js_asg (je_call (P_law_entry (c := c) T).fn (Nat.le_of_ble_eq_true rfl) rfl (jl_cons (v_ 0) (jl_cons (v_ 1) (jl_nil)))) (jtg_tup (jtgs_cons (tg_ 6 sc_law_in_turn.nd) (jtgs_cons (tg_ 7 sc_law_in_turn.nd) (jtgs_nil)))))
    (jb_cons (set_ 2 sc_law_in_turn.nd (je_call (P_law_name (c := c) T).fn (Nat.le_of_ble_eq_true rfl) rfl (jl_cons (v_ 0) (jl_cons (v_ 1) (jl_nil)))))
    (jb_cons (set_ 3 sc_law_in_turn.nd (je_call (P_law_vector (c := c) T).fn (Nat.le_of_ble_eq_true rfl) rfl (jl_cons (v_ 0) (jl_cons (v_ 1) (jl_nil)))))
    (jb_cons (set_ 4 sc_law_in_turn.nd (ce_op o_add (ce_op o_add (ce_op o_add (JF.je (jf_lst (jl_cons (ce_int) (jl_nil)))) (je_call (P_law_entry_written (c := c) T).fn (Nat.le_of_ble_eq_true rfl) rfl (jl_cons (v_ 6) (jl_cons (v_ 7) (jl_nil))))) (je_call (P_law_name_written (c := c) T).fn (Nat.le_of_ble_eq_true rfl) rfl (jl_cons (v_ 2) (jl_nil)))) (je_call (P_law_four (c := c) T).fn (Nat.le_of_ble_eq_true rfl) rfl (jl_cons (v_ 7) (jl_nil)))))
    (jb_cons (set_ 4 sc_law_in_turn.nd (ce_op o_add (ce_op o_add (ce_op o_add (v_ 4) (je_call (P_law_vector_written (c := c) T).fn (Nat.le_of_ble_eq_true rfl) rfl (jl_cons (v_ 3) (jl_nil)))) (JF.je (jf_lst (jl_cons (ce_int) (jl_cons (ce_int) (jl_cons (ce_int) (jl_nil))))))) (JF.je (jf_lst (jl_cons (ce_int) (jl_nil))))))
    (jb_cons (set_ 5 sc_law_in_turn.nd (je_mk (P_Reader_init (c := c) T).mk_ (Nat.le_of_ble_eq_true rfl) rfl (jl_cons (v_ 4) (jl_cons (ce_int) (jl_nil)))))
    (jb_cons (js_asg (je_meth0 T.cl_Reader.cl (P_Reader_entry (c := c) T).mt (Nat.le_of_ble_eq_true rfl) (v_ 5)) (jtg_tup (jtgs_cons (tg_ 8 sc_law_in_turn.nd) (jtgs_cons (tg_ 9 sc_law_in_turn.nd) (jtgs_nil)))))
    (jb_cons (js_if (jt_w (jw_or (jt_cmp o_ne (je_call (P_law_fields (c := c) T).fn (Nat.le_of_ble_eq_true rfl) rfl (jl_cons (v_ 8) (jl_nil))) (v_ 6)) (jw_or (jt_cmp o_ne (v_ 9) (v_ 7)) (jw_or (jt_cmp o_ne (je_meth0 T.cl_Reader.cl (P_Reader_name (c := c) T).mt (Nat.le_of_ble_eq_true rfl) (v_ 5)) (v_ 2)) (jw_or1 (jt_cmp o_ne (je_meth0 T.cl_Reader.cl ((P_Reader_number (c := c) T).mtd (np := 0) 0 [.int 0] (by simp) (fun H => by repeat constructor)) (Nat.le_of_ble_eq_true rfl) (v_ 5)) (v_ 7))))))) (jb_one (js_ret (ce_bl))) (jb_nil))
    (jb_one (js_ret (je_and (ce_cmp o_eq (je_meth0 T.cl_Reader.cl (P_Reader_vector (c := c) T).mt (Nat.le_of_ble_eq_true rfl) (v_ 5)) (v_ 3)) (je_and (ce_cmp o_eq (je_meth0 T.cl_Reader.cl ((P_Reader_block (c := c) T).mtd (np := 0) 0 [.int 1] (by simp) (fun H => by repeat constructor)) (Nat.le_of_ble_eq_true rfl) (v_ 5)) (ce_int)) (je_and (ce_cmp o_eq (je_meth0 T.cl_Reader.cl (P_Reader_device (c := c) T).mt (Nat.le_of_ble_eq_true rfl) (v_ 5)) (ce_int)) (je_one (ce_cmp o_eq (je_fld (v_ 5) T.cl_Reader.cl T.na_Reader_at) (je_b1 c_len rfl T.b_len (by decide +kernel) (v_ 4))))))))))))))))
theorem P_law_in_turn (T : Facts c C_Entry C_Reader C_FolderkinError C_InvalidBlock C_InvalidBytes gX) : PrF c 7 "_law_in_turn" ["_law_state", "_law_script"] [] [] (f_law_in_turn C_Entry C_Reader C_FolderkinError C_InvalidBlock C_InvalidBytes gX) := T.a_law_in_turn.runP sc_law_in_turn (jb_law_in_turn T)
theorem jb_law (T : Facts c C_Entry C_Reader C_FolderkinError C_InvalidBlock C_InvalidBytes gX) : JB (c.at_ 8) ["_law_script", "_law_state", "_law_kind", "_law_at", "_law_data", "_law_least", "_law_most", "_law_given", "_law_found", "_law_due_here", "_law_written"] (defScope s_law) (defBody s_law) (m_law C_Entry C_Reader C_FolderkinError C_InvalidBlock C_InvalidBytes gX) :=
  jb_cons (set_ 1 sc_law.nd (JF.new (jf_lst (jl_cons (ce_int) (jl_cons (ce_int) (jl_nil))))))
    (jb_cons (js_if (jt_w (jw_and (jt_cmp o_eq (je_call (P_law_draw (c := c) T).fn (Nat.le_of_ble_eq_true rfl) rfl (jl_cons (v_ 1) (jl_cons (v_ 0) (jl_cons (ce_int) (jl_nil))))) (ce_int)) (jw_and1 (jt_not (jt_val (je_call (P_law_in_turn (c := c) T).fn (Nat.le_of_ble_eq_true rfl) rfl (jl_cons (v_ 1) (jl_cons (v_ 0) (jl_nil))))))))) (jb_one (js_ret (ce_bl))) (jb_nil))
    (jb_cons (set_ 2 sc_law.nd (je_call (P_law_draw (c := c) T).fn (Nat.le_of_ble_eq_true rfl) rfl (jl_cons (v_ 1) (jl_cons (v_ 0) (jl_cons (ce_int) (jl_nil))))))
    (jb_cons (js_asg (je_call (P_law_value (c := c) T).fn (Nat.le_of_ble_eq_true rfl) rfl (jl_cons (v_ 1) (jl_cons (v_ 0) (jl_cons (v_ 2) (jl_nil))))) (jtg_tup (jtgs_cons (tg_ 9 sc_law.nd) (jtgs_cons (tg_ 10 sc_law.nd) (jtgs_nil)))))
    (jb_cons (js_if (jt_w (jw_or (jt_not (jt_val (je_isi (T := "list") rfl T.b_isinstance rfl T.b_list (by decide +kernel) (v_ 10)))) (jw_or1 (jt_cmp o_ne (v_ 10) (v_ 9))))) (jb_one (js_ret (ce_bl))) (jb_nil))
    (jb_cons (set_ 3 sc_law.nd (je_call (P_law_draw (c := c) T).fn (Nat.le_of_ble_eq_true rfl) rfl (jl_cons (v_ 1) (jl_cons (v_ 0) (jl_cons (ce_int) (jl_nil))))))
    (jb_cons (set_ 4 sc_law.nd (ce_op o_add (JF.je (cf_rep (jf_lst (jl_cons (ce_int) (jl_nil))) (v_ 3))) (je_call (P_law_changed (c := c) T).fn (Nat.le_of_ble_eq_true rfl) rfl (jl_cons (v_ 1) (jl_cons (v_ 0) (jl_cons (v_ 9) (jl_nil)))))))
    (jb_cons (set_ 4 sc_law.nd (ce_op o_add (v_ 4) (je_call (P_law_row (c := c) T).fn (Nat.le_of_ble_eq_true rfl) rfl (jl_cons (v_ 1) (jl_cons (v_ 0) (jl_cons (je_call (P_law_draw (c := c) T).fn (Nat.le_of_ble_eq_true rfl) rfl (jl_cons (v_ 1) (jl_cons (v_ 0) (jl_cons (ce_int) (jl_nil))))) (jl_nil)))))))
    (jb_cons (set_ 5 sc_law.nd (je_call (P_law_draw (c := c) T).fn (Nat.le_of_ble_eq_true rfl) rfl (jl_cons (v_ 1) (jl_cons (v_ 0) (jl_cons (ce_int) (jl_nil))))))
    (jb_cons (set_ 6 sc_law.nd (ce_int))
    (jb_cons (js_if (jt_cmp o_eq (v_ 2) (ce_int)) (jb_cons (set_ 5 sc_law.nd (je_call (P_law_draw (c := c) T).fn (Nat.le_of_ble_eq_true rfl) rfl (jl_cons (v_ 1) (jl_cons (v_ 0) (jl_cons (ce_int) (jl_nil))))))
    (jb_one (set_ 6 sc_law.nd (ce_op o_add (v_ 5) (je_call (P_law_draw (c := c) T).fn (Nat.le_of_ble_eq_true rfl) rfl (jl_cons (v_ 1) (jl_cons (v_ 0) (jl_cons (ce_op o_sub (ce_int) (v_ 5)) (jl_nil))))))))) (jb_nil))
    (jb_cons (set_ 7 sc_law.nd (JF.je (jf_t1 cf_list rfl T.b_list (by decide +kernel) (v_ 4))))
    (jb_cons (set_ 8 sc_law.nd (je_call (P_law_outcome (c := c) T).fn (Nat.le_of_ble_eq_true rfl) rfl (jl_cons (v_ 7) (jl_cons (v_ 2) (jl_cons (v_ 3) (jl_cons (v_ 5) (jl_cons (v_ 6) (jl_nil))))))))
    (jb_cons (js_if (jt_w (jw_or (jt_cmp o_ne (v_ 7) (v_ 4)) (jw_or1 (jt_cmp o_ne (v_ 8) (je_call (P_law_due (c := c) T).fn (Nat.le_of_ble_eq_true rfl) rfl (jl_cons (v_ 4) (jl_cons (v_ 2) (jl_cons (v_ 3) (jl_cons (v_ 5) (jl_cons (v_ 6) (jl_nil))))))))))) (jb_one (js_ret (ce_bl))) (jb_nil))
    (jb_cons (js_if (jt_w (jw_and (jt_cmp o_gt (je_b1 c_len rfl T.b_len (by decide +kernel) (v_ 4)) (v_ 3)) (jw_and1 (jt_cmp o_ne (je_meth0 T.cl_Reader.cl ((P_Reader_byte (c := c) T).mtd (np := 0) 0 [.int 0, .int 255] (by simp) (fun H => by repeat constructor)) (Nat.le_of_ble_eq_true rfl) (je_mk (P_Reader_init (c := c) T).mk_ (Nat.le_of_ble_eq_true rfl) rfl (jl_cons (v_ 4) (jl_cons (v_ 3) (jl_nil))))) (je_ix o_ix (v_ 4) (v_ 3)))))) (jb_one (js_ret (ce_bl))) (jb_nil))
    (jb_cons (js_if (jt_w (jw_and (jt_cmp o_eq (v_ 3) (ce_int)) (jw_and (jt_cmp o_eq (v_ 2) (ce_int)) (jw_and1 (jt_cmp o_eq (v_ 5) (ce_int)))))) (jb_one (js_ret (je_and (ce_cmp o_eq (je_fld (je_mk ((P_Reader_init (c := c) T).mkd (np := 1) 0 [.int 0] (by simp) (fun H => by repeat constructor)) (Nat.le_of_ble_eq_true rfl) rfl (jl_cons (v_ 4) (jl_nil))) T.cl_Reader.cl T.na_Reader_at) (ce_int)) (je_one (je_or (ce_cmp o_is (je_ix o_ix (v_ 8) (ce_int)) (ce_non)) (je_one (ce_cmp o_eq (je_meth0 T.cl_Reader.cl ((P_Reader_number (c := c) T).mtd (np := 0) 0 [.int 0] (by simp) (fun H => by repeat constructor)) (Nat.le_of_ble_eq_true rfl) (je_mk ((P_Reader_init (c := c) T).mkd (np := 1) 0 [.int 0] (by simp) (fun H => by repeat constructor)) (Nat.le_of_ble_eq_true rfl) rfl (jl_cons (v_ 4) (jl_nil)))) (je_ix o_ix (v_ 8) (ce_int))))))))) (jb_nil))
    (jb_one (js_ret (ce_bl))))))))))))))))))
end
theorem all_mk {l : PySem.W.OpenLaw} {w : World} {K : PySem.W.Frag} {h : Heap} {mg : Str → Option Value} {fa C_Entry C_Reader C_FolderkinError C_InvalidBlock C_InvalidBytes f0 f1 f2 f3 f4 f5 f6 f7 f8 f9 f10 f11 dT11 f12 dT12 f13 dT13 f14 f15 f16 f17 dT17 f18 dT18 f19 f20 f21 f22 f23 f24 f25 f26 f27 f28 f29 f30 f31 f32 f33 f34 f35 f36 f37 f38 f39 f40 f41 f42 f43 f44 f45 f46 f47 gX cdaX ccX : Addr} (X : K.In h) (G : h.Ns mainGlobals mg) (hfa : mg "law" = some (.ref fa))
    {od0 an0 od1 an1 od2 an2 od3 an3 od4 an4 od5 an5 od6 an6 od7 an7 od8 an8 od9 an9 od10 an10 od11 an11 dd11 od12 an12 dd12 od13 an13 dd13 od14 an14 od15 an15 od16 an16 od17 an17 dd17 od18 an18 dd18 od19 an19 od20 an20 od21 an21 od22 an22 od23 an23 od24 an24 od25 an25 od26 an26 od27 an27 od28 an28 od29 an29 od30 an30 od31 an31 od32 an32 od33 an33 od34 an34 od35 an35 od36 an36 od37 an37 od38 an38 od39 an39 od40 an40 od41 an41 od42 an42 od43 an43 od44 an44 od45 an45 od46 an46 od47 an47 odX anX cddX cldX : Option Addr} {sl0 sl1 sl2 sl3 sl4 sl5 sl6 sl7 sl8 sl9 sl10 sl11 ds11 sl12 ds12 sl13 ds13 sl14 sl15 sl16 sl17 ds17 sl18 ds18 sl19 sl20 sl21 sl22 sl23 sl24 sl25 sl26 sl27 sl28 sl29 sl30 sl31 sl32 sl33 sl34 sl35 sl36 sl37 sl38 sl39 sl40 sl41 sl42 sl43 sl44 sl45 sl46 sl47 oslX ccsX cslX : Array (Option Value)} {oc0 kV0 dc0 pm0 cd0 ct0 oc1 kV1 dc1 pm1 cd1 ct1 oc2 kV2 dc2 pm2 cd2 ct2 oc3 kV3 dc3 pm3 cd3 ct3 oc4 kV4 dc4 pm4 cd4 ct4 oc5 kV5 dc5 pm5 cd5 ct5 oc6 kV6 dc6 pm6 cd6 ct6 oc7 kV7 dc7 pm7 cd7 ct7 oc8 kV8 dc8 pm8 cd8 ct8 oc9 kV9 dc9 pm9 cd9 ct9 oc10 kV10 dc10 pm10 cd10 ct10 oc11 kV11 dc11 pm11 cd11 ct11 oc12 kV12 dc12 pm12 cd12 ct12 oc13 kV13 dc13 pm13 cd13 ct13 oc14 kV14 dc14 pm14 cd14 ct14 oc15 kV15 dc15 pm15 cd15 ct15 oc16 kV16 dc16 pm16 cd16 ct16 oc17 kV17 dc17 pm17 cd17 ct17 oc18 kV18 dc18 pm18 cd18 ct18 oc19 kV19 dc19 pm19 cd19 ct19 oc20 kV20 dc20 pm20 cd20 ct20 oc21 kV21 dc21 pm21 cd21 ct21 oc22 kV22 dc22 pm22 cd22 ct22 oc23 kV23 dc23 pm23 cd23 ct23 oc24 kV24 dc24 pm24 cd24 ct24 oc25 kV25 dc25 pm25 cd25 ct25 oc26 kV26 dc26 pm26 cd26 ct26 oc27 kV27 dc27 pm27 cd27 ct27 oc28 kV28 dc28 pm28 cd28 ct28 oc29 kV29 dc29 pm29 cd29 ct29 oc30 kV30 dc30 pm30 cd30 ct30 oc31 kV31 dc31 pm31 cd31 ct31 oc32 kV32 dc32 pm32 cd32 ct32 oc33 kV33 dc33 pm33 cd33 ct33 oc34 kV34 dc34 pm34 cd34 ct34 oc35 kV35 dc35 pm35 cd35 ct35 oc36 kV36 dc36 pm36 cd36 ct36 oc37 kV37 dc37 pm37 cd37 ct37 oc38 kV38 dc38 pm38 cd38 ct38 oc39 kV39 dc39 pm39 cd39 ct39 oc40 kV40 dc40 pm40 cd40 ct40 oc41 kV41 dc41 pm41 cd41 ct41 oc42 kV42 dc42 pm42 cd42 ct42 oc43 kV43 dc43 pm43 cd43 ct43 oc44 kV44 dc44 pm44 cd44 ct44 oc45 kV45 dc45 pm45 cd45 ct45 oc46 kV46 dc46 pm46 cd46 ct46 oc47 kV47 dc47 pm47 cd47 ct47 ocX dcX pmX ctX kVX cclX clX : Value} {td11_0 td12_0 td12_1 td13_0 td17_0 td18_0 tfX t_MOST_DEVICE t_BLOCK t_MOST_NAME t_FIRST_CODE t_TABLE t_CHARACTERS t_MOST_BLOCKS : Tok} {dn11 dn12 dn13 dn17 dn18 : Nat} {fileX : Str} {vsX : Array Value} {nm_FolderkinError q_FolderkinError : Str} {N_FolderkinError : Addr} {bs_FolderkinError bm_FolderkinError sub_FolderkinError : List Value} {sn_FolderkinError : List Str} {ab_FolderkinError : Bool} {col_FolderkinError : Option Bool} {dd_FolderkinError : Option Addr} {k0_FolderkinError k1_FolderkinError k2_FolderkinError k3_FolderkinError k5_FolderkinError : Option Value} {nm_InvalidBlock q_InvalidBlock : Str} {N_InvalidBlock : Addr} {bs_InvalidBlock bm_InvalidBlock sub_InvalidBlock : List Value} {sn_InvalidBlock : List Str} {ab_InvalidBlock : Bool} {col_InvalidBlock : Option Bool} {dd_InvalidBlock : Option Addr} {k0_InvalidBlock k1_InvalidBlock k2_InvalidBlock k3_InvalidBlock k5_InvalidBlock : Option Value} {nm_InvalidBytes q_InvalidBytes : Str} {N_InvalidBytes : Addr} {bs_InvalidBytes bm_InvalidBytes sub_InvalidBytes : List Value} {sn_InvalidBytes : List Str} {ab_InvalidBytes : Bool} {col_InvalidBytes : Option Bool} {dd_InvalidBytes : Option Addr} {k0_InvalidBytes k1_InvalidBytes k2_InvalidBytes k3_InvalidBytes k5_InvalidBytes : Option Value}
    (aC_Entry : PySem.W.nsIn K mainGlobals "Entry" = some (some (.ref C_Entry)))
    (aC_Reader : PySem.W.nsIn K mainGlobals "Reader" = some (some (.ref C_Reader)))
    (aC_FolderkinError : PySem.W.nsIn K mainGlobals "FolderkinError" = some (some (.ref C_FolderkinError)))
    (aC_InvalidBlock : PySem.W.nsIn K mainGlobals "InvalidBlock" = some (some (.ref C_InvalidBlock)))
    (aC_InvalidBytes : PySem.W.nsIn K mainGlobals "InvalidBytes" = some (some (.ref C_InvalidBytes)))
    (a0 : PySem.W.nsIn K mainGlobals "block_number" = some (some (.ref f0)))
    (l0 : K.lookup f0 = some ⟨oc0, od0, .func (PySem.W.fnOf "block_number" "block_number" (defArgs s_block_number) (defBody s_block_number) (defScope s_block_number) .none kV0 dc0 pm0 an0 cd0 ct0), sl0⟩)
    (c0 : PySem.W.codeIn K cd0 "block_number" = true)
    (k0 : PySem.W.keepIn K (.ref f0) = true)
    (a1 : PySem.W.nsIn K mainGlobals "block_size" = some (some (.ref f1)))
    (l1 : K.lookup f1 = some ⟨oc1, od1, .func (PySem.W.fnOf "block_size" "block_size" (defArgs s_block_size) (defBody s_block_size) (defScope s_block_size) .none kV1 dc1 pm1 an1 cd1 ct1), sl1⟩)
    (c1 : PySem.W.codeIn K cd1 "block_size" = true)
    (k1 : PySem.W.keepIn K (.ref f1) = true)
    (a2 : PySem.W.nsIn K mainGlobals "is_block" = some (some (.ref f2)))
    (l2 : K.lookup f2 = some ⟨oc2, od2, .func (PySem.W.fnOf "is_block" "is_block" (defArgs s_is_block) (defBody s_is_block) (defScope s_is_block) .none kV2 dc2 pm2 an2 cd2 ct2), sl2⟩)
    (c2 : PySem.W.codeIn K cd2 "is_block" = true)
    (k2 : PySem.W.keepIn K (.ref f2) = true)
    (a3 : PySem.W.nsIn K mainGlobals "block_bytes" = some (some (.ref f3)))
    (l3 : K.lookup f3 = some ⟨oc3, od3, .func (PySem.W.fnOf "block_bytes" "block_bytes" (defArgs s_block_bytes) (defBody s_block_bytes) (defScope s_block_bytes) .none kV3 dc3 pm3 an3 cd3 ct3), sl3⟩)
    (c3 : PySem.W.codeIn K cd3 "block_bytes" = true)
    (k3 : PySem.W.keepIn K (.ref f3) = true)
    (a4 : PySem.W.findIn K (.ref C_Entry) "__init__" = some (some (.ref f4)))
    (i4 : PySem.W.isFn K (.ref f4) = true)
    (l4 : K.lookup f4 = some ⟨oc4, od4, .func (PySem.W.fnOf "__init__" "Entry.__init__" (defArgs s_Entry_init) (defBody s_Entry_init) (defScope s_Entry_init) .none kV4 dc4 pm4 an4 cd4 ct4), sl4⟩)
    (c4 : PySem.W.codeIn K cd4 "Entry.__init__" = true)
    (k4 : PySem.W.keepIn K (.ref f4) = true)
    (a5 : PySem.W.nsIn K mainGlobals "character_of" = some (some (.ref f5)))
    (l5 : K.lookup f5 = some ⟨oc5, od5, .func (PySem.W.fnOf "character_of" "character_of" (defArgs s_character_of) (defBody s_character_of) (defScope s_character_of) .none kV5 dc5 pm5 an5 cd5 ct5), sl5⟩)
    (c5 : PySem.W.codeIn K cd5 "character_of" = true)
    (k5 : PySem.W.keepIn K (.ref f5) = true)
    (a6 : PySem.W.nsIn K mainGlobals "number_bytes" = some (some (.ref f6)))
    (l6 : K.lookup f6 = some ⟨oc6, od6, .func (PySem.W.fnOf "number_bytes" "number_bytes" (defArgs s_number_bytes) (defBody s_number_bytes) (defScope s_number_bytes) .none kV6 dc6 pm6 an6 cd6 ct6), sl6⟩)
    (c6 : PySem.W.codeIn K cd6 "number_bytes" = true)
    (k6 : PySem.W.keepIn K (.ref f6) = true)
    (a7 : PySem.W.nsIn K mainGlobals "name_bytes" = some (some (.ref f7)))
    (l7 : K.lookup f7 = some ⟨oc7, od7, .func (PySem.W.fnOf "name_bytes" "name_bytes" (defArgs s_name_bytes) (defBody s_name_bytes) (defScope s_name_bytes) .none kV7 dc7 pm7 an7 cd7 ct7), sl7⟩)
    (c7 : PySem.W.codeIn K cd7 "name_bytes" = true)
    (k7 : PySem.W.keepIn K (.ref f7) = true)
    (a8 : PySem.W.nsIn K mainGlobals "vector_bytes" = some (some (.ref f8)))
    (l8 : K.lookup f8 = some ⟨oc8, od8, .func (PySem.W.fnOf "vector_bytes" "vector_bytes" (defArgs s_vector_bytes) (defBody s_vector_bytes) (defScope s_vector_bytes) .none kV8 dc8 pm8 an8 cd8 ct8), sl8⟩)
    (c8 : PySem.W.codeIn K cd8 "vector_bytes" = true)
    (k8 : PySem.W.keepIn K (.ref f8) = true)
    (a9 : PySem.W.nsIn K mainGlobals "data_bytes" = some (some (.ref f9)))
    (l9 : K.lookup f9 = some ⟨oc9, od9, .func (PySem.W.fnOf "data_bytes" "data_bytes" (defArgs s_data_bytes) (defBody s_data_bytes) (defScope s_data_bytes) .none kV9 dc9 pm9 an9 cd9 ct9), sl9⟩)
    (c9 : PySem.W.codeIn K cd9 "data_bytes" = true)
    (k9 : PySem.W.keepIn K (.ref f9) = true)
    (a10 : PySem.W.nsIn K mainGlobals "entry_bytes" = some (some (.ref f10)))
    (l10 : K.lookup f10 = some ⟨oc10, od10, .func (PySem.W.fnOf "entry_bytes" "entry_bytes" (defArgs s_entry_bytes) (defBody s_entry_bytes) (defScope s_entry_bytes) .none kV10 dc10 pm10 an10 cd10 ct10), sl10⟩)
    (c10 : PySem.W.codeIn K cd10 "entry_bytes" = true)
    (k10 : PySem.W.keepIn K (.ref f10) = true)
    (a11 : PySem.W.findIn K (.ref C_Reader) "__init__" = some (some (.ref f11)))
    (i11 : PySem.W.isFn K (.ref f11) = true)
    (l11 : K.lookup f11 = some ⟨oc11, od11, .func (PySem.W.fnOf "__init__" "Reader.__init__" (defArgs s_Reader_init) (defBody s_Reader_init) (defScope s_Reader_init) (.ref dT11) kV11 dc11 pm11 an11 cd11 ct11), sl11⟩)
    (c11 : PySem.W.codeIn K cd11 "Reader.__init__" = true)
    (k11 : PySem.W.keepIn K (.ref f11) = true)
    (t11 : K.lookup dT11 = some ⟨.type "tuple", dd11, .seq #[.int 0 td11_0] dn11, ds11⟩)
    (a12 : PySem.W.findIn K (.ref C_Reader) "byte" = some (some (.ref f12)))
    (i12 : PySem.W.isFn K (.ref f12) = true)
    (l12 : K.lookup f12 = some ⟨oc12, od12, .func (PySem.W.fnOf "byte" "Reader.byte" (defArgs s_Reader_byte) (defBody s_Reader_byte) (defScope s_Reader_byte) (.ref dT12) kV12 dc12 pm12 an12 cd12 ct12), sl12⟩)
    (c12 : PySem.W.codeIn K cd12 "Reader.byte" = true)
    (k12 : PySem.W.keepIn K (.ref f12) = true)
    (t12 : K.lookup dT12 = some ⟨.type "tuple", dd12, .seq #[.int 0 td12_0, .int 255 td12_1] dn12, ds12⟩)
    (a13 : PySem.W.findIn K (.ref C_Reader) "number" = some (some (.ref f13)))
    (i13 : PySem.W.isFn K (.ref f13) = true)
    (l13 : K.lookup f13 = some ⟨oc13, od13, .func (PySem.W.fnOf "number" "Reader.number" (defArgs s_Reader_number) (defBody s_Reader_number) (defScope s_Reader_number) (.ref dT13) kV13 dc13 pm13 an13 cd13 ct13), sl13⟩)
    (c13 : PySem.W.codeIn K cd13 "Reader.number" = true)
    (k13 : PySem.W.keepIn K (.ref f13) = true)
    (t13 : K.lookup dT13 = some ⟨.type "tuple", dd13, .seq #[.int 0 td13_0] dn13, ds13⟩)
    (a14 : PySem.W.findIn K (.ref C_Reader) "device" = some (some (.ref f14)))
    (i14 : PySem.W.isFn K (.ref f14) = true)
    (l14 : K.lookup f14 = some ⟨oc14, od14, .func (PySem.W.fnOf "device" "Reader.device" (defArgs s_Reader_device) (defBody s_Reader_device) (defScope s_Reader_device) .none kV14 dc14 pm14 an14 cd14 ct14), sl14⟩)
    (c14 : PySem.W.codeIn K cd14 "Reader.device" = true)
    (k14 : PySem.W.keepIn K (.ref f14) = true)
    (a15 : PySem.W.findIn K (.ref C_Reader) "name" = some (some (.ref f15)))
    (i15 : PySem.W.isFn K (.ref f15) = true)
    (l15 : K.lookup f15 = some ⟨oc15, od15, .func (PySem.W.fnOf "name" "Reader.name" (defArgs s_Reader_name) (defBody s_Reader_name) (defScope s_Reader_name) .none kV15 dc15 pm15 an15 cd15 ct15), sl15⟩)
    (c15 : PySem.W.codeIn K cd15 "Reader.name" = true)
    (k15 : PySem.W.keepIn K (.ref f15) = true)
    (a16 : PySem.W.findIn K (.ref C_Reader) "vector" = some (some (.ref f16)))
    (i16 : PySem.W.isFn K (.ref f16) = true)
    (l16 : K.lookup f16 = some ⟨oc16, od16, .func (PySem.W.fnOf "vector" "Reader.vector" (defArgs s_Reader_vector) (defBody s_Reader_vector) (defScope s_Reader_vector) .none kV16 dc16 pm16 an16 cd16 ct16), sl16⟩)
    (c16 : PySem.W.codeIn K cd16 "Reader.vector" = true)
    (k16 : PySem.W.keepIn K (.ref f16) = true)
    (a17 : PySem.W.findIn K (.ref C_Reader) "row" = some (some (.ref f17)))
    (i17 : PySem.W.isFn K (.ref f17) = true)
    (l17 : K.lookup f17 = some ⟨oc17, od17, .func (PySem.W.fnOf "row" "Reader.row" (defArgs s_Reader_row) (defBody s_Reader_row) (defScope s_Reader_row) (.ref dT17) kV17 dc17 pm17 an17 cd17 ct17), sl17⟩)
    (c17 : PySem.W.codeIn K cd17 "Reader.row" = true)
    (k17 : PySem.W.keepIn K (.ref f17) = true)
    (t17 : K.lookup dT17 = some ⟨.type "tuple", dd17, .seq #[.int 1 td17_0] dn17, ds17⟩)
    (a18 : PySem.W.findIn K (.ref C_Reader) "block" = some (some (.ref f18)))
    (i18 : PySem.W.isFn K (.ref f18) = true)
    (l18 : K.lookup f18 = some ⟨oc18, od18, .func (PySem.W.fnOf "block" "Reader.block" (defArgs s_Reader_block) (defBody s_Reader_block) (defScope s_Reader_block) (.ref dT18) kV18 dc18 pm18 an18 cd18 ct18), sl18⟩)
    (c18 : PySem.W.codeIn K cd18 "Reader.block" = true)
    (k18 : PySem.W.keepIn K (.ref f18) = true)
    (t18 : K.lookup dT18 = some ⟨.type "tuple", dd18, .seq #[.int 1 td18_0] dn18, ds18⟩)
    (a19 : PySem.W.findIn K (.ref C_Reader) "entry" = some (some (.ref f19)))
    (i19 : PySem.W.isFn K (.ref f19) = true)
    (l19 : K.lookup f19 = some ⟨oc19, od19, .func (PySem.W.fnOf "entry" "Reader.entry" (defArgs s_Reader_entry) (defBody s_Reader_entry) (defScope s_Reader_entry) .none kV19 dc19 pm19 an19 cd19 ct19), sl19⟩)
    (c19 : PySem.W.codeIn K cd19 "Reader.entry" = true)
    (k19 : PySem.W.keepIn K (.ref f19) = true)
    (a20 : PySem.W.nsIn K mainGlobals "_law_draw" = some (some (.ref f20)))
    (l20 : K.lookup f20 = some ⟨oc20, od20, .func (PySem.W.fnOf "_law_draw" "_law_draw" (defArgs s_law_draw) (defBody s_law_draw) (defScope s_law_draw) .none kV20 dc20 pm20 an20 cd20 ct20), sl20⟩)
    (c20 : PySem.W.codeIn K cd20 "_law_draw" = true)
    (k20 : PySem.W.keepIn K (.ref f20) = true)
    (a21 : PySem.W.nsIn K mainGlobals "_law_all" = some (some (.ref f21)))
    (l21 : K.lookup f21 = some ⟨oc21, od21, .func (PySem.W.fnOf "_law_all" "_law_all" (defArgs s_law_all) (defBody s_law_all) (defScope s_law_all) .none kV21 dc21 pm21 an21 cd21 ct21), sl21⟩)
    (c21 : PySem.W.codeIn K cd21 "_law_all" = true)
    (k21 : PySem.W.keepIn K (.ref f21) = true)
    (a22 : PySem.W.nsIn K mainGlobals "_law_count" = some (some (.ref f22)))
    (l22 : K.lookup f22 = some ⟨oc22, od22, .func (PySem.W.fnOf "_law_count" "_law_count" (defArgs s_law_count) (defBody s_law_count) (defScope s_law_count) .none kV22 dc22 pm22 an22 cd22 ct22), sl22⟩)
    (c22 : PySem.W.codeIn K cd22 "_law_count" = true)
    (k22 : PySem.W.keepIn K (.ref f22) = true)
    (a23 : PySem.W.nsIn K mainGlobals "_law_name" = some (some (.ref f23)))
    (l23 : K.lookup f23 = some ⟨oc23, od23, .func (PySem.W.fnOf "_law_name" "_law_name" (defArgs s_law_name) (defBody s_law_name) (defScope s_law_name) .none kV23 dc23 pm23 an23 cd23 ct23), sl23⟩)
    (c23 : PySem.W.codeIn K cd23 "_law_name" = true)
    (k23 : PySem.W.keepIn K (.ref f23) = true)
    (a24 : PySem.W.nsIn K mainGlobals "_law_vector" = some (some (.ref f24)))
    (l24 : K.lookup f24 = some ⟨oc24, od24, .func (PySem.W.fnOf "_law_vector" "_law_vector" (defArgs s_law_vector) (defBody s_law_vector) (defScope s_law_vector) .none kV24 dc24 pm24 an24 cd24 ct24), sl24⟩)
    (c24 : PySem.W.codeIn K cd24 "_law_vector" = true)
    (k24 : PySem.W.keepIn K (.ref f24) = true)
    (a25 : PySem.W.nsIn K mainGlobals "_law_block" = some (some (.ref f25)))
    (l25 : K.lookup f25 = some ⟨oc25, od25, .func (PySem.W.fnOf "_law_block" "_law_block" (defArgs s_law_block) (defBody s_law_block) (defScope s_law_block) .none kV25 dc25 pm25 an25 cd25 ct25), sl25⟩)
    (c25 : PySem.W.codeIn K cd25 "_law_block" = true)
    (k25 : PySem.W.keepIn K (.ref f25) = true)
    (a26 : PySem.W.nsIn K mainGlobals "_law_row" = some (some (.ref f26)))
    (l26 : K.lookup f26 = some ⟨oc26, od26, .func (PySem.W.fnOf "_law_row" "_law_row" (defArgs s_law_row) (defBody s_law_row) (defScope s_law_row) .none kV26 dc26 pm26 an26 cd26 ct26), sl26⟩)
    (c26 : PySem.W.codeIn K cd26 "_law_row" = true)
    (k26 : PySem.W.keepIn K (.ref f26) = true)
    (a27 : PySem.W.nsIn K mainGlobals "_law_entry" = some (some (.ref f27)))
    (l27 : K.lookup f27 = some ⟨oc27, od27, .func (PySem.W.fnOf "_law_entry" "_law_entry" (defArgs s_law_entry) (defBody s_law_entry) (defScope s_law_entry) .none kV27 dc27 pm27 an27 cd27 ct27), sl27⟩)
    (c27 : PySem.W.codeIn K cd27 "_law_entry" = true)
    (k27 : PySem.W.keepIn K (.ref f27) = true)
    (a28 : PySem.W.nsIn K mainGlobals "_law_four" = some (some (.ref f28)))
    (l28 : K.lookup f28 = some ⟨oc28, od28, .func (PySem.W.fnOf "_law_four" "_law_four" (defArgs s_law_four) (defBody s_law_four) (defScope s_law_four) .none kV28 dc28 pm28 an28 cd28 ct28), sl28⟩)
    (c28 : PySem.W.codeIn K cd28 "_law_four" = true)
    (k28 : PySem.W.keepIn K (.ref f28) = true)
    (a29 : PySem.W.nsIn K mainGlobals "_law_name_written" = some (some (.ref f29)))
    (l29 : K.lookup f29 = some ⟨oc29, od29, .func (PySem.W.fnOf "_law_name_written" "_law_name_written" (defArgs s_law_name_written) (defBody s_law_name_written) (defScope s_law_name_written) .none kV29 dc29 pm29 an29 cd29 ct29), sl29⟩)
    (c29 : PySem.W.codeIn K cd29 "_law_name_written" = true)
    (k29 : PySem.W.keepIn K (.ref f29) = true)
    (a30 : PySem.W.nsIn K mainGlobals "_law_vector_written" = some (some (.ref f30)))
    (l30 : K.lookup f30 = some ⟨oc30, od30, .func (PySem.W.fnOf "_law_vector_written" "_law_vector_written" (defArgs s_law_vector_written) (defBody s_law_vector_written) (defScope s_law_vector_written) .none kV30 dc30 pm30 an30 cd30 ct30), sl30⟩)
    (c30 : PySem.W.codeIn K cd30 "_law_vector_written" = true)
    (k30 : PySem.W.keepIn K (.ref f30) = true)
    (a31 : PySem.W.nsIn K mainGlobals "_law_block_written" = some (some (.ref f31)))
    (l31 : K.lookup f31 = some ⟨oc31, od31, .func (PySem.W.fnOf "_law_block_written" "_law_block_written" (defArgs s_law_block_written) (defBody s_law_block_written) (defScope s_law_block_written) .none kV31 dc31 pm31 an31 cd31 ct31), sl31⟩)
    (c31 : PySem.W.codeIn K cd31 "_law_block_written" = true)
    (k31 : PySem.W.keepIn K (.ref f31) = true)
    (a32 : PySem.W.nsIn K mainGlobals "_law_entry_written" = some (some (.ref f32)))
    (l32 : K.lookup f32 = some ⟨oc32, od32, .func (PySem.W.fnOf "_law_entry_written" "_law_entry_written" (defArgs s_law_entry_written) (defBody s_law_entry_written) (defScope s_law_entry_written) .none kV32 dc32 pm32 an32 cd32 ct32), sl32⟩)
    (c32 : PySem.W.codeIn K cd32 "_law_entry_written" = true)
    (k32 : PySem.W.keepIn K (.ref f32) = true)
    (a33 : PySem.W.nsIn K mainGlobals "_law_made" = some (some (.ref f33)))
    (l33 : K.lookup f33 = some ⟨oc33, od33, .func (PySem.W.fnOf "_law_made" "_law_made" (defArgs s_law_made) (defBody s_law_made) (defScope s_law_made) .none kV33 dc33 pm33 an33 cd33 ct33), sl33⟩)
    (c33 : PySem.W.codeIn K cd33 "_law_made" = true)
    (k33 : PySem.W.keepIn K (.ref f33) = true)
    (a34 : PySem.W.nsIn K mainGlobals "_law_fields" = some (some (.ref f34)))
    (l34 : K.lookup f34 = some ⟨oc34, od34, .func (PySem.W.fnOf "_law_fields" "_law_fields" (defArgs s_law_fields) (defBody s_law_fields) (defScope s_law_fields) .none kV34 dc34 pm34 an34 cd34 ct34), sl34⟩)
    (c34 : PySem.W.codeIn K cd34 "_law_fields" = true)
    (k34 : PySem.W.keepIn K (.ref f34) = true)
    (a35 : PySem.W.nsIn K mainGlobals "_law_take" = some (some (.ref f35)))
    (l35 : K.lookup f35 = some ⟨oc35, od35, .func (PySem.W.fnOf "_law_take" "_law_take" (defArgs s_law_take) (defBody s_law_take) (defScope s_law_take) .none kV35 dc35 pm35 an35 cd35 ct35), sl35⟩)
    (c35 : PySem.W.codeIn K cd35 "_law_take" = true)
    (k35 : PySem.W.keepIn K (.ref f35) = true)
    (a36 : PySem.W.nsIn K mainGlobals "_law_number_read" = some (some (.ref f36)))
    (l36 : K.lookup f36 = some ⟨oc36, od36, .func (PySem.W.fnOf "_law_number_read" "_law_number_read" (defArgs s_law_number_read) (defBody s_law_number_read) (defScope s_law_number_read) .none kV36 dc36 pm36 an36 cd36 ct36), sl36⟩)
    (c36 : PySem.W.codeIn K cd36 "_law_number_read" = true)
    (k36 : PySem.W.keepIn K (.ref f36) = true)
    (a37 : PySem.W.nsIn K mainGlobals "_law_name_read" = some (some (.ref f37)))
    (l37 : K.lookup f37 = some ⟨oc37, od37, .func (PySem.W.fnOf "_law_name_read" "_law_name_read" (defArgs s_law_name_read) (defBody s_law_name_read) (defScope s_law_name_read) .none kV37 dc37 pm37 an37 cd37 ct37), sl37⟩)
    (c37 : PySem.W.codeIn K cd37 "_law_name_read" = true)
    (k37 : PySem.W.keepIn K (.ref f37) = true)
    (a38 : PySem.W.nsIn K mainGlobals "_law_vector_read" = some (some (.ref f38)))
    (l38 : K.lookup f38 = some ⟨oc38, od38, .func (PySem.W.fnOf "_law_vector_read" "_law_vector_read" (defArgs s_law_vector_read) (defBody s_law_vector_read) (defScope s_law_vector_read) .none kV38 dc38 pm38 an38 cd38 ct38), sl38⟩)
    (c38 : PySem.W.codeIn K cd38 "_law_vector_read" = true)
    (k38 : PySem.W.keepIn K (.ref f38) = true)
    (a39 : PySem.W.nsIn K mainGlobals "_law_row_read" = some (some (.ref f39)))
    (l39 : K.lookup f39 = some ⟨oc39, od39, .func (PySem.W.fnOf "_law_row_read" "_law_row_read" (defArgs s_law_row_read) (defBody s_law_row_read) (defScope s_law_row_read) .none kV39 dc39 pm39 an39 cd39 ct39), sl39⟩)
    (c39 : PySem.W.codeIn K cd39 "_law_row_read" = true)
    (k39 : PySem.W.keepIn K (.ref f39) = true)
    (a40 : PySem.W.nsIn K mainGlobals "_law_entry_read" = some (some (.ref f40)))
    (l40 : K.lookup f40 = some ⟨oc40, od40, .func (PySem.W.fnOf "_law_entry_read" "_law_entry_read" (defArgs s_law_entry_read) (defBody s_law_entry_read) (defScope s_law_entry_read) .none kV40 dc40 pm40 an40 cd40 ct40), sl40⟩)
    (c40 : PySem.W.codeIn K cd40 "_law_entry_read" = true)
    (k40 : PySem.W.keepIn K (.ref f40) = true)
    (a41 : PySem.W.nsIn K mainGlobals "_law_value" = some (some (.ref f41)))
    (l41 : K.lookup f41 = some ⟨oc41, od41, .func (PySem.W.fnOf "_law_value" "_law_value" (defArgs s_law_value) (defBody s_law_value) (defScope s_law_value) .none kV41 dc41 pm41 an41 cd41 ct41), sl41⟩)
    (c41 : PySem.W.codeIn K cd41 "_law_value" = true)
    (k41 : PySem.W.keepIn K (.ref f41) = true)
    (a42 : PySem.W.nsIn K mainGlobals "_law_changed" = some (some (.ref f42)))
    (l42 : K.lookup f42 = some ⟨oc42, od42, .func (PySem.W.fnOf "_law_changed" "_law_changed" (defArgs s_law_changed) (defBody s_law_changed) (defScope s_law_changed) .none kV42 dc42 pm42 an42 cd42 ct42), sl42⟩)
    (c42 : PySem.W.codeIn K cd42 "_law_changed" = true)
    (k42 : PySem.W.keepIn K (.ref f42) = true)
    (a43 : PySem.W.nsIn K mainGlobals "_law_due" = some (some (.ref f43)))
    (l43 : K.lookup f43 = some ⟨oc43, od43, .func (PySem.W.fnOf "_law_due" "_law_due" (defArgs s_law_due) (defBody s_law_due) (defScope s_law_due) .none kV43 dc43 pm43 an43 cd43 ct43), sl43⟩)
    (c43 : PySem.W.codeIn K cd43 "_law_due" = true)
    (k43 : PySem.W.keepIn K (.ref f43) = true)
    (a44 : PySem.W.nsIn K mainGlobals "_law_told_of" = some (some (.ref f44)))
    (l44 : K.lookup f44 = some ⟨oc44, od44, .func (PySem.W.fnOf "_law_told_of" "_law_told_of" (defArgs s_law_told_of) (defBody s_law_told_of) (defScope s_law_told_of) .none kV44 dc44 pm44 an44 cd44 ct44), sl44⟩)
    (c44 : PySem.W.codeIn K cd44 "_law_told_of" = true)
    (k44 : PySem.W.keepIn K (.ref f44) = true)
    (a45 : PySem.W.nsIn K mainGlobals "_law_outcome" = some (some (.ref f45)))
    (l45 : K.lookup f45 = some ⟨oc45, od45, .func (PySem.W.fnOf "_law_outcome" "_law_outcome" (defArgs s_law_outcome) (defBody s_law_outcome) (defScope s_law_outcome) .none kV45 dc45 pm45 an45 cd45 ct45), sl45⟩)
    (c45 : PySem.W.codeIn K cd45 "_law_outcome" = true)
    (k45 : PySem.W.keepIn K (.ref f45) = true)
    (a46 : PySem.W.nsIn K mainGlobals "_law_in_turn" = some (some (.ref f46)))
    (l46 : K.lookup f46 = some ⟨oc46, od46, .func (PySem.W.fnOf "_law_in_turn" "_law_in_turn" (defArgs s_law_in_turn) (defBody s_law_in_turn) (defScope s_law_in_turn) .none kV46 dc46 pm46 an46 cd46 ct46), sl46⟩)
    (c46 : PySem.W.codeIn K cd46 "_law_in_turn" = true)
    (k46 : PySem.W.keepIn K (.ref f46) = true)
    (a47 : PySem.W.nsIn K mainGlobals "law" = some (some (.ref f47)))
    (l47 : K.lookup f47 = some ⟨oc47, od47, .func (PySem.W.fnOf "law" "law" (defArgs s_law) (defBody s_law) (defScope s_law) .none kV47 dc47 pm47 an47 cd47 ct47), sl47⟩)
    (c47 : PySem.W.codeIn K cd47 "law" = true)
    (k47 : PySem.W.keepIn K (.ref f47) = true)
    (pg_Entry : PySem.W.plainGet K C_Entry Str.empty = true)
    (hd_Entry : PySem.W.hasDictIn K C_Entry = true)
    (po_Entry : PySem.W.plainOver K C_Entry = true)
    (sa_Entry : PySem.W.findIn K (.ref C_Entry) "__setattr__" = some (some (.builtin "object.__setattr__")))
    (mk_Entry : PySem.W.makesIn K C_Entry = true)
    (kc_Entry : PySem.W.keepIn K (.ref C_Entry) = true)
    (cha_Entry : PySem.W.findIn K (.ref C_Entry) "__class__" = some (some (.builtin "object.__class__")))
    (chn_Entry : PySem.W.specialIn K (.builtin "object.__class__") "__get__" = some (some (.builtin "getset_descriptor.__get__")))
    (cht_Entry : PySem.W.takesIn K (.builtin "object.__class__") = some true)
    (chm_Entry : PySem.W.mroIn K C_Entry (.type "object") = some true)
    (cic_Entry : PySem.W.isClsIn K C_Entry = true)
    (cty_Entry : PySem.W.typeIn K (.ref C_Entry) = some (.type "type"))
    (nNoneType_Entry : PySem.W.notFirst K C_Entry (.type "NoneType") = true)
    (nbool_Entry : PySem.W.notFirst K C_Entry (.type "bool") = true)
    (nint_Entry : PySem.W.notFirst K C_Entry (.type "int") = true)
    (nstr_Entry : PySem.W.notFirst K C_Entry (.type "str") = true)
    (nlist_Entry : PySem.W.notFirst K C_Entry (.type "list") = true)
    (ntuple_Entry : PySem.W.notFirst K C_Entry (.type "tuple") = true)
    (na_name_Entry : PySem.W.findIn K (.ref C_Entry) "name" = some none)
    (na_vector_Entry : PySem.W.findIn K (.ref C_Entry) "vector" = some none)
    (na_height_Entry : PySem.W.findIn K (.ref C_Entry) "height" = some none)
    (na_maker_Entry : PySem.W.findIn K (.ref C_Entry) "maker" = some none)
    (na_deleted_Entry : PySem.W.findIn K (.ref C_Entry) "deleted" = some none)
    (na_time_Entry : PySem.W.findIn K (.ref C_Entry) "time" = some none)
    (na_blocks_Entry : PySem.W.findIn K (.ref C_Entry) "blocks" = some none)
    (pg_Reader : PySem.W.plainGet K C_Reader Str.empty = true)
    (hd_Reader : PySem.W.hasDictIn K C_Reader = true)
    (po_Reader : PySem.W.plainOver K C_Reader = true)
    (sa_Reader : PySem.W.findIn K (.ref C_Reader) "__setattr__" = some (some (.builtin "object.__setattr__")))
    (mk_Reader : PySem.W.makesIn K C_Reader = true)
    (kc_Reader : PySem.W.keepIn K (.ref C_Reader) = true)
    (cha_Reader : PySem.W.findIn K (.ref C_Reader) "__class__" = some (some (.builtin "object.__class__")))
    (chn_Reader : PySem.W.specialIn K (.builtin "object.__class__") "__get__" = some (some (.builtin "getset_descriptor.__get__")))
    (cht_Reader : PySem.W.takesIn K (.builtin "object.__class__") = some true)
    (chm_Reader : PySem.W.mroIn K C_Reader (.type "object") = some true)
    (cic_Reader : PySem.W.isClsIn K C_Reader = true)
    (cty_Reader : PySem.W.typeIn K (.ref C_Reader) = some (.type "type"))
    (nNoneType_Reader : PySem.W.notFirst K C_Reader (.type "NoneType") = true)
    (nbool_Reader : PySem.W.notFirst K C_Reader (.type "bool") = true)
    (nint_Reader : PySem.W.notFirst K C_Reader (.type "int") = true)
    (nstr_Reader : PySem.W.notFirst K C_Reader (.type "str") = true)
    (nlist_Reader : PySem.W.notFirst K C_Reader (.type "list") = true)
    (ntuple_Reader : PySem.W.notFirst K C_Reader (.type "tuple") = true)
    (na_data_Reader : PySem.W.findIn K (.ref C_Reader) "data" = some none)
    (na_at_Reader : PySem.W.findIn K (.ref C_Reader) "at" = some none)
    (lX : K.lookup gX = some ⟨ocX, odX, .func (PySem.W.ksFn "__init__" "FolderkinError.__init__" (defArgs s_X) (defBody s_X) (defScope s_X) .none kVX dcX pmX anX (.ref cdaX) ctX ccX), oslX⟩)
    (cX : PySem.W.codeIn K (.ref cdaX) "FolderkinError.__init__" = true)
    (oX : K.lookup cdaX = some ⟨cclX, cddX, .fields vsX, ccsX⟩)
    (vX : vsX[2]? = some (.str fileX tfX))
    (fX : ((l.prog.main.file : Str) == fileX) = true)
    (ceX : K.lookup ccX = some ⟨clX, cldX, .cell (some (.ref C_FolderkinError)), cslX⟩)
    (dX : PySem.W.isClsIn K C_FolderkinError = true)
    (kX : PySem.W.keepIn K (.ref gX) = true)
    (tX : PySem.W.typeIn K (.ref gX) = some (.type "function"))
    (tpX : PySem.W.nsIn K cStatics "thirdparty.any" = some none)
    (topX : (l.prog.main.scope.names.lookup ("super" : Str)).isSome = false)
    (suX : PySem.W.nsIn K mainGlobals "super" = some none)
    (e0_FolderkinError : K.lookup C_FolderkinError = some (PySem.excClassObj nm_FolderkinError q_FolderkinError C_FolderkinError N_FolderkinError bs_FolderkinError bm_FolderkinError true sn_FolderkinError sub_FolderkinError ab_FolderkinError col_FolderkinError dd_FolderkinError k0_FolderkinError k1_FolderkinError k2_FolderkinError k3_FolderkinError k5_FolderkinError "ValueError.__new__"))
    (ez_FolderkinError : PySem.HandSPX.refsVE bm_FolderkinError = true)
    (e1_FolderkinError : PySem.W.findIn K (.ref C_FolderkinError) "__setattr__" = some (some (.builtin "object.__setattr__")))
    (e2_FolderkinError : PySem.W.subIn K (.ref C_FolderkinError) (.type "BaseException") = some true)
    (e3_FolderkinError : PySem.W.typeIn K (.ref C_FolderkinError) = some (.type "type"))
    (e4_FolderkinError : PySem.W.keepIn K (.ref C_FolderkinError) = true)
    (e5_FolderkinError : PySem.W.isClsIn K C_FolderkinError = true)
    (e6_FolderkinError : PySem.W.mroIn K C_FolderkinError (.ref C_FolderkinError) = some true)
    (e7_FolderkinError : PySem.W.ks_superIn K C_FolderkinError C_FolderkinError "__init__" = some (some (.builtin "ValueError.__init__")))
    (e8_FolderkinError : PySem.W.subIn K (.ref C_FolderkinError) (.type "ValueError") = some true)
    (e9_FolderkinError : PySem.W.findIn K (.ref C_FolderkinError) "place" = some none)
    (ea_FolderkinError : PySem.W.findIn K (.ref C_FolderkinError) "__init__" = some (some (.ref gX)))
    (eb_FolderkinError : PySem.W.hasDictIn K C_FolderkinError = true)
    (ec_FolderkinError : PySem.W.findIn K (.ref C_FolderkinError) "__getattribute__" = some (some (.builtin "BaseException.__getattribute__")))
    (ed_FolderkinError : PySem.W.findIn K (.ref C_FolderkinError) "__getattr__" = some none)
    (ee_FolderkinError : PySem.W.findIn K (.ref C_FolderkinError) "__class__" = some (some (.builtin "object.__class__")))
    (ef_FolderkinError : PySem.W.specialIn K (.builtin "object.__class__") "__get__" = some (some (.builtin "getset_descriptor.__get__")))
    (eg_FolderkinError : PySem.W.takesIn K (.builtin "object.__class__") = some true)
    (eh_FolderkinError : PySem.W.mroIn K C_FolderkinError (.type "object") = some true)
    (e0_InvalidBlock : K.lookup C_InvalidBlock = some (PySem.excClassObj nm_InvalidBlock q_InvalidBlock C_InvalidBlock N_InvalidBlock bs_InvalidBlock bm_InvalidBlock true sn_InvalidBlock sub_InvalidBlock ab_InvalidBlock col_InvalidBlock dd_InvalidBlock k0_InvalidBlock k1_InvalidBlock k2_InvalidBlock k3_InvalidBlock k5_InvalidBlock "ValueError.__new__"))
    (ez_InvalidBlock : PySem.HandSPX.refsVE bm_InvalidBlock = true)
    (e1_InvalidBlock : PySem.W.findIn K (.ref C_InvalidBlock) "__setattr__" = some (some (.builtin "object.__setattr__")))
    (e2_InvalidBlock : PySem.W.subIn K (.ref C_InvalidBlock) (.type "BaseException") = some true)
    (e3_InvalidBlock : PySem.W.typeIn K (.ref C_InvalidBlock) = some (.type "type"))
    (e4_InvalidBlock : PySem.W.keepIn K (.ref C_InvalidBlock) = true)
    (e5_InvalidBlock : PySem.W.isClsIn K C_InvalidBlock = true)
    (e6_InvalidBlock : PySem.W.mroIn K C_InvalidBlock (.ref C_FolderkinError) = some true)
    (e7_InvalidBlock : PySem.W.ks_superIn K C_InvalidBlock C_FolderkinError "__init__" = some (some (.builtin "ValueError.__init__")))
    (e8_InvalidBlock : PySem.W.subIn K (.ref C_InvalidBlock) (.type "ValueError") = some true)
    (e9_InvalidBlock : PySem.W.findIn K (.ref C_InvalidBlock) "place" = some none)
    (ea_InvalidBlock : PySem.W.findIn K (.ref C_InvalidBlock) "__init__" = some (some (.ref gX)))
    (eb_InvalidBlock : PySem.W.hasDictIn K C_InvalidBlock = true)
    (ec_InvalidBlock : PySem.W.findIn K (.ref C_InvalidBlock) "__getattribute__" = some (some (.builtin "BaseException.__getattribute__")))
    (ed_InvalidBlock : PySem.W.findIn K (.ref C_InvalidBlock) "__getattr__" = some none)
    (ee_InvalidBlock : PySem.W.findIn K (.ref C_InvalidBlock) "__class__" = some (some (.builtin "object.__class__")))
    (ef_InvalidBlock : PySem.W.specialIn K (.builtin "object.__class__") "__get__" = some (some (.builtin "getset_descriptor.__get__")))
    (eg_InvalidBlock : PySem.W.takesIn K (.builtin "object.__class__") = some true)
    (eh_InvalidBlock : PySem.W.mroIn K C_InvalidBlock (.type "object") = some true)
    (e0_InvalidBytes : K.lookup C_InvalidBytes = some (PySem.excClassObj nm_InvalidBytes q_InvalidBytes C_InvalidBytes N_InvalidBytes bs_InvalidBytes bm_InvalidBytes true sn_InvalidBytes sub_InvalidBytes ab_InvalidBytes col_InvalidBytes dd_InvalidBytes k0_InvalidBytes k1_InvalidBytes k2_InvalidBytes k3_InvalidBytes k5_InvalidBytes "ValueError.__new__"))
    (ez_InvalidBytes : PySem.HandSPX.refsVE bm_InvalidBytes = true)
    (e1_InvalidBytes : PySem.W.findIn K (.ref C_InvalidBytes) "__setattr__" = some (some (.builtin "object.__setattr__")))
    (e2_InvalidBytes : PySem.W.subIn K (.ref C_InvalidBytes) (.type "BaseException") = some true)
    (e3_InvalidBytes : PySem.W.typeIn K (.ref C_InvalidBytes) = some (.type "type"))
    (e4_InvalidBytes : PySem.W.keepIn K (.ref C_InvalidBytes) = true)
    (e5_InvalidBytes : PySem.W.isClsIn K C_InvalidBytes = true)
    (e6_InvalidBytes : PySem.W.mroIn K C_InvalidBytes (.ref C_FolderkinError) = some true)
    (e7_InvalidBytes : PySem.W.ks_superIn K C_InvalidBytes C_FolderkinError "__init__" = some (some (.builtin "ValueError.__init__")))
    (e8_InvalidBytes : PySem.W.subIn K (.ref C_InvalidBytes) (.type "ValueError") = some true)
    (e9_InvalidBytes : PySem.W.findIn K (.ref C_InvalidBytes) "place" = some none)
    (ea_InvalidBytes : PySem.W.findIn K (.ref C_InvalidBytes) "__init__" = some (some (.ref gX)))
    (eb_InvalidBytes : PySem.W.hasDictIn K C_InvalidBytes = true)
    (ec_InvalidBytes : PySem.W.findIn K (.ref C_InvalidBytes) "__getattribute__" = some (some (.builtin "BaseException.__getattribute__")))
    (ed_InvalidBytes : PySem.W.findIn K (.ref C_InvalidBytes) "__getattr__" = some none)
    (ee_InvalidBytes : PySem.W.findIn K (.ref C_InvalidBytes) "__class__" = some (some (.builtin "object.__class__")))
    (ef_InvalidBytes : PySem.W.specialIn K (.builtin "object.__class__") "__get__" = some (some (.builtin "getset_descriptor.__get__")))
    (eg_InvalidBytes : PySem.W.takesIn K (.builtin "object.__class__") = some true)
    (eh_InvalidBytes : PySem.W.mroIn K C_InvalidBytes (.type "object") = some true)
    (es_InvalidBlock_InvalidBytes : PySem.W.subIn K (.ref C_InvalidBlock) (.ref C_InvalidBytes) = some false)
    (es_InvalidBytes_InvalidBytes : PySem.W.subIn K (.ref C_InvalidBytes) (.ref C_InvalidBytes) = some true)
    (es_InvalidBlock_FolderkinError : PySem.W.subIn K (.ref C_InvalidBlock) (.ref C_FolderkinError) = some true)
    (es_InvalidBytes_FolderkinError : PySem.W.subIn K (.ref C_InvalidBytes) (.ref C_FolderkinError) = some true)
    (z_ValueError : PySem.W.nsIn K mainGlobals "ValueError" = some none)
    (z_bool : PySem.W.nsIn K mainGlobals "bool" = some none)
    (z_int : PySem.W.nsIn K mainGlobals "int" = some none)
    (z_isinstance : PySem.W.nsIn K mainGlobals "isinstance" = some none)
    (z_len : PySem.W.nsIn K mainGlobals "len" = some none)
    (z_list : PySem.W.nsIn K mainGlobals "list" = some none)
    (z_ord : PySem.W.nsIn K mainGlobals "ord" = some none)
    (z_range : PySem.W.nsIn K mainGlobals "range" = some none)
    (z_tuple : PySem.W.nsIn K mainGlobals "tuple" = some none)
    (y_MOST_DEVICE : PySem.W.nsIn K mainGlobals "MOST_DEVICE" = some (some (.int 9 t_MOST_DEVICE)))
    (y_BLOCK : PySem.W.nsIn K mainGlobals "BLOCK" = some (some (.int 4 t_BLOCK)))
    (y_MOST_NAME : PySem.W.nsIn K mainGlobals "MOST_NAME" = some (some (.int 40 t_MOST_NAME)))
    (y_FIRST_CODE : PySem.W.nsIn K mainGlobals "FIRST_CODE" = some (some (.int 45 t_FIRST_CODE)))
    (y_TABLE : PySem.W.nsIn K mainGlobals "TABLE" = some (some (.str "-./0123456789:;<=>?\x40ABCDEFGHIJKLMNOPQRSTUVWXYZ[\\]^_`abcdefghijklmnopqrstuvwxyz{|}~" t_TABLE)))
    (y_CHARACTERS : PySem.W.nsIn K mainGlobals "CHARACTERS" = some (some (.str "-./0123456789ABCDEFGHIJKLMNOPQRSTUVWXYZ_abcdefghijklmnopqrstuvwxyz~" t_CHARACTERS)))
    (y_MOST_BLOCKS : PySem.W.nsIn K mainGlobals "MOST_BLOCKS" = some (some (.int 255 t_MOST_BLOCKS)))
    (hm : ∀ (C_Entry C_Reader C_FolderkinError C_InvalidBlock C_InvalidBytes gX : Nat) (nx_InvalidBlock_InvalidBytes : C_InvalidBlock ≠ C_InvalidBytes) (ns : List Int), ns.length ≤ 63 → (f_law C_Entry C_Reader C_FolderkinError C_InvalidBlock C_InvalidBytes gX) [scriptD ns] (fun _ => none) (fun d _ => d = .bool true) (fun _ _ => False)) :
    ∃ fd : FuncData, (∀ (s : Shared) (v : Value), BindsTo s fd ⟨[v], []⟩ [("_law_script", v)]) ∧ ∀ base : Heap, K.In base → base.Ns mainGlobals mg → FnOk l.prog w K mg base (L2.CX l.prog w) 9 fa fd ["_law_script"] (fun vs H Q _ => ∃ (a : Addr) (ns : List Int), vs = [.ref a] ∧ SqL K H a (ns.map V.int) ∧ ns.length ≤ 63 ∧ ∀ H', Q (.bl true) H') := by
  have e := Value.ref.inj (Option.some.inj ((PySem.W.mg_of X G a47).symm.trans hfa))
  subst e
  have F0 : FunD K "block_number" "block_number" (defArgs s_block_number) (defBody s_block_number) (defScope s_block_number) [] [] f0 _ := ⟨⟨_, _, _, _, _, _, _, _, _, _, rfl, l0, c0, .inl ⟨rfl, rfl⟩, .inl rfl⟩, k0⟩
  have A0 : ∀ (base : Heap), AtF ⟨l.prog, w, K, mg, base, 0, true, true, none, []⟩ "block_number" "block_number" s_block_number ["data"] [] [] f0 := fun base => ⟨_, F0, F0.bindsN fun _ _ _ _ _ _ us hl => match us, hl with | [_], _ => rfl, fun j hj => by cases hj⟩
  have F1 : FunD K "block_size" "block_size" (defArgs s_block_size) (defBody s_block_size) (defScope s_block_size) [] [] f1 _ := ⟨⟨_, _, _, _, _, _, _, _, _, _, rfl, l1, c1, .inl ⟨rfl, rfl⟩, .inl rfl⟩, k1⟩
  have A1 : ∀ (base : Heap), AtF ⟨l.prog, w, K, mg, base, 0, true, true, none, []⟩ "block_size" "block_size" s_block_size ["number"] [] [] f1 := fun base => ⟨_, F1, F1.bindsN fun _ _ _ _ _ _ us hl => match us, hl with | [_], _ => rfl, fun j hj => by cases hj⟩
  have F2 : FunD K "is_block" "is_block" (defArgs s_is_block) (defBody s_is_block) (defScope s_is_block) [] [] f2 _ := ⟨⟨_, _, _, _, _, _, _, _, _, _, rfl, l2, c2, .inl ⟨rfl, rfl⟩, .inl rfl⟩, k2⟩
  have A2 : ∀ (base : Heap), AtF ⟨l.prog, w, K, mg, base, 0, true, true, none, []⟩ "is_block" "is_block" s_is_block ["number"] [] [] f2 := fun base => ⟨_, F2, F2.bindsN fun _ _ _ _ _ _ us hl => match us, hl with | [_], _ => rfl, fun j hj => by cases hj⟩
  have F3 : FunD K "block_bytes" "block_bytes" (defArgs s_block_bytes) (defBody s_block_bytes) (defScope s_block_bytes) [] [] f3 _ := ⟨⟨_, _, _, _, _, _, _, _, _, _, rfl, l3, c3, .inl ⟨rfl, rfl⟩, .inl rfl⟩, k3⟩
  have A3 : ∀ (base : Heap), AtF ⟨l.prog, w, K, mg, base, 0, true, true, none, []⟩ "block_bytes" "block_bytes" s_block_bytes ["number"] [] [] f3 := fun base => ⟨_, F3, F3.bindsN fun _ _ _ _ _ _ us hl => match us, hl with | [_], _ => rfl, fun j hj => by cases hj⟩
  have F4 : FunD K "__init__" "Entry.__init__" (defArgs s_Entry_init) (defBody s_Entry_init) (defScope s_Entry_init) [] [] f4 _ := ⟨⟨_, _, _, _, _, _, _, _, _, _, rfl, l4, c4, .inl ⟨rfl, rfl⟩, .inl rfl⟩, k4⟩
  have A4 : ∀ (base : Heap), AtF ⟨l.prog, w, K, mg, base, 0, true, true, none, []⟩ "__init__" "Entry.__init__" s_Entry_init ["self", "name", "vector", "height", "maker", "deleted", "time", "blocks"] [] [] f4 := fun base => ⟨_, F4, F4.bindsN fun _ _ _ _ _ _ us hl => match us, hl with | [_, _, _, _, _, _, _, _], _ => rfl, fun j hj => by cases hj⟩
  have F5 : FunD K "character_of" "character_of" (defArgs s_character_of) (defBody s_character_of) (defScope s_character_of) [] [] f5 _ := ⟨⟨_, _, _, _, _, _, _, _, _, _, rfl, l5, c5, .inl ⟨rfl, rfl⟩, .inl rfl⟩, k5⟩
  have A5 : ∀ (base : Heap), AtF ⟨l.prog, w, K, mg, base, 0, true, true, none, []⟩ "character_of" "character_of" s_character_of ["code"] [] [] f5 := fun base => ⟨_, F5, F5.bindsN fun _ _ _ _ _ _ us hl => match us, hl with | [_], _ => rfl, fun j hj => by cases hj⟩
  have F6 : FunD K "number_bytes" "number_bytes" (defArgs s_number_bytes) (defBody s_number_bytes) (defScope s_number_bytes) [] [] f6 _ := ⟨⟨_, _, _, _, _, _, _, _, _, _, rfl, l6, c6, .inl ⟨rfl, rfl⟩, .inl rfl⟩, k6⟩
  have A6 : ∀ (base : Heap), AtF ⟨l.prog, w, K, mg, base, 0, true, true, none, []⟩ "number_bytes" "number_bytes" s_number_bytes ["number"] [] [] f6 := fun base => ⟨_, F6, F6.bindsN fun _ _ _ _ _ _ us hl => match us, hl with | [_], _ => rfl, fun j hj => by cases hj⟩
  have F7 : FunD K "name_bytes" "name_bytes" (defArgs s_name_bytes) (defBody s_name_bytes) (defScope s_name_bytes) [] [] f7 _ := ⟨⟨_, _, _, _, _, _, _, _, _, _, rfl, l7, c7, .inl ⟨rfl, rfl⟩, .inl rfl⟩, k7⟩
  have A7 : ∀ (base : Heap), AtF ⟨l.prog, w, K, mg, base, 0, true, true, none, []⟩ "name_bytes" "name_bytes" s_name_bytes ["name"] [] [] f7 := fun base => ⟨_, F7, F7.bindsN fun _ _ _ _ _ _ us hl => match us, hl with | [_], _ => rfl, fun j hj => by cases hj⟩
  have F8 : FunD K "vector_bytes" "vector_bytes" (defArgs s_vector_bytes) (defBody s_vector_bytes) (defScope s_vector_bytes) [] [] f8 _ := ⟨⟨_, _, _, _, _, _, _, _, _, _, rfl, l8, c8, .inl ⟨rfl, rfl⟩, .inl rfl⟩, k8⟩
  have A8 : ∀ (base : Heap), AtF ⟨l.prog, w, K, mg, base, 0, true, true, none, []⟩ "vector_bytes" "vector_bytes" s_vector_bytes ["vector"] [] [] f8 := fun base => ⟨_, F8, F8.bindsN fun _ _ _ _ _ _ us hl => match us, hl with | [_], _ => rfl, fun j hj => by cases hj⟩
  have F9 : FunD K "data_bytes" "data_bytes" (defArgs s_data_bytes) (defBody s_data_bytes) (defScope s_data_bytes) [] [] f9 _ := ⟨⟨_, _, _, _, _, _, _, _, _, _, rfl, l9, c9, .inl ⟨rfl, rfl⟩, .inl rfl⟩, k9⟩
  have A9 : ∀ (base : Heap), AtF ⟨l.prog, w, K, mg, base, 0, true, true, none, []⟩ "data_bytes" "data_bytes" s_data_bytes ["data"] [] [] f9 := fun base => ⟨_, F9, F9.bindsN fun _ _ _ _ _ _ us hl => match us, hl with | [_], _ => rfl, fun j hj => by cases hj⟩
  have F10 : FunD K "entry_bytes" "entry_bytes" (defArgs s_entry_bytes) (defBody s_entry_bytes) (defScope s_entry_bytes) [] [] f10 _ := ⟨⟨_, _, _, _, _, _, _, _, _, _, rfl, l10, c10, .inl ⟨rfl, rfl⟩, .inl rfl⟩, k10⟩
  have A10 : ∀ (base : Heap), AtF ⟨l.prog, w, K, mg, base, 0, true, true, none, []⟩ "entry_bytes" "entry_bytes" s_entry_bytes ["entry", "number"] [] [] f10 := fun base => ⟨_, F10, F10.bindsN fun _ _ _ _ _ _ us hl => match us, hl with | [_, _], _ => rfl, fun j hj => by cases hj⟩
  have F11 : FunD K "__init__" "Reader.__init__" (defArgs s_Reader_init) (defBody s_Reader_init) (defScope s_Reader_init) [V.int 0] [] f11 (PySem.W.fnOf "__init__" "Reader.__init__" (defArgs s_Reader_init) (defBody s_Reader_init) (defScope s_Reader_init) (.ref dT11) kV11 dc11 pm11 an11 cd11 ct11) := ⟨⟨_, _, _, _, _, _, _, _, _, _, rfl, l11, c11, .inr ⟨by simp, _, _, [.int 0 td11_0], _, rfl, t11, rfl, by repeat (first | exact .nil | refine .cons ?_ ?_ | exact rfl | exact ⟨_, rfl⟩)⟩, .inl rfl⟩, k11⟩
  have b11 : Binds K (PySem.W.fnOf "__init__" "Reader.__init__" (defArgs s_Reader_init) (defBody s_Reader_init) (defScope s_Reader_init) (.ref dT11) kV11 dc11 pm11 an11 cd11 ct11) ["self", "data", "at"] [] := by
    obtain ⟨ds, r, b⟩ := F11.binds1 (ps := ["self", "data", "at"]) 3 1 (by simp) rfl fun T kV doc pm an cdv ct us its h1 h2 => match us, its, h1, h2 with | [_, _, _], [_], _, _ => ⟨_, rfl, rfl⟩
    cases r
    exact b
  have A11 : ∀ (base : Heap), AtF ⟨l.prog, w, K, mg, base, 0, true, true, none, []⟩ "__init__" "Reader.__init__" s_Reader_init ["self", "data", "at"] [V.int 0] [0] f11 := fun base => ⟨_, F11, b11, fun j hj => by
    rcases List.mem_cons.mp hj with rfl | hj
    · exact F11.binds1 (ps := ["self", "data", "at"]) 2 0 (by simp) rfl fun T kV doc pm an cdv ct us its h1 h2 => match us, its, h1, h2 with | [_, _], [_], _, _ => ⟨_, rfl, rfl⟩
    cases hj⟩
  have F12 : FunD K "byte" "Reader.byte" (defArgs s_Reader_byte) (defBody s_Reader_byte) (defScope s_Reader_byte) [V.int 0, V.int 255] [] f12 (PySem.W.fnOf "byte" "Reader.byte" (defArgs s_Reader_byte) (defBody s_Reader_byte) (defScope s_Reader_byte) (.ref dT12) kV12 dc12 pm12 an12 cd12 ct12) := ⟨⟨_, _, _, _, _, _, _, _, _, _, rfl, l12, c12, .inr ⟨by simp, _, _, [.int 0 td12_0, .int 255 td12_1], _, rfl, t12, rfl, by repeat (first | exact .nil | refine .cons ?_ ?_ | exact rfl | exact ⟨_, rfl⟩)⟩, .inl rfl⟩, k12⟩
  have b12 : Binds K (PySem.W.fnOf "byte" "Reader.byte" (defArgs s_Reader_byte) (defBody s_Reader_byte) (defScope s_Reader_byte) (.ref dT12) kV12 dc12 pm12 an12 cd12 ct12) ["self", "least", "most"] [] := by
    obtain ⟨ds, r, b⟩ := F12.binds1 (ps := ["self", "least", "most"]) 3 2 (by simp) rfl fun T kV doc pm an cdv ct us its h1 h2 => match us, its, h1, h2 with | [_, _, _], [_, _], _, _ => ⟨_, rfl, rfl⟩
    cases r
    exact b
  have A12 : ∀ (base : Heap), AtF ⟨l.prog, w, K, mg, base, 0, true, true, none, []⟩ "byte" "Reader.byte" s_Reader_byte ["self", "least", "most"] [V.int 0, V.int 255] [0, 1] f12 := fun base => ⟨_, F12, b12, fun j hj => by
    rcases List.mem_cons.mp hj with rfl | hj
    · exact F12.binds1 (ps := ["self", "least", "most"]) 1 0 (by simp) rfl fun T kV doc pm an cdv ct us its h1 h2 => match us, its, h1, h2 with | [_], [_, _], _, _ => ⟨_, rfl, rfl⟩
    rcases List.mem_cons.mp hj with rfl | hj
    · exact F12.binds1 (ps := ["self", "least", "most"]) 2 1 (by simp) rfl fun T kV doc pm an cdv ct us its h1 h2 => match us, its, h1, h2 with | [_, _], [_, _], _, _ => ⟨_, rfl, rfl⟩
    cases hj⟩
  have F13 : FunD K "number" "Reader.number" (defArgs s_Reader_number) (defBody s_Reader_number) (defScope s_Reader_number) [V.int 0] [] f13 (PySem.W.fnOf "number" "Reader.number" (defArgs s_Reader_number) (defBody s_Reader_number) (defScope s_Reader_number) (.ref dT13) kV13 dc13 pm13 an13 cd13 ct13) := ⟨⟨_, _, _, _, _, _, _, _, _, _, rfl, l13, c13, .inr ⟨by simp, _, _, [.int 0 td13_0], _, rfl, t13, rfl, by repeat (first | exact .nil | refine .cons ?_ ?_ | exact rfl | exact ⟨_, rfl⟩)⟩, .inl rfl⟩, k13⟩
  have b13 : Binds K (PySem.W.fnOf "number" "Reader.number" (defArgs s_Reader_number) (defBody s_Reader_number) (defScope s_Reader_number) (.ref dT13) kV13 dc13 pm13 an13 cd13 ct13) ["self", "least"] [] := by
    obtain ⟨ds, r, b⟩ := F13.binds1 (ps := ["self", "least"]) 2 1 (by simp) rfl fun T kV doc pm an cdv ct us its h1 h2 => match us, its, h1, h2 with | [_, _], [_], _, _ => ⟨_, rfl, rfl⟩
    cases r
    exact b
  have A13 : ∀ (base : Heap), AtF ⟨l.prog, w, K, mg, base, 0, true, true, none, []⟩ "number" "Reader.number" s_Reader_number ["self", "least"] [V.int 0] [0] f13 := fun base => ⟨_, F13, b13, fun j hj => by
    rcases List.mem_cons.mp hj with rfl | hj
    · exact F13.binds1 (ps := ["self", "least"]) 1 0 (by simp) rfl fun T kV doc pm an cdv ct us its h1 h2 => match us, its, h1, h2 with | [_], [_], _, _ => ⟨_, rfl, rfl⟩
    cases hj⟩
  have F14 : FunD K "device" "Reader.device" (defArgs s_Reader_device) (defBody s_Reader_device) (defScope s_Reader_device) [] [] f14 _ := ⟨⟨_, _, _, _, _, _, _, _, _, _, rfl, l14, c14, .inl ⟨rfl, rfl⟩, .inl rfl⟩, k14⟩
  have A14 : ∀ (base : Heap), AtF ⟨l.prog, w, K, mg, base, 0, true, true, none, []⟩ "device" "Reader.device" s_Reader_device ["self"] [] [] f14 := fun base => ⟨_, F14, F14.bindsN fun _ _ _ _ _ _ us hl => match us, hl with | [_], _ => rfl, fun j hj => by cases hj⟩
  have F15 : FunD K "name" "Reader.name" (defArgs s_Reader_name) (defBody s_Reader_name) (defScope s_Reader_name) [] [] f15 _ := ⟨⟨_, _, _, _, _, _, _, _, _, _, rfl, l15, c15, .inl ⟨rfl, rfl⟩, .inl rfl⟩, k15⟩
  have A15 : ∀ (base : Heap), AtF ⟨l.prog, w, K, mg, base, 0, true, true, none, []⟩ "name" "Reader.name" s_Reader_name ["self"] [] [] f15 := fun base => ⟨_, F15, F15.bindsN fun _ _ _ _ _ _ us hl => match us, hl with | [_], _ => rfl, fun j hj => by cases hj⟩
  have F16 : FunD K "vector" "Reader.vector" (defArgs s_Reader_vector) (defBody s_Reader_vector) (defScope s_Reader_vector) [] [] f16 _ := ⟨⟨_, _, _, _, _, _, _, _, _, _, rfl, l16, c16, .inl ⟨rfl, rfl⟩, .inl rfl⟩, k16⟩
  have A16 : ∀ (base : Heap), AtF ⟨l.prog, w, K, mg, base, 0, true, true, none, []⟩ "vector" "Reader.vector" s_Reader_vector ["self"] [] [] f16 := fun base => ⟨_, F16, F16.bindsN fun _ _ _ _ _ _ us hl => match us, hl with | [_], _ => rfl, fun j hj => by cases hj⟩
  have F17 : FunD K "row" "Reader.row" (defArgs s_Reader_row) (defBody s_Reader_row) (defScope s_Reader_row) [V.int 1] [] f17 (PySem.W.fnOf "row" "Reader.row" (defArgs s_Reader_row) (defBody s_Reader_row) (defScope s_Reader_row) (.ref dT17) kV17 dc17 pm17 an17 cd17 ct17) := ⟨⟨_, _, _, _, _, _, _, _, _, _, rfl, l17, c17, .inr ⟨by simp, _, _, [.int 1 td17_0], _, rfl, t17, rfl, by repeat (first | exact .nil | refine .cons ?_ ?_ | exact rfl | exact ⟨_, rfl⟩)⟩, .inl rfl⟩, k17⟩
  have b17 : Binds K (PySem.W.fnOf "row" "Reader.row" (defArgs s_Reader_row) (defBody s_Reader_row) (defScope s_Reader_row) (.ref dT17) kV17 dc17 pm17 an17 cd17 ct17) ["self", "least"] [] := by
    obtain ⟨ds, r, b⟩ := F17.binds1 (ps := ["self", "least"]) 2 1 (by simp) rfl fun T kV doc pm an cdv ct us its h1 h2 => match us, its, h1, h2 with | [_, _], [_], _, _ => ⟨_, rfl, rfl⟩
    cases r
    exact b
  have A17 : ∀ (base : Heap), AtF ⟨l.prog, w, K, mg, base, 0, true, true, none, []⟩ "row" "Reader.row" s_Reader_row ["self", "least"] [V.int 1] [] f17 := fun base => ⟨_, F17, b17, fun j hj => by
    cases hj⟩
  have F18 : FunD K "block" "Reader.block" (defArgs s_Reader_block) (defBody s_Reader_block) (defScope s_Reader_block) [V.int 1] [] f18 (PySem.W.fnOf "block" "Reader.block" (defArgs s_Reader_block) (defBody s_Reader_block) (defScope s_Reader_block) (.ref dT18) kV18 dc18 pm18 an18 cd18 ct18) := ⟨⟨_, _, _, _, _, _, _, _, _, _, rfl, l18, c18, .inr ⟨by simp, _, _, [.int 1 td18_0], _, rfl, t18, rfl, by repeat (first | exact .nil | refine .cons ?_ ?_ | exact rfl | exact ⟨_, rfl⟩)⟩, .inl rfl⟩, k18⟩
  have b18 : Binds K (PySem.W.fnOf "block" "Reader.block" (defArgs s_Reader_block) (defBody s_Reader_block) (defScope s_Reader_block) (.ref dT18) kV18 dc18 pm18 an18 cd18 ct18) ["self", "least"] [] := by
    obtain ⟨ds, r, b⟩ := F18.binds1 (ps := ["self", "least"]) 2 1 (by simp) rfl fun T kV doc pm an cdv ct us its h1 h2 => match us, its, h1, h2 with | [_, _], [_], _, _ => ⟨_, rfl, rfl⟩
    cases r
    exact b
  have A18 : ∀ (base : Heap), AtF ⟨l.prog, w, K, mg, base, 0, true, true, none, []⟩ "block" "Reader.block" s_Reader_block ["self", "least"] [V.int 1] [0] f18 := fun base => ⟨_, F18, b18, fun j hj => by
    rcases List.mem_cons.mp hj with rfl | hj
    · exact F18.binds1 (ps := ["self", "least"]) 1 0 (by simp) rfl fun T kV doc pm an cdv ct us its h1 h2 => match us, its, h1, h2 with | [_], [_], _, _ => ⟨_, rfl, rfl⟩
    cases hj⟩
  have F19 : FunD K "entry" "Reader.entry" (defArgs s_Reader_entry) (defBody s_Reader_entry) (defScope s_Reader_entry) [] [] f19 _ := ⟨⟨_, _, _, _, _, _, _, _, _, _, rfl, l19, c19, .inl ⟨rfl, rfl⟩, .inl rfl⟩, k19⟩
  have A19 : ∀ (base : Heap), AtF ⟨l.prog, w, K, mg, base, 0, true, true, none, []⟩ "entry" "Reader.entry" s_Reader_entry ["self"] [] [] f19 := fun base => ⟨_, F19, F19.bindsN fun _ _ _ _ _ _ us hl => match us, hl with | [_], _ => rfl, fun j hj => by cases hj⟩
  have F20 : FunD K "_law_draw" "_law_draw" (defArgs s_law_draw) (defBody s_law_draw) (defScope s_law_draw) [] [] f20 _ := ⟨⟨_, _, _, _, _, _, _, _, _, _, rfl, l20, c20, .inl ⟨rfl, rfl⟩, .inl rfl⟩, k20⟩
  have A20 : ∀ (base : Heap), AtF ⟨l.prog, w, K, mg, base, 0, true, true, none, []⟩ "_law_draw" "_law_draw" s_law_draw ["_law_state", "_law_script", "_law_size"] [] [] f20 := fun base => ⟨_, F20, F20.bindsN fun _ _ _ _ _ _ us hl => match us, hl with | [_, _, _], _ => rfl, fun j hj => by cases hj⟩
  have F21 : FunD K "_law_all" "_law_all" (defArgs s_law_all) (defBody s_law_all) (defScope s_law_all) [] [] f21 _ := ⟨⟨_, _, _, _, _, _, _, _, _, _, rfl, l21, c21, .inl ⟨rfl, rfl⟩, .inl rfl⟩, k21⟩
  have A21 : ∀ (base : Heap), AtF ⟨l.prog, w, K, mg, base, 0, true, true, none, []⟩ "_law_all" "_law_all" s_law_all [] [] [] f21 := fun base => ⟨_, F21, F21.bindsN fun _ _ _ _ _ _ us hl => match us, hl with | [], _ => rfl, fun j hj => by cases hj⟩
  have F22 : FunD K "_law_count" "_law_count" (defArgs s_law_count) (defBody s_law_count) (defScope s_law_count) [] [] f22 _ := ⟨⟨_, _, _, _, _, _, _, _, _, _, rfl, l22, c22, .inl ⟨rfl, rfl⟩, .inl rfl⟩, k22⟩
  have A22 : ∀ (base : Heap), AtF ⟨l.prog, w, K, mg, base, 0, true, true, none, []⟩ "_law_count" "_law_count" s_law_count ["_law_state", "_law_script", "_law_least"] [] [] f22 := fun base => ⟨_, F22, F22.bindsN fun _ _ _ _ _ _ us hl => match us, hl with | [_, _, _], _ => rfl, fun j hj => by cases hj⟩
  have F23 : FunD K "_law_name" "_law_name" (defArgs s_law_name) (defBody s_law_name) (defScope s_law_name) [] [] f23 _ := ⟨⟨_, _, _, _, _, _, _, _, _, _, rfl, l23, c23, .inl ⟨rfl, rfl⟩, .inl rfl⟩, k23⟩
  have A23 : ∀ (base : Heap), AtF ⟨l.prog, w, K, mg, base, 0, true, true, none, []⟩ "_law_name" "_law_name" s_law_name ["_law_state", "_law_script"] [] [] f23 := fun base => ⟨_, F23, F23.bindsN fun _ _ _ _ _ _ us hl => match us, hl with | [_, _], _ => rfl, fun j hj => by cases hj⟩
  have F24 : FunD K "_law_vector" "_law_vector" (defArgs s_law_vector) (defBody s_law_vector) (defScope s_law_vector) [] [] f24 _ := ⟨⟨_, _, _, _, _, _, _, _, _, _, rfl, l24, c24, .inl ⟨rfl, rfl⟩, .inl rfl⟩, k24⟩
  have A24 : ∀ (base : Heap), AtF ⟨l.prog, w, K, mg, base, 0, true, true, none, []⟩ "_law_vector" "_law_vector" s_law_vector ["_law_state", "_law_script"] [] [] f24 := fun base => ⟨_, F24, F24.bindsN fun _ _ _ _ _ _ us hl => match us, hl with | [_, _], _ => rfl, fun j hj => by cases hj⟩
  have F25 : FunD K "_law_block" "_law_block" (defArgs s_law_block) (defBody s_law_block) (defScope s_law_block) [] [] f25 _ := ⟨⟨_, _, _, _, _, _, _, _, _, _, rfl, l25, c25, .inl ⟨rfl, rfl⟩, .inl rfl⟩, k25⟩
  have A25 : ∀ (base : Heap), AtF ⟨l.prog, w, K, mg, base, 0, true, true, none, []⟩ "_law_block" "_law_block" s_law_block ["_law_row_here"] [] [] f25 := fun base => ⟨_, F25, F25.bindsN fun _ _ _ _ _ _ us hl => match us, hl with | [_], _ => rfl, fun j hj => by cases hj⟩
  have F26 : FunD K "_law_row" "_law_row" (defArgs s_law_row) (defBody s_law_row) (defScope s_law_row) [] [] f26 _ := ⟨⟨_, _, _, _, _, _, _, _, _, _, rfl, l26, c26, .inl ⟨rfl, rfl⟩, .inl rfl⟩, k26⟩
  have A26 : ∀ (base : Heap), AtF ⟨l.prog, w, K, mg, base, 0, true, true, none, []⟩ "_law_row" "_law_row" s_law_row ["_law_state", "_law_script", "_law_size"] [] [] f26 := fun base => ⟨_, F26, F26.bindsN fun _ _ _ _ _ _ us hl => match us, hl with | [_, _, _], _ => rfl, fun j hj => by cases hj⟩
  have F27 : FunD K "_law_entry" "_law_entry" (defArgs s_law_entry) (defBody s_law_entry) (defScope s_law_entry) [] [] f27 _ := ⟨⟨_, _, _, _, _, _, _, _, _, _, rfl, l27, c27, .inl ⟨rfl, rfl⟩, .inl rfl⟩, k27⟩
  have A27 : ∀ (base : Heap), AtF ⟨l.prog, w, K, mg, base, 0, true, true, none, []⟩ "_law_entry" "_law_entry" s_law_entry ["_law_state", "_law_script"] [] [] f27 := fun base => ⟨_, F27, F27.bindsN fun _ _ _ _ _ _ us hl => match us, hl with | [_, _], _ => rfl, fun j hj => by cases hj⟩
  have F28 : FunD K "_law_four" "_law_four" (defArgs s_law_four) (defBody s_law_four) (defScope s_law_four) [] [] f28 _ := ⟨⟨_, _, _, _, _, _, _, _, _, _, rfl, l28, c28, .inl ⟨rfl, rfl⟩, .inl rfl⟩, k28⟩
  have A28 : ∀ (base : Heap), AtF ⟨l.prog, w, K, mg, base, 0, true, true, none, []⟩ "_law_four" "_law_four" s_law_four ["_law_number"] [] [] f28 := fun base => ⟨_, F28, F28.bindsN fun _ _ _ _ _ _ us hl => match us, hl with | [_], _ => rfl, fun j hj => by cases hj⟩
  have F29 : FunD K "_law_name_written" "_law_name_written" (defArgs s_law_name_written) (defBody s_law_name_written) (defScope s_law_name_written) [] [] f29 _ := ⟨⟨_, _, _, _, _, _, _, _, _, _, rfl, l29, c29, .inl ⟨rfl, rfl⟩, .inl rfl⟩, k29⟩
  have A29 : ∀ (base : Heap), AtF ⟨l.prog, w, K, mg, base, 0, true, true, none, []⟩ "_law_name_written" "_law_name_written" s_law_name_written ["_law_name_here"] [] [] f29 := fun base => ⟨_, F29, F29.bindsN fun _ _ _ _ _ _ us hl => match us, hl with | [_], _ => rfl, fun j hj => by cases hj⟩
  have F30 : FunD K "_law_vector_written" "_law_vector_written" (defArgs s_law_vector_written) (defBody s_law_vector_written) (defScope s_law_vector_written) [] [] f30 _ := ⟨⟨_, _, _, _, _, _, _, _, _, _, rfl, l30, c30, .inl ⟨rfl, rfl⟩, .inl rfl⟩, k30⟩
  have A30 : ∀ (base : Heap), AtF ⟨l.prog, w, K, mg, base, 0, true, true, none, []⟩ "_law_vector_written" "_law_vector_written" s_law_vector_written ["_law_vector_here"] [] [] f30 := fun base => ⟨_, F30, F30.bindsN fun _ _ _ _ _ _ us hl => match us, hl with | [_], _ => rfl, fun j hj => by cases hj⟩
  have F31 : FunD K "_law_block_written" "_law_block_written" (defArgs s_law_block_written) (defBody s_law_block_written) (defScope s_law_block_written) [] [] f31 _ := ⟨⟨_, _, _, _, _, _, _, _, _, _, rfl, l31, c31, .inl ⟨rfl, rfl⟩, .inl rfl⟩, k31⟩
  have A31 : ∀ (base : Heap), AtF ⟨l.prog, w, K, mg, base, 0, true, true, none, []⟩ "_law_block_written" "_law_block_written" s_law_block_written ["_law_block_here"] [] [] f31 := fun base => ⟨_, F31, F31.bindsN fun _ _ _ _ _ _ us hl => match us, hl with | [_], _ => rfl, fun j hj => by cases hj⟩
  have F32 : FunD K "_law_entry_written" "_law_entry_written" (defArgs s_law_entry_written) (defBody s_law_entry_written) (defScope s_law_entry_written) [] [] f32 _ := ⟨⟨_, _, _, _, _, _, _, _, _, _, rfl, l32, c32, .inl ⟨rfl, rfl⟩, .inl rfl⟩, k32⟩
  have A32 : ∀ (base : Heap), AtF ⟨l.prog, w, K, mg, base, 0, true, true, none, []⟩ "_law_entry_written" "_law_entry_written" s_law_entry_written ["_law_fields_here", "_law_number"] [] [] f32 := fun base => ⟨_, F32, F32.bindsN fun _ _ _ _ _ _ us hl => match us, hl with | [_, _], _ => rfl, fun j hj => by cases hj⟩
  have F33 : FunD K "_law_made" "_law_made" (defArgs s_law_made) (defBody s_law_made) (defScope s_law_made) [] [] f33 _ := ⟨⟨_, _, _, _, _, _, _, _, _, _, rfl, l33, c33, .inl ⟨rfl, rfl⟩, .inl rfl⟩, k33⟩
  have A33 : ∀ (base : Heap), AtF ⟨l.prog, w, K, mg, base, 0, true, true, none, []⟩ "_law_made" "_law_made" s_law_made ["_law_fields_here"] [] [] f33 := fun base => ⟨_, F33, F33.bindsN fun _ _ _ _ _ _ us hl => match us, hl with | [_], _ => rfl, fun j hj => by cases hj⟩
  have F34 : FunD K "_law_fields" "_law_fields" (defArgs s_law_fields) (defBody s_law_fields) (defScope s_law_fields) [] [] f34 _ := ⟨⟨_, _, _, _, _, _, _, _, _, _, rfl, l34, c34, .inl ⟨rfl, rfl⟩, .inl rfl⟩, k34⟩
  have A34 : ∀ (base : Heap), AtF ⟨l.prog, w, K, mg, base, 0, true, true, none, []⟩ "_law_fields" "_law_fields" s_law_fields ["_law_entry_here"] [] [] f34 := fun base => ⟨_, F34, F34.bindsN fun _ _ _ _ _ _ us hl => match us, hl with | [_], _ => rfl, fun j hj => by cases hj⟩
  have F35 : FunD K "_law_take" "_law_take" (defArgs s_law_take) (defBody s_law_take) (defScope s_law_take) [] [] f35 _ := ⟨⟨_, _, _, _, _, _, _, _, _, _, rfl, l35, c35, .inl ⟨rfl, rfl⟩, .inl rfl⟩, k35⟩
  have A35 : ∀ (base : Heap), AtF ⟨l.prog, w, K, mg, base, 0, true, true, none, []⟩ "_law_take" "_law_take" s_law_take ["_law_data", "_law_box", "_law_least", "_law_most"] [] [] f35 := fun base => ⟨_, F35, F35.bindsN fun _ _ _ _ _ _ us hl => match us, hl with | [_, _, _, _], _ => rfl, fun j hj => by cases hj⟩
  have F36 : FunD K "_law_number_read" "_law_number_read" (defArgs s_law_number_read) (defBody s_law_number_read) (defScope s_law_number_read) [] [] f36 _ := ⟨⟨_, _, _, _, _, _, _, _, _, _, rfl, l36, c36, .inl ⟨rfl, rfl⟩, .inl rfl⟩, k36⟩
  have A36 : ∀ (base : Heap), AtF ⟨l.prog, w, K, mg, base, 0, true, true, none, []⟩ "_law_number_read" "_law_number_read" s_law_number_read ["_law_data", "_law_box", "_law_least"] [] [] f36 := fun base => ⟨_, F36, F36.bindsN fun _ _ _ _ _ _ us hl => match us, hl with | [_, _, _], _ => rfl, fun j hj => by cases hj⟩
  have F37 : FunD K "_law_name_read" "_law_name_read" (defArgs s_law_name_read) (defBody s_law_name_read) (defScope s_law_name_read) [] [] f37 _ := ⟨⟨_, _, _, _, _, _, _, _, _, _, rfl, l37, c37, .inl ⟨rfl, rfl⟩, .inl rfl⟩, k37⟩
  have A37 : ∀ (base : Heap), AtF ⟨l.prog, w, K, mg, base, 0, true, true, none, []⟩ "_law_name_read" "_law_name_read" s_law_name_read ["_law_data", "_law_box"] [] [] f37 := fun base => ⟨_, F37, F37.bindsN fun _ _ _ _ _ _ us hl => match us, hl with | [_, _], _ => rfl, fun j hj => by cases hj⟩
  have F38 : FunD K "_law_vector_read" "_law_vector_read" (defArgs s_law_vector_read) (defBody s_law_vector_read) (defScope s_law_vector_read) [] [] f38 _ := ⟨⟨_, _, _, _, _, _, _, _, _, _, rfl, l38, c38, .inl ⟨rfl, rfl⟩, .inl rfl⟩, k38⟩
  have A38 : ∀ (base : Heap), AtF ⟨l.prog, w, K, mg, base, 0, true, true, none, []⟩ "_law_vector_read" "_law_vector_read" s_law_vector_read ["_law_data", "_law_box"] [] [] f38 := fun base => ⟨_, F38, F38.bindsN fun _ _ _ _ _ _ us hl => match us, hl with | [_, _], _ => rfl, fun j hj => by cases hj⟩
  have F39 : FunD K "_law_row_read" "_law_row_read" (defArgs s_law_row_read) (defBody s_law_row_read) (defScope s_law_row_read) [] [] f39 _ := ⟨⟨_, _, _, _, _, _, _, _, _, _, rfl, l39, c39, .inl ⟨rfl, rfl⟩, .inl rfl⟩, k39⟩
  have A39 : ∀ (base : Heap), AtF ⟨l.prog, w, K, mg, base, 0, true, true, none, []⟩ "_law_row_read" "_law_row_read" s_law_row_read ["_law_data", "_law_box", "_law_least"] [] [] f39 := fun base => ⟨_, F39, F39.bindsN fun _ _ _ _ _ _ us hl => match us, hl with | [_, _, _], _ => rfl, fun j hj => by cases hj⟩
  have F40 : FunD K "_law_entry_read" "_law_entry_read" (defArgs s_law_entry_read) (defBody s_law_entry_read) (defScope s_law_entry_read) [] [] f40 _ := ⟨⟨_, _, _, _, _, _, _, _, _, _, rfl, l40, c40, .inl ⟨rfl, rfl⟩, .inl rfl⟩, k40⟩
  have A40 : ∀ (base : Heap), AtF ⟨l.prog, w, K, mg, base, 0, true, true, none, []⟩ "_law_entry_read" "_law_entry_read" s_law_entry_read ["_law_data", "_law_box"] [] [] f40 := fun base => ⟨_, F40, F40.bindsN fun _ _ _ _ _ _ us hl => match us, hl with | [_, _], _ => rfl, fun j hj => by cases hj⟩
  have F41 : FunD K "_law_value" "_law_value" (defArgs s_law_value) (defBody s_law_value) (defScope s_law_value) [] [] f41 _ := ⟨⟨_, _, _, _, _, _, _, _, _, _, rfl, l41, c41, .inl ⟨rfl, rfl⟩, .inl rfl⟩, k41⟩
  have A41 : ∀ (base : Heap), AtF ⟨l.prog, w, K, mg, base, 0, true, true, none, []⟩ "_law_value" "_law_value" s_law_value ["_law_state", "_law_script", "_law_kind"] [] [] f41 := fun base => ⟨_, F41, F41.bindsN fun _ _ _ _ _ _ us hl => match us, hl with | [_, _, _], _ => rfl, fun j hj => by cases hj⟩
  have F42 : FunD K "_law_changed" "_law_changed" (defArgs s_law_changed) (defBody s_law_changed) (defScope s_law_changed) [] [] f42 _ := ⟨⟨_, _, _, _, _, _, _, _, _, _, rfl, l42, c42, .inl ⟨rfl, rfl⟩, .inl rfl⟩, k42⟩
  have A42 : ∀ (base : Heap), AtF ⟨l.prog, w, K, mg, base, 0, true, true, none, []⟩ "_law_changed" "_law_changed" s_law_changed ["_law_state", "_law_script", "_law_data"] [] [] f42 := fun base => ⟨_, F42, F42.bindsN fun _ _ _ _ _ _ us hl => match us, hl with | [_, _, _], _ => rfl, fun j hj => by cases hj⟩
  have F43 : FunD K "_law_due" "_law_due" (defArgs s_law_due) (defBody s_law_due) (defScope s_law_due) [] [] f43 _ := ⟨⟨_, _, _, _, _, _, _, _, _, _, rfl, l43, c43, .inl ⟨rfl, rfl⟩, .inl rfl⟩, k43⟩
  have A43 : ∀ (base : Heap), AtF ⟨l.prog, w, K, mg, base, 0, true, true, none, []⟩ "_law_due" "_law_due" s_law_due ["_law_data", "_law_kind", "_law_at", "_law_least", "_law_most"] [] [] f43 := fun base => ⟨_, F43, F43.bindsN fun _ _ _ _ _ _ us hl => match us, hl with | [_, _, _, _, _], _ => rfl, fun j hj => by cases hj⟩
  have F44 : FunD K "_law_told_of" "_law_told_of" (defArgs s_law_told_of) (defBody s_law_told_of) (defScope s_law_told_of) [] [] f44 _ := ⟨⟨_, _, _, _, _, _, _, _, _, _, rfl, l44, c44, .inl ⟨rfl, rfl⟩, .inl rfl⟩, k44⟩
  have A44 : ∀ (base : Heap), AtF ⟨l.prog, w, K, mg, base, 0, true, true, none, []⟩ "_law_told_of" "_law_told_of" s_law_told_of ["_law_reader", "_law_kind", "_law_least", "_law_most"] [] [] f44 := fun base => ⟨_, F44, F44.bindsN fun _ _ _ _ _ _ us hl => match us, hl with | [_, _, _, _], _ => rfl, fun j hj => by cases hj⟩
  have F45 : FunD K "_law_outcome" "_law_outcome" (defArgs s_law_outcome) (defBody s_law_outcome) (defScope s_law_outcome) [] [] f45 _ := ⟨⟨_, _, _, _, _, _, _, _, _, _, rfl, l45, c45, .inl ⟨rfl, rfl⟩, .inl rfl⟩, k45⟩
  have A45 : ∀ (base : Heap), AtF ⟨l.prog, w, K, mg, base, 0, true, true, none, []⟩ "_law_outcome" "_law_outcome" s_law_outcome ["_law_data", "_law_kind", "_law_at", "_law_least", "_law_most"] [] [] f45 := fun base => ⟨_, F45, F45.bindsN fun _ _ _ _ _ _ us hl => match us, hl with | [_, _, _, _, _], _ => rfl, fun j hj => by cases hj⟩
  have F46 : FunD K "_law_in_turn" "_law_in_turn" (defArgs s_law_in_turn) (defBody s_law_in_turn) (defScope s_law_in_turn) [] [] f46 _ := ⟨⟨_, _, _, _, _, _, _, _, _, _, rfl, l46, c46, .inl ⟨rfl, rfl⟩, .inl rfl⟩, k46⟩
  have A46 : ∀ (base : Heap), AtF ⟨l.prog, w, K, mg, base, 0, true, true, none, []⟩ "_law_in_turn" "_law_in_turn" s_law_in_turn ["_law_state", "_law_script"] [] [] f46 := fun base => ⟨_, F46, F46.bindsN fun _ _ _ _ _ _ us hl => match us, hl with | [_, _], _ => rfl, fun j hj => by cases hj⟩
  have F47 : FunD K "law" "law" (defArgs s_law) (defBody s_law) (defScope s_law) [] [] f47 _ := ⟨⟨_, _, _, _, _, _, _, _, _, _, rfl, l47, c47, .inl ⟨rfl, rfl⟩, .inl rfl⟩, k47⟩
  have A47 : ∀ (base : Heap), AtF ⟨l.prog, w, K, mg, base, 0, true, true, none, []⟩ "law" "law" s_law ["_law_script"] [] [] f47 := fun base => ⟨_, F47, F47.bindsN fun _ _ _ _ _ _ us hl => match us, hl with | [_], _ => rfl, fun j hj => by cases hj⟩
  have TX : ExI l.prog K C_FolderkinError gX "FolderkinError.__init__" s_X := ⟨by
    obtain ⟨cd, hcd⟩ := Option.isSome_iff_exists.mp dX
    exact ⟨_, _, _, _, _, _, _, _, _, _, _, _, _, _, _, _, _, _, _, cd, lX, cX, oX, vX, fX, ceX, hcd⟩, kX, tX, tpX, topX⟩
  have E_FolderkinError : ExC K C_FolderkinError gX C_FolderkinError := ⟨⟨⟨_, _, _, _, _, _, _, _, _, _, _, _, _, _, _, e0_FolderkinError, ez_FolderkinError⟩, e1_FolderkinError, e2_FolderkinError, e3_FolderkinError, e4_FolderkinError⟩, Option.isSome_iff_exists.mp e5_FolderkinError, e6_FolderkinError, e7_FolderkinError, e8_FolderkinError, e9_FolderkinError, ea_FolderkinError, eb_FolderkinError, ec_FolderkinError, ed_FolderkinError, ee_FolderkinError, ef_FolderkinError, eg_FolderkinError, eh_FolderkinError⟩
  have E_InvalidBlock : ExC K C_FolderkinError gX C_InvalidBlock := ⟨⟨⟨_, _, _, _, _, _, _, _, _, _, _, _, _, _, _, e0_InvalidBlock, ez_InvalidBlock⟩, e1_InvalidBlock, e2_InvalidBlock, e3_InvalidBlock, e4_InvalidBlock⟩, Option.isSome_iff_exists.mp e5_InvalidBlock, e6_InvalidBlock, e7_InvalidBlock, e8_InvalidBlock, e9_InvalidBlock, ea_InvalidBlock, eb_InvalidBlock, ec_InvalidBlock, ed_InvalidBlock, ee_InvalidBlock, ef_InvalidBlock, eg_InvalidBlock, eh_InvalidBlock⟩
  have E_InvalidBytes : ExC K C_FolderkinError gX C_InvalidBytes := ⟨⟨⟨_, _, _, _, _, _, _, _, _, _, _, _, _, _, _, e0_InvalidBytes, ez_InvalidBytes⟩, e1_InvalidBytes, e2_InvalidBytes, e3_InvalidBytes, e4_InvalidBytes⟩, Option.isSome_iff_exists.mp e5_InvalidBytes, e6_InvalidBytes, e7_InvalidBytes, e8_InvalidBytes, e9_InvalidBytes, ea_InvalidBytes, eb_InvalidBytes, ec_InvalidBytes, ed_InvalidBytes, ee_InvalidBytes, ef_InvalidBytes, eg_InvalidBytes, eh_InvalidBytes⟩
  have T : ∀ base : Heap, Facts ⟨l.prog, w, K, mg, base, 0, true, true, none, []⟩ C_Entry C_Reader C_FolderkinError C_InvalidBlock C_InvalidBytes gX := fun base => ⟨PySem.W.mg_none_of X G z_ValueError, PySem.W.mg_none_of X G z_bool, PySem.W.mg_none_of X G z_int, PySem.W.mg_none_of X G z_isinstance, PySem.W.mg_none_of X G z_len, PySem.W.mg_none_of X G z_list, PySem.W.mg_none_of X G z_ord, PySem.W.mg_none_of X G z_range, PySem.W.mg_none_of X G z_tuple, ⟨_, PySem.W.mg_of X G y_MOST_DEVICE⟩, ⟨_, PySem.W.mg_of X G y_BLOCK⟩, ⟨_, PySem.W.mg_of X G y_MOST_NAME⟩, ⟨_, PySem.W.mg_of X G y_FIRST_CODE⟩, ⟨_, PySem.W.mg_of X G y_TABLE⟩, ⟨_, PySem.W.mg_of X G y_CHARACTERS⟩, ⟨_, PySem.W.mg_of X G y_MOST_BLOCKS⟩, ⟨PySem.W.mg_of X G aC_Entry, ⟨pg_Entry, hd_Entry, po_Entry, sa_Entry⟩, cha_Entry, chn_Entry, cht_Entry, chm_Entry, kit_self, kit_other cic_Entry cty_Entry nNoneType_Entry, kit_other cic_Entry cty_Entry nbool_Entry, kit_other cic_Entry cty_Entry nint_Entry, kit_other cic_Entry cty_Entry nstr_Entry, kit_other cic_Entry cty_Entry nlist_Entry, kit_other cic_Entry cty_Entry ntuple_Entry, nlist_Entry, ntuple_Entry⟩, na_name_Entry, na_vector_Entry, na_height_Entry, na_maker_Entry, na_deleted_Entry, na_time_Entry, na_blocks_Entry, ⟨PySem.W.mg_of X G aC_Reader, ⟨pg_Reader, hd_Reader, po_Reader, sa_Reader⟩, cha_Reader, chn_Reader, cht_Reader, chm_Reader, kit_self, kit_other cic_Reader cty_Reader nNoneType_Reader, kit_other cic_Reader cty_Reader nbool_Reader, kit_other cic_Reader cty_Reader nint_Reader, kit_other cic_Reader cty_Reader nstr_Reader, kit_other cic_Reader cty_Reader nlist_Reader, kit_other cic_Reader cty_Reader ntuple_Reader, nlist_Reader, ntuple_Reader⟩, na_data_Reader, na_at_Reader, ⟨exi_ok TX form_X (PySem.W.mg_none_of X G suX), tX, E_FolderkinError, PySem.W.mg_of X G aC_FolderkinError⟩, ⟨exi_ok TX form_X (PySem.W.mg_none_of X G suX), tX, E_InvalidBlock, PySem.W.mg_of X G aC_InvalidBlock⟩, ⟨exi_ok TX form_X (PySem.W.mg_none_of X G suX), tX, E_InvalidBytes, PySem.W.mg_of X G aC_InvalidBytes⟩, PySem.W.exm_ref e2_InvalidBytes eb_InvalidBytes e3_InvalidBytes es_InvalidBlock_InvalidBytes, PySem.W.exm_ref e2_InvalidBytes eb_InvalidBytes e3_InvalidBytes es_InvalidBytes_InvalidBytes, kit_sub e5_FolderkinError e3_FolderkinError es_InvalidBlock_FolderkinError, kit_sub e5_FolderkinError e3_FolderkinError es_InvalidBytes_FolderkinError, kit_T (by decide +kernel) e8_InvalidBlock, kit_T (by decide +kernel) e8_InvalidBytes, ⟨_, A0 base, PySem.W.mg_of X G a0⟩, ⟨_, A1 base, PySem.W.mg_of X G a1⟩, ⟨_, A2 base, PySem.W.mg_of X G a2⟩, ⟨_, A3 base, PySem.W.mg_of X G a3⟩, ⟨_, A4 base, ⟨mk_Entry, a4, i4, kc_Entry⟩, PySem.W.mg_of X G aC_Entry⟩, ⟨_, A5 base, PySem.W.mg_of X G a5⟩, ⟨_, A6 base, PySem.W.mg_of X G a6⟩, ⟨_, A7 base, PySem.W.mg_of X G a7⟩, ⟨_, A8 base, PySem.W.mg_of X G a8⟩, ⟨_, A9 base, PySem.W.mg_of X G a9⟩, ⟨_, A10 base, PySem.W.mg_of X G a10⟩, ⟨_, A11 base, ⟨mk_Reader, a11, i11, kc_Reader⟩, PySem.W.mg_of X G aC_Reader⟩, ⟨_, A12 base, ⟨a12, i12, k12⟩⟩, ⟨_, A13 base, ⟨a13, i13, k13⟩⟩, ⟨_, A14 base, ⟨a14, i14, k14⟩⟩, ⟨_, A15 base, ⟨a15, i15, k15⟩⟩, ⟨_, A16 base, ⟨a16, i16, k16⟩⟩, ⟨_, A17 base, ⟨a17, i17, k17⟩⟩, ⟨_, A18 base, ⟨a18, i18, k18⟩⟩, ⟨_, A19 base, ⟨a19, i19, k19⟩⟩, ⟨_, A20 base, PySem.W.mg_of X G a20⟩, ⟨_, A21 base, PySem.W.mg_of X G a21⟩, ⟨_, A22 base, PySem.W.mg_of X G a22⟩, ⟨_, A23 base, PySem.W.mg_of X G a23⟩, ⟨_, A24 base, PySem.W.mg_of X G a24⟩, ⟨_, A25 base, PySem.W.mg_of X G a25⟩, ⟨_, A26 base, PySem.W.mg_of X G a26⟩, ⟨_, A27 base, PySem.W.mg_of X G a27⟩, ⟨_, A28 base, PySem.W.mg_of X G a28⟩, ⟨_, A29 base, PySem.W.mg_of X G a29⟩, ⟨_, A30 base, PySem.W.mg_of X G a30⟩, ⟨_, A31 base, PySem.W.mg_of X G a31⟩, ⟨_, A32 base, PySem.W.mg_of X G a32⟩, ⟨_, A33 base, PySem.W.mg_of X G a33⟩, ⟨_, A34 base, PySem.W.mg_of X G a34⟩, ⟨_, A35 base, PySem.W.mg_of X G a35⟩, ⟨_, A36 base, PySem.W.mg_of X G a36⟩, ⟨_, A37 base, PySem.W.mg_of X G a37⟩, ⟨_, A38 base, PySem.W.mg_of X G a38⟩, ⟨_, A39 base, PySem.W.mg_of X G a39⟩, ⟨_, A40 base, PySem.W.mg_of X G a40⟩, ⟨_, A41 base, PySem.W.mg_of X G a41⟩, ⟨_, A42 base, PySem.W.mg_of X G a42⟩, ⟨_, A43 base, PySem.W.mg_of X G a43⟩, ⟨_, A44 base, PySem.W.mg_of X G a44⟩, ⟨_, A45 base, PySem.W.mg_of X G a45⟩, ⟨_, A46 base, PySem.W.mg_of X G a46⟩, ⟨_, A47 base, PySem.W.mg_of X G a47⟩⟩
  refine ⟨_, fun s v => F47.bindsA (ps := ["_law_script"]) (fun _ _ _ _ _ _ us hl => match us, hl with | [_], _ => rfl) s [v] rfl, fun base _ _ => ?_⟩
  have nx_InvalidBlock_InvalidBytes : C_InvalidBlock ≠ C_InvalidBytes := fun e => by
    have h1 := (T base).em_InvalidBlock_InvalidBytes
    have h2 := (T base).em_InvalidBytes_InvalidBytes
    rw [e] at h1
    exact Bool.noConfusion (Option.some.inj (h1.symm.trans h2))
  exact law_fn (c := ⟨l.prog, w, K, mg, base, 0, true, true, none, []⟩) (fn_okD (c := ⟨l.prog, w, K, mg, base, 0, true, true, none, []⟩) (F47) sc_law (jb_law (T base))) (hm C_Entry C_Reader C_FolderkinError C_InvalidBlock C_InvalidBytes gX nx_InvalidBlock_InvalidBytes)
end K47
namespace K47
open PySem L2 Hz
local macro_rules | `(tactic| array_mem_dec) => `(tactic| (first | ((with_reducible apply w_xf); exact rfl; exact decide_eq_true rfl; exact rfl) | ((with_reducible apply w_frzS); exact rfl; (first | assumption | exact aset_same); (try simp only [List.set])) | ((with_reducible apply rg1_of); (first | omega | decide)) | ((with_reducible apply rg2_of); (first | omega | decide)) | ((with_reducible apply lok); exact rfl) | ((with_reducible refine it2_dec ?_ ?_) <;> intro)))
local macro_rules | `(tactic| array_mem_dec) => `(tactic| (first | ((with_reducible apply oq_setv2); (simp only [List.set, wipeA]; exact rfl)) | ((with_reducible apply cal_of); exact rfl; (try simp only [List.cons_append, List.nil_append, List.append_nil])) | ((with_reducible apply w_aug); exact rfl) | ((with_reducible apply cel_of); (first | assumption | exact aset_same)) | ((with_reducible apply ceo_of); (first | assumption | exact aset_same)) | ((with_reducible apply tlG_r); (first | assumption | exact aset_same)) | ((with_reducible apply fr_of); (first | assumption | exact aset_same)) | ((with_reducible apply fd_cons); exact trivial) | ((with_reducible apply fd_nil); exact trivial) | ((with_reducible apply oq_isiB (b := true)); exact rfl) | ((with_reducible apply oq_isiB (b := false)); exact rfl) | ((with_reducible apply w_xi); exact rfl; exact decide_eq_true rfl; exact if_pos rfl)))
local macro_rules | `(tactic| array_mem_dec) => `(tactic| (with_reducible first | refine pr2_of ?_))
local macro_rules | `(tactic| array_mem_dec) => `(tactic| (with_reducible first | refine tb_b ?_ | refine ti_b ?_ | refine ts_b ?_ | refine we_nx ?_ | refine we_rt ?_ | refine we_ex ?_ | refine wn_nx ?_ | refine wn_rt ?_ | refine wn_bk ?_ | refine wn_ct ?_ | refine wn_ex ?_ | refine wl_nx ?_ | refine wl_rt ?_ | refine wl_bk ?_ | refine wl_ct ?_ | refine wl_ex ?_ | refine wx_nx ?_ | refine wx_rt ?_ | refine wx_bk ?_ | refine wx_ct ?_ | refine wx_ex ?_ | refine wh_nx ?_ | refine wh_rt ?_ | refine wh_bk ?_ | refine wh_ct ?_ | refine it2_t ?_ | refine it2_f ?_ | refine it2_not ?_ | refine tlG_l ?_ | refine ttG_t ?_))
local macro_rules | `(tactic| array_mem_dec) => `(tactic| ((with_reducible refine oq_id ?_); (first | (with_reducible first | refine vw_i ?_ | refine vw_s ?_ | refine vw_b ?_ | refine vw_n ?_ | refine vw_l ?_ | refine vw_t ?_ | refine vw_sc ?_ | refine vw_o ?_ | refine mv_nil ?_ | refine mv_cons ?_ | refine oq_tgNil ?_ | refine oq_tgCons ?_ | refine oq_add_i ?_ | refine oq_sub ?_ | refine oq_lt ?_ | refine oq_le ?_ | refine oq_gt ?_ | refine oq_ge ?_ | refine oq_eq_i ?_ | refine oq_ne_i ?_ | refine oq_eq_s ?_ | refine oq_ne_s ?_ | refine oq_eq_b ?_ | refine oq_ne_b ?_ | refine oq_is ?_ | refine oq_isNot ?_ | refine oq_in_s ?_ | refine oq_notIn_s ?_ | refine oq_len_l ?_ | refine oq_len_t ?_ | refine oq_int ?_ | refine oq_abs ?_ | refine oq_ord ?_ | refine oq_cut_l ?_ | refine oq_cut_t ?_ | refine oq_list_l ?_ | refine oq_list_t ?_ | refine oq_tuple_l ?_ | refine oq_tuple_t ?_ | refine oq_max2 ?_ | refine oq_min2 ?_ | refine oq_some ?_ | refine oq_len_sc ?_ | refine oq_eq_il ?_ | refine oq_ne_il ?_ | refine oq_eq_it ?_ | refine oq_ne_it ?_ | refine oq_lt_il ?_ | refine oq_lt_it ?_ | refine oq_iadd_i ?_ | refine oq_isT ?_ | refine oq_isNotT ?_) | (first | ((with_reducible apply oq_tgTup); exact rfl) | ((with_reducible apply oq_ix_lk); exact rfl) | ((with_reducible apply oq_ix_tk); exact rfl) | ((with_reducible apply vw_r); (first | assumption | exact aset_same)) | ((with_reducible apply oq_ixN_k); exact rfl; (try simp only [List.set, Int.reduceToNat])) | ((with_reducible apply oq_mod); (first | omega | decide)) | ((with_reducible apply oq_div); (first | omega | decide)) | ((with_reducible apply oq_mul); (first | omega | decide)) | ((with_reducible apply oq_pow); (first | omega | decide)) | ((with_reducible apply oq_shl); (first | omega | decide)) | ((with_reducible apply oq_shr); (first | omega | decide)) | ((with_reducible apply oq_add_s); (first | omega | decide))) | (first | ((with_reducible apply oq_len_s); (first | omega | decide)) | ((with_reducible apply oq_cut_s); (first | omega | decide)) | ((with_reducible apply oq_append); (first | omega | decide)) | ((with_reducible apply oq_insert); (first | omega | decide)) | ((with_reducible apply oq_rep); (first | omega | decide)) | ((with_reducible apply oq_cat); (first | omega | decide))))))
local macro_rules | `(tactic| array_mem_dec) => `(tactic| (with_reducible first | refine w_list ?_ | refine w_tuple ?_ | refine w_str ?_ | refine w_range1 ?_ | refine w_range2 ?_ | refine w_range3 ?_ | refine w_next ?_ | refine w_break ?_ | refine w_cont ?_ | refine w_drop ?_ | refine w_ret ?_ | refine w_retN ?_ | refine w_if ?_ | refine w_asg ?_ | refine w_raise ?_ | refine w_fld ?_ | refine w_seta ?_ | refine w_auga ?_ | refine w_seti ?_ | refine w_mut ?_ | refine w_frz ?_ | refine w_new ?_ | refine w_ext ?_ | refine w_for ?_ | refine w_lc ?_ | refine w_tryA ?_ | refine w_try ?_ | refine w_par ?_))
local macro_rules | `(tactic| array_mem_dec) => `(tactic| (first | ((with_reducible apply w_kV); exact rfl) | (with_reducible first | refine w_kC ?_ | refine w_bop ?_ | refine w_tst ?_ | refine w_val ?_ | refine w_and ?_ | refine w_or ?_ | refine w_not ?_ | refine w_andV ?_ | refine w_orV ?_ | refine w_chain ?_ | refine w_ifK ?_ | refine w_nil ?_ | refine w_cons ?_ | refine w_tup ?_ | refine w_lst ?_ | refine w_call ?_ | refine w_neg ?_ | refine w_b1 ?_ | refine w_bn ?_ | refine w_isi ?_ | refine w_met ?_ | refine w_pnone ?_ | refine w_psome ?_ | refine w_cut ?_ | refine w_yes ?_)))
local macro_rules | `(tactic| array_get_dec) => `(tactic| (with_reducible refine w_seqB ?_))
local macro_rules | `(tactic| array_get_dec) => `(tactic| array_mem_dec)
local macro_rules | `(tactic| decreasing_trivial_pre_omega) => `(tactic| (with_reducible refine w_seq ?_))
local macro_rules | `(tactic| decreasing_trivial_pre_omega) => `(tactic| array_mem_dec)
local macro_rules | `(tactic| sizeOf_list_dec) => `(tactic| (try simp only [List.set, Int.reduceToNat, List.map_cons, List.map_nil, Nat.reduceSub, List.reduceReplicate, List.cons_append, List.nil_append, wipeA, aset_aset, List.getElem?_cons_zero, List.getElem?_cons_succ]))
abbrev Rd (β : Type) := Except Nat (β × List Int)
def bn {β γ : Type} (x : Rd β) (f : β → List Int → Rd γ) : Rd γ := match x with
  | .error e => .error e
  | .ok (v, r) => f v r
def rB (lo hi : Int) : List Int → Rd Int
  | [] => .error 0
  | x :: r => if lo ≤ x ∧ x ≤ hi then .ok (x, r) else .error (r.length + 1)
def rN (lo : Int) (l : List Int) : Rd Int :=
  bn (rB 0 255 l) fun a l => bn (rB 0 255 l) fun b l => bn (rB 0 255 l) fun c l => bn (rB (if (a * 256 + b) * 256 + c = 0 then lo else 0) 255 l) fun d l => .ok (((a * 256 + b) * 256 + c) * 256 + d, l)
theorem rB_pos {lo hi x : Int} {r : List Int} (h : lo ≤ x ∧ x ≤ hi) : rB lo hi (x :: r) = .ok (x, r) := if_pos h
theorem rB_neg {lo hi x : Int} {r : List Int} (h : ¬ (lo ≤ x ∧ x ≤ hi)) : rB lo hi (x :: r) = .error (r.length + 1) := if_neg h
theorem rB_ok {lo hi x : Int} {l l' : List Int} (h : rB lo hi l = .ok (x, l')) : l = x :: l' ∧ lo ≤ x ∧ x ≤ hi := by
  cases l with
  | nil => cases h
  | cons y r =>
    by_cases q : lo ≤ y ∧ y ≤ hi
    · rw [rB_pos q] at h
      cases h
      exact ⟨rfl, q⟩
    · rw [rB_neg q] at h
      cases h
def rdO (CR : Nat) (ds : List Int) (a : Nat) : D := oD CR [(.str "data", .list (ds.map .int)), (.str "at", .int a)]
def RdAt (CR : Nat) (r : Addr) (ds l : List Int) (α : AH) : Prop := ∃ a : Nat, α r = some (rdO CR ds a) ∧ a ≤ ds.length ∧ l = ds.drop a
def But (p : Addr) (α α' : AH) : Prop := ∀ a, a ≠ p → α' a = α a
variable {CE CR CF CB CI gX : Nat} {α : AH} {Q : QD} {E : QX}
theorem But.refl {p : Addr} : But p α α := fun _ _ => rfl
theorem But.trans {p : Addr} {α1 α2 : AH} (h : But p α α1) (k : But p α1 α2) : But p α α2 := fun a n => (k a n).trans (h a n)
theorem but_set {p : Addr} {d : D} : But p α (aset α p d) := fun a ha => aset_ne ha
theorem arst_but {p : Addr} {α' : AH} (h : (α p).isSome = true) (B : But p α α') : arst α α' = α' := by
  funext a
  unfold arst
  by_cases e : a = p
  · subst e
    rw [if_pos h]
  · rw [B a e]
    cases q : α a with
    | none => rfl
    | some c => rfl
theorem RdAt.isS {r : Addr} {ds l : List Int} (h : RdAt CR r ds l α) : (α r).isSome = true := by
  obtain ⟨a, h, _⟩ := h
  rw [h]
  rfl
theorem fl_d {ds : List Int} {a : Nat} {R : D → Prop} (h : R (.list (ds.map .int))) : oq (fldD CR "data" (rdO CR ds a)) R := ⟨_, by
  show (if Int.ofNat CR = Int.ofNat CR then _ else _) = _
  rw [if_pos rfl]
  rfl, h⟩
theorem fl_a {ds : List Int} {a : Nat} {R : D → Prop} (h : R (.int a)) : oq (fldD CR "at" (rdO CR ds a)) R := ⟨_, by
  show (if Int.ofNat CR = Int.ofNat CR then _ else _) = _
  rw [if_pos rfl]
  rfl, h⟩
theorem vw_rd {r : Addr} {ds : List Int} {a : Nat} (S : α r = some (rdO CR ds a)) {R : D → Prop} (h : R (rdO CR ds a)) : oq (vw α (dref r)) R := ⟨_, S, h⟩
local macro_rules | `(tactic| array_mem_dec) => `(tactic| (first | ((with_reducible apply vw_rd); assumption)))
local macro_rules | `(tactic| array_mem_dec) => `(tactic| (with_reducible first | refine fl_d ?_ | refine fl_a ?_))
theorem meth_rd {r : Addr} {ds l : List Int} {ρ : En} {i np : Nat} {m : Str} {fm : Fm} {xs : List D} {ml : ML} (S : RdAt CR r ds l α) (hm : ∀ x y : D, lookF m [(.str "data", x), (.str "at", y)] = none) (e : ρ[i]? = some (some (dref r))) (h : ml ρ α (fun as α2 => cal np (fun xs => fm (dref r :: xs)) as xs α2 Q E) E) : methK CR m np fm xs (Hz.kV i) ml ρ α Q E := by
  obtain ⟨a, S, _⟩ := S
  refine w_meth (w_kV e ⟨_, S, ?_, h⟩)
  show (decide (Int.ofNat CR = Int.ofNat CR) && (lookF m _).isNone) = true
  rw [decide_eq_true rfl, hm]
  rfl
theorem byte_go {r : Addr} {ds l : List Int} {lo hi : Int} (S : RdAt CR r ds l α) (ok : ∀ x l' α', rB lo hi l = .ok (x, l') → RdAt CR r ds l' α' → But r α α' → Q (.int x) α')
    (er : ∀ e α', rB lo hi l = .error e → But r α α' → E ⟨CI, [(.str "place", .int ((ds.length - e : Nat) : Int))]⟩ α') : f_Reader_byte CE CR CF CB CI gX [dref r, .int lo, .int hi] α Q E := by
  obtain ⟨a, S, ha, rfl⟩ := S
  unfold f_Reader_byte m_Reader_byte
  refine w_runP rfl ?_
  sizeOf_list_dec
  (repeat' array_get_dec)
  · rename_i hlen
    rw [List.length_map] at hlen
    rw [arst_self]
    have ea : a = ds.length := by omega
    have := er 0 α (by rw [ea, List.drop_length]; rfl) But.refl
    rw [Nat.sub_zero, ← ea] at this
    exact this
  · rename_i hlen
    rw [List.length_map] at hlen
    have hk : a < ds.length := by omega
    have hdr : ds.drop a = ds.getD a 0 :: ds.drop (a + 1) := by
      rw [List.drop_eq_getElem_cons hk, List.getD_eq_getElem?_getD, List.getElem?_eq_getElem hk]
      rfl
    have hrl : (ds.drop (a + 1)).length + 1 = ds.length - a := by
      rw [List.length_drop]
      omega
    rw [hdr] at ok er
    have hx := oq_ix_m (xs := ds) (k := a) (Q := fun z => z = .int (ds.getD a 0)) hk rfl
    refine oq_ix_m hk ?_
    generalize ds.getD a 0 = x at *
    have bad : ¬ (lo ≤ x ∧ x ≤ hi) → E ⟨CI, [(.str "place", .int (a : Nat))]⟩ α := fun hn => by
      have := er _ α (rB_neg hn) But.refl
      rw [hrl, show ds.length - (ds.length - a) = a by omega] at this
      exact this
    (repeat' array_get_dec)
    · try refine bar_of ?_
      sizeOf_list_dec
      (repeat' array_get_dec)
      refine ⟨_, rfl, ?_⟩
      (repeat' array_get_dec)
      refine ⟨by show (2 : Nat) < 900; decide, ?_⟩
      (repeat' array_get_dec)
      rename_i h1 h2
      rw [show putD "at" (.int ((a : Int) + 1)) [(.str "data", .list (ds.map .int)), (.str "at", .int (a : Int))] = [(.str "data", .list (ds.map .int)), (.str "at", .int ((a + 1 : Nat) : Int))] from rfl]
      have hS : (aset α r (rdO CR ds (a + 1))) r = some (rdO CR ds (a + 1)) := aset_same
      rw [show oD CR [(.str "data", .list (ds.map .int)), (.str "at", .int ((a + 1 : Nat) : Int))] = rdO CR ds (a + 1) from rfl]
      try refine bar_of ?_
      sizeOf_list_dec
      (repeat' array_get_dec)
      rw [show (((a + 1 : Nat) : Int) - 1) = (a : Int) by omega]
      obtain ⟨z, ez, hz⟩ := hx
      subst hz
      refine ⟨_, ez, ?_⟩
      (repeat' array_get_dec)
      rw [arst_but (by rw [S]; rfl) but_set]
      exact ok x _ _ (rB_pos ⟨h1, h2⟩) ⟨a + 1, aset_same, by omega, rfl⟩ but_set
    · rename_i h1 h2
      rw [arst_self]
      exact bad fun h => h2 h.2
    · rename_i h1
      rw [arst_self]
      exact bad fun h => h1 h.1
end K47
namespace K47
open PySem L2 Hz
local macro_rules | `(tactic| array_mem_dec) => `(tactic| (first | ((with_reducible apply w_xf); exact rfl; exact decide_eq_true rfl; exact rfl) | ((with_reducible apply w_frzS); exact rfl; (first | assumption | exact aset_same); (try simp only [List.set])) | ((with_reducible apply rg1_of); (first | omega | decide)) | ((with_reducible apply rg2_of); (first | omega | decide)) | ((with_reducible apply lok); exact rfl) | ((with_reducible refine it2_dec ?_ ?_) <;> intro)))
local macro_rules | `(tactic| array_mem_dec) => `(tactic| (first | ((with_reducible apply oq_setv2); (simp only [List.set, wipeA]; exact rfl)) | ((with_reducible apply cal_of); exact rfl; (try simp only [List.cons_append, List.nil_append, List.append_nil])) | ((with_reducible apply w_aug); exact rfl) | ((with_reducible apply cel_of); (first | assumption | exact aset_same)) | ((with_reducible apply ceo_of); (first | assumption | exact aset_same)) | ((with_reducible apply tlG_r); (first | assumption | exact aset_same)) | ((with_reducible apply fr_of); (first | assumption | exact aset_same)) | ((with_reducible apply fd_cons); exact trivial) | ((with_reducible apply fd_nil); exact trivial) | ((with_reducible apply oq_isiB (b := true)); exact rfl) | ((with_reducible apply oq_isiB (b := false)); exact rfl) | ((with_reducible apply w_xi); exact rfl; exact decide_eq_true rfl; exact if_pos rfl)))
local macro_rules | `(tactic| array_mem_dec) => `(tactic| (with_reducible first | refine pr2_of ?_ | refine fl_d ?_ | refine fl_a ?_))
local macro_rules | `(tactic| array_mem_dec) => `(tactic| (with_reducible first | refine tb_b ?_ | refine ti_b ?_ | refine ts_b ?_ | refine we_nx ?_ | refine we_rt ?_ | refine we_ex ?_ | refine wn_nx ?_ | refine wn_rt ?_ | refine wn_bk ?_ | refine wn_ct ?_ | refine wn_ex ?_ | refine wl_nx ?_ | refine wl_rt ?_ | refine wl_bk ?_ | refine wl_ct ?_ | refine wl_ex ?_ | refine wx_nx ?_ | refine wx_rt ?_ | refine wx_bk ?_ | refine wx_ct ?_ | refine wx_ex ?_ | refine wh_nx ?_ | refine wh_rt ?_ | refine wh_bk ?_ | refine wh_ct ?_ | refine it2_t ?_ | refine it2_f ?_ | refine it2_not ?_ | refine tlG_l ?_ | refine ttG_t ?_))
local macro_rules | `(tactic| array_mem_dec) => `(tactic| ((with_reducible refine oq_id ?_); (first | (with_reducible first | refine vw_i ?_ | refine vw_s ?_ | refine vw_b ?_ | refine vw_n ?_ | refine vw_l ?_ | refine vw_t ?_ | refine vw_sc ?_ | refine vw_o ?_ | refine mv_nil ?_ | refine mv_cons ?_ | refine oq_tgNil ?_ | refine oq_tgCons ?_ | refine oq_add_i ?_ | refine oq_sub ?_ | refine oq_lt ?_ | refine oq_le ?_ | refine oq_gt ?_ | refine oq_ge ?_ | refine oq_eq_i ?_ | refine oq_ne_i ?_ | refine oq_eq_s ?_ | refine oq_ne_s ?_ | refine oq_eq_b ?_ | refine oq_ne_b ?_ | refine oq_is ?_ | refine oq_isNot ?_ | refine oq_in_s ?_ | refine oq_notIn_s ?_ | refine oq_len_l ?_ | refine oq_len_t ?_ | refine oq_int ?_ | refine oq_abs ?_ | refine oq_ord ?_ | refine oq_cut_l ?_ | refine oq_cut_t ?_ | refine oq_list_l ?_ | refine oq_list_t ?_ | refine oq_tuple_l ?_ | refine oq_tuple_t ?_ | refine oq_max2 ?_ | refine oq_min2 ?_ | refine oq_some ?_ | refine oq_len_sc ?_ | refine oq_eq_il ?_ | refine oq_ne_il ?_ | refine oq_eq_it ?_ | refine oq_ne_it ?_ | refine oq_lt_il ?_ | refine oq_lt_it ?_ | refine oq_iadd_i ?_ | refine oq_isT ?_ | refine oq_isNotT ?_) | (first | ((with_reducible apply vw_rd); assumption) | ((with_reducible apply oq_tgTup); exact rfl) | ((with_reducible apply oq_ix_lk); exact rfl) | ((with_reducible apply oq_ix_tk); exact rfl) | ((with_reducible apply vw_r); (first | assumption | exact aset_same)) | ((with_reducible apply oq_ixN_k); exact rfl; (try simp only [List.set, Int.reduceToNat])) | ((with_reducible apply oq_mod); (first | omega | decide)) | ((with_reducible apply oq_div); (first | omega | decide)) | ((with_reducible apply oq_mul); (first | omega | decide)) | ((with_reducible apply oq_pow); (first | omega | decide)) | ((with_reducible apply oq_shl); (first | omega | decide)) | ((with_reducible apply oq_shr); (first | omega | decide))) | (first | ((with_reducible apply oq_add_s); (first | omega | decide)) | ((with_reducible apply oq_len_s); (first | omega | decide)) | ((with_reducible apply oq_cut_s); (first | omega | decide)) | ((with_reducible apply oq_append); (first | omega | decide)) | ((with_reducible apply oq_insert); (first | omega | decide)) | ((with_reducible apply oq_rep); (first | omega | decide)) | ((with_reducible apply oq_cat); (first | omega | decide))))))
local macro_rules | `(tactic| array_mem_dec) => `(tactic| (with_reducible first | refine w_list ?_ | refine w_tuple ?_ | refine w_str ?_ | refine w_range1 ?_ | refine w_range2 ?_ | refine w_range3 ?_ | refine w_next ?_ | refine w_break ?_ | refine w_cont ?_ | refine w_drop ?_ | refine w_ret ?_ | refine w_retN ?_ | refine w_if ?_ | refine w_asg ?_ | refine w_raise ?_ | refine w_fld ?_ | refine w_seta ?_ | refine w_auga ?_ | refine w_seti ?_ | refine w_mut ?_ | refine w_frz ?_ | refine w_new ?_ | refine w_ext ?_ | refine w_for ?_ | refine w_lc ?_ | refine w_tryA ?_ | refine w_try ?_ | refine w_par ?_))
local macro_rules | `(tactic| array_mem_dec) => `(tactic| (first | ((with_reducible apply w_kV); exact rfl) | (with_reducible first | refine w_kC ?_ | refine w_bop ?_ | refine w_tst ?_ | refine w_val ?_ | refine w_and ?_ | refine w_or ?_ | refine w_not ?_ | refine w_andV ?_ | refine w_orV ?_ | refine w_chain ?_ | refine w_ifK ?_ | refine w_nil ?_ | refine w_cons ?_ | refine w_tup ?_ | refine w_lst ?_ | refine w_call ?_ | refine w_neg ?_ | refine w_b1 ?_ | refine w_bn ?_ | refine w_isi ?_ | refine w_met ?_ | refine w_pnone ?_ | refine w_psome ?_ | refine w_cut ?_ | refine w_yes ?_)))
local macro_rules | `(tactic| array_get_dec) => `(tactic| (with_reducible refine w_seqB ?_))
local macro_rules | `(tactic| array_get_dec) => `(tactic| array_mem_dec)
local macro_rules | `(tactic| decreasing_trivial_pre_omega) => `(tactic| (with_reducible refine w_seq ?_))
local macro_rules | `(tactic| decreasing_trivial_pre_omega) => `(tactic| array_mem_dec)
local macro_rules | `(tactic| sizeOf_list_dec) => `(tactic| (try simp only [List.set, Int.reduceToNat, List.map_cons, List.map_nil, Nat.reduceSub, List.reduceReplicate, List.cons_append, List.nil_append, wipeA, aset_aset, List.getElem?_cons_zero, List.getElem?_cons_succ]))
variable {CE CR CF CB CI gX : Nat} {α : AH} {Q : QD} {E : QX}
abbrev bx (CI : Nat) (n : Nat) : Ex := ⟨CI, [(.str "place", .int (n : Int))]⟩
theorem num_go {r : Addr} {ds l : List Int} {lo : Int} (S : RdAt CR r ds l α) (ok : ∀ n l' α', rN lo l = .ok (n, l') → RdAt CR r ds l' α' → But r α α' → Q (.int n) α')
    (er : ∀ e α', rN lo l = .error e → But r α α' → E (bx CI (ds.length - e)) α') : f_Reader_number CE CR CF CB CI gX [dref r, .int lo] α Q E := by
  unfold f_Reader_number m_Reader_number
  refine w_runP rfl ?_
  sizeOf_list_dec
  (repeat' array_get_dec)
  refine meth_rd S (fun _ _ => rfl) rfl ?_
  (repeat' array_get_dec)
  refine byte_go S (fun a l1 α1 h1 S1 B1 => ?_) (fun e α1 h1 B1 => ?_)
  rotate_left
  · (repeat' array_get_dec)
    rw [arst_but S.isS B1]
    exact er e _ (by rw [rN, h1]; rfl) B1
  sizeOf_list_dec
  (repeat' array_get_dec)
  try refine bar_of ?_
  sizeOf_list_dec
  (repeat' array_get_dec)
  refine meth_rd S1 (fun _ _ => rfl) rfl ?_
  (repeat' array_get_dec)
  refine byte_go S1 (fun b l2 α2 h2 S2 B2 => ?_) (fun e α2 h2 B2 => ?_)
  rotate_left
  · (repeat' array_get_dec)
    rw [arst_but S.isS (B1.trans B2)]
    exact er e _ (by rw [rN, h1]; show bn (rB 0 255 l1) _ = _; rw [h2]; rfl) (B1.trans B2)
  sizeOf_list_dec
  (repeat' array_get_dec)
  try refine bar_of ?_
  sizeOf_list_dec
  (repeat' array_get_dec)
  refine meth_rd S2 (fun _ _ => rfl) rfl ?_
  (repeat' array_get_dec)
  refine byte_go S2 (fun c l3 α3 h3 S3 B3 => ?_) (fun e α3 h3 B3 => ?_)
  rotate_left
  · (repeat' array_get_dec)
    have B := (B1.trans B2).trans B3
    rw [arst_but S.isS B]
    exact er e _ (by rw [rN, h1]; show bn (rB 0 255 l1) _ = _; rw [h2]; show bn (rB 0 255 l2) _ = _; rw [h3]; rfl) B
  sizeOf_list_dec
  (repeat' array_get_dec)
  try refine bar_of ?_
  sizeOf_list_dec
  (repeat' array_get_dec)
  refine meth_rd S3 (fun _ _ => rfl) rfl ?_
  have B := (B1.trans B2).trans B3
  have key : ∀ lo', lo' = (if (a * 256 + b) * 256 + c = 0 then lo else 0) → rN lo l = bn (rB lo' 255 l3) fun d l => .ok (((a * 256 + b) * 256 + c) * 256 + d, l) := fun lo' e => by
    rw [rN, h1]
    show bn (rB 0 255 l1) _ = _
    rw [h2]
    show bn (rB 0 255 l2) _ = _
    rw [h3, e]
    rfl
  (repeat' array_get_dec)
  · rename_i hz
    have key := key lo (by rw [if_pos hz])
    refine byte_go S3 (fun d l4 α4 h4 S4 B4 => ?_) (fun e α4 h4 B4 => ?_)
    · (repeat' array_get_dec)
      rw [arst_but S.isS (B.trans B4)]
      exact ok _ l4 _ (by rw [key, h4]; rfl) S4 (B.trans B4)
    · (repeat' array_get_dec)
      rw [arst_but S.isS (B.trans B4)]
      exact er e _ (by rw [key, h4]; rfl) (B.trans B4)
  · rename_i hz
    have key := key 0 (by rw [if_neg hz])
    refine byte_go S3 (fun d l4 α4 h4 S4 B4 => ?_) (fun e α4 h4 B4 => ?_)
    · (repeat' array_get_dec)
      rw [arst_but S.isS (B.trans B4)]
      exact ok _ l4 _ (by rw [key, h4]; rfl) S4 (B.trans B4)
    · (repeat' array_get_dec)
      rw [arst_but S.isS (B.trans B4)]
      exact er e _ (by rw [key, h4]; rfl) (B.trans B4)
theorem dev_go {r : Addr} {ds l : List Int} (S : RdAt CR r ds l α) (ok : ∀ n l' α', rB 1 9 l = .ok (n, l') → RdAt CR r ds l' α' → But r α α' → Q (.int n) α')
    (er : ∀ e α', rB 1 9 l = .error e → But r α α' → E (bx CI (ds.length - e)) α') : f_Reader_device CE CR CF CB CI gX [dref r] α Q E := by
  unfold f_Reader_device m_Reader_device
  refine w_runP rfl ?_
  sizeOf_list_dec
  (repeat' array_get_dec)
  refine meth_rd S (fun _ _ => rfl) rfl ?_
  (repeat' array_get_dec)
  refine byte_go S (fun a l1 α1 h1 S1 B1 => ?_) (fun e α1 h1 B1 => ?_)
  · (repeat' array_get_dec)
    rw [arst_but S.isS B1]
    exact ok a _ _ h1 S1 B1
  · (repeat' array_get_dec)
    rw [arst_but S.isS B1]
    exact er e _ h1 B1
end K47
namespace K47
open PySem L2 Hz
local macro_rules | `(tactic| array_mem_dec) => `(tactic| (first | ((with_reducible apply w_xf); exact rfl; exact decide_eq_true rfl; exact rfl) | ((with_reducible apply w_frzS); exact rfl; (first | assumption | exact aset_same); (try simp only [List.set])) | ((with_reducible apply rg1_of); (first | omega | decide)) | ((with_reducible apply rg2_of); (first | omega | decide)) | ((with_reducible apply lok); exact rfl) | ((with_reducible refine it2_dec ?_ ?_) <;> intro)))
local macro_rules | `(tactic| array_mem_dec) => `(tactic| (first | ((with_reducible apply oq_setv2); (simp only [List.set, wipeA]; exact rfl)) | ((with_reducible apply cal_of); exact rfl; (try simp only [List.cons_append, List.nil_append, List.append_nil])) | ((with_reducible apply w_aug); exact rfl) | ((with_reducible apply cel_of); (first | assumption | exact aset_same)) | ((with_reducible apply ceo_of); (first | assumption | exact aset_same)) | ((with_reducible apply tlG_r); (first | assumption | exact aset_same)) | ((with_reducible apply fr_of); (first | assumption | exact aset_same)) | ((with_reducible apply fd_cons); exact trivial) | ((with_reducible apply fd_nil); exact trivial) | ((with_reducible apply oq_isiB (b := true)); exact rfl) | ((with_reducible apply oq_isiB (b := false)); exact rfl) | ((with_reducible apply w_xi); exact rfl; exact decide_eq_true rfl; exact if_pos rfl)))
local macro_rules | `(tactic| array_mem_dec) => `(tactic| (with_reducible first | refine pr2_of ?_ | refine fl_d ?_ | refine fl_a ?_))
local macro_rules | `(tactic| array_mem_dec) => `(tactic| (with_reducible first | refine tb_b ?_ | refine ti_b ?_ | refine ts_b ?_ | refine we_nx ?_ | refine we_rt ?_ | refine we_ex ?_ | refine wn_nx ?_ | refine wn_rt ?_ | refine wn_bk ?_ | refine wn_ct ?_ | refine wn_ex ?_ | refine wl_nx ?_ | refine wl_rt ?_ | refine wl_bk ?_ | refine wl_ct ?_ | refine wl_ex ?_ | refine wx_nx ?_ | refine wx_rt ?_ | refine wx_bk ?_ | refine wx_ct ?_ | refine wx_ex ?_ | refine wh_nx ?_ | refine wh_rt ?_ | refine wh_bk ?_ | refine wh_ct ?_ | refine it2_t ?_ | refine it2_f ?_ | refine it2_not ?_ | refine tlG_l ?_ | refine ttG_t ?_))
local macro_rules | `(tactic| array_mem_dec) => `(tactic| ((with_reducible refine oq_id ?_); (first | (with_reducible first | refine vw_i ?_ | refine vw_s ?_ | refine vw_b ?_ | refine vw_n ?_ | refine vw_l ?_ | refine vw_t ?_ | refine vw_sc ?_ | refine vw_o ?_ | refine mv_nil ?_ | refine mv_cons ?_ | refine oq_tgNil ?_ | refine oq_tgCons ?_ | refine oq_add_i ?_ | refine oq_sub ?_ | refine oq_lt ?_ | refine oq_le ?_ | refine oq_gt ?_ | refine oq_ge ?_ | refine oq_eq_i ?_ | refine oq_ne_i ?_ | refine oq_eq_s ?_ | refine oq_ne_s ?_ | refine oq_eq_b ?_ | refine oq_ne_b ?_ | refine oq_is ?_ | refine oq_isNot ?_ | refine oq_in_s ?_ | refine oq_notIn_s ?_ | refine oq_len_l ?_ | refine oq_len_t ?_ | refine oq_int ?_ | refine oq_abs ?_ | refine oq_ord ?_ | refine oq_cut_l ?_ | refine oq_cut_t ?_ | refine oq_list_l ?_ | refine oq_list_t ?_ | refine oq_tuple_l ?_ | refine oq_tuple_t ?_ | refine oq_max2 ?_ | refine oq_min2 ?_ | refine oq_some ?_ | refine oq_len_sc ?_ | refine oq_eq_il ?_ | refine oq_ne_il ?_ | refine oq_eq_it ?_ | refine oq_ne_it ?_ | refine oq_lt_il ?_ | refine oq_lt_it ?_ | refine oq_iadd_i ?_ | refine oq_isT ?_ | refine oq_isNotT ?_) | (first | ((with_reducible apply vw_rd); assumption) | ((with_reducible apply oq_tgTup); exact rfl) | ((with_reducible apply oq_ix_lk); exact rfl) | ((with_reducible apply oq_ix_tk); exact rfl) | ((with_reducible apply vw_r); (first | assumption | exact aset_same)) | ((with_reducible apply oq_ixN_k); exact rfl; (try simp only [List.set, Int.reduceToNat])) | ((with_reducible apply oq_mod); (first | omega | decide)) | ((with_reducible apply oq_div); (first | omega | decide)) | ((with_reducible apply oq_mul); (first | omega | decide)) | ((with_reducible apply oq_pow); (first | omega | decide)) | ((with_reducible apply oq_shl); (first | omega | decide)) | ((with_reducible apply oq_shr); (first | omega | decide))) | (first | ((with_reducible apply oq_add_s); (first | omega | decide)) | ((with_reducible apply oq_len_s); (first | omega | decide)) | ((with_reducible apply oq_cut_s); (first | omega | decide)) | ((with_reducible apply oq_append); (first | omega | decide)) | ((with_reducible apply oq_insert); (first | omega | decide)) | ((with_reducible apply oq_rep); (first | omega | decide)) | ((with_reducible apply oq_cat); (first | omega | decide))))))
local macro_rules | `(tactic| array_mem_dec) => `(tactic| (with_reducible first | refine w_list ?_ | refine w_tuple ?_ | refine w_str ?_ | refine w_range1 ?_ | refine w_range2 ?_ | refine w_range3 ?_ | refine w_next ?_ | refine w_break ?_ | refine w_cont ?_ | refine w_drop ?_ | refine w_ret ?_ | refine w_retN ?_ | refine w_if ?_ | refine w_asg ?_ | refine w_raise ?_ | refine w_fld ?_ | refine w_seta ?_ | refine w_auga ?_ | refine w_seti ?_ | refine w_mut ?_ | refine w_frz ?_ | refine w_new ?_ | refine w_ext ?_ | refine w_for ?_ | refine w_lc ?_ | refine w_tryA ?_ | refine w_try ?_ | refine w_par ?_))
local macro_rules | `(tactic| array_mem_dec) => `(tactic| (first | ((with_reducible apply w_kV); exact rfl) | (with_reducible first | refine w_kC ?_ | refine w_bop ?_ | refine w_tst ?_ | refine w_val ?_ | refine w_and ?_ | refine w_or ?_ | refine w_not ?_ | refine w_andV ?_ | refine w_orV ?_ | refine w_chain ?_ | refine w_ifK ?_ | refine w_nil ?_ | refine w_cons ?_ | refine w_tup ?_ | refine w_lst ?_ | refine w_call ?_ | refine w_neg ?_ | refine w_b1 ?_ | refine w_bn ?_ | refine w_isi ?_ | refine w_met ?_ | refine w_pnone ?_ | refine w_psome ?_ | refine w_cut ?_ | refine w_yes ?_)))
local macro_rules | `(tactic| array_get_dec) => `(tactic| (with_reducible refine w_seqB ?_))
local macro_rules | `(tactic| array_get_dec) => `(tactic| array_mem_dec)
local macro_rules | `(tactic| decreasing_trivial_pre_omega) => `(tactic| (with_reducible refine w_seq ?_))
local macro_rules | `(tactic| decreasing_trivial_pre_omega) => `(tactic| array_mem_dec)
local macro_rules | `(tactic| sizeOf_list_dec) => `(tactic| (try simp only [List.set, Int.reduceToNat, List.map_cons, List.map_nil, Nat.reduceSub, List.reduceReplicate, List.cons_append, List.nil_append, wipeA, aset_aset, List.getElem?_cons_zero, List.getElem?_cons_succ]))
variable {CE CR CF CB CI gX : Nat} {α : AH} {Q : QD} {E : QX}
def CHS : List Nat := ((PySem.Str.ofString "-./0123456789ABCDEFGHIJKLMNOPQRSTUVWXYZ_abcdefghijklmnopqrstuvwxyz~").cps.toList)
def TBS : List Nat := ((PySem.Str.ofString "-./0123456789:;<=>?\x40ABCDEFGHIJKLMNOPQRSTUVWXYZ[\\]^_`abcdefghijklmnopqrstuvwxyz{|}~").cps.toList)
theorem chs_eq : PySem.Str.ofString "-./0123456789ABCDEFGHIJKLMNOPQRSTUVWXYZ_abcdefghijklmnopqrstuvwxyz~" = S CHS := (S_self _).symm
theorem tbs_eq : PySem.Str.ofString "-./0123456789:;<=>?\x40ABCDEFGHIJKLMNOPQRSTUVWXYZ[\\]^_`abcdefghijklmnopqrstuvwxyz{|}~" = S TBS := (S_self _).symm
theorem chs_len : CHS.length = 67 := by decide +kernel
theorem chs_nd : CHS.Nodup := by decide +kernel
theorem chs_lt : ∀ k ∈ CHS, 45 ≤ k ∧ k ≤ 126 := by decide +kernel
theorem tbs_is : TBS = (List.range 82).map (45 + ·) := by decide +kernel
def chO (c : Int) : Option Nat := if 45 ≤ c ∧ c ≤ 126 ∧ c.toNat ∈ CHS then some c.toNat else none
def coD (c : Int) : D := match chO c with
  | none => .none
  | some k => .str (S [k])
theorem co_go {c : Int} (h : Q (coD c) α) : f_character_of CE CR CF CB CI gX [.int c] α Q E := by
  refine (?_ : pu _ _ _) α Q E h
  unfold f_character_of m_character_of
  refine pu_P rfl fun α R X hR => ?_
  rw [chs_eq, tbs_eq]
  have no : ¬ (45 ≤ c ∧ c ≤ 126 ∧ c.toNat ∈ CHS) → R .none α := fun hn => by
    unfold coD chO at hR
    rw [if_neg hn] at hR
    exact hR
  have hl : TBS.length = 82 := by decide +kernel
  sizeOf_list_dec
  (repeat' array_get_dec)
  try refine bar_of ?_
  sizeOf_list_dec
  (repeat' array_get_dec)
  · exact no (by omega)
  · rename_i h1 h2
    rw [S_len, hl] at h2
    exact no (by omega)
  · rename_i h1 h2
    rw [S_len, hl] at h2
    · refine oq_ix_S (by rw [hl]; decide) (by omega) (by rw [hl]; omega) ?_
      have hg : TBS.getD (c - 45).toNat 0 = c.toNat := by
        rw [tbs_is, List.getD_eq_getElem?_getD, List.getElem?_map, List.getElem?_range (by omega)]
        show 45 + (c - 45).toNat = c.toNat
        omega
      rw [hg]
      (repeat' array_get_dec)
      refine oq_notIn_S ?_
      by_cases hm : c.toNat ∈ CHS
      · rw [decide_eq_true hm]
        (repeat' array_get_dec)
        try refine bar_of ?_
        sizeOf_list_dec
        (repeat' array_get_dec)
        refine oq_ix_S (by rw [hl]; decide) (by omega) (by rw [hl]; omega) ?_
        rw [hg]
        (repeat' array_get_dec)
        unfold coD chO at hR
        rw [if_pos ⟨by omega, by omega, hm⟩] at hR
        exact hR
      · rw [decide_eq_false hm]
        (repeat' array_get_dec)
        exact no fun h => hm h.2.2
def pre {β : Type} (a : List β) (x : Rd (List β)) : Rd (List β) := bn x fun r l => .ok (a ++ r, l)
theorem pre_ok {β : Type} {a r : List β} {l : List Int} : pre a (.ok (r, l)) = .ok (a ++ r, l) := rfl
theorem pre_pre {β : Type} {a b : List β} {x : Rd (List β)} : pre a (pre b x) = pre (a ++ b) x := by
  cases x with
  | error e => rfl
  | ok y =>
    obtain ⟨r, l⟩ := y
    rw [pre_ok, pre_ok, pre_ok, List.append_assoc]
theorem pre_nil {β : Type} {x : Rd (List β)} : pre [] x = x := by
  cases x with
  | error e => rfl
  | ok y => rfl
/-- signs -/
def rC : Nat → List Int → Rd (List Nat)
  | 0, l => .ok ([], l)
  | k + 1, l => bn (rB 0 255 l) fun c l' => match chO c with
    | none => .error l.length
    | some z => pre [z] (rC k l')
def rNm (l : List Int) : Rd (List Nat) := bn (rB 1 40 l) fun n l => rC n.toNat l
def rV : Nat → Int → List Int → Rd (List (Int × Int))
  | 0, _, l => .ok ([], l)
  | k + 1, d, l => bn (rB (d + 1) (9 - k) l) fun d' l => bn (rN 1 l) fun n l => pre [(d', n)] (rV k d' l)
def rVec (l : List Int) : Rd (List (Int × Int)) := bn (rB 1 9 l) fun n l => rV n.toNat 0 l
def rBs : Nat → List Int → Rd (List Int)
  | 0, l => .ok ([], l)
  | k + 1, l => bn (rB 0 255 l) fun x l => pre [x] (rBs k l)
def rR (lo : Int) (l : List Int) : Rd (List Int) := bn (rB lo 4 l) fun n l => rBs n.toNat l
def val (b : Int) : Int → List Int → Int
  | a, [] => a
  | a, d :: ds => val b (a * b + d) ds
def rBk (lo : Int) (l : List Int) : Rd Int := bn (rR lo l) fun p l => .ok (val 256 1 p, l)
def rBl : Nat → List Int → Rd (List Int)
  | 0, l => .ok ([], l)
  | k + 1, l => bn (rBk (if k = 0 then 1 else 4) l) fun b l => pre [b] (rBl k l)
theorem name_go {r : Addr} {ds l : List Int} (S0 : RdAt CR r ds l α) (ok : ∀ n l' α', rNm l = .ok (n, l') → n.length ≤ 40 → RdAt CR r ds l' α' → But r α α' → Q (.str (S n)) α')
    (er : ∀ e α', rNm l = .error e → But r α α' → E (bx CI (ds.length - e)) α') : f_Reader_name CE CR CF CB CI gX [dref r] α Q E := by
  unfold f_Reader_name m_Reader_name
  refine w_runP rfl ?_
  sizeOf_list_dec
  (repeat' array_get_dec)
  try refine bar_of ?_
  sizeOf_list_dec
  (repeat' array_get_dec)
  refine meth_rd S0 (fun _ _ => rfl) rfl ?_
  (repeat' array_get_dec)
  refine byte_go S0 (fun n l1 α1 h1 S1 B1 => ?_) (fun e α1 h1 B1 => ?_)
  rotate_left
  · (repeat' array_get_dec)
    rw [arst_but S0.isS B1]
    exact er e _ (by rw [rNm, h1]; rfl) B1
  have hn := (rB_ok h1).2
  have key : rNm l = rC n.toNat l1 := by rw [rNm, h1]; rfl
  (repeat' array_get_dec)
  rw [show PySem.Str.ofString "" = S [] from rfl]
  refine for_nums (fun k ρ α' => ∃ (acc : List Nat) (l' : List Int) (x2 x3 : Option D), k ≤ n.toNat ∧ acc.length = k ∧ rC n.toNat l1 = pre acc (rC (n.toNat - k) l') ∧ ρ = [some (dref r), some (.str (S acc)), x2, x3] ∧ RdAt CR r ds l' α' ∧ But r α α') ⟨[], l1, none, none, Nat.zero_le _, rfl, by rw [pre_nil, Nat.sub_zero], rfl, S1, B1⟩ ?_ ?_
  · rintro ρ α' ⟨acc, l', x2, x3, _, ha, hr, rfl, S', B'⟩
    (repeat' array_get_dec)
    try refine bar_of ?_
    sizeOf_list_dec
    (repeat' array_get_dec)
    rw [arst_but S0.isS B']
    rw [Nat.sub_self] at hr
    exact ok acc l' _ (by rw [key, hr]; show pre acc (.ok ([], l')) = _; rw [pre_ok, List.append_nil]) (by omega) S' B'
  · rintro k hk ρ α' ⟨acc, l', x2, x3, _, ha, hr, rfl, S', B'⟩ X hX
    rw [show n.toNat - k = (n.toNat - (k + 1)) + 1 by omega, rC] at hr
    sizeOf_list_dec
    (repeat' array_get_dec)
    refine meth_rd S' (fun _ _ => rfl) rfl ?_
    (repeat' array_get_dec)
    refine byte_go S' (fun c l2 α2 h2 S2 B2 => ?_) (fun e α2 h2 B2 => ?_)
    rotate_left
    · (repeat' array_get_dec)
      rw [arst_but S0.isS (B'.trans B2)]
      exact er e _ (by rw [key, hr, h2]; rfl) (B'.trans B2)
    rw [h2] at hr
    (repeat' array_get_dec)
    refine co_go ?_
    (repeat' array_get_dec)
    try refine bar_of ?_
    sizeOf_list_dec
    (repeat' array_get_dec)
    have hr : rC n.toNat l1 = pre acc (match chO c with
      | none => .error l'.length
      | some z => pre [z] (rC (n.toNat - (k + 1)) l2)) := hr
    unfold coD
    cases hc : chO c with
    | none =>
      rw [hc] at hr
      obtain ⟨a, ha1, ha2, ha3⟩ := S2
      (repeat' array_get_dec)
      rw [show isNoneD PyData.none = true from rfl]
      (repeat' array_get_dec)
      rw [arst_but S0.isS (B'.trans B2)]
      have hl := congrArg List.length (rB_ok h2).1
      obtain ⟨a', _, _, ha'⟩ := S'
      have := er l'.length α2 (by rw [key, hr]; rfl) (B'.trans B2)
      rw [ha3, List.length_cons, List.length_drop] at hl
      rw [ha', List.length_drop] at hl
      rw [ha', List.length_drop, show ds.length - (ds.length - a') = a - 1 by omega] at this
      rw [show ((a : Int) - 1) = ((a - 1 : Nat) : Int) by omega]
      exact this
    | some z =>
      rw [hc] at hr
      (repeat' array_get_dec)
      rw [show isNoneD (.str (S [z])) = false from rfl]
      (repeat' array_get_dec)
      try refine bar_of ?_
      sizeOf_list_dec
      (repeat' array_get_dec)
      refine oq_iadd_S (by simp only [List.length_cons, List.length_nil]; omega) ?_
      (repeat' array_get_dec)
      refine hX _ _ ⟨acc ++ [z], l2, _, _, by omega, by rw [List.length_append]; simp only [List.length_cons, List.length_nil]; omega, by rw [hr, pre_pre], rfl, S2, B'.trans B2⟩
end K47
namespace K47
open PySem L2 Hz
local macro_rules | `(tactic| array_mem_dec) => `(tactic| (first | ((with_reducible apply w_xf); exact rfl; exact decide_eq_true rfl; exact rfl) | ((with_reducible apply w_frzS); exact rfl; (first | assumption | exact aset_same); (try simp only [List.set])) | ((with_reducible apply rg1_of); (first | omega | decide)) | ((with_reducible apply rg2_of); (first | omega | decide)) | ((with_reducible apply lok); exact rfl) | ((with_reducible refine it2_dec ?_ ?_) <;> intro)))
local macro_rules | `(tactic| array_mem_dec) => `(tactic| (first | ((with_reducible apply oq_setv2); (simp only [List.set, wipeA]; exact rfl)) | ((with_reducible apply cal_of); exact rfl; (try simp only [List.cons_append, List.nil_append, List.append_nil])) | ((with_reducible apply w_aug); exact rfl) | ((with_reducible apply cel_of); (first | assumption | exact aset_same)) | ((with_reducible apply ceo_of); (first | assumption | exact aset_same)) | ((with_reducible apply tlG_r); (first | assumption | exact aset_same)) | ((with_reducible apply fr_of); (first | assumption | exact aset_same)) | ((with_reducible apply fd_cons); exact trivial) | ((with_reducible apply fd_nil); exact trivial) | ((with_reducible apply oq_isiB (b := true)); exact rfl) | ((with_reducible apply oq_isiB (b := false)); exact rfl) | ((with_reducible apply w_xi); exact rfl; exact decide_eq_true rfl; exact if_pos rfl)))
local macro_rules | `(tactic| array_mem_dec) => `(tactic| (with_reducible first | refine pr2_of ?_ | refine fl_d ?_ | refine fl_a ?_ | refine w_lcX ?_))
local macro_rules | `(tactic| array_mem_dec) => `(tactic| (with_reducible first | refine tb_b ?_ | refine ti_b ?_ | refine ts_b ?_ | refine we_nx ?_ | refine we_rt ?_ | refine we_ex ?_ | refine wn_nx ?_ | refine wn_rt ?_ | refine wn_bk ?_ | refine wn_ct ?_ | refine wn_ex ?_ | refine wl_nx ?_ | refine wl_rt ?_ | refine wl_bk ?_ | refine wl_ct ?_ | refine wl_ex ?_ | refine wx_nx ?_ | refine wx_rt ?_ | refine wx_bk ?_ | refine wx_ct ?_ | refine wx_ex ?_ | refine wh_nx ?_ | refine wh_rt ?_ | refine wh_bk ?_ | refine wh_ct ?_ | refine it2_t ?_ | refine it2_f ?_ | refine it2_not ?_ | refine tlG_l ?_ | refine ttG_t ?_))
local macro_rules | `(tactic| array_mem_dec) => `(tactic| ((with_reducible refine oq_id ?_); (first | (with_reducible first | refine vw_i ?_ | refine vw_s ?_ | refine vw_b ?_ | refine vw_n ?_ | refine vw_l ?_ | refine vw_t ?_ | refine vw_sc ?_ | refine vw_o ?_ | refine mv_nil ?_ | refine mv_cons ?_ | refine oq_tgNil ?_ | refine oq_tgCons ?_ | refine oq_add_i ?_ | refine oq_sub ?_ | refine oq_lt ?_ | refine oq_le ?_ | refine oq_gt ?_ | refine oq_ge ?_ | refine oq_eq_i ?_ | refine oq_ne_i ?_ | refine oq_eq_s ?_ | refine oq_ne_s ?_ | refine oq_eq_b ?_ | refine oq_ne_b ?_ | refine oq_is ?_ | refine oq_isNot ?_ | refine oq_in_s ?_ | refine oq_notIn_s ?_ | refine oq_len_l ?_ | refine oq_len_t ?_ | refine oq_int ?_ | refine oq_abs ?_ | refine oq_ord ?_ | refine oq_cut_l ?_ | refine oq_cut_t ?_ | refine oq_list_l ?_ | refine oq_list_t ?_ | refine oq_tuple_l ?_ | refine oq_tuple_t ?_ | refine oq_max2 ?_ | refine oq_min2 ?_ | refine oq_some ?_ | refine oq_len_sc ?_ | refine oq_eq_il ?_ | refine oq_ne_il ?_ | refine oq_eq_it ?_ | refine oq_ne_it ?_ | refine oq_lt_il ?_ | refine oq_lt_it ?_ | refine oq_iadd_i ?_ | refine oq_isT ?_ | refine oq_isNotT ?_) | (first | ((with_reducible apply vw_rd); assumption) | ((with_reducible apply oq_tgTup); exact rfl) | ((with_reducible apply oq_ix_lk); exact rfl) | ((with_reducible apply oq_ix_tk); exact rfl) | ((with_reducible apply vw_r); (first | assumption | exact aset_same)) | ((with_reducible apply oq_ixN_k); exact rfl; (try simp only [List.set, Int.reduceToNat])) | ((with_reducible apply oq_mod); (first | omega | decide)) | ((with_reducible apply oq_div); (first | omega | decide)) | ((with_reducible apply oq_mul); (first | omega | decide)) | ((with_reducible apply oq_pow); (first | omega | decide)) | ((with_reducible apply oq_shl); (first | omega | decide)) | ((with_reducible apply oq_shr); (first | omega | decide))) | (first | ((with_reducible apply oq_add_s); (first | omega | decide)) | ((with_reducible apply oq_len_s); (first | omega | decide)) | ((with_reducible apply oq_cut_s); (first | omega | decide)) | ((with_reducible apply oq_append); (first | omega | decide)) | ((with_reducible apply oq_insert); (first | omega | decide)) | ((with_reducible apply oq_rep); (first | omega | decide)) | ((with_reducible apply oq_cat); (first | omega | decide))))))
local macro_rules | `(tactic| array_mem_dec) => `(tactic| (with_reducible first | refine w_list ?_ | refine w_tuple ?_ | refine w_str ?_ | refine w_range1 ?_ | refine w_range2 ?_ | refine w_range3 ?_ | refine w_next ?_ | refine w_break ?_ | refine w_cont ?_ | refine w_drop ?_ | refine w_ret ?_ | refine w_retN ?_ | refine w_if ?_ | refine w_asg ?_ | refine w_raise ?_ | refine w_fld ?_ | refine w_seta ?_ | refine w_auga ?_ | refine w_seti ?_ | refine w_mut ?_ | refine w_frz ?_ | refine w_new ?_ | refine w_ext ?_ | refine w_for ?_ | refine w_lc ?_ | refine w_tryA ?_ | refine w_try ?_ | refine w_par ?_))
local macro_rules | `(tactic| array_mem_dec) => `(tactic| (first | ((with_reducible apply w_kV); exact rfl) | (with_reducible first | refine w_kC ?_ | refine w_bop ?_ | refine w_tst ?_ | refine w_val ?_ | refine w_and ?_ | refine w_or ?_ | refine w_not ?_ | refine w_andV ?_ | refine w_orV ?_ | refine w_chain ?_ | refine w_ifK ?_ | refine w_nil ?_ | refine w_cons ?_ | refine w_tup ?_ | refine w_lst ?_ | refine w_call ?_ | refine w_neg ?_ | refine w_b1 ?_ | refine w_bn ?_ | refine w_isi ?_ | refine w_met ?_ | refine w_pnone ?_ | refine w_psome ?_ | refine w_cut ?_ | refine w_yes ?_)))
local macro_rules | `(tactic| array_get_dec) => `(tactic| (with_reducible refine w_seqB ?_))
local macro_rules | `(tactic| array_get_dec) => `(tactic| array_mem_dec)
local macro_rules | `(tactic| decreasing_trivial_pre_omega) => `(tactic| (with_reducible refine w_seq ?_))
local macro_rules | `(tactic| decreasing_trivial_pre_omega) => `(tactic| array_mem_dec)
local macro_rules | `(tactic| sizeOf_list_dec) => `(tactic| (try simp only [List.set, Int.reduceToNat, List.map_cons, List.map_nil, Nat.reduceSub, List.reduceReplicate, List.cons_append, List.nil_append, wipeA, aset_aset, List.getElem?_cons_zero, List.getElem?_cons_succ]))
variable {CE CR CF CB CI gX : Nat} {α : AH} {Q : QD} {E : QX}
theorem RdAt.cong {r : Addr} {ds l : List Int} {α' : AH} (h : RdAt CR r ds l α) (e : α' r = α r) : RdAt CR r ds l α' := by
  obtain ⟨a, h1, h2⟩ := h
  exact ⟨a, e.trans h1, h2⟩
theorem arst_at {r : Addr} {α' : AH} (h : (α r).isSome = true) : (arst α α') r = α' r := by
  unfold arst
  rw [if_pos h]
/-- beside the reader only new cells -/
theorem arst_two {r p : Addr} {α' : AH} (hp : α p = none) (h : ∀ a, a ≠ r → a ≠ p → α' a = α a) : But r α (arst α α') := fun a ha => by
  unfold arst
  by_cases e : a = p
  · subst e
    rw [if_neg (by rw [hp]; simp)]
    rw [hp]
  · rw [h a ha e]
    cases q : α a with
    | none => rfl
    | some c => rfl
theorem down : ∀ n : Nat, n < 256 → (-1 : Int) ≠ 0 ∧ (-1 : Int).natAbs < 1073741824 ∧ Builtin.Range.small ((n : Int) - 1) (-1) (-1) = true := by
  have h : ∀ n : Nat, n < 256 → Builtin.Range.small ((n : Int) - 1) (-1) (-1) = true := by decide +kernel
  exact fun n hn => ⟨by decide, by decide, h n hn⟩
theorem down_n : ∀ n : Nat, n < 256 → (Builtin.Range.rangeSize ((n : Int) - 1) (-1) (-1)).toNat = n := by decide +kernel
def vD (x : Int × Int) : D := .tuple [.int x.1, .int x.2]
theorem vec_go {r : Addr} {ds l : List Int} (S0 : RdAt CR r ds l α) (ok : ∀ v l' α', rVec l = .ok (v, l') → v.length ≤ 9 → RdAt CR r ds l' α' → But r α α' → Q (.tuple (v.map vD)) α')
    (er : ∀ e α', rVec l = .error e → But r α α' → E (bx CI (ds.length - e)) α') : f_Reader_vector CE CR CF CB CI gX [dref r] α Q E := by
  unfold f_Reader_vector m_Reader_vector
  refine w_runP rfl ?_
  sizeOf_list_dec
  (repeat' array_get_dec)
  intro p hp
  have hpr : r ≠ p := fun e => by
    have := S0.isS
    rw [e, hp] at this
    cases this
  (repeat' array_get_dec)
  try refine bar_of ?_
  sizeOf_list_dec
  (repeat' array_get_dec)
  try refine bar_of ?_
  sizeOf_list_dec
  (repeat' array_get_dec)
  have S1 : RdAt CR r ds l (aset α p (.list [])) := S0.cong (aset_ne hpr)
  refine meth_rd S1 (fun _ _ => rfl) rfl ?_
  (repeat' array_get_dec)
  refine byte_go S1 (fun n l1 α1 h1 S2 B2 => ?_) (fun e α1 h1 B2 => ?_)
  rotate_left
  · (repeat' array_get_dec)
    exact er e _ (by rw [rVec, h1]; rfl) (arst_two hp fun a ha hb => (B2 a ha).trans (aset_ne hb))
  have hn := (rB_ok h1).2
  obtain ⟨m, rfl⟩ := Int.eq_ofNat_of_zero_le (show 0 ≤ n by omega)
  have hm : m < 256 := by omega
  have key : rVec l = rV m 0 l1 := by rw [rVec, h1]; rfl
  (repeat' array_get_dec)
  refine rg3_of (down m hm) ?_
  rw [down_n m hm, numsC_map]
  refine for_map (xs := List.range m) (u := fun k => .int ((m : Int) - 1 + (k : Nat) * -1)) rfl (fun k ρ α' => ∃ (acc : List (Int × Int)) (dv : Int) (l' : List Int) (x3 : Option D), acc.length = k ∧ rV m 0 l1 = pre acc (rV (m - k) dv l') ∧ ρ = [some (dref r), some (dref p), some (.int dv), x3] ∧ RdAt CR r ds l' α' ∧ α' p = some (.list (acc.map vD)) ∧ ∀ a, a ≠ r → a ≠ p → α' a = α a) ⟨[], 0, l1, none, rfl, by rw [pre_nil]; rfl, rfl, S2, (B2 p (Ne.symm hpr)).trans aset_same, fun a ha hb => (B2 a ha).trans (aset_ne hb)⟩ ?_ ?_
  · rintro ρ α' ⟨acc, dv, l', x3, ha, hr, rfl, S', hc, B'⟩
    rw [List.length_range] at ha hr
    (repeat' array_get_dec)
    try refine bar_of ?_
    sizeOf_list_dec
    (repeat' array_get_dec)
    refine ok acc l' _ (by rw [key, hr, Nat.sub_self]; show pre acc (.ok ([], l')) = _; rw [pre_ok, List.append_nil]) (by omega) (S'.cong (arst_at S0.isS)) (arst_two hp B')
  · rintro k hk ρ α' ⟨acc, dv, l', x3, ha, hr, rfl, S', hc, B'⟩ X hX
    rw [List.length_range] at hk
    rw [List.getElem_range]
    rw [show m - k = (m - (k + 1)) + 1 by omega, rV, show ((9 : Int) - ((m - (k + 1) : Nat) : Int)) = 9 - ((m : Int) - 1 + (k : Int) * -1) by omega] at hr
    sizeOf_list_dec
    (repeat' array_get_dec)
    refine meth_rd S' (fun _ _ => rfl) rfl ?_
    (repeat' array_get_dec)
    refine byte_go S' (fun d l2 α2 h2 S3 B3 => ?_) (fun e α2 h2 B3 => ?_)
    rotate_left
    · (repeat' array_get_dec)
      exact er e _ (by rw [key, hr, h2]; rfl) (arst_two hp fun a ha hb => (B3 a ha).trans (B' a ha hb))
    rw [h2] at hr
    replace hr : rV m 0 l1 = pre acc (bn (rN 1 l2) fun n l => pre [(d, n)] (rV (m - (k + 1)) d l)) := hr
    have hc3 : α2 p = some (.list (acc.map vD)) := (B3 p (Ne.symm hpr)).trans hc
    sizeOf_list_dec
    (repeat' array_get_dec)
    try refine bar_of ?_
    sizeOf_list_dec
    (repeat' array_get_dec)
    refine meth_rd S3 (fun _ _ => rfl) rfl ?_
    (repeat' array_get_dec)
    refine num_go S3 (fun n l3 α3 h3 S4 B4 => ?_) (fun e α3 h3 B4 => ?_)
    rotate_left
    · (repeat' array_get_dec)
      exact er e _ (by rw [key, hr, h3]; rfl) (arst_two hp fun a ha hb => (B4 a ha).trans ((B3 a ha).trans (B' a ha hb)))
    rw [h3] at hr
    replace hr : rV m 0 l1 = pre acc (pre [(d, n)] (rV (m - (k + 1)) d l3)) := hr
    have hc4 : α3 p = some (.list (acc.map vD)) := (B4 p (Ne.symm hpr)).trans ((B3 p (Ne.symm hpr)).trans hc)
    (repeat' array_get_dec)
    refine oq_append (by rw [List.length_map]; omega) ?_
    (repeat' array_get_dec)
    refine hX _ _ ⟨acc ++ [(d, n)], d, l3, _, by rw [List.length_append]; simp only [List.length_cons, List.length_nil]; omega, by rw [hr, pre_pre], rfl, S4.cong (aset_ne hpr), by rw [aset_same, List.map_append]; rfl, fun a ha hb => ?_⟩
    rw [aset_ne hb]
    exact (B4 a ha).trans ((B3 a ha).trans (B' a ha hb))
theorem row_go {r : Addr} {ds l : List Int} {lo : Int} (h0 : 0 ≤ lo) (S0 : RdAt CR r ds l α) (ok : ∀ v l' α', rR lo l = .ok (v, l') → v.length ≤ 4 → RdAt CR r ds l' α' → But r α α' → Q (.list (v.map .int)) α')
    (er : ∀ e α', rR lo l = .error e → But r α α' → E (bx CI (ds.length - e)) α') : f_Reader_row CE CR CF CB CI gX [dref r, .int lo] α Q E := by
  unfold f_Reader_row m_Reader_row
  refine w_runP rfl ?_
  sizeOf_list_dec
  (repeat' array_get_dec)
  refine meth_rd S0 (fun _ _ => rfl) rfl ?_
  (repeat' array_get_dec)
  refine byte_go S0 (fun n l1 α1 h1 S1 B1 => ?_) (fun e α1 h1 B1 => ?_)
  rotate_left
  · (repeat' array_get_dec)
    rw [arst_but S0.isS B1]
    exact er e _ (by rw [rR, h1]; rfl) B1
  have hn := (rB_ok h1).2
  obtain ⟨m, rfl⟩ := Int.eq_ofNat_of_zero_le (show 0 ≤ n by omega)
  have key : rR lo l = rBs m l1 := by rw [rR, h1]; rfl
  (repeat' array_get_dec)
  have hm : (Int.ofNat m).toNat = m := rfl
  have hnl : (nums 0 (Int.ofNat m).toNat).length = m := by rw [nums_map, List.length_map, List.length_range, hm]
  refine lc_invX (fun rr acc α' => ∃ (ys : List Int) (l' : List Int), acc = ys.map .int ∧ ys.length + rr.length = m ∧ rBs m l1 = pre ys (rBs rr.length l') ∧ RdAt CR r ds l' α' ∧ But r α α') ⟨[], l1, rfl, by rw [List.length_nil, Nat.zero_add]; exact hnl, by rw [pre_nil]; show rBs m l1 = rBs (nums 0 (Int.ofNat m).toNat).length l1; rw [hnl], S1, B1⟩ (fun _ _ _ _ => trivial) ?_ ?_
  · rintro acc α' ⟨ys, l', rfl, hy, hr, S', B'⟩
    rw [List.length_nil] at hy hr
    (repeat' array_get_dec)
    rw [arst_but S0.isS B']
    exact ok ys l' _ (by rw [key, hr]; show pre ys (.ok ([], l')) = _; rw [pre_ok, List.append_nil]) (by omega) S' B'
  · rintro d rr acc α' ⟨ys, l', rfl, hy, hr, S', B'⟩ X hX
    rw [List.length_cons] at hy hr
    rw [rBs] at hr
    sizeOf_list_dec
    (repeat' array_get_dec)
    refine meth_rd S' (fun _ _ => rfl) rfl ?_
    (repeat' array_get_dec)
    refine byte_go S' (fun c l2 α2 h2 S2 B2 => ?_) (fun e α2 h2 B2 => ?_)
    · rw [h2] at hr
      replace hr : rBs m l1 = pre ys (pre [c] (rBs rr.length l2)) := hr
      exact ⟨by rw [List.length_map]; omega, hX _ _ ⟨ys ++ [c], l2, by rw [List.map_append]; rfl, by rw [List.length_append]; simp only [List.length_cons, List.length_nil]; omega, by rw [hr, pre_pre], S2, B'.trans B2⟩⟩
    · (repeat' array_get_dec)
      rw [arst_but S0.isS (B'.trans B2)]
      exact er e _ (by rw [key, hr, h2]; rfl) (B'.trans B2)
theorem bnum_go {p : List Int} (h : Q (.int (val 256 1 p)) α) : f_block_number CE CR CF CB CI gX [.list (p.map .int)] α Q E := by
  refine (?_ : pu _ _ _) α Q E h
  unfold f_block_number m_block_number
  refine pu_P rfl fun α R X hR => ?_
  sizeOf_list_dec
  (repeat' decreasing_trivial_pre_omega)
  refine for_map (xs := p) (u := PyData.int) rfl (fun j ρ α' => ∃ a v, val 256 a (p.drop j) = val 256 1 p ∧ ρ = [some (.list (p.map .int)), some (.int a), v] ∧ α' = α) ⟨1, none, rfl, rfl, rfl⟩ ?_ ?_
  · rintro _ _ ⟨a, v, e, rfl, rfl⟩
    (repeat' decreasing_trivial_pre_omega)
    rw [List.drop_length] at e
    rw [show a = val 256 1 p from e]
    exact hR
  · rintro j hj _ _ ⟨a, v, e, rfl, rfl⟩ X hX
    (repeat' decreasing_trivial_pre_omega)
    refine hX _ _ ⟨_, _, ?_, rfl, rfl⟩
    rw [List.drop_eq_getElem_cons hj] at e
    exact e
theorem blk_go {r : Addr} {ds l : List Int} {lo : Int} (h0 : 0 ≤ lo) (S0 : RdAt CR r ds l α) (ok : ∀ b l' α', rBk lo l = .ok (b, l') → RdAt CR r ds l' α' → But r α α' → Q (.int b) α')
    (er : ∀ e α', rBk lo l = .error e → But r α α' → E (bx CI (ds.length - e)) α') : f_Reader_block CE CR CF CB CI gX [dref r, .int lo] α Q E := by
  unfold f_Reader_block m_Reader_block
  refine w_runP rfl ?_
  sizeOf_list_dec
  (repeat' array_get_dec)
  refine meth_rd S0 (fun _ _ => rfl) rfl ?_
  (repeat' array_get_dec)
  refine row_go h0 S0 (fun v l1 α1 h1 _ S1 B1 => ?_) (fun e α1 h1 B1 => ?_)
  · (repeat' array_get_dec)
    refine bnum_go ?_
    (repeat' array_get_dec)
    rw [arst_but S0.isS B1]
    exact ok _ l1 _ (by rw [rBk, h1]; rfl) S1 B1
  · (repeat' array_get_dec)
    rw [arst_but S0.isS B1]
    exact er e _ (by rw [rBk, h1]; rfl) B1
end K47
namespace K47
open PySem L2 Hz
local macro_rules | `(tactic| array_mem_dec) => `(tactic| (first | ((with_reducible apply w_xf); exact rfl; exact decide_eq_true rfl; exact rfl) | ((with_reducible apply w_frzS); exact rfl; (first | assumption | exact aset_same); (try simp only [List.set])) | ((with_reducible apply rg1_of); (first | omega | decide)) | ((with_reducible apply rg2_of); (first | omega | decide)) | ((with_reducible apply lok); exact rfl) | ((with_reducible refine it2_dec ?_ ?_) <;> intro)))
local macro_rules | `(tactic| array_mem_dec) => `(tactic| (first | ((with_reducible apply oq_setv2); (simp only [List.set, wipeA]; exact rfl)) | ((with_reducible apply cal_of); exact rfl; (try simp only [List.cons_append, List.nil_append, List.append_nil])) | ((with_reducible apply w_aug); exact rfl) | ((with_reducible apply cel_of); (first | assumption | exact aset_same)) | ((with_reducible apply ceo_of); (first | assumption | exact aset_same)) | ((with_reducible apply tlG_r); (first | assumption | exact aset_same)) | ((with_reducible apply fr_of); (first | assumption | exact aset_same)) | ((with_reducible apply fd_cons); exact trivial) | ((with_reducible apply fd_nil); exact trivial) | ((with_reducible apply oq_isiB (b := true)); exact rfl) | ((with_reducible apply oq_isiB (b := false)); exact rfl) | ((with_reducible apply w_xi); exact rfl; exact decide_eq_true rfl; exact if_pos rfl)))
local macro_rules | `(tactic| array_mem_dec) => `(tactic| (with_reducible first | refine pr2_of ?_ | refine fl_d ?_ | refine fl_a ?_ | refine w_lcX ?_ | refine w_mk ?_))
local macro_rules | `(tactic| array_mem_dec) => `(tactic| (with_reducible first | refine tb_b ?_ | refine ti_b ?_ | refine ts_b ?_ | refine we_nx ?_ | refine we_rt ?_ | refine we_ex ?_ | refine wn_nx ?_ | refine wn_rt ?_ | refine wn_bk ?_ | refine wn_ct ?_ | refine wn_ex ?_ | refine wl_nx ?_ | refine wl_rt ?_ | refine wl_bk ?_ | refine wl_ct ?_ | refine wl_ex ?_ | refine wx_nx ?_ | refine wx_rt ?_ | refine wx_bk ?_ | refine wx_ct ?_ | refine wx_ex ?_ | refine wh_nx ?_ | refine wh_rt ?_ | refine wh_bk ?_ | refine wh_ct ?_ | refine it2_t ?_ | refine it2_f ?_ | refine it2_not ?_ | refine tlG_l ?_ | refine ttG_t ?_))
local macro_rules | `(tactic| array_mem_dec) => `(tactic| ((with_reducible refine oq_id ?_); (first | (with_reducible first | refine vw_i ?_ | refine vw_s ?_ | refine vw_b ?_ | refine vw_n ?_ | refine vw_l ?_ | refine vw_t ?_ | refine vw_sc ?_ | refine vw_o ?_ | refine mv_nil ?_ | refine mv_cons ?_ | refine oq_tgNil ?_ | refine oq_tgCons ?_ | refine oq_add_i ?_ | refine oq_sub ?_ | refine oq_lt ?_ | refine oq_le ?_ | refine oq_gt ?_ | refine oq_ge ?_ | refine oq_eq_i ?_ | refine oq_ne_i ?_ | refine oq_eq_s ?_ | refine oq_ne_s ?_ | refine oq_eq_b ?_ | refine oq_ne_b ?_ | refine oq_is ?_ | refine oq_isNot ?_ | refine oq_in_s ?_ | refine oq_notIn_s ?_ | refine oq_len_l ?_ | refine oq_len_t ?_ | refine oq_int ?_ | refine oq_abs ?_ | refine oq_ord ?_ | refine oq_cut_l ?_ | refine oq_cut_t ?_ | refine oq_list_l ?_ | refine oq_list_t ?_ | refine oq_tuple_l ?_ | refine oq_tuple_t ?_ | refine oq_max2 ?_ | refine oq_min2 ?_ | refine oq_some ?_ | refine oq_len_sc ?_ | refine oq_eq_il ?_ | refine oq_ne_il ?_ | refine oq_eq_it ?_ | refine oq_ne_it ?_ | refine oq_lt_il ?_ | refine oq_lt_it ?_ | refine oq_iadd_i ?_ | refine oq_isT ?_ | refine oq_isNotT ?_) | (first | ((with_reducible apply vw_rd); assumption) | ((with_reducible apply oq_tgTup); exact rfl) | ((with_reducible apply oq_ix_lk); exact rfl) | ((with_reducible apply oq_ix_tk); exact rfl) | ((with_reducible apply vw_r); (first | assumption | exact aset_same)) | ((with_reducible apply oq_ixN_k); exact rfl; (try simp only [List.set, Int.reduceToNat])) | ((with_reducible apply oq_mod); (first | omega | decide)) | ((with_reducible apply oq_div); (first | omega | decide)) | ((with_reducible apply oq_mul); (first | omega | decide)) | ((with_reducible apply oq_pow); (first | omega | decide)) | ((with_reducible apply oq_shl); (first | omega | decide)) | ((with_reducible apply oq_shr); (first | omega | decide))) | (first | ((with_reducible apply oq_add_s); (first | omega | decide)) | ((with_reducible apply oq_len_s); (first | omega | decide)) | ((with_reducible apply oq_cut_s); (first | omega | decide)) | ((with_reducible apply oq_append); (first | omega | decide)) | ((with_reducible apply oq_insert); (first | omega | decide)) | ((with_reducible apply oq_rep); (first | omega | decide)) | ((with_reducible apply oq_cat); (first | omega | decide))))))
local macro_rules | `(tactic| array_mem_dec) => `(tactic| (with_reducible first | refine w_list ?_ | refine w_tuple ?_ | refine w_str ?_ | refine w_range1 ?_ | refine w_range2 ?_ | refine w_range3 ?_ | refine w_next ?_ | refine w_break ?_ | refine w_cont ?_ | refine w_drop ?_ | refine w_ret ?_ | refine w_retN ?_ | refine w_if ?_ | refine w_asg ?_ | refine w_raise ?_ | refine w_fld ?_ | refine w_seta ?_ | refine w_auga ?_ | refine w_seti ?_ | refine w_mut ?_ | refine w_frz ?_ | refine w_new ?_ | refine w_ext ?_ | refine w_for ?_ | refine w_lc ?_ | refine w_tryA ?_ | refine w_try ?_ | refine w_par ?_))
local macro_rules | `(tactic| array_mem_dec) => `(tactic| (first | ((with_reducible apply w_kV); exact rfl) | (with_reducible first | refine w_kC ?_ | refine w_bop ?_ | refine w_tst ?_ | refine w_val ?_ | refine w_and ?_ | refine w_or ?_ | refine w_not ?_ | refine w_andV ?_ | refine w_orV ?_ | refine w_chain ?_ | refine w_ifK ?_ | refine w_nil ?_ | refine w_cons ?_ | refine w_tup ?_ | refine w_lst ?_ | refine w_call ?_ | refine w_neg ?_ | refine w_b1 ?_ | refine w_bn ?_ | refine w_isi ?_ | refine w_met ?_ | refine w_pnone ?_ | refine w_psome ?_ | refine w_cut ?_ | refine w_yes ?_)))
local macro_rules | `(tactic| array_get_dec) => `(tactic| (with_reducible refine w_seqB ?_))
local macro_rules | `(tactic| array_get_dec) => `(tactic| array_mem_dec)
local macro_rules | `(tactic| decreasing_trivial_pre_omega) => `(tactic| (with_reducible refine w_seq ?_))
local macro_rules | `(tactic| decreasing_trivial_pre_omega) => `(tactic| array_mem_dec)
local macro_rules | `(tactic| sizeOf_list_dec) => `(tactic| (try simp only [List.set, Int.reduceToNat, List.map_cons, List.map_nil, Nat.reduceSub, List.reduceReplicate, List.cons_append, List.nil_append, wipeA, aset_aset, List.getElem?_cons_zero, List.getElem?_cons_succ]))
variable {CE CR CF CB CI gX : Nat} {α : AH} {Q : QD} {E : QX}
def enD (CE : Nat) (n v h m d t b : D) : D := oD CE [(.str "name", n), (.str "vector", v), (.str "height", h), (.str "maker", m), (.str "deleted", d), (.str "time", t), (.str "blocks", b)]
theorem en_go {p : Addr} {n v h m d t b : D} (hp : α p = some (oD CE [])) (q : Q .none (aset α p (enD CE n v h m d t b))) : f_Entry_init CE CR CF CB CI gX [dref p, n, v, h, m, d, t, b] α Q E := by
  unfold f_Entry_init m_Entry_init
  refine w_runF rfl ?_
  sizeOf_list_dec
  (repeat' decreasing_trivial_pre_omega)
  refine ⟨by show (0 : Nat) < 900; decide, ?_⟩
  (repeat' decreasing_trivial_pre_omega)
  refine ⟨by show (1 : Nat) < 900; decide, ?_⟩
  (repeat' decreasing_trivial_pre_omega)
  refine ⟨by show (2 : Nat) < 900; decide, ?_⟩
  (repeat' decreasing_trivial_pre_omega)
  refine ⟨by show (3 : Nat) < 900; decide, ?_⟩
  (repeat' decreasing_trivial_pre_omega)
  refine ⟨by show (4 : Nat) < 900; decide, ?_⟩
  (repeat' decreasing_trivial_pre_omega)
  refine ⟨by show (5 : Nat) < 900; decide, ?_⟩
  (repeat' decreasing_trivial_pre_omega)
  refine ⟨by show (6 : Nat) < 900; decide, ?_⟩
  (repeat' decreasing_trivial_pre_omega)
  simp only [aset_aset]
  exact q
structure EF where
  nm : List Nat
  ve : List (Int × Int)
  h : Int
  md : Int
  mn : Int
  de : Bool
  ti : Int
  bl : List Int
def efD (CE : Nat) (x : EF) : D := enD CE (.str (S x.nm)) (.tuple (x.ve.map vD)) (.int x.h) (.tuple [.int x.md, .int x.mn]) (.bool x.de) (.int x.ti) (.tuple (x.bl.map .int))
section
variable (num : Int) (nm : List Nat) (ve : List (Int × Int)) (h md mn de ti : Int)
def rE9 (n : Int) (l : List Int) : Rd (EF × Int) := bn (rBl n.toNat l) fun bl l => .ok ((⟨nm, ve, h, md, mn, decide (de = 1), ti, bl⟩, num), l)
def rE8 (l : List Int) : Rd (EF × Int) := bn (rB 0 (if de = 1 then 0 else 255) l) (rE9 num nm ve h md mn de ti)
def rE7 (l : List Int) : Rd (EF × Int) := bn (rN 0 l) fun ti => rE8 num nm ve h md mn de ti
def rE6 (l : List Int) : Rd (EF × Int) := bn (rB 0 1 l) fun de => rE7 num nm ve h md mn de
def rE5 (l : List Int) : Rd (EF × Int) := bn (rN 1 l) fun mn => rE6 num nm ve h md mn
def rE4 (l : List Int) : Rd (EF × Int) := bn (rB 1 9 l) fun md => rE5 num nm ve h md
def rE3 (l : List Int) : Rd (EF × Int) := bn (rN 1 l) fun h => rE4 num nm ve h
def rE2 (l : List Int) : Rd (EF × Int) := bn (rVec l) fun ve => rE3 num nm ve
def rE1 (l : List Int) : Rd (EF × Int) := bn (rNm l) fun nm => rE2 num nm
end
def rE (l : List Int) : Rd (EF × Int) := bn (rN 1 l) rE1
theorem ent_go {r : Addr} {ds l : List Int} (S0 : RdAt CR r ds l α) (ok : ∀ x num l' α', rE l = .ok ((x, num), l') → RdAt CR r ds l' α' → But r α α' → Q (.tuple [efD CE x, .int num]) α')
    (er : ∀ e α', rE l = .error e → But r α α' → E (bx CI (ds.length - e)) α') : f_Reader_entry CE CR CF CB CI gX [dref r] α Q E := by
  unfold f_Reader_entry m_Reader_entry
  refine w_runP rfl ?_
  have er1 : ∀ e α', rE l = .error e → But r α α' → E (bx CI (ds.length - e)) (arst α α') := fun e α' h B => by
    rw [arst_but S0.isS B]
    exact er e α' h B
  sizeOf_list_dec
  (repeat' array_get_dec)
  refine meth_rd S0 (fun _ _ => rfl) rfl ?_
  (repeat' array_get_dec)
  refine num_go S0 (fun num l1 α1 h1 S1 B1 => ?_) (fun e α1 h1 B1 => ?_)
  rotate_left
  · (repeat' array_get_dec)
    exact er1 e _ (by rw [rE, h1]; rfl) B1
  have hr : rE l = rE1 num l1 := by rw [rE, h1]; rfl
  sizeOf_list_dec
  (repeat' array_get_dec)
  try refine bar_of ?_
  sizeOf_list_dec
  (repeat' array_get_dec)
  refine meth_rd S1 (fun _ _ => rfl) rfl ?_
  (repeat' array_get_dec)
  refine name_go S1 (fun nm l2 α2 h2 hnl S2 B2 => ?_) (fun e α2 h2 B2 => ?_)
  rotate_left
  · (repeat' array_get_dec)
    exact er1 e _ (by rw [hr, rE1, h2]; rfl) (B1.trans B2)
  replace hr : rE l = rE2 num nm l2 := by rw [hr, rE1, h2]; rfl
  replace B2 := B1.trans B2
  clear B1 h1 h2
  sizeOf_list_dec
  (repeat' array_get_dec)
  try refine bar_of ?_
  sizeOf_list_dec
  (repeat' array_get_dec)
  refine meth_rd S2 (fun _ _ => rfl) rfl ?_
  (repeat' array_get_dec)
  refine vec_go S2 (fun ve l3 α3 h3 hvl S3 B3 => ?_) (fun e α3 h3 B3 => ?_)
  rotate_left
  · (repeat' array_get_dec)
    exact er1 e _ (by rw [hr, rE2, h3]; rfl) (B2.trans B3)
  replace hr : rE l = rE3 num nm ve l3 := by rw [hr, rE2, h3]; rfl
  replace B3 := B2.trans B3
  clear B2 h3
  sizeOf_list_dec
  (repeat' array_get_dec)
  try refine bar_of ?_
  sizeOf_list_dec
  (repeat' array_get_dec)
  refine meth_rd S3 (fun _ _ => rfl) rfl ?_
  (repeat' array_get_dec)
  refine num_go S3 (fun h l4 α4 h4 S4 B4 => ?_) (fun e α4 h4 B4 => ?_)
  rotate_left
  · (repeat' array_get_dec)
    exact er1 e _ (by rw [hr, rE3, h4]; rfl) (B3.trans B4)
  replace hr : rE l = rE4 num nm ve h l4 := by rw [hr, rE3, h4]; rfl
  replace B4 := B3.trans B4
  clear B3 h4
  sizeOf_list_dec
  (repeat' array_get_dec)
  try refine bar_of ?_
  sizeOf_list_dec
  (repeat' array_get_dec)
  refine meth_rd S4 (fun _ _ => rfl) rfl ?_
  (repeat' array_get_dec)
  refine dev_go S4 (fun md l5 α5 h5 S5 B5 => ?_) (fun e α5 h5 B5 => ?_)
  rotate_left
  · (repeat' array_get_dec)
    exact er1 e _ (by rw [hr, rE4, h5]; rfl) (B4.trans B5)
  replace hr : rE l = rE5 num nm ve h md l5 := by rw [hr, rE4, h5]; rfl
  replace B5 := B4.trans B5
  clear B4 h5
  (repeat' array_get_dec)
  refine meth_rd S5 (fun _ _ => rfl) rfl ?_
  (repeat' array_get_dec)
  refine num_go S5 (fun mn l6 α6 h6 S6 B6 => ?_) (fun e α6 h6 B6 => ?_)
  rotate_left
  · (repeat' array_get_dec)
    exact er1 e _ (by rw [hr, rE5, h6]; rfl) (B5.trans B6)
  replace hr : rE l = rE6 num nm ve h md mn l6 := by rw [hr, rE5, h6]; rfl
  replace B6 := B5.trans B6
  clear B5 h6
  sizeOf_list_dec
  (repeat' array_get_dec)
  try refine bar_of ?_
  sizeOf_list_dec
  (repeat' array_get_dec)
  refine meth_rd S6 (fun _ _ => rfl) rfl ?_
  (repeat' array_get_dec)
  refine byte_go S6 (fun de l7 α7 h7 S7 B7 => ?_) (fun e α7 h7 B7 => ?_)
  rotate_left
  · (repeat' array_get_dec)
    exact er1 e _ (by rw [hr, rE6, h7]; rfl) (B6.trans B7)
  replace hr : rE l = rE7 num nm ve h md mn de l7 := by rw [hr, rE6, h7]; rfl
  replace B7 := B6.trans B7
  clear B6 h7
  sizeOf_list_dec
  (repeat' array_get_dec)
  try refine bar_of ?_
  sizeOf_list_dec
  (repeat' array_get_dec)
  refine meth_rd S7 (fun _ _ => rfl) rfl ?_
  (repeat' array_get_dec)
  refine num_go S7 (fun ti l8 α8 h8 S8 B8 => ?_) (fun e α8 h8 B8 => ?_)
  rotate_left
  · (repeat' array_get_dec)
    exact er1 e _ (by rw [hr, rE7, h8]; rfl) (B7.trans B8)
  replace hr : rE l = rE8 num nm ve h md mn de ti l8 := by rw [hr, rE7, h8]; rfl
  replace B8 := B7.trans B8
  clear B7 h8
  sizeOf_list_dec
  (repeat' array_get_dec)
  try refine bar_of ?_
  sizeOf_list_dec
  (repeat' array_get_dec)
  intro p hp
  have hpr : r ≠ p := fun e => by
    have := S8.isS
    rw [e, hp] at this
    cases this
  have hp0 : α p = none := (B8 p (Ne.symm hpr)).symm.trans hp
  have S9 : RdAt CR r ds l8 (aset α8 p (.list [])) := S8.cong (aset_ne hpr)
  (repeat' array_get_dec)
  try refine bar_of ?_
  sizeOf_list_dec
  (repeat' array_get_dec)
  refine meth_rd S9 (fun _ _ => rfl) rfl ?_
  (repeat' array_get_dec)
  all_goals rename_i hde
  all_goals
    have key9 : rE8 num nm ve h md mn de ti l8 = bn (rB 0 (if de = 1 then 0 else 255) l8) (rE9 num nm ve h md mn de ti) := rfl
    first
      | rw [if_pos hde] at key9
      | rw [if_neg hde] at key9
    rw [← hr] at key9
    refine byte_go S9 (fun n l9 α9 h9 S10 B10 => ?_) (fun e α9 h9 B10 => ?_)
    rotate_left
    · (repeat' array_get_dec)
      exact er e _ (by rw [key9, h9]; rfl) (arst_two hp0 fun a ha hb => (B10 a ha).trans ((aset_ne hb).trans (B8 a ha)))
    have hn := (rB_ok h9).2
    obtain ⟨m, rfl⟩ := Int.eq_ofNat_of_zero_le hn.1
    have hm : m < 256 := by omega
    replace key9 : rE l = bn (rBl m l9) fun bl l => .ok ((⟨nm, ve, h, md, mn, decide (de = 1), ti, bl⟩, num), l) := by rw [key9, h9]; rfl
    have hc9 : α9 p = some (.list []) := (B10 p (Ne.symm hpr)).trans aset_same
    (repeat' array_get_dec)
    refine rg3_of (down m hm) ?_
    rw [down_n m hm, numsC_map]
    refine for_map (xs := List.range m) (u := fun k => .int ((m : Int) - 1 + (k : Nat) * -1)) rfl (fun k ρ α' => ∃ (acc : List Int) (l' : List Int) (x9 : Option D), acc.length = k ∧ rBl m l9 = pre acc (rBl (m - k) l') ∧ ρ = [some (dref r), some (.int num), some (.str (S nm)), some (.tuple (ve.map vD)), some (.int h), some (.tuple [.int md, .int mn]), some (.bool (decide (de = 1))), some (.int ti), some (dref p), x9] ∧ RdAt CR r ds l' α' ∧ α' p = some (.list (acc.map .int)) ∧ ∀ a, a ≠ r → a ≠ p → α' a = α a) ⟨[], l9, none, rfl, by rw [pre_nil]; rfl, rfl, S10, hc9, fun a ha hb => (B10 a ha).trans ((aset_ne hb).trans (B8 a ha))⟩ ?_ ?_
    · rintro ρ α' ⟨acc, l', x9, ha, hb, rfl, S', hc, B'⟩
      rw [List.length_range] at ha hb
      rw [Nat.sub_self] at hb
      replace hb : rBl m l9 = .ok (acc, l') := by rw [hb]; show pre acc (.ok ([], l')) = _; rw [pre_ok, List.append_nil]
      sizeOf_list_dec
      (repeat' array_get_dec)
      try refine bar_of ?_
      sizeOf_list_dec
      (repeat' array_get_dec)
      refine ⟨rfl, fun z hz => ?_⟩
      refine en_go aset_same ⟨rfl, ?_⟩
      rw [aset_aset]
      refine ⟨z, _, rfl, aset_same, ?_⟩
      rw [adel_aset hz]
      (repeat' array_get_dec)
      exact ok ⟨nm, ve, h, md, mn, decide (de = 1), ti, acc⟩ num l' _ (by rw [key9, hb]; rfl) (S'.cong (arst_at S0.isS)) (arst_two hp0 B')
    · rintro k hk ρ α' ⟨acc, l', x9, ha, hb, rfl, S', hc, B'⟩ X hX
      rw [List.length_range] at hk
      rw [List.getElem_range]
      rw [show m - k = (m - (k + 1)) + 1 by omega, rBl] at hb
      sizeOf_list_dec
      (repeat' array_get_dec)
      refine meth_rd S' (fun _ _ => rfl) rfl ?_
      (repeat' array_get_dec)
      all_goals rename_i hz
      all_goals
        have hk0 : (m - (k + 1) = 0) ↔ ((m : Int) - 1 + (k : Int) * -1 = 0) := by omega
        simp only [hk0, hz, reduceIte] at hb
        refine blk_go (by decide) S' (fun b l2 α2 h2 S3 B3 => ?_) (fun e α2 h2 B3 => ?_)
        · rw [h2] at hb
          replace hb : rBl m l9 = pre acc (pre [b] (rBl (m - (k + 1)) l2)) := hb
          have hc3 : α2 p = some (.list (acc.map .int)) := (B3 p (Ne.symm hpr)).trans hc
          have hal : (acc.map PyData.int).length < 100000 := by
            rw [List.length_map]
            omega
          (repeat' array_get_dec)
          try refine oq_append hal ?_
          (repeat' array_get_dec)
          refine hX _ _ ⟨acc ++ [b], l2, _, by rw [List.length_append]; simp only [List.length_cons, List.length_nil]; omega, by rw [hb, pre_pre], rfl, S3.cong (aset_ne hpr), by rw [aset_same, List.map_append]; rfl, fun a ha hb => ?_⟩
          rw [aset_ne hb]
          exact (B3 a ha).trans (B' a ha hb)
        · (repeat' array_get_dec)
          exact er e _ (by rw [key9, hb, h2]; rfl) (arst_two hp0 fun a ha hb => (B3 a ha).trans (B' a ha hb))
end K47
namespace K47
open PySem L2 Hz
local macro_rules | `(tactic| array_mem_dec) => `(tactic| (first | ((with_reducible apply w_xf); exact rfl; exact decide_eq_true rfl; exact rfl) | ((with_reducible apply w_frzS); exact rfl; (first | assumption | exact aset_same); (try simp only [List.set])) | ((with_reducible apply rg1_of); (first | omega | decide)) | ((with_reducible apply rg2_of); (first | omega | decide)) | ((with_reducible apply lok); exact rfl) | ((with_reducible refine it2_dec ?_ ?_) <;> intro)))
local macro_rules | `(tactic| array_mem_dec) => `(tactic| (first | ((with_reducible apply oq_setv2); (simp only [List.set, wipeA]; exact rfl)) | ((with_reducible apply cal_of); exact rfl; (try simp only [List.cons_append, List.nil_append, List.append_nil])) | ((with_reducible apply w_aug); exact rfl) | ((with_reducible apply cel_of); (first | assumption | exact aset_same)) | ((with_reducible apply ceo_of); (first | assumption | exact aset_same)) | ((with_reducible apply tlG_r); (first | assumption | exact aset_same)) | ((with_reducible apply fr_of); (first | assumption | exact aset_same)) | ((with_reducible apply fd_cons); exact trivial) | ((with_reducible apply fd_nil); exact trivial) | ((with_reducible apply oq_isiB (b := true)); exact rfl) | ((with_reducible apply oq_isiB (b := false)); exact rfl) | ((with_reducible apply w_xi); exact rfl; exact decide_eq_true rfl; exact if_pos rfl)))
local macro_rules | `(tactic| array_mem_dec) => `(tactic| (with_reducible first | refine pr2_of ?_))
local macro_rules | `(tactic| array_mem_dec) => `(tactic| (with_reducible first | refine tb_b ?_ | refine ti_b ?_ | refine ts_b ?_ | refine we_nx ?_ | refine we_rt ?_ | refine we_ex ?_ | refine wn_nx ?_ | refine wn_rt ?_ | refine wn_bk ?_ | refine wn_ct ?_ | refine wn_ex ?_ | refine wl_nx ?_ | refine wl_rt ?_ | refine wl_bk ?_ | refine wl_ct ?_ | refine wl_ex ?_ | refine wx_nx ?_ | refine wx_rt ?_ | refine wx_bk ?_ | refine wx_ct ?_ | refine wx_ex ?_ | refine wh_nx ?_ | refine wh_rt ?_ | refine wh_bk ?_ | refine wh_ct ?_ | refine it2_t ?_ | refine it2_f ?_ | refine it2_not ?_ | refine tlG_l ?_ | refine ttG_t ?_))
local macro_rules | `(tactic| array_mem_dec) => `(tactic| ((with_reducible refine oq_id ?_); (first | (with_reducible first | refine vw_i ?_ | refine vw_s ?_ | refine vw_b ?_ | refine vw_n ?_ | refine vw_l ?_ | refine vw_t ?_ | refine vw_sc ?_ | refine vw_o ?_ | refine mv_nil ?_ | refine mv_cons ?_ | refine oq_tgNil ?_ | refine oq_tgCons ?_ | refine oq_add_i ?_ | refine oq_sub ?_ | refine oq_lt ?_ | refine oq_le ?_ | refine oq_gt ?_ | refine oq_ge ?_ | refine oq_eq_i ?_ | refine oq_ne_i ?_ | refine oq_eq_s ?_ | refine oq_ne_s ?_ | refine oq_eq_b ?_ | refine oq_ne_b ?_ | refine oq_is ?_ | refine oq_isNot ?_ | refine oq_in_s ?_ | refine oq_notIn_s ?_ | refine oq_len_l ?_ | refine oq_len_t ?_ | refine oq_int ?_ | refine oq_abs ?_ | refine oq_ord ?_ | refine oq_cut_l ?_ | refine oq_cut_t ?_ | refine oq_list_l ?_ | refine oq_list_t ?_ | refine oq_tuple_l ?_ | refine oq_tuple_t ?_ | refine oq_max2 ?_ | refine oq_min2 ?_ | refine oq_some ?_ | refine oq_len_sc ?_ | refine oq_eq_il ?_ | refine oq_ne_il ?_ | refine oq_eq_it ?_ | refine oq_ne_it ?_ | refine oq_lt_il ?_ | refine oq_lt_it ?_ | refine oq_iadd_i ?_ | refine oq_isT ?_ | refine oq_isNotT ?_) | (first | ((with_reducible apply oq_tgTup); exact rfl) | ((with_reducible apply oq_ix_lk); exact rfl) | ((with_reducible apply oq_ix_tk); exact rfl) | ((with_reducible apply vw_r); (first | assumption | exact aset_same)) | ((with_reducible apply oq_ixN_k); exact rfl; (try simp only [List.set, Int.reduceToNat])) | ((with_reducible apply oq_mod); (first | omega | decide)) | ((with_reducible apply oq_div); (first | omega | decide)) | ((with_reducible apply oq_mul); (first | omega | decide)) | ((with_reducible apply oq_pow); (first | omega | decide)) | ((with_reducible apply oq_shl); (first | omega | decide)) | ((with_reducible apply oq_shr); (first | omega | decide)) | ((with_reducible apply oq_add_s); (first | omega | decide))) | (first | ((with_reducible apply oq_len_s); (first | omega | decide)) | ((with_reducible apply oq_cut_s); (first | omega | decide)) | ((with_reducible apply oq_append); (first | omega | decide)) | ((with_reducible apply oq_insert); (first | omega | decide)) | ((with_reducible apply oq_rep); (first | omega | decide)) | ((with_reducible apply oq_cat); (first | omega | decide))))))
local macro_rules | `(tactic| array_mem_dec) => `(tactic| (with_reducible first | refine w_list ?_ | refine w_tuple ?_ | refine w_str ?_ | refine w_range1 ?_ | refine w_range2 ?_ | refine w_range3 ?_ | refine w_next ?_ | refine w_break ?_ | refine w_cont ?_ | refine w_drop ?_ | refine w_ret ?_ | refine w_retN ?_ | refine w_if ?_ | refine w_asg ?_ | refine w_raise ?_ | refine w_fld ?_ | refine w_seta ?_ | refine w_auga ?_ | refine w_seti ?_ | refine w_mut ?_ | refine w_frz ?_ | refine w_new ?_ | refine w_ext ?_ | refine w_for ?_ | refine w_lc ?_ | refine w_tryA ?_ | refine w_try ?_ | refine w_par ?_))
local macro_rules | `(tactic| array_mem_dec) => `(tactic| (first | ((with_reducible apply w_kV); exact rfl) | (with_reducible first | refine w_kC ?_ | refine w_bop ?_ | refine w_tst ?_ | refine w_val ?_ | refine w_and ?_ | refine w_or ?_ | refine w_not ?_ | refine w_andV ?_ | refine w_orV ?_ | refine w_chain ?_ | refine w_ifK ?_ | refine w_nil ?_ | refine w_cons ?_ | refine w_tup ?_ | refine w_lst ?_ | refine w_call ?_ | refine w_neg ?_ | refine w_b1 ?_ | refine w_bn ?_ | refine w_isi ?_ | refine w_met ?_ | refine w_pnone ?_ | refine w_psome ?_ | refine w_cut ?_ | refine w_yes ?_)))
local macro_rules | `(tactic| array_get_dec) => `(tactic| (with_reducible refine w_seqB ?_))
local macro_rules | `(tactic| array_get_dec) => `(tactic| array_mem_dec)
local macro_rules | `(tactic| decreasing_trivial_pre_omega) => `(tactic| (with_reducible refine w_seq ?_))
local macro_rules | `(tactic| decreasing_trivial_pre_omega) => `(tactic| array_mem_dec)
local macro_rules | `(tactic| sizeOf_list_dec) => `(tactic| (try simp only [List.set, Int.reduceToNat, List.map_cons, List.map_nil, Nat.reduceSub, List.reduceReplicate, List.cons_append, List.nil_append, wipeA, aset_aset, List.getElem?_cons_zero, List.getElem?_cons_succ]))
variable {CE CR CF CB CI gX : Nat} {α : AH} {Q : QD} {E : QX}
abbrev Xs := Except Nat (List Int)
def BxS (b : Addr) (ds : List Int) (x : Xs) (α : AH) : Prop := match x with
  | .ok l => ∃ a : Nat, α b = some (.list [.int a, .int (-1)]) ∧ a ≤ ds.length ∧ l = ds.drop a
  | .error p => ∃ a : Int, α b = some (.list [.int a, .int (p : Nat)])
def Tk (lo hi : Int) (ds : List Int) (x : Xs) : Int × Xs := match x with
  | .error p => (lo, .error p)
  | .ok l => match rB lo hi l with
    | .ok (v, l') => (v, .ok l')
    | .error e => (lo, .error (ds.length - e))
theorem BxS.isS {b : Addr} {ds : List Int} {x : Xs} (h : BxS b ds x α) : (α b).isSome = true := by
  cases x with
  | ok l =>
    obtain ⟨a, h, _⟩ := h
    rw [h]
    rfl
  | error p =>
    obtain ⟨a, h⟩ := h
    rw [h]
    rfl
theorem BxS.cong {b : Addr} {ds : List Int} {x : Xs} {α' : AH} (h : BxS b ds x α) (e : α' b = α b) : BxS b ds x α' := by
  cases x with
  | ok l =>
    obtain ⟨a, h1, h2⟩ := h
    exact ⟨a, e.trans h1, h2⟩
  | error p =>
    obtain ⟨a, h⟩ := h
    exact ⟨a, e.trans h⟩
theorem Tk_bd {lo hi : Int} {ds : List Int} {x : Xs} (h : lo ≤ hi) : lo ≤ (Tk lo hi ds x).1 ∧ (Tk lo hi ds x).1 ≤ hi := by
  cases x with
  | error p => exact ⟨Int.le_refl _, h⟩
  | ok l =>
    unfold Tk
    cases hr : rB lo hi l with
    | error e =>
      simp only [hr]
      exact ⟨Int.le_refl _, h⟩
    | ok y =>
      obtain ⟨v, l'⟩ := y
      simp only [hr]
      exact (rB_ok hr).2
theorem take_go {b : Addr} {ds : List Int} {x : Xs} {lo hi : Int} (S : BxS b ds x α) (q : ∀ α', BxS b ds (Tk lo hi ds x).2 α' → But b α α' → Q (.int (Tk lo hi ds x).1) α') : f_law_take CE CR CF CB CI gX [.list (ds.map .int), dref b, .int lo, .int hi] α Q E := by
  unfold f_law_take m_law_take
  refine w_runP rfl ?_
  have hi0 := S.isS
  have hlm : (ds.map PyData.int).length = ds.length := List.length_map _
  cases x with
  | error p =>
    obtain ⟨a, hb⟩ := S
    have q := q α ⟨a, hb⟩ But.refl
    sizeOf_list_dec
    (repeat' array_get_dec)
    all_goals try (exfalso; omega)
    try refine bar_of ?_
    sizeOf_list_dec
    (repeat' array_get_dec)
    all_goals try (exfalso; omega)
    rw [arst_self]
    exact q
  | ok l =>
    obtain ⟨a, hb, ha, rfl⟩ := S
    by_cases hk : a < ds.length
    · have hdr : ds.drop a = ds.getD a 0 :: ds.drop (a + 1) := by
        rw [List.drop_eq_getElem_cons hk, List.getD_eq_getElem?_getD, List.getElem?_eq_getElem hk]
        rfl
      have hrl : ds.length - ((ds.drop (a + 1)).length + 1) = a := by
        rw [List.length_drop]
        omega
      have hx := oq_ix_m (xs := ds) (k := a) (Q := fun z => z = .int (ds.getD a 0)) hk rfl
      rw [hdr] at q
      generalize ds.getD a 0 = y at *
      obtain ⟨z, ez, hz⟩ := hx
      subst hz
      by_cases hy : lo ≤ y ∧ y ≤ hi
      · have et : Tk lo hi ds (.ok (y :: ds.drop (a + 1))) = (y, .ok (ds.drop (a + 1))) := by
          unfold Tk
          simp only [rB_pos hy]
        rw [et] at q
        have q := q (aset α b (.list [.int ((a + 1 : Nat) : Int), .int (-1)])) ⟨a + 1, aset_same, by omega, rfl⟩ but_set
        sizeOf_list_dec
        (repeat' array_get_dec)
        all_goals try (exfalso; omega)
        refine ⟨_, ez, ?_⟩
        (repeat' array_get_dec)
        all_goals try (exfalso; omega)
        try refine bar_of ?_
        sizeOf_list_dec
        (repeat' array_get_dec)
        all_goals try (exfalso; omega)
        try refine bar_of ?_
        sizeOf_list_dec
        (repeat' array_get_dec)
        all_goals try (exfalso; omega)
        try refine bar_of ?_
        sizeOf_list_dec
        (repeat' array_get_dec)
        rw [show ((a : Int) + 1 - 1) = (a : Int) by omega]
        refine ⟨_, ez, ?_⟩
        (repeat' array_get_dec)
        rw [arst_but hi0 but_set]
        exact q
      · have et : Tk lo hi ds (.ok (y :: ds.drop (a + 1))) = (lo, .error a) := by
          unfold Tk
          simp only [rB_neg hy, hrl]
        rw [et] at q
        have q := q (aset α b (.list [.int (a : Int), .int (a : Nat)])) ⟨a, aset_same⟩ but_set
        sizeOf_list_dec
        (repeat' array_get_dec)
        all_goals try (exfalso; omega)
        refine ⟨_, ez, ?_⟩
        (repeat' array_get_dec)
        all_goals try (exfalso; omega)
        all_goals
          try refine bar_of ?_
          sizeOf_list_dec
          (repeat' array_get_dec)
          all_goals try (exfalso; omega)
          rw [arst_but hi0 but_set]
          exact q
    · have hlen : a = ds.length := by omega
      have et : Tk lo hi ds (.ok (ds.drop a)) = (lo, .error a) := by
        rw [hlen, List.drop_length]
        rfl
      rw [et] at q
      have q := q (aset α b (.list [.int (a : Int), .int (a : Nat)])) ⟨a, aset_same⟩ but_set
      sizeOf_list_dec
      (repeat' array_get_dec)
      all_goals try (exfalso; omega)
      try refine bar_of ?_
      sizeOf_list_dec
      (repeat' array_get_dec)
      all_goals try (exfalso; omega)
      rw [arst_but hi0 but_set]
      exact q
end K47
namespace K47
open PySem L2 Hz
local macro_rules | `(tactic| array_mem_dec) => `(tactic| (first | ((with_reducible apply w_xf); exact rfl; exact decide_eq_true rfl; exact rfl) | ((with_reducible apply w_frzS); exact rfl; (first | assumption | exact aset_same); (try simp only [List.set])) | ((with_reducible apply rg1_of); (first | omega | decide)) | ((with_reducible apply rg2_of); (first | omega | decide)) | ((with_reducible apply lok); exact rfl) | ((with_reducible refine it2_dec ?_ ?_) <;> intro)))
local macro_rules | `(tactic| array_mem_dec) => `(tactic| (first | ((with_reducible apply oq_setv2); (simp only [List.set, wipeA]; exact rfl)) | ((with_reducible apply cal_of); exact rfl; (try simp only [List.cons_append, List.nil_append, List.append_nil])) | ((with_reducible apply w_aug); exact rfl) | ((with_reducible apply cel_of); (first | assumption | exact aset_same)) | ((with_reducible apply ceo_of); (first | assumption | exact aset_same)) | ((with_reducible apply tlG_r); (first | assumption | exact aset_same)) | ((with_reducible apply fr_of); (first | assumption | exact aset_same)) | ((with_reducible apply fd_cons); exact trivial) | ((with_reducible apply fd_nil); exact trivial) | ((with_reducible apply oq_isiB (b := true)); exact rfl) | ((with_reducible apply oq_isiB (b := false)); exact rfl) | ((with_reducible apply w_xi); exact rfl; exact decide_eq_true rfl; exact if_pos rfl)))
local macro_rules | `(tactic| array_mem_dec) => `(tactic| (with_reducible first | refine pr2_of ?_))
local macro_rules | `(tactic| array_mem_dec) => `(tactic| (with_reducible first | refine tb_b ?_ | refine ti_b ?_ | refine ts_b ?_ | refine we_nx ?_ | refine we_rt ?_ | refine we_ex ?_ | refine wn_nx ?_ | refine wn_rt ?_ | refine wn_bk ?_ | refine wn_ct ?_ | refine wn_ex ?_ | refine wl_nx ?_ | refine wl_rt ?_ | refine wl_bk ?_ | refine wl_ct ?_ | refine wl_ex ?_ | refine wx_nx ?_ | refine wx_rt ?_ | refine wx_bk ?_ | refine wx_ct ?_ | refine wx_ex ?_ | refine wh_nx ?_ | refine wh_rt ?_ | refine wh_bk ?_ | refine wh_ct ?_ | refine it2_t ?_ | refine it2_f ?_ | refine it2_not ?_ | refine tlG_l ?_ | refine ttG_t ?_))
local macro_rules | `(tactic| array_mem_dec) => `(tactic| ((with_reducible refine oq_id ?_); (first | (with_reducible first | refine vw_i ?_ | refine vw_s ?_ | refine vw_b ?_ | refine vw_n ?_ | refine vw_l ?_ | refine vw_t ?_ | refine vw_sc ?_ | refine vw_o ?_ | refine mv_nil ?_ | refine mv_cons ?_ | refine oq_tgNil ?_ | refine oq_tgCons ?_ | refine oq_add_i ?_ | refine oq_sub ?_ | refine oq_lt ?_ | refine oq_le ?_ | refine oq_gt ?_ | refine oq_ge ?_ | refine oq_eq_i ?_ | refine oq_ne_i ?_ | refine oq_eq_s ?_ | refine oq_ne_s ?_ | refine oq_eq_b ?_ | refine oq_ne_b ?_ | refine oq_is ?_ | refine oq_isNot ?_ | refine oq_in_s ?_ | refine oq_notIn_s ?_ | refine oq_len_l ?_ | refine oq_len_t ?_ | refine oq_int ?_ | refine oq_abs ?_ | refine oq_ord ?_ | refine oq_cut_l ?_ | refine oq_cut_t ?_ | refine oq_list_l ?_ | refine oq_list_t ?_ | refine oq_tuple_l ?_ | refine oq_tuple_t ?_ | refine oq_max2 ?_ | refine oq_min2 ?_ | refine oq_some ?_ | refine oq_len_sc ?_ | refine oq_eq_il ?_ | refine oq_ne_il ?_ | refine oq_eq_it ?_ | refine oq_ne_it ?_ | refine oq_lt_il ?_ | refine oq_lt_it ?_ | refine oq_iadd_i ?_ | refine oq_isT ?_ | refine oq_isNotT ?_) | (first | ((with_reducible apply oq_tgTup); exact rfl) | ((with_reducible apply oq_ix_lk); exact rfl) | ((with_reducible apply oq_ix_tk); exact rfl) | ((with_reducible apply vw_r); (first | assumption | exact aset_same)) | ((with_reducible apply oq_ixN_k); exact rfl; (try simp only [List.set, Int.reduceToNat])) | ((with_reducible apply oq_mod); (first | omega | decide)) | ((with_reducible apply oq_div); (first | omega | decide)) | ((with_reducible apply oq_mul); (first | omega | decide)) | ((with_reducible apply oq_pow); (first | omega | decide)) | ((with_reducible apply oq_shl); (first | omega | decide)) | ((with_reducible apply oq_shr); (first | omega | decide)) | ((with_reducible apply oq_add_s); (first | omega | decide))) | (first | ((with_reducible apply oq_len_s); (first | omega | decide)) | ((with_reducible apply oq_cut_s); (first | omega | decide)) | ((with_reducible apply oq_append); (first | omega | decide)) | ((with_reducible apply oq_insert); (first | omega | decide)) | ((with_reducible apply oq_rep); (first | omega | decide)) | ((with_reducible apply oq_cat); (first | omega | decide))))))
local macro_rules | `(tactic| array_mem_dec) => `(tactic| (with_reducible first | refine w_list ?_ | refine w_tuple ?_ | refine w_str ?_ | refine w_range1 ?_ | refine w_range2 ?_ | refine w_range3 ?_ | refine w_next ?_ | refine w_break ?_ | refine w_cont ?_ | refine w_drop ?_ | refine w_ret ?_ | refine w_retN ?_ | refine w_if ?_ | refine w_asg ?_ | refine w_raise ?_ | refine w_fld ?_ | refine w_seta ?_ | refine w_auga ?_ | refine w_seti ?_ | refine w_mut ?_ | refine w_frz ?_ | refine w_new ?_ | refine w_ext ?_ | refine w_for ?_ | refine w_lc ?_ | refine w_tryA ?_ | refine w_try ?_ | refine w_par ?_))
local macro_rules | `(tactic| array_mem_dec) => `(tactic| (first | ((with_reducible apply w_kV); exact rfl) | (with_reducible first | refine w_kC ?_ | refine w_bop ?_ | refine w_tst ?_ | refine w_val ?_ | refine w_and ?_ | refine w_or ?_ | refine w_not ?_ | refine w_andV ?_ | refine w_orV ?_ | refine w_chain ?_ | refine w_ifK ?_ | refine w_nil ?_ | refine w_cons ?_ | refine w_tup ?_ | refine w_lst ?_ | refine w_call ?_ | refine w_neg ?_ | refine w_b1 ?_ | refine w_bn ?_ | refine w_isi ?_ | refine w_met ?_ | refine w_pnone ?_ | refine w_psome ?_ | refine w_cut ?_ | refine w_yes ?_)))
local macro_rules | `(tactic| array_get_dec) => `(tactic| (with_reducible refine w_seqB ?_))
local macro_rules | `(tactic| array_get_dec) => `(tactic| array_mem_dec)
local macro_rules | `(tactic| decreasing_trivial_pre_omega) => `(tactic| (with_reducible refine w_seq ?_))
local macro_rules | `(tactic| decreasing_trivial_pre_omega) => `(tactic| array_mem_dec)
local macro_rules | `(tactic| sizeOf_list_dec) => `(tactic| (try simp only [List.set, Int.reduceToNat, List.map_cons, List.map_nil, Nat.reduceSub, List.reduceReplicate, List.cons_append, List.nil_append, wipeA, aset_aset, List.getElem?_cons_zero, List.getElem?_cons_succ]))
variable {CE CR CF CB CI gX : Nat} {α : AH} {Q : QD} {E : QX}
def LNi (ds : List Int) (x : Xs) : Nat → Int × Xs
  | 0 => (0, x)
  | k + 1 => (256 * (LNi ds x k).1 + (Tk 0 255 ds (LNi ds x k).2).1, (Tk 0 255 ds (LNi ds x k).2).2)
def LN (lo : Int) (ds : List Int) (x : Xs) : Int × Xs := (256 * (LNi ds x 3).1 + (Tk (if 0 < (LNi ds x 3).1 then 0 else lo) 255 ds (LNi ds x 3).2).1, (Tk (if 0 < (LNi ds x 3).1 then 0 else lo) 255 ds (LNi ds x 3).2).2)
theorem lnum_go {b : Addr} {ds : List Int} {x : Xs} {lo : Int} (S : BxS b ds x α) (q : ∀ α', BxS b ds (LN lo ds x).2 α' → But b α α' → Q (.int (LN lo ds x).1) α') : f_law_number_read CE CR CF CB CI gX [.list (ds.map .int), dref b, .int lo] α Q E := by
  unfold f_law_number_read m_law_number_read
  refine w_runP rfl ?_
  sizeOf_list_dec
  (repeat' array_get_dec)
  try refine bar_of ?_
  sizeOf_list_dec
  (repeat' array_get_dec)
  refine for_nums (fun k ρ α' => ∃ (x4 : Option D), ρ = [some (.list (ds.map .int)), some (dref b), some (.int lo), some (.int (LNi ds x k).1), x4] ∧ BxS b ds (LNi ds x k).2 α' ∧ But b α α') ⟨none, rfl, S, But.refl⟩ ?_ ?_
  · rintro ρ α' ⟨x4, rfl, S', B'⟩
    have e3 : (3 : Int).toNat = 3 := rfl
    rw [e3] at S' ⊢
    unfold LN at q
    generalize (LNi ds x 3).1 = v at *
    generalize (LNi ds x 3).2 = x3 at *
    sizeOf_list_dec
    (repeat' array_get_dec)
    try refine bar_of ?_
    sizeOf_list_dec
    (repeat' array_get_dec)
    all_goals rename_i hv
    all_goals simp only [hv, if_true, if_false] at q
    all_goals
      try refine bar_of ?_
      sizeOf_list_dec
      (repeat' array_get_dec)
      refine take_go S' fun α2 S2 B2 => ?_
      (repeat' array_get_dec)
      rw [arst_but S.isS (B'.trans B2)]
      exact q _ S2 (B'.trans B2)
  · rintro k hk ρ α' ⟨x4, rfl, S', B'⟩ X hX
    sizeOf_list_dec
    (repeat' array_get_dec)
    refine take_go S' fun α2 S2 B2 => ?_
    (repeat' array_get_dec)
    exact hX _ _ ⟨_, rfl, S2, B'.trans B2⟩
def LCf (ds : List Int) (f : List Nat) (x : Xs) : Xs := match x with
  | .ok l => if f = [] then .error (ds.length - l.length - 1) else .ok l
  | .error p => .error p
def fnd (c : Int) : List Nat := CHS.filter fun (z : Nat) => decide ((z : Int) = c)
def LCi (ds : List Int) (x : Xs) : Nat → List Nat × Xs
  | 0 => ([], x)
  | k + 1 => ((LCi ds x k).1 ++ fnd (Tk 45 126 ds (LCi ds x k).2).1, LCf ds (fnd (Tk 45 126 ds (LCi ds x k).2).1) (Tk 45 126 ds (LCi ds x k).2).2)
def LNm (ds : List Int) (x : Xs) : List Nat × Xs := LCi ds (Tk 1 40 ds x).2 (Tk 1 40 ds x).1.toNat
theorem fnd_len (c : Int) : (fnd c).length ≤ 67 := by
  have := List.length_filter_le (fun (z : Nat) => decide ((z : Int) = c)) CHS
  rw [chs_len] at this
  exact this
theorem LCi_len {ds : List Int} {x : Xs} : ∀ k, (LCi ds x k).1.length ≤ 67 * k
  | 0 => Nat.le_refl _
  | k + 1 => by
    have := LCi_len (ds := ds) (x := x) k
    have := fnd_len (Tk 45 126 ds (LCi ds x k).2).1
    show ((LCi ds x k).1 ++ fnd _).length ≤ _
    rw [List.length_append]
    omega
theorem all_go (h : Q (.str (S CHS)) α) : f_law_all CE CR CF CB CI gX [] α Q E := by
  refine (?_ : pu _ _ _) α Q E h
  unfold f_law_all m_law_all
  refine pu_P rfl fun α R X hR => ?_
  sizeOf_list_dec
  (repeat' array_get_dec)
  rw [chs_eq]
  exact hR
theorem Tk_ok {lo hi : Int} {ds l' : List Int} {x : Xs} (h : (Tk lo hi ds x).2 = .ok l') : x = .ok ((Tk lo hi ds x).1 :: l') := by
  cases x with
  | error p => cases h
  | ok l =>
    unfold Tk at h ⊢
    cases hr : rB lo hi l with
    | error e => simp only [hr] at h; cases h
    | ok y =>
      obtain ⟨v, l2⟩ := y
      simp only [hr] at h ⊢
      cases h
      rw [(rB_ok hr).1]
theorem lname_go {b : Addr} {ds : List Int} {x : Xs} (S0 : BxS b ds x α) (q : ∀ α', BxS b ds (LNm ds x).2 α' → But b α α' → Q (.str (S (LNm ds x).1)) α') : f_law_name_read CE CR CF CB CI gX [.list (ds.map .int), dref b] α Q E := by
  unfold f_law_name_read m_law_name_read
  refine w_runP rfl ?_
  sizeOf_list_dec
  (repeat' array_get_dec)
  try refine bar_of ?_
  sizeOf_list_dec
  (repeat' array_get_dec)
  refine take_go S0 fun α1 S1 B1 => ?_
  have bd := Tk_bd (lo := 1) (hi := 40) (ds := ds) (x := x) (by decide)
  unfold LNm at q
  generalize (Tk 1 40 ds x).1 = n at *
  generalize (Tk 1 40 ds x).2 = x1 at *
  (repeat' array_get_dec)
  rw [show PySem.Str.ofString "" = S [] from rfl]
  refine for_nums (fun k ρ α' => ∃ (v3 v4 v5 v6 : Option D), ρ = [some (.list (ds.map .int)), some (dref b), some (.str (S (LCi ds x1 k).1)), v3, v4, v5, v6] ∧ BxS b ds (LCi ds x1 k).2 α' ∧ But b α α') ⟨none, none, none, none, rfl, S1, B1⟩ ?_ ?_
  · rintro ρ α' ⟨v3, v4, v5, v6, rfl, S', B'⟩
    (repeat' array_get_dec)
    try refine bar_of ?_
    sizeOf_list_dec
    (repeat' array_get_dec)
    rw [arst_but S0.isS B']
    exact q _ S' B'
  · rintro k hk ρ α' ⟨v3, v4, v5, v6, rfl, S', B'⟩ X hX
    have hcl := LCi_len (ds := ds) (x := x1) k
    have hst : LCi ds x1 (k + 1) = ((LCi ds x1 k).1 ++ fnd (Tk 45 126 ds (LCi ds x1 k).2).1, LCf ds (fnd (Tk 45 126 ds (LCi ds x1 k).2).1) (Tk 45 126 ds (LCi ds x1 k).2).2) := rfl
    rw [hst] at hX
    have hok := fun l' => Tk_ok (lo := 45) (hi := 126) (ds := ds) (l' := l') (x := (LCi ds x1 k).2)
    sizeOf_list_dec
    (repeat' array_get_dec)
    refine take_go S' fun α2 S2 B2 => ?_
    generalize (LCi ds x1 k).1 = acc at *
    generalize (LCi ds x1 k).2 = xk at *
    generalize (Tk 45 126 ds xk).1 = c at *
    generalize (Tk 45 126 ds xk).2 = x2 at *
    (repeat' array_get_dec)
    try refine bar_of ?_
    sizeOf_list_dec
    (repeat' array_get_dec)
    refine all_go ?_
    (repeat' array_get_dec)
    rw [S_chars]
    refine lc_fm CHS (fun k => .str (S [k])) (fun z => decide ((z : Int) = c)) (fun k => .str (S [k])) rfl (by rw [chs_len]; decide) trivial (fun z hz => ⟨_, rfl, fun R hR => ?_, fun _ R hR => ?_⟩) ?_
    · sizeOf_list_dec
      (repeat' array_get_dec)
      refine oq_ord (k := z) ?_
      (repeat' array_get_dec)
      exact hR
    · sizeOf_list_dec
      (repeat' array_get_dec)
      exact hR
    have hfl := fnd_len c
    rw [show CHS.filter (fun (z : Nat) => decide ((z : Int) = c)) = fnd c from rfl]
    have hfm : ((fnd c).map fun k => PyData.str (S [k])).length = (fnd c).length := List.length_map _
    have fin : ∀ α3, BxS b ds (LCf ds (fnd c) x2) α3 → But b α α3 → X [some (.list (ds.map .int)), some (dref b), some (.str (S (acc ++ fnd c))), some (.int (0 + (k : Int))), some (.int c), some (.list ((fnd c).map fun k => .str (S [k]))), v6] α3 := fun α3 h1 h2 => hX _ _ ⟨_, _, _, _, rfl, h1, h2⟩
    have hac : acc.length + (fnd c).length ≤ 100000 := by omega
    (repeat' array_get_dec)
    try refine bar_of ?_
    sizeOf_list_dec
    cases x2 with
    | error p =>
      obtain ⟨a, hb2⟩ := S2
      have fin := fin α2 ⟨a, hb2⟩ (B'.trans B2)
      (repeat' array_get_dec)
      all_goals try (exfalso; omega)
      try refine bar_of ?_
      sizeOf_list_dec
      (repeat' array_get_dec)
      refine oq_join_S (by omega) ?_
      (repeat' array_get_dec)
      refine oq_add_S hac ?_
      (repeat' array_get_dec)
      exact fin
    | ok l =>
      have hx := hok l rfl
      obtain ⟨a, hb2, ha, rfl⟩ := S2
      have ha1 : 1 ≤ a := by
        rw [hx] at S'
        obtain ⟨a', _, h2, h3⟩ := S'
        have := congrArg List.length h3
        rw [List.length_cons, List.length_drop, List.length_drop] at this
        omega
      by_cases hf : fnd c = []
      · have e1 : LCf ds (fnd c) (.ok (ds.drop a)) = .error (a - 1) := by
          unfold LCf
          simp only [hf, if_true]
          rw [List.length_drop]
          congr 1
          omega
        rw [e1] at fin
        have fin := fin (aset α2 b (.list [.int (a : Int), .int ((a - 1 : Nat) : Int)])) ⟨a, aset_same⟩ ((B'.trans B2).trans but_set)
        have hf0 : (fnd c).length = 0 := by rw [hf]; rfl
        (repeat' array_get_dec)
        all_goals try (exfalso; omega)
        rw [show ((a : Int) - 1) = ((a - 1 : Nat) : Int) by omega]
        try refine bar_of ?_
        sizeOf_list_dec
        (repeat' array_get_dec)
        refine oq_join_S (by omega) ?_
        (repeat' array_get_dec)
        refine oq_add_S hac ?_
        (repeat' array_get_dec)
        exact fin
      · have e1 : LCf ds (fnd c) (.ok (ds.drop a)) = .ok (ds.drop a) := by
          unfold LCf
          simp only [hf, if_false]
        rw [e1] at fin
        have fin := fin α2 ⟨a, hb2, ha, rfl⟩ (B'.trans B2)
        have hf1 : 0 < (fnd c).length := List.length_pos_iff.mpr hf
        (repeat' array_get_dec)
        all_goals try (exfalso; omega)
        try refine bar_of ?_
        sizeOf_list_dec
        (repeat' array_get_dec)
        refine oq_join_S (by omega) ?_
        (repeat' array_get_dec)
        refine oq_add_S hac ?_
        (repeat' array_get_dec)
        exact fin
end K47
namespace K47
open PySem L2 Hz
local macro_rules | `(tactic| array_mem_dec) => `(tactic| (first | ((with_reducible apply w_xf); exact rfl; exact decide_eq_true rfl; exact rfl) | ((with_reducible apply w_frzS); exact rfl; (first | assumption | exact aset_same); (try simp only [List.set])) | ((with_reducible apply rg1_of); (first | omega | decide)) | ((with_reducible apply rg2_of); (first | omega | decide)) | ((with_reducible apply lok); exact rfl) | ((with_reducible refine it2_dec ?_ ?_) <;> intro)))
local macro_rules | `(tactic| array_mem_dec) => `(tactic| (first | ((with_reducible apply oq_setv2); (simp only [List.set, wipeA]; exact rfl)) | ((with_reducible apply cal_of); exact rfl; (try simp only [List.cons_append, List.nil_append, List.append_nil])) | ((with_reducible apply w_aug); exact rfl) | ((with_reducible apply cel_of); (first | assumption | exact aset_same)) | ((with_reducible apply ceo_of); (first | assumption | exact aset_same)) | ((with_reducible apply tlG_r); (first | assumption | exact aset_same)) | ((with_reducible apply fr_of); (first | assumption | exact aset_same)) | ((with_reducible apply fd_cons); exact trivial) | ((with_reducible apply fd_nil); exact trivial) | ((with_reducible apply oq_isiB (b := true)); exact rfl) | ((with_reducible apply oq_isiB (b := false)); exact rfl) | ((with_reducible apply w_xi); exact rfl; exact decide_eq_true rfl; exact if_pos rfl)))
local macro_rules | `(tactic| array_mem_dec) => `(tactic| (with_reducible first | refine pr2_of ?_))
local macro_rules | `(tactic| array_mem_dec) => `(tactic| (with_reducible first | refine tb_b ?_ | refine ti_b ?_ | refine ts_b ?_ | refine we_nx ?_ | refine we_rt ?_ | refine we_ex ?_ | refine wn_nx ?_ | refine wn_rt ?_ | refine wn_bk ?_ | refine wn_ct ?_ | refine wn_ex ?_ | refine wl_nx ?_ | refine wl_rt ?_ | refine wl_bk ?_ | refine wl_ct ?_ | refine wl_ex ?_ | refine wx_nx ?_ | refine wx_rt ?_ | refine wx_bk ?_ | refine wx_ct ?_ | refine wx_ex ?_ | refine wh_nx ?_ | refine wh_rt ?_ | refine wh_bk ?_ | refine wh_ct ?_ | refine it2_t ?_ | refine it2_f ?_ | refine it2_not ?_ | refine tlG_l ?_ | refine ttG_t ?_))
local macro_rules | `(tactic| array_mem_dec) => `(tactic| ((with_reducible refine oq_id ?_); (first | (with_reducible first | refine vw_i ?_ | refine vw_s ?_ | refine vw_b ?_ | refine vw_n ?_ | refine vw_l ?_ | refine vw_t ?_ | refine vw_sc ?_ | refine vw_o ?_ | refine mv_nil ?_ | refine mv_cons ?_ | refine oq_tgNil ?_ | refine oq_tgCons ?_ | refine oq_add_i ?_ | refine oq_sub ?_ | refine oq_lt ?_ | refine oq_le ?_ | refine oq_gt ?_ | refine oq_ge ?_ | refine oq_eq_i ?_ | refine oq_ne_i ?_ | refine oq_eq_s ?_ | refine oq_ne_s ?_ | refine oq_eq_b ?_ | refine oq_ne_b ?_ | refine oq_is ?_ | refine oq_isNot ?_ | refine oq_in_s ?_ | refine oq_notIn_s ?_ | refine oq_len_l ?_ | refine oq_len_t ?_ | refine oq_int ?_ | refine oq_abs ?_ | refine oq_ord ?_ | refine oq_cut_l ?_ | refine oq_cut_t ?_ | refine oq_list_l ?_ | refine oq_list_t ?_ | refine oq_tuple_l ?_ | refine oq_tuple_t ?_ | refine oq_max2 ?_ | refine oq_min2 ?_ | refine oq_some ?_ | refine oq_len_sc ?_ | refine oq_eq_il ?_ | refine oq_ne_il ?_ | refine oq_eq_it ?_ | refine oq_ne_it ?_ | refine oq_lt_il ?_ | refine oq_lt_it ?_ | refine oq_iadd_i ?_ | refine oq_isT ?_ | refine oq_isNotT ?_) | (first | ((with_reducible apply oq_tgTup); exact rfl) | ((with_reducible apply oq_ix_lk); exact rfl) | ((with_reducible apply oq_ix_tk); exact rfl) | ((with_reducible apply vw_r); (first | assumption | exact aset_same)) | ((with_reducible apply oq_ixN_k); exact rfl; (try simp only [List.set, Int.reduceToNat])) | ((with_reducible apply oq_mod); (first | omega | decide)) | ((with_reducible apply oq_div); (first | omega | decide)) | ((with_reducible apply oq_mul); (first | omega | decide)) | ((with_reducible apply oq_pow); (first | omega | decide)) | ((with_reducible apply oq_shl); (first | omega | decide)) | ((with_reducible apply oq_shr); (first | omega | decide)) | ((with_reducible apply oq_add_s); (first | omega | decide))) | (first | ((with_reducible apply oq_len_s); (first | omega | decide)) | ((with_reducible apply oq_cut_s); (first | omega | decide)) | ((with_reducible apply oq_append); (first | omega | decide)) | ((with_reducible apply oq_insert); (first | omega | decide)) | ((with_reducible apply oq_rep); (first | omega | decide)) | ((with_reducible apply oq_cat); (first | omega | decide))))))
local macro_rules | `(tactic| array_mem_dec) => `(tactic| (with_reducible first | refine w_list ?_ | refine w_tuple ?_ | refine w_str ?_ | refine w_range1 ?_ | refine w_range2 ?_ | refine w_range3 ?_ | refine w_next ?_ | refine w_break ?_ | refine w_cont ?_ | refine w_drop ?_ | refine w_ret ?_ | refine w_retN ?_ | refine w_if ?_ | refine w_asg ?_ | refine w_raise ?_ | refine w_fld ?_ | refine w_seta ?_ | refine w_auga ?_ | refine w_seti ?_ | refine w_mut ?_ | refine w_frz ?_ | refine w_new ?_ | refine w_ext ?_ | refine w_for ?_ | refine w_lc ?_ | refine w_tryA ?_ | refine w_try ?_ | refine w_par ?_))
local macro_rules | `(tactic| array_mem_dec) => `(tactic| (first | ((with_reducible apply w_kV); exact rfl) | (with_reducible first | refine w_kC ?_ | refine w_bop ?_ | refine w_tst ?_ | refine w_val ?_ | refine w_and ?_ | refine w_or ?_ | refine w_not ?_ | refine w_andV ?_ | refine w_orV ?_ | refine w_chain ?_ | refine w_ifK ?_ | refine w_nil ?_ | refine w_cons ?_ | refine w_tup ?_ | refine w_lst ?_ | refine w_call ?_ | refine w_neg ?_ | refine w_b1 ?_ | refine w_bn ?_ | refine w_isi ?_ | refine w_met ?_ | refine w_pnone ?_ | refine w_psome ?_ | refine w_cut ?_ | refine w_yes ?_)))
local macro_rules | `(tactic| array_get_dec) => `(tactic| (with_reducible refine w_seqB ?_))
local macro_rules | `(tactic| array_get_dec) => `(tactic| array_mem_dec)
local macro_rules | `(tactic| decreasing_trivial_pre_omega) => `(tactic| (with_reducible refine w_seq ?_))
local macro_rules | `(tactic| decreasing_trivial_pre_omega) => `(tactic| array_mem_dec)
local macro_rules | `(tactic| sizeOf_list_dec) => `(tactic| (try simp only [List.set, Int.reduceToNat, List.map_cons, List.map_nil, Nat.reduceSub, List.reduceReplicate, List.cons_append, List.nil_append, wipeA, aset_aset, List.getElem?_cons_zero, List.getElem?_cons_succ]))
variable {CE CR CF CB CI gX : Nat} {α : AH} {Q : QD} {E : QX}
def LVi (ds : List Int) (m : Int) (x : Xs) : Nat → (Int × List (Int × Int)) × Xs
  | 0 => ((0, []), x)
  | k + 1 =>
    let s := LVi ds m x k
    let t := Tk (s.1.1 + 1) (10 - m + (0 + (k : Nat))) ds s.2
    let n := LN 1 ds t.2
    ((t.1, s.1.2 ++ [(t.1, n.1)]), n.2)
def LVec (ds : List Int) (x : Xs) : List (Int × Int) × Xs := ((LVi ds (Tk 1 9 ds x).1 (Tk 1 9 ds x).2 (Tk 1 9 ds x).1.toNat).1.2, (LVi ds (Tk 1 9 ds x).1 (Tk 1 9 ds x).2 (Tk 1 9 ds x).1.toNat).2)
theorem LVi_len {ds : List Int} {m : Int} {x : Xs} : ∀ k, (LVi ds m x k).1.2.length = k
  | 0 => rfl
  | k + 1 => by
    show ((LVi ds m x k).1.2 ++ [_]).length = k + 1
    rw [List.length_append, LVi_len k]
    rfl
theorem lvec_go {b : Addr} {ds : List Int} {x : Xs} (S0 : BxS b ds x α) (q : ∀ α', BxS b ds (LVec ds x).2 α' → But b α α' → Q (.tuple ((LVec ds x).1.map vD)) α') : f_law_vector_read CE CR CF CB CI gX [.list (ds.map .int), dref b] α Q E := by
  unfold f_law_vector_read m_law_vector_read
  refine w_runP rfl ?_
  sizeOf_list_dec
  (repeat' array_get_dec)
  intro p hp
  have hpb : b ≠ p := fun e => by
    have := S0.isS
    rw [e, hp] at this
    cases this
  (repeat' array_get_dec)
  try refine bar_of ?_
  sizeOf_list_dec
  (repeat' array_get_dec)
  try refine bar_of ?_
  sizeOf_list_dec
  (repeat' array_get_dec)
  have S1 : BxS b ds x (aset α p (.list [])) := S0.cong (aset_ne hpb)
  refine take_go S1 fun α1 S2 B2 => ?_
  have bd := Tk_bd (lo := 1) (hi := 9) (ds := ds) (x := x) (by decide)
  unfold LVec at q
  generalize (Tk 1 9 ds x).1 = m at *
  generalize (Tk 1 9 ds x).2 = x1 at *
  (repeat' array_get_dec)
  try refine bar_of ?_
  sizeOf_list_dec
  (repeat' array_get_dec)
  refine for_nums (fun k ρ α' => ∃ (v5 : Option D), ρ = [some (.list (ds.map .int)), some (dref b), some (dref p), some (.int (LVi ds m x1 k).1.1), some (.int m), v5] ∧ BxS b ds (LVi ds m x1 k).2 α' ∧ α' p = some (.list ((LVi ds m x1 k).1.2.map vD)) ∧ ∀ a, a ≠ b → a ≠ p → α' a = α a) ⟨none, rfl, S2, (B2 p (Ne.symm hpb)).trans aset_same, fun a ha hb => (B2 a ha).trans (aset_ne hb)⟩ ?_ ?_
  · rintro ρ α' ⟨v5, rfl, S', hc, B'⟩
    (repeat' array_get_dec)
    try refine bar_of ?_
    sizeOf_list_dec
    (repeat' array_get_dec)
    exact q _ (S'.cong (arst_at S0.isS)) (arst_two hp B')
  · rintro k hk ρ α' ⟨v5, rfl, S', hc, B'⟩ X hX
    have hln := LVi_len (ds := ds) (m := m) (x := x1) k
    have hst : LVi ds m x1 (k + 1) = (((Tk ((LVi ds m x1 k).1.1 + 1) (10 - m + (0 + (k : Nat))) ds (LVi ds m x1 k).2).1, (LVi ds m x1 k).1.2 ++ [((Tk ((LVi ds m x1 k).1.1 + 1) (10 - m + (0 + (k : Nat))) ds (LVi ds m x1 k).2).1, (LN 1 ds (Tk ((LVi ds m x1 k).1.1 + 1) (10 - m + (0 + (k : Nat))) ds (LVi ds m x1 k).2).2).1)]), (LN 1 ds (Tk ((LVi ds m x1 k).1.1 + 1) (10 - m + (0 + (k : Nat))) ds (LVi ds m x1 k).2).2).2) := rfl
    rw [hst] at hX
    generalize (LVi ds m x1 k).1.1 = dv at *
    generalize (LVi ds m x1 k).1.2 = acc at *
    generalize (LVi ds m x1 k).2 = xk at *
    sizeOf_list_dec
    (repeat' array_get_dec)
    refine take_go S' fun α2 S3 B3 => ?_
    generalize (Tk (dv + 1) (10 - m + (0 + (k : Nat))) ds xk).1 = d at *
    generalize (Tk (dv + 1) (10 - m + (0 + (k : Nat))) ds xk).2 = x2 at *
    have hc3 : α2 p = some (.list (acc.map vD)) := (B3 p (Ne.symm hpb)).trans hc
    (repeat' array_get_dec)
    try refine bar_of ?_
    sizeOf_list_dec
    (repeat' array_get_dec)
    refine lnum_go S3 fun α3 S4 B4 => ?_
    have hc4 : α3 p = some (.list (acc.map vD)) := (B4 p (Ne.symm hpb)).trans hc3
    have hal : (acc.map vD).length < 100000 := by
      rw [List.length_map]
      omega
    (repeat' array_get_dec)
    try refine oq_append hal ?_
    (repeat' array_get_dec)
    refine hX _ _ ⟨_, rfl, S4.cong (aset_ne hpb), by rw [aset_same, List.map_append]; rfl, fun a ha hb => ?_⟩
    rw [aset_ne hb]
    exact (B4 a ha).trans ((B3 a ha).trans (B' a ha hb))
def LRi (ds : List Int) (x : Xs) : Nat → List Int × Xs
  | 0 => ([], x)
  | k + 1 => ((LRi ds x k).1 ++ [(Tk 0 255 ds (LRi ds x k).2).1], (Tk 0 255 ds (LRi ds x k).2).2)
def LRow (lo : Int) (ds : List Int) (x : Xs) : List Int × Xs := LRi ds (Tk lo 4 ds x).2 (Tk lo 4 ds x).1.toNat
theorem LRi_len {ds : List Int} {x : Xs} : ∀ k, (LRi ds x k).1.length = k
  | 0 => rfl
  | k + 1 => by
    show ((LRi ds x k).1 ++ [_]).length = k + 1
    rw [List.length_append, LRi_len k]
    rfl
theorem lrow_go {b : Addr} {ds : List Int} {x : Xs} {lo : Int} (h0 : 0 ≤ lo ∧ lo ≤ 4) (S0 : BxS b ds x α) (q : ∀ α', BxS b ds (LRow lo ds x).2 α' → But b α α' → (LRow lo ds x).1.length ≤ 4 → Q (.list ((LRow lo ds x).1.map .int)) α') : f_law_row_read CE CR CF CB CI gX [.list (ds.map .int), dref b, .int lo] α Q E := by
  unfold f_law_row_read m_law_row_read
  refine w_runP rfl ?_
  sizeOf_list_dec
  (repeat' array_get_dec)
  refine take_go S0 fun α1 S1 B1 => ?_
  have bd := Tk_bd (lo := lo) (hi := 4) (ds := ds) (x := x) h0.2
  unfold LRow at q
  generalize (Tk lo 4 ds x).1 = m at *
  generalize (Tk lo 4 ds x).2 = x1 at *
  have hln := LRi_len (ds := ds) (x := x1) m.toNat
  (repeat' array_get_dec)
  have hnl : (nums 0 m.toNat).length = m.toNat := by rw [nums_map, List.length_map, List.length_range]
  refine lc_inv (fun rr acc α' => ∃ k, k + rr.length = m.toNat ∧ acc = (LRi ds x1 k).1.map .int ∧ BxS b ds (LRi ds x1 k).2 α' ∧ But b α α') ⟨0, by rw [hnl]; omega, rfl, S1, B1⟩ (fun _ _ _ _ => trivial) ?_ ?_
  · rintro acc α' ⟨k, hk, rfl, S', B'⟩
    obtain rfl : k = m.toNat := by simpa using hk
    (repeat' array_get_dec)
    rw [arst_but S0.isS B']
    exact q _ S' B' (by omega)
  · rintro d rr acc α' ⟨k, hk, rfl, S', B'⟩ X hX
    rw [List.length_cons] at hk
    sizeOf_list_dec
    (repeat' array_get_dec)
    refine take_go S' fun α2 S2 B2 => ?_
    refine ⟨by rw [List.length_map, LRi_len]; omega, hX _ _ ⟨k + 1, by omega, ?_, S2, B'.trans B2⟩⟩
    show _ = ((LRi ds x1 k).1 ++ [_]).map PyData.int
    rw [List.map_append]
    rfl
def blkV (p : List Int) : Int := val 256 0 p + [0, 256, 65536, 16777216, 4294967296].getD p.length 0
theorem val_from : ∀ (l : List Int) (a : Int), val 256 a l = a * 256 ^ l.length + val 256 0 l
  | [], a => by
    show a = a * 256 ^ 0 + 0
    simp
  | d :: l, a => by
    show val 256 (a * 256 + d) l = a * 256 ^ (l.length + 1) + val 256 (0 * 256 + d) l
    rw [val_from l (a * 256 + d), val_from l (0 * 256 + d), Int.pow_succ, Int.add_mul, Int.add_mul, Int.mul_assoc a 256, Int.mul_comm 256 (256 ^ l.length)]
    omega
theorem blkV_eq {p : List Int} (h1 : 1 ≤ p.length) (h : p.length ≤ 4) : blkV p = val 256 1 p := by
  unfold blkV
  rw [val_from p 1, Int.one_mul]
  have : ∀ n, n = p.length → [0, 256, 65536, 16777216, 4294967296].getD n 0 = (256 : Int) ^ n := fun n e => by
    have : n = 1 ∨ n = 2 ∨ n = 3 ∨ n = 4 := by omega
    rcases this with rfl | rfl | rfl | rfl <;> rfl
  rw [this _ rfl, Int.add_comm]
theorem lblk_go {p : List Int} (hp : p.length ≤ 4) (h : Q (.int (blkV p)) α) : f_law_block CE CR CF CB CI gX [.list (p.map .int)] α Q E := by
  refine (?_ : pu _ _ _) α Q E h
  unfold f_law_block m_law_block
  refine pu_P rfl fun α R X hR => ?_
  sizeOf_list_dec
  (repeat' decreasing_trivial_pre_omega)
  refine for_map (xs := p) (u := PyData.int) rfl (fun j ρ α' => ∃ a v, val 256 a (p.drop j) = val 256 0 p ∧ ρ = [some (.list (p.map .int)), some (.int a), v] ∧ α' = α) ⟨0, none, rfl, rfl, rfl⟩ ?_ ?_
  · rintro _ _ ⟨a, v, e, rfl, rfl⟩
    rw [List.drop_length] at e
    obtain rfl : a = val 256 0 p := e
    (repeat' decreasing_trivial_pre_omega)
    rw [List.length_map]
    refine oq_ix_m (xs := [0, 256, 65536, 16777216, 4294967296]) (k := p.length) (by simp only [List.length_cons, List.length_nil]; omega) ?_
    (repeat' decreasing_trivial_pre_omega)
    exact hR
  · rintro j hj _ _ ⟨a, v, e, rfl, rfl⟩ X hX
    (repeat' decreasing_trivial_pre_omega)
    refine hX _ _ ⟨_, _, ?_, rfl, rfl⟩
    rw [List.drop_eq_getElem_cons hj] at e
    rw [Int.mul_comm]
    exact e
end K47
namespace K47
open PySem L2 Hz
local macro_rules | `(tactic| array_mem_dec) => `(tactic| (first | ((with_reducible apply w_xf); exact rfl; exact decide_eq_true rfl; exact rfl) | ((with_reducible apply w_frzS); exact rfl; (first | assumption | exact aset_same); (try simp only [List.set])) | ((with_reducible apply rg1_of); (first | omega | decide)) | ((with_reducible apply rg2_of); (first | omega | decide)) | ((with_reducible apply lok); exact rfl) | ((with_reducible refine it2_dec ?_ ?_) <;> intro)))
local macro_rules | `(tactic| array_mem_dec) => `(tactic| (first | ((with_reducible apply oq_setv2); (simp only [List.set, wipeA]; exact rfl)) | ((with_reducible apply cal_of); exact rfl; (try simp only [List.cons_append, List.nil_append, List.append_nil])) | ((with_reducible apply w_aug); exact rfl) | ((with_reducible apply cel_of); (first | assumption | exact aset_same)) | ((with_reducible apply ceo_of); (first | assumption | exact aset_same)) | ((with_reducible apply tlG_r); (first | assumption | exact aset_same)) | ((with_reducible apply fr_of); (first | assumption | exact aset_same)) | ((with_reducible apply fd_cons); exact trivial) | ((with_reducible apply fd_nil); exact trivial) | ((with_reducible apply oq_isiB (b := true)); exact rfl) | ((with_reducible apply oq_isiB (b := false)); exact rfl) | ((with_reducible apply w_xi); exact rfl; exact decide_eq_true rfl; exact if_pos rfl)))
local macro_rules | `(tactic| array_mem_dec) => `(tactic| (with_reducible first | refine pr2_of ?_))
local macro_rules | `(tactic| array_mem_dec) => `(tactic| (with_reducible first | refine tb_b ?_ | refine ti_b ?_ | refine ts_b ?_ | refine we_nx ?_ | refine we_rt ?_ | refine we_ex ?_ | refine wn_nx ?_ | refine wn_rt ?_ | refine wn_bk ?_ | refine wn_ct ?_ | refine wn_ex ?_ | refine wl_nx ?_ | refine wl_rt ?_ | refine wl_bk ?_ | refine wl_ct ?_ | refine wl_ex ?_ | refine wx_nx ?_ | refine wx_rt ?_ | refine wx_bk ?_ | refine wx_ct ?_ | refine wx_ex ?_ | refine wh_nx ?_ | refine wh_rt ?_ | refine wh_bk ?_ | refine wh_ct ?_ | refine it2_t ?_ | refine it2_f ?_ | refine it2_not ?_ | refine tlG_l ?_ | refine ttG_t ?_))
local macro_rules | `(tactic| array_mem_dec) => `(tactic| ((with_reducible refine oq_id ?_); (first | (with_reducible first | refine vw_i ?_ | refine vw_s ?_ | refine vw_b ?_ | refine vw_n ?_ | refine vw_l ?_ | refine vw_t ?_ | refine vw_sc ?_ | refine vw_o ?_ | refine mv_nil ?_ | refine mv_cons ?_ | refine oq_tgNil ?_ | refine oq_tgCons ?_ | refine oq_add_i ?_ | refine oq_sub ?_ | refine oq_lt ?_ | refine oq_le ?_ | refine oq_gt ?_ | refine oq_ge ?_ | refine oq_eq_i ?_ | refine oq_ne_i ?_ | refine oq_eq_s ?_ | refine oq_ne_s ?_ | refine oq_eq_b ?_ | refine oq_ne_b ?_ | refine oq_is ?_ | refine oq_isNot ?_ | refine oq_in_s ?_ | refine oq_notIn_s ?_ | refine oq_len_l ?_ | refine oq_len_t ?_ | refine oq_int ?_ | refine oq_abs ?_ | refine oq_ord ?_ | refine oq_cut_l ?_ | refine oq_cut_t ?_ | refine oq_list_l ?_ | refine oq_list_t ?_ | refine oq_tuple_l ?_ | refine oq_tuple_t ?_ | refine oq_max2 ?_ | refine oq_min2 ?_ | refine oq_some ?_ | refine oq_len_sc ?_ | refine oq_eq_il ?_ | refine oq_ne_il ?_ | refine oq_eq_it ?_ | refine oq_ne_it ?_ | refine oq_lt_il ?_ | refine oq_lt_it ?_ | refine oq_iadd_i ?_ | refine oq_isT ?_ | refine oq_isNotT ?_) | (first | ((with_reducible apply oq_tgTup); exact rfl) | ((with_reducible apply oq_ix_lk); exact rfl) | ((with_reducible apply oq_ix_tk); exact rfl) | ((with_reducible apply vw_r); (first | assumption | exact aset_same)) | ((with_reducible apply oq_ixN_k); exact rfl; (try simp only [List.set, Int.reduceToNat])) | ((with_reducible apply oq_mod); (first | omega | decide)) | ((with_reducible apply oq_div); (first | omega | decide)) | ((with_reducible apply oq_mul); (first | omega | decide)) | ((with_reducible apply oq_pow); (first | omega | decide)) | ((with_reducible apply oq_shl); (first | omega | decide)) | ((with_reducible apply oq_shr); (first | omega | decide)) | ((with_reducible apply oq_add_s); (first | omega | decide))) | (first | ((with_reducible apply oq_len_s); (first | omega | decide)) | ((with_reducible apply oq_cut_s); (first | omega | decide)) | ((with_reducible apply oq_append); (first | omega | decide)) | ((with_reducible apply oq_insert); (first | omega | decide)) | ((with_reducible apply oq_rep); (first | omega | decide)) | ((with_reducible apply oq_cat); (first | omega | decide))))))
local macro_rules | `(tactic| array_mem_dec) => `(tactic| (with_reducible first | refine w_list ?_ | refine w_tuple ?_ | refine w_str ?_ | refine w_range1 ?_ | refine w_range2 ?_ | refine w_range3 ?_ | refine w_next ?_ | refine w_break ?_ | refine w_cont ?_ | refine w_drop ?_ | refine w_ret ?_ | refine w_retN ?_ | refine w_if ?_ | refine w_asg ?_ | refine w_raise ?_ | refine w_fld ?_ | refine w_seta ?_ | refine w_auga ?_ | refine w_seti ?_ | refine w_mut ?_ | refine w_frz ?_ | refine w_new ?_ | refine w_ext ?_ | refine w_for ?_ | refine w_lc ?_ | refine w_tryA ?_ | refine w_try ?_ | refine w_par ?_))
local macro_rules | `(tactic| array_mem_dec) => `(tactic| (first | ((with_reducible apply w_kV); exact rfl) | (with_reducible first | refine w_kC ?_ | refine w_bop ?_ | refine w_tst ?_ | refine w_val ?_ | refine w_and ?_ | refine w_or ?_ | refine w_not ?_ | refine w_andV ?_ | refine w_orV ?_ | refine w_chain ?_ | refine w_ifK ?_ | refine w_nil ?_ | refine w_cons ?_ | refine w_tup ?_ | refine w_lst ?_ | refine w_call ?_ | refine w_neg ?_ | refine w_b1 ?_ | refine w_bn ?_ | refine w_isi ?_ | refine w_met ?_ | refine w_pnone ?_ | refine w_psome ?_ | refine w_cut ?_ | refine w_yes ?_)))
local macro_rules | `(tactic| array_get_dec) => `(tactic| (with_reducible refine w_seqB ?_))
local macro_rules | `(tactic| array_get_dec) => `(tactic| array_mem_dec)
local macro_rules | `(tactic| decreasing_trivial_pre_omega) => `(tactic| (with_reducible refine w_seq ?_))
local macro_rules | `(tactic| decreasing_trivial_pre_omega) => `(tactic| array_mem_dec)
local macro_rules | `(tactic| sizeOf_list_dec) => `(tactic| (try simp only [List.set, Int.reduceToNat, List.map_cons, List.map_nil, Nat.reduceSub, List.reduceReplicate, List.cons_append, List.nil_append, wipeA, aset_aset, List.getElem?_cons_zero, List.getElem?_cons_succ]))
variable {CE CR CF CB CI gX : Nat} {α : AH} {Q : QD} {E : QX}
def loA (ma : Int) (k : Nat) : Int := if (0 + (k : Nat) : Int) = ma - 1 then 1 else 4
def LBi (ds : List Int) (ma : Int) (x : Xs) : Nat → List Int × Xs
  | 0 => ([], x)
  | k + 1 => ((LBi ds ma x k).1 ++ [blkV (LRow (loA ma k) ds (LBi ds ma x k).2).1], (LRow (loA ma k) ds (LBi ds ma x k).2).2)
theorem LBi_len {ds : List Int} {ma : Int} {x : Xs} : ∀ k, (LBi ds ma x k).1.length = k
  | 0 => rfl
  | k + 1 => by
    show ((LBi ds ma x k).1 ++ [_]).length = k + 1
    rw [List.length_append, LBi_len k]
    rfl
section
variable (num : Int) (nm : List Nat) (ve : List (Int × Int)) (h md mn de ti ma : Int) (ds : List Int) (x : Xs)
def LE9 : (EF × Int) × Xs := ((⟨nm, ve, h, md, mn, decide (de = 1), ti, (LBi ds ma x ma.toNat).1⟩, num), (LBi ds ma x ma.toNat).2)
def LE8 : (EF × Int) × Xs := LE9 num nm ve h md mn de ti (Tk 0 (255 * (1 - de)) ds x).1 ds (Tk 0 (255 * (1 - de)) ds x).2
def LE7 : (EF × Int) × Xs := LE8 num nm ve h md mn de (LN 0 ds x).1 ds (LN 0 ds x).2
def LE6 : (EF × Int) × Xs := LE7 num nm ve h md mn (Tk 0 1 ds x).1 ds (Tk 0 1 ds x).2
def LE5 : (EF × Int) × Xs := LE6 num nm ve h md (LN 1 ds x).1 ds (LN 1 ds x).2
def LE4 : (EF × Int) × Xs := LE5 num nm ve h (Tk 1 9 ds x).1 ds (Tk 1 9 ds x).2
def LE3 : (EF × Int) × Xs := LE4 num nm ve (LN 1 ds x).1 ds (LN 1 ds x).2
def LE2 : (EF × Int) × Xs := LE3 num nm (LVec ds x).1 ds (LVec ds x).2
def LE1 : (EF × Int) × Xs := LE2 num (LNm ds x).1 ds (LNm ds x).2
end
def LE (ds : List Int) (x : Xs) : (EF × Int) × Xs := LE1 (LN 1 ds x).1 ds (LN 1 ds x).2
def efT (e : EF) : D := .tuple [.str (S e.nm), .tuple (e.ve.map vD), .int e.h, .tuple [.int e.md, .int e.mn], .bool e.de, .int e.ti, .tuple (e.bl.map .int)]
theorem lent_go {b : Addr} {ds : List Int} {x : Xs} (S0 : BxS b ds x α) (q : ∀ α', BxS b ds (LE ds x).2 α' → But b α α' → Q (.tuple [efT (LE ds x).1.1, .int (LE ds x).1.2]) α') : f_law_entry_read CE CR CF CB CI gX [.list (ds.map .int), dref b] α Q E := by
  unfold f_law_entry_read m_law_entry_read
  refine w_runP rfl ?_
  sizeOf_list_dec
  (repeat' array_get_dec)
  refine lnum_go S0 fun α1 S1 B1 => ?_
  unfold LE at q
  generalize (LN 1 ds x).1 = num at *
  generalize (LN 1 ds x).2 = x1 at *
  (repeat' array_get_dec)
  try refine bar_of ?_
  sizeOf_list_dec
  (repeat' array_get_dec)
  refine lname_go S1 fun α2 S2 B2 => ?_
  replace B2 := B1.trans B2
  unfold LE1 at q
  generalize (LNm ds x1).1 = nm at *
  generalize (LNm ds x1).2 = x2 at *
  clear B1
  (repeat' array_get_dec)
  try refine bar_of ?_
  sizeOf_list_dec
  (repeat' array_get_dec)
  refine lvec_go S2 fun α3 S3 B3 => ?_
  replace B3 := B2.trans B3
  unfold LE2 at q
  generalize (LVec ds x2).1 = ve at *
  generalize (LVec ds x2).2 = x3 at *
  clear B2
  (repeat' array_get_dec)
  try refine bar_of ?_
  sizeOf_list_dec
  (repeat' array_get_dec)
  refine lnum_go S3 fun α4 S4 B4 => ?_
  replace B4 := B3.trans B4
  unfold LE3 at q
  generalize (LN 1 ds x3).1 = h at *
  generalize (LN 1 ds x3).2 = x4 at *
  clear B3
  (repeat' array_get_dec)
  try refine bar_of ?_
  sizeOf_list_dec
  (repeat' array_get_dec)
  refine take_go S4 fun α5 S5 B5 => ?_
  replace B5 := B4.trans B5
  unfold LE4 at q
  generalize (Tk 1 9 ds x4).1 = md at *
  generalize (Tk 1 9 ds x4).2 = x5 at *
  clear B4
  (repeat' array_get_dec)
  try refine bar_of ?_
  sizeOf_list_dec
  (repeat' array_get_dec)
  refine lnum_go S5 fun α6 S6 B6 => ?_
  replace B6 := B5.trans B6
  unfold LE5 at q
  generalize (LN 1 ds x5).1 = mn at *
  generalize (LN 1 ds x5).2 = x6 at *
  clear B5
  (repeat' array_get_dec)
  try refine bar_of ?_
  sizeOf_list_dec
  (repeat' array_get_dec)
  refine take_go S6 fun α7 S7 B7 => ?_
  replace B7 := B6.trans B7
  have bde := Tk_bd (lo := 0) (hi := 1) (ds := ds) (x := x6) (by decide)
  unfold LE6 at q
  generalize (Tk 0 1 ds x6).1 = de at *
  generalize (Tk 0 1 ds x6).2 = x7 at *
  clear B6
  (repeat' array_get_dec)
  try refine bar_of ?_
  sizeOf_list_dec
  (repeat' array_get_dec)
  refine lnum_go S7 fun α8 S8 B8 => ?_
  replace B8 := B7.trans B8
  unfold LE7 at q
  generalize (LN 0 ds x7).1 = ti at *
  generalize (LN 0 ds x7).2 = x8 at *
  clear B7
  (repeat' array_get_dec)
  try refine bar_of ?_
  sizeOf_list_dec
  (repeat' array_get_dec)
  refine take_go S8 fun α9 S9 B9 => ?_
  replace B9 := B8.trans B9
  have bma := Tk_bd (lo := 0) (hi := 255 * (1 - de)) (ds := ds) (x := x8) (by omega)
  unfold LE8 at q
  generalize (Tk 0 (255 * (1 - de)) ds x8).1 = ma at *
  generalize (Tk 0 (255 * (1 - de)) ds x8).2 = x9 at *
  clear B8
  (repeat' array_get_dec)
  try refine bar_of ?_
  sizeOf_list_dec
  (repeat' array_get_dec)
  intro p hp
  have hpb : b ≠ p := fun e => by
    have := S9.isS
    rw [e, hp] at this
    cases this
  have hp0 : α p = none := (B9 p (Ne.symm hpb)).symm.trans hp
  have S10 : BxS b ds x9 (aset α9 p (.list [])) := S9.cong (aset_ne hpb)
  (repeat' array_get_dec)
  try refine bar_of ?_
  sizeOf_list_dec
  (repeat' array_get_dec)
  unfold LE9 at q
  refine for_nums (fun k ρ α' => ∃ (v12 : Option D), ρ = [some (.list (ds.map .int)), some (dref b), some (.int num), some (.str (S nm)), some (.tuple (ve.map vD)), some (.int h), some (.int md), some (.tuple [.int md, .int mn]), some (.int de), some (.int ti), some (.int ma), some (dref p), v12] ∧ BxS b ds (LBi ds ma x9 k).2 α' ∧ α' p = some (.list ((LBi ds ma x9 k).1.map .int)) ∧ ∀ a, a ≠ b → a ≠ p → α' a = α a) ⟨none, rfl, S10, aset_same, fun a ha hb => (aset_ne hb).trans (B9 a ha)⟩ ?_ ?_
  · rintro ρ α' ⟨v12, rfl, S', hc, B'⟩
    (repeat' array_get_dec)
    try refine bar_of ?_
    sizeOf_list_dec
    (repeat' array_get_dec)
    exact q _ (S'.cong (arst_at S0.isS)) (arst_two hp0 B')
  · rintro k hk ρ α' ⟨v12, rfl, S', hc, B'⟩ X hX
    have hln := LBi_len (ds := ds) (ma := ma) (x := x9) k
    have hst : LBi ds ma x9 (k + 1) = ((LBi ds ma x9 k).1 ++ [blkV (LRow (loA ma k) ds (LBi ds ma x9 k).2).1], (LRow (loA ma k) ds (LBi ds ma x9 k).2).2) := rfl
    rw [hst] at hX
    have hix : ∀ R : D → Prop, R (.int (loA ma k)) → oq (dInt [.bool (decide ((0 + (k : Nat) : Int) = ma - 1))]) fun z => oq (vw α' (.list [.int 4, .int 1])) fun d' => oq (vw α' z) fun e' => oq (dIx d' e') R := fun R hR => by
      unfold loA at hR
      by_cases e : (0 + (k : Nat) : Int) = ma - 1
      · rw [if_pos e] at hR
        rw [decide_eq_true e]
        exact ⟨_, rfl, _, rfl, _, rfl, _, rfl, hR⟩
      · rw [if_neg e] at hR
        rw [decide_eq_false e]
        exact ⟨_, rfl, _, rfl, _, rfl, _, rfl, hR⟩
    have hlo : 0 ≤ loA ma k ∧ loA ma k ≤ 4 := by
      unfold loA
      split <;> omega
    generalize loA ma k = lo at *
    generalize (LBi ds ma x9 k).1 = acc at *
    generalize (LBi ds ma x9 k).2 = xk at *
    sizeOf_list_dec
    (repeat' array_get_dec)
    refine hix _ ?_
    (repeat' array_get_dec)
    refine lrow_go hlo S' fun α2 S2 B2 hl4 => ?_
    have hc2 : α2 p = some (.list (acc.map .int)) := (B2 p (Ne.symm hpb)).trans hc
    have hal : (acc.map PyData.int).length < 100000 := by
      rw [List.length_map]
      omega
    (repeat' array_get_dec)
    refine lblk_go hl4 ?_
    (repeat' array_get_dec)
    try refine oq_append hal ?_
    (repeat' array_get_dec)
    refine hX _ _ ⟨_, rfl, S2.cong (aset_ne hpb), by rw [aset_same, List.map_append]; rfl, fun a ha hb => ?_⟩
    rw [aset_ne hb]
    exact (B2 a ha).trans (B' a ha hb)
end K47
namespace K47
open PySem L2 Hz
def Rel {β : Type} (ds : List Int) (r : Rd β) (y : β × Xs) : Prop := match r with
  | .ok (v, l') => y = (v, .ok l')
  | .error e => y.2 = .error (ds.length - e)
theorem bn_rel {β γ : Type} {ds : List Int} {r : Rd β} {y : β × Xs} {F : β → List Int → Rd γ} {G : β → Xs → γ × Xs} (h : Rel ds r y) (hF : ∀ v l', r = .ok (v, l') → Rel ds (F v l') (G v (.ok l'))) (hG : ∀ v p, (G v (.error p)).2 = .error p) : Rel ds (bn r F) (G y.1 y.2) := by
  cases r with
  | error e =>
    have h : y.2 = .error (ds.length - e) := h
    show (G y.1 y.2).2 = .error (ds.length - e)
    rw [h, hG]
  | ok z =>
    obtain ⟨v, l'⟩ := z
    have h : y = (v, .ok l') := h
    rw [h]
    exact hF v l' rfl
theorem tk_rel {ds : List Int} {lo hi : Int} {l : List Int} : Rel ds (rB lo hi l) (Tk lo hi ds (.ok l)) := by
  unfold Tk
  cases h : rB lo hi l with
  | error e =>
    simp only [h]
    rfl
  | ok z =>
    obtain ⟨v, l'⟩ := z
    simp only [h]
    rfl
theorem ln_err {ds : List Int} {lo : Int} {p : Nat} : (LN lo ds (.error p)).2 = .error p := rfl
theorem ln_rel {ds : List Int} {lo : Int} {l : List Int} : Rel ds (rN lo l) (LN lo ds (.ok l)) := by
  unfold rN
  refine bn_rel (G := fun a x => (256 * (256 * (256 * (256 * 0 + a) + (Tk 0 255 ds x).1) + (Tk 0 255 ds (Tk 0 255 ds x).2).1) + (Tk (if 0 < 256 * (256 * (256 * 0 + a) + (Tk 0 255 ds x).1) + (Tk 0 255 ds (Tk 0 255 ds x).2).1 then 0 else lo) 255 ds (Tk 0 255 ds (Tk 0 255 ds x).2).2).1, (Tk (if 0 < 256 * (256 * (256 * 0 + a) + (Tk 0 255 ds x).1) + (Tk 0 255 ds (Tk 0 255 ds x).2).1 then 0 else lo) 255 ds (Tk 0 255 ds (Tk 0 255 ds x).2).2).2)) tk_rel (fun a l1 h1 => ?_) fun _ _ => rfl
  refine bn_rel (G := fun b x => (256 * (256 * (256 * (256 * 0 + a) + b) + (Tk 0 255 ds x).1) + (Tk (if 0 < 256 * (256 * (256 * 0 + a) + b) + (Tk 0 255 ds x).1 then 0 else lo) 255 ds (Tk 0 255 ds x).2).1, (Tk (if 0 < 256 * (256 * (256 * 0 + a) + b) + (Tk 0 255 ds x).1 then 0 else lo) 255 ds (Tk 0 255 ds x).2).2)) tk_rel (fun b l2 h2 => ?_) fun _ _ => rfl
  refine bn_rel (G := fun c x => (256 * (256 * (256 * (256 * 0 + a) + b) + c) + (Tk (if 0 < 256 * (256 * (256 * 0 + a) + b) + c then 0 else lo) 255 ds x).1, (Tk (if 0 < 256 * (256 * (256 * 0 + a) + b) + c then 0 else lo) 255 ds x).2)) tk_rel (fun c l3 h3 => ?_) fun _ _ => rfl
  have ha := (rB_ok h1).2
  have hb := (rB_ok h2).2
  have hc := (rB_ok h3).2
  have e1 : 256 * (256 * (256 * 0 + a) + b) + c = (a * 256 + b) * 256 + c := by omega
  rw [e1]
  have e2 : (if 0 < (a * 256 + b) * 256 + c then (0 : Int) else lo) = if (a * 256 + b) * 256 + c = 0 then lo else 0 := by
    split
    · rw [if_neg (by omega)]
    · rw [if_pos (by omega)]
  rw [e2]
  refine bn_rel (G := fun d x => (256 * ((a * 256 + b) * 256 + c) + d, x)) tk_rel (fun d l4 h4 => ?_) fun _ _ => rfl
  show (256 * ((a * 256 + b) * 256 + c) + d, (Except.ok l4 : Xs)) = (((a * 256 + b) * 256 + c) * 256 + d, .ok l4)
  rw [Int.mul_comm]
def Par {β : Type} (ds : List Int) (whole : Rd (List β)) (acc : List β) (x : Xs) (rest : List Int → Rd (List β)) : Prop := match x with
  | .ok l => whole = pre acc (rest l)
  | .error p => ∃ e, whole = .error e ∧ p = ds.length - e
theorem par_end {β : Type} {ds : List Int} {whole : Rd (List β)} {acc : List β} {x : Xs} (h : Par ds whole acc x fun l => .ok ([], l)) : Rel ds whole (acc, x) := by
  cases x with
  | ok l =>
    have h : whole = pre acc (.ok ([], l)) := h
    rw [h, pre_ok, List.append_nil]
    rfl
  | error p =>
    obtain ⟨e, h1, h2⟩ := h
    rw [h1, h2]
    rfl
theorem par_step {β γ : Type} {ds : List Int} {whole : Rd (List β)} {acc : List β} {x : Xs} {M : List Int → Rd γ} {L : Xs → γ × Xs} {u : γ → List β} {rest rest' : List Int → Rd (List β)} (h : Par ds whole acc x rest) (he : ∀ l, rest l = bn (M l) fun v l' => pre (u v) (rest' l')) (hM : ∀ l, Rel ds (M l) (L (.ok l))) (hL : ∀ p, (L (.error p)).2 = .error p) : Par ds whole (acc ++ u (L x).1) (L x).2 rest' := by
  cases x with
  | error p =>
    rw [hL]
    exact h
  | ok l =>
    have h : whole = pre acc (rest l) := h
    have hm := hM l
    rw [he l] at h
    cases hr : M l with
    | error e =>
      rw [hr] at hm h
      have hm : (L (.ok l)).2 = .error (ds.length - e) := hm
      rw [hm]
      exact ⟨e, h, rfl⟩
    | ok z =>
      obtain ⟨v, l'⟩ := z
      rw [hr] at hm h
      have hm : L (.ok l) = (v, .ok l') := hm
      rw [hm]
      show whole = pre (acc ++ u v) (rest' l')
      rw [h, ← pre_pre]
      rfl
theorem lri_err {ds : List Int} {p : Nat} : ∀ k, (LRi ds (.error p) k).2 = .error p
  | 0 => rfl
  | k + 1 => by
    show (Tk 0 255 ds (LRi ds (.error p) k).2).2 = _
    rw [lri_err k]
    rfl
theorem lri_rel {ds : List Int} {l : List Int} {n : Nat} : ∀ k, k ≤ n → Par ds (rBs n l) (LRi ds (.ok l) k).1 (LRi ds (.ok l) k).2 (rBs (n - k))
  | 0, _ => by
    show rBs n l = pre [] (rBs (n - 0) l)
    rw [pre_nil]
    rfl
  | k + 1, h => by
    have ih := lri_rel (ds := ds) (l := l) (n := n) k (by omega)
    have e : n - k = (n - (k + 1)) + 1 := by omega
    refine par_step (L := fun x => Tk 0 255 ds x) (u := fun v => [v]) ih (fun l' => ?_) (fun _ => tk_rel) fun _ => rfl
    rw [e]
    rfl
theorem lrow_err {ds : List Int} {lo : Int} {p : Nat} : (LRow lo ds (.error p)).2 = .error p := lri_err _
theorem lrow_rel {ds : List Int} {lo : Int} {l : List Int} : Rel ds (rR lo l) (LRow lo ds (.ok l)) := by
  unfold rR
  refine bn_rel (G := fun n x => LRi ds x n.toNat) tk_rel (fun n l1 h1 => ?_) fun n p => lri_err _
  have := lri_rel (ds := ds) (l := l1) (n := n.toNat) n.toNat (Nat.le_refl _)
  rw [Nat.sub_self] at this
  exact par_end this
theorem rBs_len : ∀ {k : Nat} {l l' p : List Int}, rBs k l = .ok (p, l') → p.length = k ∧ ∀ d ∈ p, 0 ≤ d ∧ d < 256
  | 0, l, l', p, h => by
    cases h
    exact ⟨rfl, fun _ h => nomatch h⟩
  | k + 1, l, l', p, h => by
    rw [rBs] at h
    cases hr : rB 0 255 l with
    | error e => rw [hr] at h; cases h
    | ok z =>
      obtain ⟨v, l1⟩ := z
      rw [hr] at h
      have h : pre [v] (rBs k l1) = .ok (p, l') := h
      cases hs : rBs k l1 with
      | error e => rw [hs] at h; cases h
      | ok z =>
        obtain ⟨p2, l2⟩ := z
        rw [hs, pre_ok] at h
        cases h
        obtain ⟨i1, i2⟩ := rBs_len hs
        have := (rB_ok hr).2
        refine ⟨by rw [List.length_append, i1]; simp only [List.length_cons, List.length_nil]; omega, fun d hd => ?_⟩
        rcases List.mem_append.mp hd with hd | hd
        · rw [List.mem_singleton.mp hd]
          omega
        · exact i2 d hd
theorem rR_len {lo : Int} {l l' p : List Int} (h0 : 1 ≤ lo) (h : rR lo l = .ok (p, l')) : 1 ≤ p.length ∧ p.length ≤ 4 := by
  unfold rR at h
  cases hr : rB lo 4 l with
  | error e => rw [hr] at h; cases h
  | ok z =>
    obtain ⟨v, l1⟩ := z
    rw [hr] at h
    have := rBs_len (show rBs v.toNat l1 = .ok (p, l') from h)
    have := (rB_ok hr).2
    omega
/-- a block -/
def LBk (lo : Int) (ds : List Int) (x : Xs) : Int × Xs := (blkV (LRow lo ds x).1, (LRow lo ds x).2)
theorem lbk_rel {ds : List Int} {lo : Int} {l : List Int} (h0 : 1 ≤ lo) : Rel ds (rBk lo l) (LBk lo ds (.ok l)) := by
  unfold rBk
  refine bn_rel (G := fun p x => (blkV p, x)) lrow_rel (fun p l1 h1 => ?_) fun _ _ => rfl
  have := rR_len h0 h1
  show (blkV p, (Except.ok l1 : Xs)) = (val 256 1 p, .ok l1)
  rw [blkV_eq this.1 this.2]
theorem lbk_err {ds : List Int} {lo : Int} {p : Nat} : (LBk lo ds (.error p)).2 = .error p := lrow_err
theorem lbi_err {ds : List Int} {ma : Int} {p : Nat} : ∀ k, (LBi ds ma (.error p) k).2 = .error p
  | 0 => rfl
  | k + 1 => by
    show (LRow (loA ma k) ds (LBi ds ma (.error p) k).2).2 = _
    rw [lbi_err k]
    exact lrow_err
theorem lbi_rel {ds : List Int} {l : List Int} {n : Nat} : ∀ k, k ≤ n → Par ds (rBl n l) (LBi ds (n : Int) (.ok l) k).1 (LBi ds (n : Int) (.ok l) k).2 (rBl (n - k))
  | 0, _ => by
    show rBl n l = pre [] (rBl (n - 0) l)
    rw [pre_nil]
    rfl
  | k + 1, h => by
    have ih := lbi_rel (ds := ds) (l := l) (n := n) k (by omega)
    have e : n - k = (n - (k + 1)) + 1 := by omega
    have el : loA (n : Int) k = if n - (k + 1) = 0 then 1 else 4 := by
      unfold loA
      by_cases q : n - (k + 1) = 0
      · rw [if_pos q, if_pos (by omega)]
      · rw [if_neg q, if_neg (by omega)]
    refine par_step (L := fun x => LBk (loA (n : Int) k) ds x) (u := fun v => [v]) ih (M := fun l' => rBk (loA (n : Int) k) l') (fun l' => ?_) (fun _ => lbk_rel (by unfold loA; split <;> decide)) fun _ => lbk_err
    rw [e, el]
    rfl
/-- vectors -/
theorem lvi_err {ds : List Int} {m : Int} {p : Nat} : ∀ k, (LVi ds m (.error p) k).2 = .error p
  | 0 => rfl
  | k + 1 => by
    show (LN 1 ds (Tk ((LVi ds m (.error p) k).1.1 + 1) (10 - m + (0 + (k : Nat))) ds (LVi ds m (.error p) k).2).2).2 = _
    rw [lvi_err k]
    rfl
theorem lvi_rel {ds : List Int} {l : List Int} {n : Nat} : ∀ k, k ≤ n → Par ds (rV n 0 l) (LVi ds (n : Int) (.ok l) k).1.2 (LVi ds (n : Int) (.ok l) k).2 (rV (n - k) (LVi ds (n : Int) (.ok l) k).1.1)
  | 0, _ => by
    show rV n 0 l = pre [] (rV (n - 0) 0 l)
    rw [pre_nil]
    rfl
  | k + 1, h => by
    have ih := lvi_rel (ds := ds) (l := l) (n := n) k (by omega)
    have e : n - k = (n - (k + 1)) + 1 := by omega
    rw [e] at ih
    generalize hs : LVi ds (n : Int) (.ok l) k = s at *
    obtain ⟨⟨dv, acc⟩, x⟩ := s
    have hst : LVi ds (n : Int) (.ok l) (k + 1) = (((Tk (dv + 1) (10 - (n : Int) + (0 + (k : Nat))) ds x).1, acc ++ [((Tk (dv + 1) (10 - (n : Int) + (0 + (k : Nat))) ds x).1, (LN 1 ds (Tk (dv + 1) (10 - (n : Int) + (0 + (k : Nat))) ds x).2).1)]), (LN 1 ds (Tk (dv + 1) (10 - (n : Int) + (0 + (k : Nat))) ds x).2).2) := by
      rw [LVi, hs]
    rw [hst]
    have eb : (10 - (n : Int) + (0 + (k : Nat))) = 9 - ((n - (k + 1) : Nat) : Int) := by omega
    rw [eb]
    cases x with
    | error p => exact ih
    | ok l' =>
      have ih : rV n 0 l = pre acc (rV ((n - (k + 1)) + 1) dv l') := ih
      rw [rV] at ih
      have ht := tk_rel (ds := ds) (lo := dv + 1) (hi := 9 - ((n - (k + 1) : Nat) : Int)) (l := l')
      cases hr : rB (dv + 1) (9 - ((n - (k + 1) : Nat) : Int)) l' with
      | error e =>
        rw [hr] at ih ht
        have ht : (Tk (dv + 1) (9 - ((n - (k + 1) : Nat) : Int)) ds (.ok l')).2 = .error (ds.length - e) := ht
        show Par ds _ _ (LN 1 ds (Tk (dv + 1) (9 - ((n - (k + 1) : Nat) : Int)) ds (.ok l')).2).2 _
        rw [ht, ln_err]
        exact ⟨e, ih, rfl⟩
      | ok z =>
        obtain ⟨d, l2⟩ := z
        rw [hr] at ih ht
        have ht : Tk (dv + 1) (9 - ((n - (k + 1) : Nat) : Int)) ds (.ok l') = (d, .ok l2) := ht
        rw [ht]
        have hn := ln_rel (ds := ds) (lo := 1) (l := l2)
        have ih : rV n 0 l = pre acc (bn (rN 1 l2) fun n' l => pre [(d, n')] (rV (n - (k + 1)) d l)) := ih
        cases hq : rN 1 l2 with
        | error e =>
          rw [hq] at ih hn
          have hn : (LN 1 ds (.ok l2)).2 = .error (ds.length - e) := hn
          show Par ds _ _ (LN 1 ds (.ok l2)).2 _
          rw [hn]
          exact ⟨e, ih, rfl⟩
        | ok z =>
          obtain ⟨c, l3⟩ := z
          rw [hq] at ih hn
          have hn : LN 1 ds (.ok l2) = (c, .ok l3) := hn
          rw [hn]
          show rV n 0 l = pre (acc ++ [(d, c)]) (rV (n - (k + 1)) d l3)
          rw [ih, ← pre_pre]
          rfl
theorem lvec_err {ds : List Int} {p : Nat} : (LVec ds (.error p)).2 = .error p := lvi_err _
theorem lvec_rel {ds : List Int} {l : List Int} : Rel ds (rVec l) (LVec ds (.ok l)) := by
  unfold rVec
  refine bn_rel (G := fun n x => ((LVi ds n x n.toNat).1.2, (LVi ds n x n.toNat).2)) tk_rel (fun n l1 h1 => ?_) fun n p => lvi_err _
  have hn := (rB_ok h1).2
  obtain ⟨m, rfl⟩ := Int.eq_ofNat_of_zero_le (show 0 ≤ n by omega)
  have := lvi_rel (ds := ds) (l := l1) (n := m) m (Nat.le_refl _)
  rw [Nat.sub_self] at this
  exact par_end this
/-- names -/
theorem fnd_eq {c : Int} (h : 45 ≤ c) : fnd c = if c.toNat ∈ CHS then [c.toNat] else [] := by
  have gen : ∀ l : List Nat, l.Nodup → (l.filter fun (z : Nat) => decide ((z : Int) = c)) = if c.toNat ∈ l then [c.toNat] else [] := by
    intro l
    induction l with
    | nil => intro _; rfl
    | cons a l ih =>
      intro hn
      rw [List.nodup_cons] at hn
      by_cases e : (a : Int) = c
      · have ea : c.toNat = a := by omega
        rw [List.filter_cons_of_pos (by simp [e]), ih hn.2, ea, if_neg hn.1, if_pos (by simp)]
      · have ea : ¬ c.toNat = a := by omega
        rw [List.filter_cons_of_neg (by simp [e]), ih hn.2]
        by_cases q : c.toNat ∈ l
        · rw [if_pos q, if_pos (List.mem_cons_of_mem _ q)]
        · rw [if_neg q, if_neg (by simp [ea, q])]
  exact gen CHS chs_nd
theorem lci_err {ds : List Int} {p : Nat} : ∀ k, (LCi ds (.error p) k).2 = .error p
  | 0 => rfl
  | k + 1 => by
    show LCf ds _ (Tk 45 126 ds (LCi ds (.error p) k).2).2 = _
    rw [lci_err k]
    rfl
theorem lci_rel {ds : List Int} {l : List Int} {n : Nat} : ∀ k, k ≤ n → Par ds (rC n l) (LCi ds (.ok l) k).1 (LCi ds (.ok l) k).2 (rC (n - k))
  | 0, _ => by
    show rC n l = pre [] (rC (n - 0) l)
    rw [pre_nil]
    rfl
  | k + 1, h => by
    have ih := lci_rel (ds := ds) (l := l) (n := n) k (by omega)
    have e : n - k = (n - (k + 1)) + 1 := by omega
    rw [e] at ih
    generalize hs : LCi ds (.ok l) k = s at *
    obtain ⟨acc, x⟩ := s
    have hst : LCi ds (.ok l) (k + 1) = (acc ++ fnd (Tk 45 126 ds x).1, LCf ds (fnd (Tk 45 126 ds x).1) (Tk 45 126 ds x).2) := by
      rw [LCi, hs]
    rw [hst]
    cases x with
    | error p => exact ih
    | ok l' =>
      have ih : rC n l = pre acc (rC ((n - (k + 1)) + 1) l') := ih
      rw [rC] at ih
      cases l' with
      | nil => exact ⟨0, ih, rfl⟩
      | cons c r =>
        by_cases hr : 0 ≤ c ∧ c ≤ 255
        · rw [rB_pos hr] at ih
          have ih : rC n l = pre acc (match chO c with
            | none => .error (r.length + 1)
            | some z => pre [z] (rC (n - (k + 1)) r)) := ih
          by_cases h4 : 45 ≤ c ∧ c ≤ 126
          · have ht : Tk 45 126 ds (.ok (c :: r)) = (c, .ok r) := by
              unfold Tk
              simp only [rB_pos h4]
            rw [ht]
            show Par ds _ (acc ++ fnd c) (LCf ds (fnd c) (.ok r)) _
            rw [fnd_eq h4.1]
            unfold chO at ih
            by_cases hm : c.toNat ∈ CHS
            · rw [if_pos ⟨h4.1, h4.2, hm⟩] at ih
              rw [if_pos hm]
              show rC n l = pre (acc ++ [c.toNat]) (rC (n - (k + 1)) r)
              rw [ih, ← pre_pre]
            · rw [if_neg (fun q => hm q.2.2)] at ih
              rw [if_neg hm]
              exact ⟨r.length + 1, ih, by omega⟩
          · have ht : Tk 45 126 ds (.ok (c :: r)) = (45, .error (ds.length - (r.length + 1))) := by
              unfold Tk
              simp only [rB_neg h4]
            rw [ht]
            unfold chO at ih
            rw [if_neg (fun q => h4 ⟨q.1, q.2.1⟩)] at ih
            exact ⟨r.length + 1, ih, rfl⟩
        · have ht : Tk 45 126 ds (.ok (c :: r)) = (45, .error (ds.length - (r.length + 1))) := by
            unfold Tk
            simp only [rB_neg (show ¬ (45 ≤ c ∧ c ≤ 126) by omega)]
          rw [rB_neg hr] at ih
          rw [ht]
          exact ⟨r.length + 1, ih, rfl⟩
theorem lnm_err {ds : List Int} {p : Nat} : (LNm ds (.error p)).2 = .error p := lci_err _
theorem lnm_rel {ds : List Int} {l : List Int} : Rel ds (rNm l) (LNm ds (.ok l)) := by
  unfold rNm
  refine bn_rel (G := fun n x => LCi ds x n.toNat) tk_rel (fun n l1 h1 => ?_) fun n p => lci_err _
  have := lci_rel (ds := ds) (l := l1) (n := n.toNat) n.toNat (Nat.le_refl _)
  rw [Nat.sub_self] at this
  exact par_end this
section
variable {num : Int} {nm : List Nat} {ve : List (Int × Int)} {h md mn de ti ma : Int} {ds : List Int} {p : Nat}
theorem le9_err : (LE9 num nm ve h md mn de ti ma ds (.error p)).2 = .error p := lbi_err _
theorem le8_err : (LE8 num nm ve h md mn de ti ds (.error p)).2 = .error p := le9_err
theorem le7_err : (LE7 num nm ve h md mn de ds (.error p)).2 = .error p := le8_err
theorem le6_err : (LE6 num nm ve h md mn ds (.error p)).2 = .error p := le7_err
theorem le5_err : (LE5 num nm ve h md ds (.error p)).2 = .error p := le6_err
theorem le4_err : (LE4 num nm ve h ds (.error p)).2 = .error p := le5_err
theorem le3_err : (LE3 num nm ve ds (.error p)).2 = .error p := le4_err
theorem le2_err : (LE2 num nm ds (.error p)).2 = .error p := by
  unfold LE2
  rw [lvec_err]
  exact le3_err
theorem le1_err : (LE1 num ds (.error p)).2 = .error p := by
  unfold LE1
  rw [lnm_err]
  exact le2_err
end
theorem le_rel {ds : List Int} {l : List Int} : Rel ds (rE l) (LE ds (.ok l)) := by
  unfold rE
  refine bn_rel (G := fun num x => LE1 num ds x) ln_rel (fun num l h => ?_) fun _ _ => le1_err
  refine bn_rel (G := fun nm x => LE2 num nm ds x) lnm_rel (fun nm l h => ?_) fun _ _ => le2_err
  refine bn_rel (G := fun ve x => LE3 num nm ve ds x) lvec_rel (fun ve l h => ?_) fun _ _ => le3_err
  refine bn_rel (G := fun h x => LE4 num nm ve h ds x) ln_rel (fun h l _ => ?_) fun _ _ => le4_err
  refine bn_rel (G := fun md x => LE5 num nm ve h md ds x) tk_rel (fun md l _ => ?_) fun _ _ => le5_err
  refine bn_rel (G := fun mn x => LE6 num nm ve h md mn ds x) ln_rel (fun mn l _ => ?_) fun _ _ => le6_err
  refine bn_rel (G := fun de x => LE7 num nm ve h md mn de ds x) tk_rel (fun de l hde => ?_) fun _ _ => le7_err
  refine bn_rel (G := fun ti x => LE8 num nm ve h md mn de ti ds x) ln_rel (fun ti l _ => ?_) fun _ _ => le8_err
  have bde := (rB_ok hde).2
  have e : (255 * (1 - de)) = if de = 1 then 0 else 255 := by
    split <;> omega
  show Rel ds (rE8 num nm ve h md mn de ti l) (LE9 num nm ve h md mn de ti (Tk 0 (255 * (1 - de)) ds (.ok l)).1 ds (Tk 0 (255 * (1 - de)) ds (.ok l)).2)
  rw [e]
  refine bn_rel (G := fun ma x => LE9 num nm ve h md mn de ti ma ds x) tk_rel (fun ma l hma => ?_) fun _ _ => le9_err
  have hm := (rB_ok hma).2
  obtain ⟨m, rfl⟩ := Int.eq_ofNat_of_zero_le hm.1
  have hb := lbi_rel (ds := ds) (l := l) (n := m) m (Nat.le_refl _)
  rw [Nat.sub_self] at hb
  have hb := par_end (acc := (LBi ds (m : Int) (.ok l) m).1) (x := (LBi ds (m : Int) (.ok l) m).2) hb
  exact bn_rel (y := ((LBi ds (m : Int) (.ok l) m).1, (LBi ds (m : Int) (.ok l) m).2)) (G := fun bl x => (((⟨nm, ve, h, md, mn, decide (de = 1), ti, bl⟩ : EF), num), x)) hb (fun bl l _ => rfl) fun _ _ => rfl
end K47
namespace K47
open PySem L2 Hz
local macro_rules | `(tactic| array_mem_dec) => `(tactic| (first | ((with_reducible apply w_xf); exact rfl; exact decide_eq_true rfl; exact rfl) | ((with_reducible apply w_frzS); exact rfl; (first | assumption | exact aset_same); (try simp only [List.set])) | ((with_reducible apply rg1_of); (first | omega | decide)) | ((with_reducible apply rg2_of); (first | omega | decide)) | ((with_reducible apply lok); exact rfl) | ((with_reducible refine it2_dec ?_ ?_) <;> intro)))
local macro_rules | `(tactic| array_mem_dec) => `(tactic| (first | ((with_reducible apply oq_setv2); (simp only [List.set, wipeA]; exact rfl)) | ((with_reducible apply cal_of); exact rfl; (try simp only [List.cons_append, List.nil_append, List.append_nil])) | ((with_reducible apply w_aug); exact rfl) | ((with_reducible apply cel_of); (first | assumption | exact aset_same)) | ((with_reducible apply ceo_of); (first | assumption | exact aset_same)) | ((with_reducible apply tlG_r); (first | assumption | exact aset_same)) | ((with_reducible apply fr_of); (first | assumption | exact aset_same)) | ((with_reducible apply fd_cons); exact trivial) | ((with_reducible apply fd_nil); exact trivial) | ((with_reducible apply oq_isiB (b := true)); exact rfl) | ((with_reducible apply oq_isiB (b := false)); exact rfl) | ((with_reducible apply w_xi); exact rfl; exact decide_eq_true rfl; exact if_pos rfl)))
local macro_rules | `(tactic| array_mem_dec) => `(tactic| (with_reducible first | refine pr2_of ?_ | refine oq_and255 ?_))
local macro_rules | `(tactic| array_mem_dec) => `(tactic| (with_reducible first | refine tb_b ?_ | refine ti_b ?_ | refine ts_b ?_ | refine we_nx ?_ | refine we_rt ?_ | refine we_ex ?_ | refine wn_nx ?_ | refine wn_rt ?_ | refine wn_bk ?_ | refine wn_ct ?_ | refine wn_ex ?_ | refine wl_nx ?_ | refine wl_rt ?_ | refine wl_bk ?_ | refine wl_ct ?_ | refine wl_ex ?_ | refine wx_nx ?_ | refine wx_rt ?_ | refine wx_bk ?_ | refine wx_ct ?_ | refine wx_ex ?_ | refine wh_nx ?_ | refine wh_rt ?_ | refine wh_bk ?_ | refine wh_ct ?_ | refine it2_t ?_ | refine it2_f ?_ | refine it2_not ?_ | refine tlG_l ?_ | refine ttG_t ?_))
local macro_rules | `(tactic| array_mem_dec) => `(tactic| ((with_reducible refine oq_id ?_); (first | (with_reducible first | refine vw_i ?_ | refine vw_s ?_ | refine vw_b ?_ | refine vw_n ?_ | refine vw_l ?_ | refine vw_t ?_ | refine vw_sc ?_ | refine vw_o ?_ | refine mv_nil ?_ | refine mv_cons ?_ | refine oq_tgNil ?_ | refine oq_tgCons ?_ | refine oq_add_i ?_ | refine oq_sub ?_ | refine oq_lt ?_ | refine oq_le ?_ | refine oq_gt ?_ | refine oq_ge ?_ | refine oq_eq_i ?_ | refine oq_ne_i ?_ | refine oq_eq_s ?_ | refine oq_ne_s ?_ | refine oq_eq_b ?_ | refine oq_ne_b ?_ | refine oq_is ?_ | refine oq_isNot ?_ | refine oq_in_s ?_ | refine oq_notIn_s ?_ | refine oq_len_l ?_ | refine oq_len_t ?_ | refine oq_int ?_ | refine oq_abs ?_ | refine oq_ord ?_ | refine oq_cut_l ?_ | refine oq_cut_t ?_ | refine oq_list_l ?_ | refine oq_list_t ?_ | refine oq_tuple_l ?_ | refine oq_tuple_t ?_ | refine oq_max2 ?_ | refine oq_min2 ?_ | refine oq_some ?_ | refine oq_len_sc ?_ | refine oq_eq_il ?_ | refine oq_ne_il ?_ | refine oq_eq_it ?_ | refine oq_ne_it ?_ | refine oq_lt_il ?_ | refine oq_lt_it ?_ | refine oq_iadd_i ?_ | refine oq_isT ?_ | refine oq_isNotT ?_) | (first | ((with_reducible apply oq_tgTup); exact rfl) | ((with_reducible apply oq_ix_lk); exact rfl) | ((with_reducible apply oq_ix_tk); exact rfl) | ((with_reducible apply vw_r); (first | assumption | exact aset_same)) | ((with_reducible apply oq_ixN_k); exact rfl; (try simp only [List.set, Int.reduceToNat])) | ((with_reducible apply oq_mod); (first | omega | decide)) | ((with_reducible apply oq_div); (first | omega | decide)) | ((with_reducible apply oq_mul); (first | omega | decide)) | ((with_reducible apply oq_pow); (first | omega | decide)) | ((with_reducible apply oq_shl); (first | omega | decide)) | ((with_reducible apply oq_shr); (first | omega | decide)) | ((with_reducible apply oq_add_s); (first | omega | decide))) | (first | ((with_reducible apply oq_len_s); (first | omega | decide)) | ((with_reducible apply oq_cut_s); (first | omega | decide)) | ((with_reducible apply oq_append); (first | omega | decide)) | ((with_reducible apply oq_insert); (first | omega | decide)) | ((with_reducible apply oq_rep); (first | omega | decide)) | ((with_reducible apply oq_cat); (first | omega | decide))))))
local macro_rules | `(tactic| array_mem_dec) => `(tactic| (with_reducible first | refine w_list ?_ | refine w_tuple ?_ | refine w_str ?_ | refine w_range1 ?_ | refine w_range2 ?_ | refine w_range3 ?_ | refine w_next ?_ | refine w_break ?_ | refine w_cont ?_ | refine w_drop ?_ | refine w_ret ?_ | refine w_retN ?_ | refine w_if ?_ | refine w_asg ?_ | refine w_raise ?_ | refine w_fld ?_ | refine w_seta ?_ | refine w_auga ?_ | refine w_seti ?_ | refine w_mut ?_ | refine w_frz ?_ | refine w_new ?_ | refine w_ext ?_ | refine w_for ?_ | refine w_lc ?_ | refine w_tryA ?_ | refine w_try ?_ | refine w_par ?_))
local macro_rules | `(tactic| array_mem_dec) => `(tactic| (first | ((with_reducible apply w_kV); exact rfl) | (with_reducible first | refine w_kC ?_ | refine w_bop ?_ | refine w_tst ?_ | refine w_val ?_ | refine w_and ?_ | refine w_or ?_ | refine w_not ?_ | refine w_andV ?_ | refine w_orV ?_ | refine w_chain ?_ | refine w_ifK ?_ | refine w_nil ?_ | refine w_cons ?_ | refine w_tup ?_ | refine w_lst ?_ | refine w_call ?_ | refine w_neg ?_ | refine w_b1 ?_ | refine w_bn ?_ | refine w_isi ?_ | refine w_met ?_ | refine w_pnone ?_ | refine w_psome ?_ | refine w_cut ?_ | refine w_yes ?_)))
local macro_rules | `(tactic| array_get_dec) => `(tactic| (with_reducible refine w_seqB ?_))
local macro_rules | `(tactic| array_get_dec) => `(tactic| array_mem_dec)
local macro_rules | `(tactic| decreasing_trivial_pre_omega) => `(tactic| (with_reducible refine w_seq ?_))
local macro_rules | `(tactic| decreasing_trivial_pre_omega) => `(tactic| array_mem_dec)
local macro_rules | `(tactic| sizeOf_list_dec) => `(tactic| (try simp only [List.set, Int.reduceToNat, List.map_cons, List.map_nil, Nat.reduceSub, List.reduceReplicate, List.cons_append, List.nil_append, wipeA, aset_aset, List.getElem?_cons_zero, List.getElem?_cons_succ]))
variable {CE CR CF CB CI gX : Nat} {α : AH} {Q : QD} {E : QX}
def ilD (l : List Int) : D := .list (l.map .int)
theorem vw_il {l : List Int} {R : D → Prop} (h : R (ilD l)) : oq (vw α (ilD l)) R := ⟨_, rfl, h⟩
theorem len_il {l : List Int} {R : D → Prop} (h : R (.int (l.length : Nat))) : oq (dLen [ilD l]) R := ⟨_, by
  show (some (PyData.int ((l.map PyData.int).length : Nat))) = _
  rw [List.length_map], h⟩
theorem list_il {l : List Int} {R : D → Prop} (h : R (ilD l)) : oq (dList [ilD l]) R := ⟨_, rfl, h⟩
theorem add_il {a b : List Int} {R : D → Prop} (hl : a.length + b.length ≤ 100000) (h : R (ilD (a ++ b))) : oq (dAdd (ilD a) (ilD b)) R := by
  refine oq_add_l (ds := a.map .int) (es := b.map .int) (by rw [List.length_map, List.length_map]; exact hl) ?_
  rw [← List.map_append]
  exact h
local macro_rules | `(tactic| array_mem_dec) => `(tactic| (with_reducible first | refine vw_il ?_ | refine len_il ?_ | refine list_il ?_))
def four (n : Int) : List Int := [n / 16777216, n / 65536 % 256, n / 256 % 256, n % 256]
def wNm (nm : List Nat) : List Int := (nm.length : Int) :: nm.map Int.ofNat
def wVe (ve : List (Int × Int)) : List Int := (ve.length : Int) :: ve.flatMap fun x => x.1 :: four x.2
def wBk (p : List Int) : List Int := (p.length : Int) :: p
theorem nb_go {n : Int} (h : Q (ilD (four n)) α) : f_number_bytes CE CR CF CB CI gX [.int n] α Q E := by
  refine (?_ : pu _ _ _) α Q E h
  unfold f_number_bytes m_number_bytes
  refine pu_P rfl fun α R X hR => ?_
  sizeOf_list_dec
  (repeat' decreasing_trivial_pre_omega)
  exact hR
theorem lf_go {n : Int} (h : Q (ilD (four n)) α) : f_law_four CE CR CF CB CI gX [.int n] α Q E := by
  refine (?_ : pu _ _ _) α Q E h
  unfold f_law_four m_law_four
  refine pu_P rfl fun α R X hR => ?_
  sizeOf_list_dec
  (repeat' decreasing_trivial_pre_omega)
  exact hR
theorem nmb_go {nm : List Nat} (hl : nm.length ≤ 1000) (h : Q (ilD (wNm nm)) α) : f_name_bytes CE CR CF CB CI gX [.str (S nm)] α Q E := by
  unfold f_name_bytes m_name_bytes
  refine w_runP rfl ?_
  sizeOf_list_dec
  (repeat' array_get_dec)
  refine oq_len_S (by omega) ?_
  (repeat' array_get_dec)
  rw [S_chars]
  refine lc_map nm (fun k => .str (S [k])) (fun k => .int (k : Nat)) rfl (by omega) trivial (fun z hz => ⟨_, rfl, fun R hR => ?_⟩) ?_
  · sizeOf_list_dec
    (repeat' array_get_dec)
    refine oq_ord (k := z) ?_
    exact hR
  (repeat' array_get_dec)
  refine oq_add_l (by rw [List.length_map]; simp only [List.length_cons, List.length_nil]; omega) ?_
  (repeat' array_get_dec)
  rw [arst_self]
  unfold ilD wNm at h
  rw [List.map_cons, List.map_map] at h
  exact h
theorem lnw_go {nm : List Nat} (hl : nm.length ≤ 1000) (h : Q (ilD (wNm nm)) α) : f_law_name_written CE CR CF CB CI gX [.str (S nm)] α Q E := by
  unfold f_law_name_written m_law_name_written
  refine w_runP rfl ?_
  sizeOf_list_dec
  (repeat' array_get_dec)
  refine oq_len_S (by omega) ?_
  (repeat' array_get_dec)
  rw [S_chars]
  refine lc_map nm (fun k => .str (S [k])) (fun k => .int (k : Nat)) rfl (by omega) trivial (fun z hz => ⟨_, rfl, fun R hR => ?_⟩) ?_
  · sizeOf_list_dec
    (repeat' array_get_dec)
    refine oq_ord (k := z) ?_
    exact hR
  (repeat' array_get_dec)
  refine oq_add_l (by rw [List.length_map]; simp only [List.length_cons, List.length_nil]; omega) ?_
  (repeat' array_get_dec)
  rw [arst_self]
  unfold ilD wNm at h
  rw [List.map_cons, List.map_map] at h
  exact h
theorem wVe_len {ve : List (Int × Int)} : (ve.flatMap fun x => x.1 :: four x.2).length = 5 * ve.length := by
  induction ve with
  | nil => rfl
  | cons a l ih =>
    rw [List.flatMap_cons, List.length_append, ih]
    show 5 + _ = 5 * (l.length + 1)
    omega
theorem veb_go {ve : List (Int × Int)} (hl : ve.length ≤ 1000) (h : Q (ilD (wVe ve)) α) : f_vector_bytes CE CR CF CB CI gX [.tuple (ve.map vD)] α Q E := by
  unfold f_vector_bytes m_vector_bytes
  refine w_runP rfl ?_
  sizeOf_list_dec
  (repeat' array_get_dec)
  rw [List.length_map]
  intro p hp
  (repeat' array_get_dec)
  try refine bar_of ?_
  sizeOf_list_dec
  (repeat' array_get_dec)
  refine for_map (xs := ve) (u := vD) rfl (fun k ρ α' => ∃ x2 x3, ρ = [some (.tuple (ve.map vD)), some (dref p), x2, x3] ∧ α' = aset α p (ilD ((ve.length : Int) :: (ve.take k).flatMap fun x => x.1 :: four x.2))) ⟨none, none, rfl, rfl⟩ ?_ ?_
  · rintro ρ _ ⟨x2, x3, rfl, rfl⟩
    rw [List.take_length]
    (repeat' array_get_dec)
    try refine bar_of ?_
    sizeOf_list_dec
    (repeat' array_get_dec)
    rw [adel_aset hp, arst_self]
    exact h
  · rintro k hk ρ _ ⟨x2, x3, rfl, rfl⟩ X hX
    have hta := List.take_append_getElem hk
    have hle := wVe_len (ve := ve.take k)
    rw [List.length_take] at hle
    generalize ve[k] = y at *
    obtain ⟨d, c⟩ := y
    simp only [vD]
    (repeat' array_get_dec)
    refine oq_append (by rw [List.length_map, List.length_cons, hle]; omega) ?_
    (repeat' array_get_dec)
    try refine bar_of ?_
    sizeOf_list_dec
    (repeat' array_get_dec)
    refine nb_go ?_
    (repeat' array_get_dec)
    refine exD_of rfl ⟨by simp only [List.length_cons, List.length_append, List.length_map, List.length_nil, hle, show (four c).length = 4 from rfl]; omega, ?_⟩
    (repeat' array_get_dec)
    refine hX _ _ ⟨_, _, rfl, ?_⟩
    rw [← hta, List.flatMap_append, List.flatMap_cons, List.flatMap_nil, List.append_nil]
    try rw [aset_aset]
    unfold ilD
    simp only [List.map_cons, List.map_append, List.map_nil, List.cons_append, List.append_assoc, List.nil_append]
theorem lvw_go {ve : List (Int × Int)} (hl : ve.length ≤ 1000) (h : Q (ilD (wVe ve)) α) : f_law_vector_written CE CR CF CB CI gX [.tuple (ve.map vD)] α Q E := by
  unfold f_law_vector_written m_law_vector_written
  refine w_runP rfl ?_
  sizeOf_list_dec
  (repeat' array_get_dec)
  rw [List.length_map]
  try refine bar_of ?_
  sizeOf_list_dec
  (repeat' array_get_dec)
  refine for_map (xs := ve) (u := vD) rfl (fun k ρ α' => ∃ x2 x3, ρ = [some (.tuple (ve.map vD)), some (ilD ((ve.length : Int) :: (ve.take k).flatMap fun x => x.1 :: four x.2)), x2, x3] ∧ α = α') ⟨none, none, rfl, rfl⟩ ?_ ?_
  · rintro ρ _ ⟨x2, x3, rfl, rfl⟩
    rw [List.take_length]
    (repeat' array_get_dec)
    try refine bar_of ?_
    sizeOf_list_dec
    (repeat' array_get_dec)
    rw [arst_self]
    exact h
  · rintro k hk ρ _ ⟨x2, x3, rfl, rfl⟩ X hX
    have hta := List.take_append_getElem hk
    have hle := wVe_len (ve := ve.take k)
    rw [List.length_take] at hle
    generalize ve[k] = y at *
    obtain ⟨d, c⟩ := y
    simp only [vD]
    (repeat' array_get_dec)
    refine add_il (b := [d]) (by simp only [List.length_cons, List.length_nil, hle]; omega) ?_
    (repeat' array_get_dec)
    refine lf_go ?_
    (repeat' array_get_dec)
    refine add_il (by simp only [List.length_cons, List.length_append, List.length_nil, hle, show (four c).length = 4 from rfl]; omega) ?_
    (repeat' array_get_dec)
    refine hX _ _ ⟨some (.int d), some (.int c), ?_, rfl⟩
    rw [← hta, List.flatMap_append, List.flatMap_cons, List.flatMap_nil, List.append_nil]
    simp only [List.cons_append, List.append_assoc, List.nil_append]
theorem val_app (b : Int) : ∀ (l : List Int) (a d : Int), val b a (l ++ [d]) = val b a l * b + d
  | [], a, d => rfl
  | x :: l, a, d => val_app b l (a * b + x) d
def bs (n : Int) : Int := if n / 256 = 1 then 1 else if n / 65536 = 1 then 2 else if n / 16777216 = 1 then 3 else if n / 4294967296 = 1 then 4 else 0
theorem bs_cases (n : Int) : (bs n = 1 ∧ 256 ≤ n ∧ n < 512) ∨ (bs n = 2 ∧ 65536 ≤ n ∧ n < 131072) ∨ (bs n = 3 ∧ 16777216 ≤ n ∧ n < 33554432) ∨ (bs n = 4 ∧ 4294967296 ≤ n ∧ n < 8589934592) ∨ (bs n = 0 ∧ (n < 256 ∨ 512 ≤ n) ∧ (n < 65536 ∨ 131072 ≤ n) ∧ (n < 16777216 ∨ 33554432 ≤ n) ∧ (n < 4294967296 ∨ 8589934592 ≤ n)) := by
  unfold bs
  repeat' split
  all_goals omega
theorem bs_go {n : Int} (h : Q (.int (bs n)) α) : f_block_size CE CR CF CB CI gX [.int n] α Q E := by
  refine (?_ : pu _ _ _) α Q E h
  unfold f_block_size m_block_size
  refine pu_P rfl fun α R X hR => ?_
  have e1 : n / 2 ^ ((8 : Int) * 1).toNat = n / 256 := rfl
  have e2 : n / 2 ^ ((8 : Int) * 2).toNat = n / 65536 := rfl
  have e3 : n / 2 ^ ((8 : Int) * 3).toNat = n / 16777216 := rfl
  have e4 : n / 2 ^ ((8 : Int) * 4).toNat = n / 4294967296 := rfl
  have hR : ∀ z, z = bs n → R (.int z) α := fun z e => e ▸ hR
  sizeOf_list_dec
  (repeat' decreasing_trivial_pre_omega)
  rw [show nums 1 ((4 : Int) + 1 - 1).toNat = [.int 1, .int 2, .int 3, .int 4] from rfl]
  (repeat' decreasing_trivial_pre_omega)
  all_goals simp only [e1, e2, e3, e4] at *
  all_goals (refine hR _ ?_; unfold bs; simp [*])
local macro_rules | `(tactic| array_mem_dec) => `(tactic| (with_reducible first | refine bs_go ?_))
theorem is_go {n : Int} (h : Q (.bool (decide (0 < bs n))) α) : f_is_block CE CR CF CB CI gX [.int n] α Q E := by
  refine (?_ : pu _ _ _) α Q E h
  unfold f_is_block m_is_block
  refine pu_P rfl fun α R X hR => ?_
  sizeOf_list_dec
  (repeat' decreasing_trivial_pre_omega)
  exact hR
local macro_rules | `(tactic| array_mem_dec) => `(tactic| (with_reducible first | refine is_go ?_))
def okp (p : List Int) : Prop := p.length ≤ 4 ∧ p ≠ [] ∧ ∀ d ∈ p, 0 ≤ d ∧ d < 256
theorem val_ge : ∀ (l : List Int) (a : Int), 1 ≤ a → (∀ d ∈ l, 0 ≤ d ∧ d < 256) → 1 ≤ val 256 a l
  | [], a, h, _ => h
  | d :: l, a, h, k => val_ge l (a * 256 + d) (by have := (k d List.mem_cons_self).1; omega) fun x hx => k x (List.mem_cons_of_mem _ hx)
theorem bs_val {p : List Int} (h : okp p) : bs (val 256 1 p) = p.length := by
  obtain ⟨l, ne, d⟩ := h
  match p, l, ne, d with
  | [a], _, _, d =>
    have ha := d a (by simp)
    have := bs_cases (val 256 1 [a])
    simp only [val, List.length_cons, List.length_nil] at *
    omega
  | [a, b], _, _, d =>
    have ha := d a (by simp)
    have hb := d b (by simp)
    have := bs_cases (val 256 1 [a, b])
    simp only [val, List.length_cons, List.length_nil] at *
    omega
  | [a, b, c], _, _, d =>
    have ha := d a (by simp)
    have hb := d b (by simp)
    have hc := d c (by simp)
    have := bs_cases (val 256 1 [a, b, c])
    simp only [val, List.length_cons, List.length_nil] at *
    omega
  | [a, b, c, e], _, _, d =>
    have ha := d a (by simp)
    have hb := d b (by simp)
    have hc := d c (by simp)
    have he := d e (by simp)
    have := bs_cases (val 256 1 [a, b, c, e])
    simp only [val, List.length_cons, List.length_nil] at *
    omega
theorem bb_go {p : List Int} (hp : okp p) (h : Q (.list (p.map .int)) α) : f_block_bytes CE CR CF CB CI gX [.int (val 256 1 p)] α Q E := by
  unfold f_block_bytes m_block_bytes
  refine w_runP rfl ?_
  have hb := bs_val hp
  have hl : 0 < p.length := List.length_pos_iff.mpr hp.2.1
  sizeOf_list_dec
  (repeat' decreasing_trivial_pre_omega)
  · intro q hq
    (repeat' decreasing_trivial_pre_omega)
    refine w_while (fun m ρ α' => ∃ l acc : List Int, p = l ++ acc ∧ l.length = m ∧ ρ = [some (.int (val 256 1 l)), some (dref q)] ∧ α' = aset α q (.list (acc.map .int))) p.length ⟨p, [], by simp, rfl, rfl, rfl⟩ ?_
    rintro m _ _ ⟨l, acc, e, hm, rfl, rfl⟩ X hX
    have hd : ∀ d ∈ l, 0 ≤ d ∧ d < 256 := fun d hd => hp.2.2 d (by rw [e]; exact List.mem_append_left _ hd)
    (repeat' decreasing_trivial_pre_omega)
    · rename_i h1
      rcases List.eq_nil_or_concat l with rfl | ⟨l', d, rfl⟩
      · exact absurd h1 (by show ¬ (1 : Int) < 1; decide)
      · rw [List.concat_eq_append] at *
        have dd := hd d (by simp)
        have := congrArg List.length e
        have hp4 := hp.1
        simp only [List.length_append, List.length_cons, List.length_nil] at this hm
        refine oq_insert (by rw [List.length_map]; omega) ?_
        (repeat' decreasing_trivial_pre_omega)
        rw [val_app]
        refine hX l'.length _ _ (by omega) ⟨l', d :: acc, by rw [e]; simp, rfl, ?_, ?_⟩
        · have : (val 256 1 l' * 256 + d) / 256 = val 256 1 l' := by omega
          rw [this]
        · have : (val 256 1 l' * 256 + d) % 256 = d := by omega
          rw [aset_aset, this]
          rfl
    · rename_i h1
      rcases List.eq_nil_or_concat l with rfl | ⟨l', d, rfl⟩
      · (repeat' decreasing_trivial_pre_omega)
        rw [adel_aset hq, arst_self]
        rw [List.nil_append] at e
        rw [← e]
        exact h
      · rw [List.concat_eq_append] at *
        have dd := hd d (by simp)
        have := val_ge l' 1 (by omega) fun x hx => hd x (by simp [hx])
        rw [val_app] at h1
        omega
  · omega
theorem db_go {p : List Int} (hp : p.length ≤ 1000) (h : Q (ilD (wBk p)) α) : f_data_bytes CE CR CF CB CI gX [.list (p.map .int)] α Q E := by
  refine (?_ : pu _ _ _) α Q E h
  unfold f_data_bytes m_data_bytes
  refine pu_P rfl fun α R X hR => ?_
  sizeOf_list_dec
  (repeat' array_get_dec)
  refine oq_add_l (by rw [List.length_map]; simp only [List.length_cons, List.length_nil]; omega) ?_
  (repeat' array_get_dec)
  rw [List.length_map]
  exact hR
theorem lbw_go {p : List Int} (hp : okp p) (h : Q (ilD (wBk p)) α) : f_law_block_written CE CR CF CB CI gX [.int (val 256 1 p)] α Q E := by
  unfold f_law_block_written m_law_block_written
  refine w_runP rfl ?_
  sizeOf_list_dec
  (repeat' array_get_dec)
  try refine bar_of ?_
  sizeOf_list_dec
  (repeat' array_get_dec)
  refine for_nums (fun j ρ α' => ∃ (l acc : List Int) (x2 : Option D), p = l ++ acc ∧ l.length = p.length - j ∧ ρ = [some (.int (val 256 1 l)), some (ilD acc), x2] ∧ α = α') ⟨p, [], none, by simp, rfl, rfl, rfl⟩ ?_ ?_
  · rintro ρ _ ⟨l, acc, x2, e, hl, rfl, rfl⟩
    have e4 : (4 : Int).toNat = 4 := rfl
    have hp4 := hp.1
    obtain rfl : l = [] := List.eq_nil_of_length_eq_zero (by omega)
    rw [List.nil_append] at e
    subst e
    have hlm : (p.map PyData.int).length = p.length := List.length_map _
    (repeat' array_get_dec)
    try refine bar_of ?_
    sizeOf_list_dec
    (repeat' array_get_dec)
    refine add_il (a := [(p.length : Int)]) (by simp only [List.length_cons, List.length_nil]; omega) ?_
    (repeat' array_get_dec)
    rw [arst_self]
    exact h
  · rintro j hj ρ _ ⟨l, acc, x2, e, hl, rfl, rfl⟩ X hX
    have hd : ∀ d ∈ l, 0 ≤ d ∧ d < 256 := fun d hd => hp.2.2 d (by rw [e]; exact List.mem_append_left _ hd)
    have hp4 := hp.1
    sizeOf_list_dec
    (repeat' array_get_dec)
    · rename_i h1
      rcases List.eq_nil_or_concat l with rfl | ⟨l', d, rfl⟩
      · exact absurd h1 (by show ¬ (1 : Int) < 1; decide)
      · rw [List.concat_eq_append] at *
        have dd := hd d (by simp)
        have hlen := congrArg List.length e
        simp only [List.length_append, List.length_cons, List.length_nil] at hlen hl
        rw [val_app]
        have e1 : (val 256 1 l' * 256 + d) / 256 = val 256 1 l' := by omega
        have e2 : (val 256 1 l' * 256 + d) % 256 = d := by omega
        rw [e2]
        (repeat' array_get_dec)
        refine add_il (a := [d]) (by simp only [List.length_cons, List.length_nil]; omega) ?_
        (repeat' array_get_dec)
        try refine bar_of ?_
        sizeOf_list_dec
        (repeat' array_get_dec)
        rw [e1]
        exact hX _ _ ⟨l', d :: acc, _, by rw [e]; simp, by omega, rfl, rfl⟩
    · rename_i h1
      rcases List.eq_nil_or_concat l with rfl | ⟨l', d, rfl⟩
      · exact hX _ _ ⟨[], acc, _, e, by rw [List.length_nil] at hl ⊢; omega, rfl, rfl⟩
      · rw [List.concat_eq_append] at *
        have dd := hd d (by simp)
        have := val_ge l' 1 (by omega) fun x hx => hd x (by simp [hx])
        rw [val_app] at h1
        omega
end K47
namespace K47
open PySem L2 Hz
local macro_rules | `(tactic| array_mem_dec) => `(tactic| (first | ((with_reducible apply w_xf); exact rfl; exact decide_eq_true rfl; exact rfl) | ((with_reducible apply w_frzS); exact rfl; (first | assumption | exact aset_same); (try simp only [List.set])) | ((with_reducible apply rg1_of); (first | omega | decide)) | ((with_reducible apply rg2_of); (first | omega | decide)) | ((with_reducible apply lok); exact rfl) | ((with_reducible refine it2_dec ?_ ?_) <;> intro)))
local macro_rules | `(tactic| array_mem_dec) => `(tactic| (first | ((with_reducible apply oq_setv2); (simp only [List.set, wipeA]; exact rfl)) | ((with_reducible apply cal_of); exact rfl; (try simp only [List.cons_append, List.nil_append, List.append_nil])) | ((with_reducible apply w_aug); exact rfl) | ((with_reducible apply cel_of); (first | assumption | exact aset_same)) | ((with_reducible apply ceo_of); (first | assumption | exact aset_same)) | ((with_reducible apply tlG_r); (first | assumption | exact aset_same)) | ((with_reducible apply fr_of); (first | assumption | exact aset_same)) | ((with_reducible apply fd_cons); exact trivial) | ((with_reducible apply fd_nil); exact trivial) | ((with_reducible apply oq_isiB (b := true)); exact rfl) | ((with_reducible apply oq_isiB (b := false)); exact rfl) | ((with_reducible apply w_xi); exact rfl; exact decide_eq_true rfl; exact if_pos rfl)))
local macro_rules | `(tactic| array_mem_dec) => `(tactic| (with_reducible first | refine pr2_of ?_ | refine oq_and255 ?_ | refine vw_il ?_ | refine len_il ?_ | refine list_il ?_ | refine w_mk ?_))
local macro_rules | `(tactic| array_mem_dec) => `(tactic| (with_reducible first | refine tb_b ?_ | refine ti_b ?_ | refine ts_b ?_ | refine we_nx ?_ | refine we_rt ?_ | refine we_ex ?_ | refine wn_nx ?_ | refine wn_rt ?_ | refine wn_bk ?_ | refine wn_ct ?_ | refine wn_ex ?_ | refine wl_nx ?_ | refine wl_rt ?_ | refine wl_bk ?_ | refine wl_ct ?_ | refine wl_ex ?_ | refine wx_nx ?_ | refine wx_rt ?_ | refine wx_bk ?_ | refine wx_ct ?_ | refine wx_ex ?_ | refine wh_nx ?_ | refine wh_rt ?_ | refine wh_bk ?_ | refine wh_ct ?_ | refine it2_t ?_ | refine it2_f ?_ | refine it2_not ?_ | refine tlG_l ?_ | refine ttG_t ?_))
local macro_rules | `(tactic| array_mem_dec) => `(tactic| ((with_reducible refine oq_id ?_); (first | (with_reducible first | refine vw_i ?_ | refine vw_s ?_ | refine vw_b ?_ | refine vw_n ?_ | refine vw_l ?_ | refine vw_t ?_ | refine vw_sc ?_ | refine vw_o ?_ | refine mv_nil ?_ | refine mv_cons ?_ | refine oq_tgNil ?_ | refine oq_tgCons ?_ | refine oq_add_i ?_ | refine oq_sub ?_ | refine oq_lt ?_ | refine oq_le ?_ | refine oq_gt ?_ | refine oq_ge ?_ | refine oq_eq_i ?_ | refine oq_ne_i ?_ | refine oq_eq_s ?_ | refine oq_ne_s ?_ | refine oq_eq_b ?_ | refine oq_ne_b ?_ | refine oq_is ?_ | refine oq_isNot ?_ | refine oq_in_s ?_ | refine oq_notIn_s ?_ | refine oq_len_l ?_ | refine oq_len_t ?_ | refine oq_int ?_ | refine oq_abs ?_ | refine oq_ord ?_ | refine oq_cut_l ?_ | refine oq_cut_t ?_ | refine oq_list_l ?_ | refine oq_list_t ?_ | refine oq_tuple_l ?_ | refine oq_tuple_t ?_ | refine oq_max2 ?_ | refine oq_min2 ?_ | refine oq_some ?_ | refine oq_len_sc ?_ | refine oq_eq_il ?_ | refine oq_ne_il ?_ | refine oq_eq_it ?_ | refine oq_ne_it ?_ | refine oq_lt_il ?_ | refine oq_lt_it ?_ | refine oq_iadd_i ?_ | refine oq_isT ?_ | refine oq_isNotT ?_) | (first | ((with_reducible apply oq_tgTup); exact rfl) | ((with_reducible apply oq_ix_lk); exact rfl) | ((with_reducible apply oq_ix_tk); exact rfl) | ((with_reducible apply vw_r); (first | assumption | exact aset_same)) | ((with_reducible apply oq_ixN_k); exact rfl; (try simp only [List.set, Int.reduceToNat])) | ((with_reducible apply oq_mod); (first | omega | decide)) | ((with_reducible apply oq_div); (first | omega | decide)) | ((with_reducible apply oq_mul); (first | omega | decide)) | ((with_reducible apply oq_pow); (first | omega | decide)) | ((with_reducible apply oq_shl); (first | omega | decide)) | ((with_reducible apply oq_shr); (first | omega | decide)) | ((with_reducible apply oq_add_s); (first | omega | decide))) | (first | ((with_reducible apply oq_len_s); (first | omega | decide)) | ((with_reducible apply oq_cut_s); (first | omega | decide)) | ((with_reducible apply oq_append); (first | omega | decide)) | ((with_reducible apply oq_insert); (first | omega | decide)) | ((with_reducible apply oq_rep); (first | omega | decide)) | ((with_reducible apply oq_cat); (first | omega | decide))))))
local macro_rules | `(tactic| array_mem_dec) => `(tactic| (with_reducible first | refine w_list ?_ | refine w_tuple ?_ | refine w_str ?_ | refine w_range1 ?_ | refine w_range2 ?_ | refine w_range3 ?_ | refine w_next ?_ | refine w_break ?_ | refine w_cont ?_ | refine w_drop ?_ | refine w_ret ?_ | refine w_retN ?_ | refine w_if ?_ | refine w_asg ?_ | refine w_raise ?_ | refine w_fld ?_ | refine w_seta ?_ | refine w_auga ?_ | refine w_seti ?_ | refine w_mut ?_ | refine w_frz ?_ | refine w_new ?_ | refine w_ext ?_ | refine w_for ?_ | refine w_lc ?_ | refine w_tryA ?_ | refine w_try ?_ | refine w_par ?_))
local macro_rules | `(tactic| array_mem_dec) => `(tactic| (first | ((with_reducible apply w_kV); exact rfl) | (with_reducible first | refine w_kC ?_ | refine w_bop ?_ | refine w_tst ?_ | refine w_val ?_ | refine w_and ?_ | refine w_or ?_ | refine w_not ?_ | refine w_andV ?_ | refine w_orV ?_ | refine w_chain ?_ | refine w_ifK ?_ | refine w_nil ?_ | refine w_cons ?_ | refine w_tup ?_ | refine w_lst ?_ | refine w_call ?_ | refine w_neg ?_ | refine w_b1 ?_ | refine w_bn ?_ | refine w_isi ?_ | refine w_met ?_ | refine w_pnone ?_ | refine w_psome ?_ | refine w_cut ?_ | refine w_yes ?_)))
local macro_rules | `(tactic| array_get_dec) => `(tactic| (with_reducible refine w_seqB ?_))
local macro_rules | `(tactic| array_get_dec) => `(tactic| array_mem_dec)
local macro_rules | `(tactic| decreasing_trivial_pre_omega) => `(tactic| (with_reducible refine w_seq ?_))
local macro_rules | `(tactic| decreasing_trivial_pre_omega) => `(tactic| array_mem_dec)
local macro_rules | `(tactic| sizeOf_list_dec) => `(tactic| (try simp only [List.set, Int.reduceToNat, List.map_cons, List.map_nil, Nat.reduceSub, List.reduceReplicate, List.cons_append, List.nil_append, wipeA, aset_aset, List.getElem?_cons_zero, List.getElem?_cons_succ]))
variable {CE CR CF CB CI gX : Nat} {α : AH} {Q : QD} {E : QX}
section
variable {n v h m d t b : D} {R : D → Prop}
theorem vw_en (q : R (enD CE n v h m d t b)) : oq (vw α (enD CE n v h m d t b)) R := ⟨_, rfl, q⟩
theorem fe_1 (q : R n) : oq (fldD CE "name" (enD CE n v h m d t b)) R := ⟨_, by
  show (if Int.ofNat CE = Int.ofNat CE then _ else _) = _
  rw [if_pos rfl]
  rfl, q⟩
theorem fe_2 (q : R v) : oq (fldD CE "vector" (enD CE n v h m d t b)) R := ⟨_, by
  show (if Int.ofNat CE = Int.ofNat CE then _ else _) = _
  rw [if_pos rfl]
  rfl, q⟩
theorem fe_3 (q : R h) : oq (fldD CE "height" (enD CE n v h m d t b)) R := ⟨_, by
  show (if Int.ofNat CE = Int.ofNat CE then _ else _) = _
  rw [if_pos rfl]
  rfl, q⟩
theorem fe_4 (q : R m) : oq (fldD CE "maker" (enD CE n v h m d t b)) R := ⟨_, by
  show (if Int.ofNat CE = Int.ofNat CE then _ else _) = _
  rw [if_pos rfl]
  rfl, q⟩
theorem fe_5 (q : R d) : oq (fldD CE "deleted" (enD CE n v h m d t b)) R := ⟨_, by
  show (if Int.ofNat CE = Int.ofNat CE then _ else _) = _
  rw [if_pos rfl]
  rfl, q⟩
theorem fe_6 (q : R t) : oq (fldD CE "time" (enD CE n v h m d t b)) R := ⟨_, by
  show (if Int.ofNat CE = Int.ofNat CE then _ else _) = _
  rw [if_pos rfl]
  rfl, q⟩
theorem fe_7 (q : R b) : oq (fldD CE "blocks" (enD CE n v h m d t b)) R := ⟨_, by
  show (if Int.ofNat CE = Int.ofNat CE then _ else _) = _
  rw [if_pos rfl]
  rfl, q⟩
theorem oq_intb {b : Bool} (q : R (.int (if b then 1 else 0))) : oq (dInt [.bool b]) R := ⟨_, rfl, q⟩
end
local macro_rules | `(tactic| array_mem_dec) => `(tactic| (with_reducible first | refine vw_en ?_ | refine fe_1 ?_ | refine fe_2 ?_ | refine fe_3 ?_ | refine fe_4 ?_ | refine fe_5 ?_ | refine fe_6 ?_ | refine fe_7 ?_ | refine oq_intb ?_))
theorem cat_il {a b : List Int} {R : D → Prop} (hl : a.length + b.length ≤ 100000) (h : R (ilD (a ++ b))) : oq (dCat (ilD a) (ilD b)) R := by
  refine oq_cat (ds := a.map .int) (es := b.map .int) (by rw [List.length_map, List.length_map]; exact hl) ?_
  rw [← List.map_append]
  exact h
theorem app_il {a b : List Int} : PyData.list (a.map PyData.int ++ b.map PyData.int) = ilD (a ++ b) := by
  unfold ilD
  rw [List.map_append]
def veOk (ve : List (Int × Int)) : Prop := 1 ≤ ve.length ∧ ve.length ≤ 9 ∧ (ve.map (·.1)).Pairwise (· < ·) ∧ ∀ x ∈ ve, (1 ≤ x.1 ∧ x.1 ≤ 9) ∧ 1 ≤ x.2 ∧ x.2 < 4294967296
structure EOk (x : EF) (rows : List (List Int)) : Prop where
  nm : (1 ≤ x.nm.length ∧ x.nm.length ≤ 40) ∧ ∀ k ∈ x.nm, k ∈ CHS
  ve : veOk x.ve
  h : 1 ≤ x.h ∧ x.h < 4294967296
  md : 1 ≤ x.md ∧ x.md ≤ 9
  mn : 1 ≤ x.mn ∧ x.mn < 4294967296
  ti : 0 ≤ x.ti ∧ x.ti < 4294967296
  bl : x.bl = rows.map (val 256 1)
  ok : ∀ p ∈ rows, okp p
  len : rows.length ≤ 255
  de : x.de = true → rows = []
  shape : ∀ j, j + 1 < rows.length → (rows.getD j []).length = 4
def wA (x : EF) (num : Int) : List Int := four num ++ wNm x.nm ++ wVe x.ve
def wEn (x : EF) (num : Int) (rows : List (List Int)) : List Int := wA x num ++ (four x.h ++ [x.md] ++ four x.mn) ++ ([if x.de then 1 else 0] ++ four x.ti ++ [(rows.length : Int)]) ++ rows.flatMap wBk
theorem wA_len {x : EF} {num : Int} (h : x.nm.length ≤ 40) (h2 : x.ve.length ≤ 9) : (wA x num).length ≤ 200 := by
  have := wVe_len (ve := x.ve)
  unfold wA wNm wVe
  simp only [List.length_append, List.length_cons, List.length_map, this, show (four num).length = 4 from rfl]
  omega
theorem wBk_len : ∀ {rows : List (List Int)}, (∀ p ∈ rows, okp p) → (rows.flatMap wBk).length ≤ 5 * rows.length
  | [], _ => Nat.le_refl _
  | p :: r, h => by
    have := wBk_len (rows := r) fun q hq => h q (List.mem_cons_of_mem _ hq)
    have := (h p List.mem_cons_self).1
    rw [List.flatMap_cons, List.length_append]
    show (p.length + 1) + _ ≤ 5 * (r.length + 1)
    omega
theorem eb_go {x : EF} {num : Int} {rows : List (List Int)} (k : EOk x rows) (h : Q (ilD (wEn x num rows)) α) : f_entry_bytes CE CR CF CB CI gX [efD CE x, .int num] α Q E := by
  unfold f_entry_bytes m_entry_bytes
  refine w_runP rfl ?_
  have hn := k.nm.1.2
  have hv := k.ve.2.1
  have hwl := wA_len (num := num) hn hv
  unfold efD
  sizeOf_list_dec
  (repeat' array_get_dec)
  try refine bar_of ?_
  sizeOf_list_dec
  (repeat' array_get_dec)
  refine nb_go ?_
  (repeat' array_get_dec)
  refine nmb_go (by omega) ?_
  (repeat' array_get_dec)
  refine add_il (by unfold wNm; simp only [List.length_cons, List.length_map, show (four num).length = 4 from rfl]; omega) ?_
  (repeat' array_get_dec)
  refine veb_go (by omega) ?_
  (repeat' array_get_dec)
  refine cat_il (by unfold wNm wVe; simp only [List.length_append, List.length_cons, List.length_map, wVe_len, show (four num).length = 4 from rfl]; omega) ?_
  rw [show four num ++ wNm x.nm ++ wVe x.ve = wA x num from rfl]
  intro p hp
  (repeat' array_get_dec)
  try refine bar_of ?_
  sizeOf_list_dec
  (repeat' array_get_dec)
  refine nb_go ?_
  (repeat' array_get_dec)
  refine add_il (b := [x.md]) (by simp [four]) ?_
  (repeat' array_get_dec)
  refine nb_go ?_
  (repeat' array_get_dec)
  refine add_il (by simp [four]) ?_
  (repeat' array_get_dec)
  refine exD_of rfl ⟨by rw [List.length_map, List.length_map]; simp only [List.length_append, List.length_cons, List.length_nil, show (four x.h).length = 4 from rfl, show (four x.mn).length = 4 from rfl]; omega, ?_⟩
  rw [app_il]
  (repeat' array_get_dec)
  try refine bar_of ?_
  sizeOf_list_dec
  (repeat' array_get_dec)
  refine nb_go ?_
  (repeat' array_get_dec)
  refine add_il (a := [if x.de then 1 else 0]) (by simp [four]) ?_
  (repeat' array_get_dec)
  have hbl : x.bl.map PyData.int = rows.map fun p => PyData.int (val 256 1 p) := by rw [k.bl, List.map_map]; rfl
  have hrl := k.len
  rw [hbl, List.length_map]
  refine add_il (b := [(rows.length : Int)]) (by simp [four]) ?_
  (repeat' array_get_dec)
  refine exD_of rfl ⟨by rw [List.length_map, List.length_map]; simp only [List.length_append, List.length_cons, List.length_nil, show ∀ n, (four n).length = 4 from fun _ => rfl]; omega, ?_⟩
  rw [app_il]
  have hB : (wA x num ++ (four x.h ++ [x.md] ++ four x.mn) ++ ([if x.de then 1 else 0] ++ four x.ti ++ [(rows.length : Int)])).length ≤ 300 := by
    simp only [List.length_append, List.length_cons, List.length_nil, show ∀ n, (four n).length = 4 from fun _ => rfl]
    omega
  unfold wEn at h
  generalize wA x num ++ (four x.h ++ [x.md] ++ four x.mn) ++ ([if x.de then 1 else 0] ++ four x.ti ++ [(rows.length : Int)]) = B at *
  have hok := k.ok
  (repeat' array_get_dec)
  try refine bar_of ?_
  sizeOf_list_dec
  (repeat' array_get_dec)
  refine for_map (xs := rows) (u := fun p => .int (val 256 1 p)) rfl (fun j ρ α' => ∃ x3, ρ = [some (enD CE (.str (S x.nm)) (.tuple (x.ve.map vD)) (.int x.h) (.tuple [.int x.md, .int x.mn]) (.bool x.de) (.int x.ti) (.tuple (rows.map fun p => .int (val 256 1 p)))), some (.int num), some (dref p), x3] ∧ α' = aset α p (ilD (B ++ (rows.take j).flatMap wBk))) ⟨none, rfl, by rw [List.take_zero, List.flatMap_nil, List.append_nil]⟩ ?_ ?_
  · rintro ρ _ ⟨x3, rfl, rfl⟩
    rw [List.take_length]
    (repeat' array_get_dec)
    try refine bar_of ?_
    sizeOf_list_dec
    (repeat' array_get_dec)
    rw [adel_aset hp, arst_self]
    exact h
  · rintro j hj ρ _ ⟨x3, rfl, rfl⟩ X hX
    have hta := List.take_append_getElem hj
    have hpo := hok _ (List.getElem_mem hj)
    have hwb := wBk_len (rows := rows.take j) fun q hq => hok q (List.mem_of_mem_take hq)
    rw [List.length_take] at hwb
    generalize rows[j] = pc at *
    have hp4 := hpo.1
    sizeOf_list_dec
    (repeat' array_get_dec)
    refine bb_go hpo ?_
    (repeat' array_get_dec)
    refine db_go (by omega) ?_
    (repeat' array_get_dec)
    refine exD_of rfl ⟨by rw [List.length_map, List.length_map]; simp only [List.length_append, wBk, List.length_cons]; omega, ?_⟩
    rw [app_il]
    (repeat' array_get_dec)
    refine hX _ _ ⟨_, rfl, ?_⟩
    rw [aset_aset, ← hta, List.flatMap_append, List.flatMap_cons, List.flatMap_nil, List.append_nil, List.append_assoc]
end K47
namespace K47
open PySem L2 Hz
local macro_rules | `(tactic| array_mem_dec) => `(tactic| (first | ((with_reducible apply w_xf); exact rfl; exact decide_eq_true rfl; exact rfl) | ((with_reducible apply w_frzS); exact rfl; (first | assumption | exact aset_same); (try simp only [List.set])) | ((with_reducible apply rg1_of); (first | omega | decide)) | ((with_reducible apply rg2_of); (first | omega | decide)) | ((with_reducible apply lok); exact rfl) | ((with_reducible refine it2_dec ?_ ?_) <;> intro)))
local macro_rules | `(tactic| array_mem_dec) => `(tactic| (first | ((with_reducible apply oq_setv2); (simp only [List.set, wipeA]; exact rfl)) | ((with_reducible apply cal_of); exact rfl; (try simp only [List.cons_append, List.nil_append, List.append_nil])) | ((with_reducible apply w_aug); exact rfl) | ((with_reducible apply cel_of); (first | assumption | exact aset_same)) | ((with_reducible apply ceo_of); (first | assumption | exact aset_same)) | ((with_reducible apply tlG_r); (first | assumption | exact aset_same)) | ((with_reducible apply fr_of); (first | assumption | exact aset_same)) | ((with_reducible apply fd_cons); exact trivial) | ((with_reducible apply fd_nil); exact trivial) | ((with_reducible apply oq_isiB (b := true)); exact rfl) | ((with_reducible apply oq_isiB (b := false)); exact rfl) | ((with_reducible apply w_xi); exact rfl; exact decide_eq_true rfl; exact if_pos rfl)))
local macro_rules | `(tactic| array_mem_dec) => `(tactic| (with_reducible first | refine pr2_of ?_ | refine oq_and255 ?_ | refine vw_il ?_ | refine len_il ?_ | refine list_il ?_ | refine w_mk ?_ | refine vw_en ?_ | refine fe_1 ?_ | refine fe_2 ?_ | refine fe_3 ?_ | refine fe_4 ?_ | refine fe_5 ?_ | refine fe_6 ?_ | refine fe_7 ?_ | refine oq_intb ?_))
local macro_rules | `(tactic| array_mem_dec) => `(tactic| (with_reducible first | refine tb_b ?_ | refine ti_b ?_ | refine ts_b ?_ | refine we_nx ?_ | refine we_rt ?_ | refine we_ex ?_ | refine wn_nx ?_ | refine wn_rt ?_ | refine wn_bk ?_ | refine wn_ct ?_ | refine wn_ex ?_ | refine wl_nx ?_ | refine wl_rt ?_ | refine wl_bk ?_ | refine wl_ct ?_ | refine wl_ex ?_ | refine wx_nx ?_ | refine wx_rt ?_ | refine wx_bk ?_ | refine wx_ct ?_ | refine wx_ex ?_ | refine wh_nx ?_ | refine wh_rt ?_ | refine wh_bk ?_ | refine wh_ct ?_ | refine it2_t ?_ | refine it2_f ?_ | refine it2_not ?_ | refine tlG_l ?_ | refine ttG_t ?_))
local macro_rules | `(tactic| array_mem_dec) => `(tactic| ((with_reducible refine oq_id ?_); (first | (with_reducible first | refine vw_i ?_ | refine vw_s ?_ | refine vw_b ?_ | refine vw_n ?_ | refine vw_l ?_ | refine vw_t ?_ | refine vw_sc ?_ | refine vw_o ?_ | refine mv_nil ?_ | refine mv_cons ?_ | refine oq_tgNil ?_ | refine oq_tgCons ?_ | refine oq_add_i ?_ | refine oq_sub ?_ | refine oq_lt ?_ | refine oq_le ?_ | refine oq_gt ?_ | refine oq_ge ?_ | refine oq_eq_i ?_ | refine oq_ne_i ?_ | refine oq_eq_s ?_ | refine oq_ne_s ?_ | refine oq_eq_b ?_ | refine oq_ne_b ?_ | refine oq_is ?_ | refine oq_isNot ?_ | refine oq_in_s ?_ | refine oq_notIn_s ?_ | refine oq_len_l ?_ | refine oq_len_t ?_ | refine oq_int ?_ | refine oq_abs ?_ | refine oq_ord ?_ | refine oq_cut_l ?_ | refine oq_cut_t ?_ | refine oq_list_l ?_ | refine oq_list_t ?_ | refine oq_tuple_l ?_ | refine oq_tuple_t ?_ | refine oq_max2 ?_ | refine oq_min2 ?_ | refine oq_some ?_ | refine oq_len_sc ?_ | refine oq_eq_il ?_ | refine oq_ne_il ?_ | refine oq_eq_it ?_ | refine oq_ne_it ?_ | refine oq_lt_il ?_ | refine oq_lt_it ?_ | refine oq_iadd_i ?_ | refine oq_isT ?_ | refine oq_isNotT ?_) | (first | ((with_reducible apply oq_tgTup); exact rfl) | ((with_reducible apply oq_ix_lk); exact rfl) | ((with_reducible apply oq_ix_tk); exact rfl) | ((with_reducible apply vw_r); (first | assumption | exact aset_same)) | ((with_reducible apply oq_ixN_k); exact rfl; (try simp only [List.set, Int.reduceToNat])) | ((with_reducible apply oq_mod); (first | omega | decide)) | ((with_reducible apply oq_div); (first | omega | decide)) | ((with_reducible apply oq_mul); (first | omega | decide)) | ((with_reducible apply oq_pow); (first | omega | decide)) | ((with_reducible apply oq_shl); (first | omega | decide)) | ((with_reducible apply oq_shr); (first | omega | decide)) | ((with_reducible apply oq_add_s); (first | omega | decide))) | (first | ((with_reducible apply oq_len_s); (first | omega | decide)) | ((with_reducible apply oq_cut_s); (first | omega | decide)) | ((with_reducible apply oq_append); (first | omega | decide)) | ((with_reducible apply oq_insert); (first | omega | decide)) | ((with_reducible apply oq_rep); (first | omega | decide)) | ((with_reducible apply oq_cat); (first | omega | decide))))))
local macro_rules | `(tactic| array_mem_dec) => `(tactic| (with_reducible first | refine w_list ?_ | refine w_tuple ?_ | refine w_str ?_ | refine w_range1 ?_ | refine w_range2 ?_ | refine w_range3 ?_ | refine w_next ?_ | refine w_break ?_ | refine w_cont ?_ | refine w_drop ?_ | refine w_ret ?_ | refine w_retN ?_ | refine w_if ?_ | refine w_asg ?_ | refine w_raise ?_ | refine w_fld ?_ | refine w_seta ?_ | refine w_auga ?_ | refine w_seti ?_ | refine w_mut ?_ | refine w_frz ?_ | refine w_new ?_ | refine w_ext ?_ | refine w_for ?_ | refine w_lc ?_ | refine w_tryA ?_ | refine w_try ?_ | refine w_par ?_))
local macro_rules | `(tactic| array_mem_dec) => `(tactic| (first | ((with_reducible apply w_kV); exact rfl) | (with_reducible first | refine w_kC ?_ | refine w_bop ?_ | refine w_tst ?_ | refine w_val ?_ | refine w_and ?_ | refine w_or ?_ | refine w_not ?_ | refine w_andV ?_ | refine w_orV ?_ | refine w_chain ?_ | refine w_ifK ?_ | refine w_nil ?_ | refine w_cons ?_ | refine w_tup ?_ | refine w_lst ?_ | refine w_call ?_ | refine w_neg ?_ | refine w_b1 ?_ | refine w_bn ?_ | refine w_isi ?_ | refine w_met ?_ | refine w_pnone ?_ | refine w_psome ?_ | refine w_cut ?_ | refine w_yes ?_)))
local macro_rules | `(tactic| array_get_dec) => `(tactic| (with_reducible refine w_seqB ?_))
local macro_rules | `(tactic| array_get_dec) => `(tactic| array_mem_dec)
local macro_rules | `(tactic| decreasing_trivial_pre_omega) => `(tactic| (with_reducible refine w_seq ?_))
local macro_rules | `(tactic| decreasing_trivial_pre_omega) => `(tactic| array_mem_dec)
local macro_rules | `(tactic| sizeOf_list_dec) => `(tactic| (try simp only [List.set, Int.reduceToNat, List.map_cons, List.map_nil, Nat.reduceSub, List.reduceReplicate, List.cons_append, List.nil_append, wipeA, aset_aset, List.getElem?_cons_zero, List.getElem?_cons_succ]))
variable {CE CR CF CB CI gX : Nat} {α : AH} {Q : QD} {E : QX}
theorem isi_en {n v h m d t b : D} {R : Bool → Prop} (q : R true) : oq (isiCB CE (enD CE n v h m d t b)) R := ⟨_, by
  show (if isOb CE (enD CE n v h m d t b) = true then some true else none) = some true
  have e : isOb CE (enD CE n v h m d t b) = true := by
    show decide (Int.ofNat CE = Int.ofNat CE) = true
    exact decide_eq_true rfl
  rw [if_pos e], q⟩
local macro_rules | `(tactic| array_mem_dec) => `(tactic| (with_reducible first | refine w_isiC ?_ | refine isi_en ?_))
theorem arst_ext {α' : AH} (h : ∀ a, (α a).isSome = true → α' a = α a) : arst α α' = α := by
  funext a
  unfold arst
  by_cases q : (α a).isSome = true
  · rw [if_pos q, h a q]
  · rw [if_neg q]
    cases e : α a with
    | none => rfl
    | some c => rw [e] at q; exact absurd rfl q
theorem lew_go {x : EF} {num : Int} {rows : List (List Int)} (k : EOk x rows) (h : Q (ilD (wEn x num rows)) α) : f_law_entry_written CE CR CF CB CI gX [efT x, .int num] α Q E := by
  unfold f_law_entry_written m_law_entry_written
  refine w_runP rfl ?_
  have hn := k.nm.1.2
  have hv := k.ve.2.1
  have hwl := wA_len (num := num) hn hv
  unfold efT
  sizeOf_list_dec
  (repeat' array_get_dec)
  try refine bar_of ?_
  sizeOf_list_dec
  (repeat' array_get_dec)
  refine lf_go ?_
  (repeat' array_get_dec)
  refine lnw_go (by omega) ?_
  (repeat' array_get_dec)
  refine add_il (by unfold wNm; simp only [List.length_cons, List.length_map, show (four num).length = 4 from rfl]; omega) ?_
  (repeat' array_get_dec)
  refine lvw_go (by omega) ?_
  (repeat' array_get_dec)
  refine add_il (by unfold wNm wVe; simp only [List.length_append, List.length_cons, List.length_map, wVe_len, show (four num).length = 4 from rfl]; omega) ?_
  rw [show four num ++ wNm x.nm ++ wVe x.ve = wA x num from rfl]
  (repeat' array_get_dec)
  refine lf_go ?_
  (repeat' array_get_dec)
  refine cat_il (by rw [show (four x.h).length = 4 from rfl]; omega) ?_
  intro p hp
  (repeat' array_get_dec)
  try refine bar_of ?_
  sizeOf_list_dec
  (repeat' array_get_dec)
  have h4 : ∀ n, (four n).length = 4 := fun _ => rfl
  refine add_il (b := [x.md]) (by simp only [List.length_append, List.length_cons, List.length_nil, h4]; omega) ?_
  (repeat' array_get_dec)
  refine lf_go ?_
  (repeat' array_get_dec)
  refine add_il (by simp only [List.length_append, List.length_cons, List.length_nil, h4]; omega) ?_
  (repeat' array_get_dec)
  refine add_il (b := [if x.de then 1 else 0]) (by simp only [List.length_append, List.length_cons, List.length_nil, h4]; omega) ?_
  (repeat' array_get_dec)
  refine lf_go ?_
  (repeat' array_get_dec)
  refine add_il (by simp only [List.length_append, List.length_cons, List.length_nil, h4]; omega) ?_
  (repeat' array_get_dec)
  have hbl : x.bl.map PyData.int = rows.map fun p => PyData.int (val 256 1 p) := by rw [k.bl, List.map_map]; rfl
  have hrl := k.len
  rw [hbl, List.length_map]
  refine cat_il (b := [(rows.length : Int)]) (by simp only [List.length_append, List.length_cons, List.length_nil, h4]; omega) ?_
  have hB : (wA x num ++ four x.h ++ [x.md] ++ four x.mn ++ [if x.de then 1 else 0] ++ four x.ti ++ [(rows.length : Int)]).length ≤ 300 := by
    simp only [List.length_append, List.length_cons, List.length_nil, h4]
    omega
  unfold wEn at h
  have eB : wA x num ++ (four x.h ++ [x.md] ++ four x.mn) ++ ([if x.de then 1 else 0] ++ four x.ti ++ [(rows.length : Int)]) = wA x num ++ four x.h ++ [x.md] ++ four x.mn ++ [if x.de then 1 else 0] ++ four x.ti ++ [(rows.length : Int)] := by
    simp only [List.append_assoc]
  rw [eB] at h
  generalize wA x num ++ four x.h ++ [x.md] ++ four x.mn ++ [if x.de then 1 else 0] ++ four x.ti ++ [(rows.length : Int)] = B at *
  have hok := k.ok
  intro p2 hp2
  (repeat' array_get_dec)
  try refine bar_of ?_
  sizeOf_list_dec
  (repeat' array_get_dec)
  generalize ilD (wA x num ++ four x.h) = C1 at *
  have hp3 : α p2 = none := by
    by_cases e : p2 = p
    · rw [e, aset_same] at hp2
      cases hp2
    · rw [aset_ne e] at hp2
      exact hp2
  refine for_map (xs := rows) (u := fun p => .int (val 256 1 p)) rfl (fun j ρ α' => ∃ x3, ρ = [some (.tuple [.str (S x.nm), .tuple (x.ve.map vD), .int x.h, .tuple [.int x.md, .int x.mn], .bool x.de, .int x.ti, .tuple (rows.map fun p => .int (val 256 1 p))]), some (.int num), some (dref p2), x3, some (.str (S x.nm)), some (.tuple (x.ve.map vD)), some (.int x.h), some (.tuple [.int x.md, .int x.mn]), some (.bool x.de), some (.int x.ti), some (.tuple (rows.map fun p => .int (val 256 1 p)))] ∧ α' = aset (aset α p C1) p2 (ilD (B ++ (rows.take j).flatMap wBk))) ⟨none, rfl, by rw [List.take_zero, List.flatMap_nil, List.append_nil]⟩ ?_ ?_
  · rintro ρ _ ⟨x3, rfl, rfl⟩
    rw [List.take_length]
    (repeat' array_get_dec)
    try refine bar_of ?_
    sizeOf_list_dec
    (repeat' array_get_dec)
    rw [adel_aset hp2, arst_ext fun a ha => aset_ne fun e => by rw [e, hp] at ha; cases ha]
    exact h
  · rintro j hj ρ _ ⟨x3, rfl, rfl⟩ X hX
    have hta := List.take_append_getElem hj
    have hpo := hok _ (List.getElem_mem hj)
    have hwb := wBk_len (rows := rows.take j) fun q hq => hok q (List.mem_of_mem_take hq)
    rw [List.length_take] at hwb
    generalize rows[j] = pc at *
    have hp4 := hpo.1
    sizeOf_list_dec
    (repeat' array_get_dec)
    refine lbw_go hpo ?_
    (repeat' array_get_dec)
    refine exD_of rfl ⟨by rw [List.length_map, List.length_map]; simp only [List.length_append, wBk, List.length_cons]; omega, ?_⟩
    rw [app_il]
    (repeat' array_get_dec)
    refine hX _ _ ⟨_, rfl, ?_⟩
    rw [aset_aset, ← hta, List.flatMap_append, List.flatMap_cons, List.flatMap_nil, List.append_nil, List.append_assoc]
theorem made_go {x : EF} (h : Q (efD CE x) α) : f_law_made CE CR CF CB CI gX [efT x] α Q E := by
  unfold f_law_made m_law_made
  refine w_runP rfl ?_
  unfold efT
  sizeOf_list_dec
  (repeat' array_get_dec)
  try refine bar_of ?_
  sizeOf_list_dec
  (repeat' array_get_dec)
  refine ⟨rfl, fun z hz => ?_⟩
  refine en_go aset_same ⟨rfl, ?_⟩
  rw [aset_aset]
  refine ⟨z, _, rfl, aset_same, ?_⟩
  rw [adel_aset hz]
  (repeat' array_get_dec)
  rw [arst_self]
  exact h
theorem fields_go {x : EF} (h : Q (efT x) α) : f_law_fields CE CR CF CB CI gX [efD CE x] α Q E := by
  unfold f_law_fields m_law_fields
  refine w_runP rfl ?_
  unfold efD
  sizeOf_list_dec
  (repeat' array_get_dec)
  try refine bar_of ?_
  sizeOf_list_dec
  (repeat' array_get_dec)
  rw [arst_self]
  exact h
end K47
namespace K47
open PySem L2 Hz
local macro_rules | `(tactic| array_mem_dec) => `(tactic| (first | ((with_reducible apply w_xf); exact rfl; exact decide_eq_true rfl; exact rfl) | ((with_reducible apply w_frzS); exact rfl; (first | assumption | exact aset_same); (try simp only [List.set])) | ((with_reducible apply rg1_of); (first | omega | decide)) | ((with_reducible apply rg2_of); (first | omega | decide)) | ((with_reducible apply lok); exact rfl) | ((with_reducible refine it2_dec ?_ ?_) <;> intro)))
local macro_rules | `(tactic| array_mem_dec) => `(tactic| (first | ((with_reducible apply oq_setv2); (simp only [List.set, wipeA]; exact rfl)) | ((with_reducible apply cal_of); exact rfl; (try simp only [List.cons_append, List.nil_append, List.append_nil])) | ((with_reducible apply w_aug); exact rfl) | ((with_reducible apply cel_of); (first | assumption | exact aset_same)) | ((with_reducible apply ceo_of); (first | assumption | exact aset_same)) | ((with_reducible apply tlG_r); (first | assumption | exact aset_same)) | ((with_reducible apply fr_of); (first | assumption | exact aset_same)) | ((with_reducible apply fd_cons); exact trivial) | ((with_reducible apply fd_nil); exact trivial) | ((with_reducible apply oq_isiB (b := true)); exact rfl) | ((with_reducible apply oq_isiB (b := false)); exact rfl) | ((with_reducible apply w_xi); exact rfl; exact decide_eq_true rfl; exact if_pos rfl)))
local macro_rules | `(tactic| array_mem_dec) => `(tactic| (with_reducible first | refine pr2_of ?_ | refine oq_and255 ?_ | refine vw_il ?_ | refine len_il ?_ | refine list_il ?_ | refine w_mk ?_ | refine vw_en ?_ | refine fe_1 ?_ | refine fe_2 ?_ | refine fe_3 ?_ | refine fe_4 ?_ | refine fe_5 ?_ | refine fe_6 ?_ | refine fe_7 ?_ | refine oq_intb ?_))
local macro_rules | `(tactic| array_mem_dec) => `(tactic| (with_reducible first | refine tb_b ?_ | refine ti_b ?_ | refine ts_b ?_ | refine we_nx ?_ | refine we_rt ?_ | refine we_ex ?_ | refine wn_nx ?_ | refine wn_rt ?_ | refine wn_bk ?_ | refine wn_ct ?_ | refine wn_ex ?_ | refine wl_nx ?_ | refine wl_rt ?_ | refine wl_bk ?_ | refine wl_ct ?_ | refine wl_ex ?_ | refine wx_nx ?_ | refine wx_rt ?_ | refine wx_bk ?_ | refine wx_ct ?_ | refine wx_ex ?_ | refine wh_nx ?_ | refine wh_rt ?_ | refine wh_bk ?_ | refine wh_ct ?_ | refine it2_t ?_ | refine it2_f ?_ | refine it2_not ?_ | refine tlG_l ?_ | refine ttG_t ?_))
local macro_rules | `(tactic| array_mem_dec) => `(tactic| ((with_reducible refine oq_id ?_); (first | (with_reducible first | refine vw_i ?_ | refine vw_s ?_ | refine vw_b ?_ | refine vw_n ?_ | refine vw_l ?_ | refine vw_t ?_ | refine vw_sc ?_ | refine vw_o ?_ | refine mv_nil ?_ | refine mv_cons ?_ | refine oq_tgNil ?_ | refine oq_tgCons ?_ | refine oq_add_i ?_ | refine oq_sub ?_ | refine oq_lt ?_ | refine oq_le ?_ | refine oq_gt ?_ | refine oq_ge ?_ | refine oq_eq_i ?_ | refine oq_ne_i ?_ | refine oq_eq_s ?_ | refine oq_ne_s ?_ | refine oq_eq_b ?_ | refine oq_ne_b ?_ | refine oq_is ?_ | refine oq_isNot ?_ | refine oq_in_s ?_ | refine oq_notIn_s ?_ | refine oq_len_l ?_ | refine oq_len_t ?_ | refine oq_int ?_ | refine oq_abs ?_ | refine oq_ord ?_ | refine oq_cut_l ?_ | refine oq_cut_t ?_ | refine oq_list_l ?_ | refine oq_list_t ?_ | refine oq_tuple_l ?_ | refine oq_tuple_t ?_ | refine oq_max2 ?_ | refine oq_min2 ?_ | refine oq_some ?_ | refine oq_len_sc ?_ | refine oq_eq_il ?_ | refine oq_ne_il ?_ | refine oq_eq_it ?_ | refine oq_ne_it ?_ | refine oq_lt_il ?_ | refine oq_lt_it ?_ | refine oq_iadd_i ?_ | refine oq_isT ?_ | refine oq_isNotT ?_) | (first | ((with_reducible apply oq_tgTup); exact rfl) | ((with_reducible apply oq_ix_lk); exact rfl) | ((with_reducible apply oq_ix_tk); exact rfl) | ((with_reducible apply vw_r); (first | assumption | exact aset_same)) | ((with_reducible apply oq_ixN_k); exact rfl; (try simp only [List.set, Int.reduceToNat])) | ((with_reducible apply oq_mod); (first | omega | decide)) | ((with_reducible apply oq_div); (first | omega | decide)) | ((with_reducible apply oq_mul); (first | omega | decide)) | ((with_reducible apply oq_pow); (first | omega | decide)) | ((with_reducible apply oq_shl); (first | omega | decide)) | ((with_reducible apply oq_shr); (first | omega | decide)) | ((with_reducible apply oq_add_s); (first | omega | decide))) | (first | ((with_reducible apply oq_len_s); (first | omega | decide)) | ((with_reducible apply oq_cut_s); (first | omega | decide)) | ((with_reducible apply oq_append); (first | omega | decide)) | ((with_reducible apply oq_insert); (first | omega | decide)) | ((with_reducible apply oq_rep); (first | omega | decide)) | ((with_reducible apply oq_cat); (first | omega | decide))))))
local macro_rules | `(tactic| array_mem_dec) => `(tactic| (with_reducible first | refine w_list ?_ | refine w_tuple ?_ | refine w_str ?_ | refine w_range1 ?_ | refine w_range2 ?_ | refine w_range3 ?_ | refine w_next ?_ | refine w_break ?_ | refine w_cont ?_ | refine w_drop ?_ | refine w_ret ?_ | refine w_retN ?_ | refine w_if ?_ | refine w_asg ?_ | refine w_raise ?_ | refine w_fld ?_ | refine w_seta ?_ | refine w_auga ?_ | refine w_seti ?_ | refine w_mut ?_ | refine w_frz ?_ | refine w_new ?_ | refine w_ext ?_ | refine w_for ?_ | refine w_lc ?_ | refine w_tryA ?_ | refine w_try ?_ | refine w_par ?_))
local macro_rules | `(tactic| array_mem_dec) => `(tactic| (first | ((with_reducible apply w_kV); exact rfl) | (with_reducible first | refine w_kC ?_ | refine w_bop ?_ | refine w_tst ?_ | refine w_val ?_ | refine w_and ?_ | refine w_or ?_ | refine w_not ?_ | refine w_andV ?_ | refine w_orV ?_ | refine w_chain ?_ | refine w_ifK ?_ | refine w_nil ?_ | refine w_cons ?_ | refine w_tup ?_ | refine w_lst ?_ | refine w_call ?_ | refine w_neg ?_ | refine w_b1 ?_ | refine w_bn ?_ | refine w_isi ?_ | refine w_met ?_ | refine w_pnone ?_ | refine w_psome ?_ | refine w_cut ?_ | refine w_yes ?_)))
local macro_rules | `(tactic| array_get_dec) => `(tactic| (with_reducible refine w_seqB ?_))
local macro_rules | `(tactic| array_get_dec) => `(tactic| array_mem_dec)
local macro_rules | `(tactic| decreasing_trivial_pre_omega) => `(tactic| (with_reducible refine w_seq ?_))
local macro_rules | `(tactic| decreasing_trivial_pre_omega) => `(tactic| array_mem_dec)
local macro_rules | `(tactic| sizeOf_list_dec) => `(tactic| (try simp only [List.set, Int.reduceToNat, List.map_cons, List.map_nil, Nat.reduceSub, List.reduceReplicate, List.cons_append, List.nil_append, wipeA, aset_aset, List.getElem?_cons_zero, List.getElem?_cons_succ]))
variable {CE CR CF CB CI gX : Nat} {α : AH} {Q : QD} {E : QX}
theorem draw_ok {ns : List Int} {a b n : Int} {p : Addr} {α : AH} (hp : α p = some (.list [.int a, .int b])) (hn : 0 < n ∧ n < 2 ^ 80) {Q : QD} {E : QX} (q : ∀ d a' b', 0 ≤ d → d < n → Q (.int d) (aset α p (.list [.int a', .int b']))) :
    f_law_draw CE CR CF CB CI gX [dref p, scriptD ns, .int n] α Q E := by
  unfold f_law_draw m_law_draw
  refine w_runP rfl ?_
  sizeOf_list_dec
  have h0 := hn.1
  refine w_seqI (fun ρ α' => ∃ a b x y z, ρ = [some (dref p), some (scriptD ns), some (.int n), none, x, y, z] ∧ α' = aset α p (.list [.int a, .int b])) ?_ fun X hX => ?_
  · rintro _ _ ⟨a, b, x, y, z, rfl, rfl⟩
    (repeat' decreasing_trivial_pre_omega)
    sizeOf_list_dec
    rw [arst_old ⟨_, hp⟩, arst_self]
    exact q _ _ _ (Int.emod_nonneg _ (by omega)) (Int.emod_lt_of_pos _ h0)
  · have hid : α = aset α p (.list [.int a, .int b]) := (aset_id hp).symm
    have fin : ∀ a' b' x y z, X [some (dref p), some (scriptD ns), some (.int n), none, x, y, z] (aset α p (.list [.int a', .int b'])) := fun a' b' x y z => hX _ _ ⟨a', b', x, y, z, rfl, rfl⟩
    (repeat' decreasing_trivial_pre_omega)
    · have h1 : 0 ≤ a % ↑ns.length := Int.emod_nonneg _ (by omega)
      have h2 : a % ↑ns.length < ↑ns.length := Int.emod_lt_of_pos _ (by omega)
      refine oq_ix_sc h1 h2 fun z _ => ?_
      (repeat' decreasing_trivial_pre_omega)
      all_goals (sizeOf_list_dec; exact fin _ _ _ _ _)
    all_goals first | (sizeOf_list_dec; exact fin _ _ _ _ _) | (rw [hid]; exact fin _ _ _ _ _)
def DrAt (p : Addr) (α : AH) : Prop := ∃ a b, α p = some (.list [.int a, .int b])
theorem DrAt.isS {p : Addr} (h : DrAt p α) : (α p).isSome = true := by
  obtain ⟨a, b, h⟩ := h
  rw [h]
  rfl
theorem dr_go {ns : List Int} {p : Addr} {n : Int} (h : DrAt p α) (hn : 0 < n ∧ n < 2 ^ 80) (q : ∀ d α', 0 ≤ d → d < n → DrAt p α' → But p α α' → Q (.int d) α') : f_law_draw CE CR CF CB CI gX [dref p, scriptD ns, .int n] α Q E := by
  obtain ⟨a, b, h1⟩ := h
  exact draw_ok h1 hn fun d a' b' g1 g2 => q d _ g1 g2 ⟨a', b', aset_same⟩ fun x hx => aset_ne hx
theorem cnt_go {ns : List Int} {p : Addr} {lo : Int} (h0 : 0 ≤ lo ∧ lo ≤ 1) (h : DrAt p α) (q : ∀ d α', lo ≤ d → d < 4294967296 → DrAt p α' → But p α α' → Q (.int d) α') : f_law_count CE CR CF CB CI gX [dref p, scriptD ns, .int lo] α Q E := by
  unfold f_law_count m_law_count
  refine w_runP rfl ?_
  sizeOf_list_dec
  (repeat' array_get_dec)
  refine dr_go h (by decide) fun kd α1 g1 g2 D1 B1 => ?_
  sizeOf_list_dec
  (repeat' array_get_dec)
  try refine bar_of ?_
  sizeOf_list_dec
  (repeat' array_get_dec)
  · refine dr_go D1 (by decide) fun i α2 g3 g4 D2 B2 => ?_
    (repeat' array_get_dec)
    refine oq_ix_li (xs := [1, 255, 256, 65535, 65536, 16777216, 4294967295, lo]) g3 (by simp only [List.length_cons, List.length_nil]; omega) ?_
    have hx : ∀ y ∈ [1, 255, 256, 65535, 65536, 16777216, 4294967295, lo], lo ≤ y ∧ y < 4294967296 := by
      intro y hy
      simp only [List.mem_cons, List.not_mem_nil, or_false] at hy
      omega
    have hi : i.toNat < [1, 255, 256, 65535, 65536, 16777216, 4294967295, lo].length := by simp only [List.length_cons, List.length_nil]; omega
    have hm := hx _ (List.getElem_mem hi)
    rw [List.getD_eq_getElem?_getD, List.getElem?_eq_getElem hi]
    (repeat' array_get_dec)
    rw [arst_but h.isS (B1.trans B2)]
    exact q _ _ hm.1 hm.2 D2 (B1.trans B2)
  · try refine bar_of ?_
    sizeOf_list_dec
    (repeat' array_get_dec)
    · refine dr_go D1 (by omega) fun i α2 g3 g4 D2 B2 => ?_
      (repeat' array_get_dec)
      rw [arst_but h.isS (B1.trans B2)]
      exact q _ _ (by omega) (by omega) D2 (B1.trans B2)
    · try refine bar_of ?_
      sizeOf_list_dec
      (repeat' array_get_dec)
      refine dr_go D1 (by decide) fun i α2 g3 g4 D2 B2 => ?_
      (repeat' array_get_dec)
      rw [arst_but h.isS (B1.trans B2)]
      exact q _ _ (by omega) (by omega) D2 (B1.trans B2)
theorem nm_go {ns : List Int} {p : Addr} (h : DrAt p α) (q : ∀ nm α', ((1 ≤ nm.length ∧ nm.length ≤ 40) ∧ ∀ k ∈ nm, k ∈ CHS) → DrAt p α' → But p α α' → Q (.str (S nm)) α') : f_law_name CE CR CF CB CI gX [dref p, scriptD ns] α Q E := by
  unfold f_law_name m_law_name
  refine w_runP rfl ?_
  sizeOf_list_dec
  (repeat' array_get_dec)
  refine dr_go h (by decide) fun d1 α1 g1 g2 D1 B1 => ?_
  sizeOf_list_dec
  (repeat' array_get_dec)
  try refine bar_of ?_
  sizeOf_list_dec
  refine w_seqI (fun ρ α' => ∃ (n : Int) (x : Option D), ρ = [some (dref p), some (scriptD ns), some (.int n), x] ∧ (1 ≤ n ∧ n ≤ 40) ∧ DrAt p α' ∧ But p α α') ?_ fun X hX => ?_
  rotate_left
  · (repeat' array_get_dec)
    refine dr_go D1 (by decide) fun d2 α2 g3 g4 D2 B2 => ?_
    (repeat' array_get_dec)
    · refine dr_go D2 (by decide) fun d3 α3 g5 g6 D3 B3 => ?_
      (repeat' array_get_dec)
      exact hX _ _ ⟨_, _, rfl, by omega, D3, (B1.trans B2).trans B3⟩
    · exact hX _ _ ⟨_, _, rfl, by omega, D2, B1.trans B2⟩
  clear D1 B1
  rintro ρ α1 ⟨n, x, rfl, hn, D1, B1⟩
  sizeOf_list_dec
  (repeat' array_get_dec)
  have hnl : (nums 0 n.toNat).length = n.toNat := by rw [nums_map, List.length_map, List.length_range]
  refine lc_inv (fun r acc α' => ∃ (nm : List Nat), acc = nm.map (fun k => .str (S [k])) ∧ nm.length + r.length = n.toNat ∧ (∀ k ∈ nm, k ∈ CHS) ∧ DrAt p α' ∧ But p α α') ⟨[], rfl, by rw [hnl, List.length_nil, Nat.zero_add], (fun _ h => nomatch h), D1, B1⟩ (fun _ _ _ _ => trivial) ?_ ?_
  · rintro acc α' ⟨nm, rfl, hl, hm, D2, B2⟩
    rw [List.length_nil] at hl
    (repeat' array_get_dec)
    rw [show PySem.Str.ofString "" = PySem.Str.ofString "" from rfl]
    refine oq_join_S (by omega) ?_
    (repeat' array_get_dec)
    rw [arst_but h.isS B2]
    exact q nm _ ⟨by omega, hm⟩ D2 B2
  · rintro d r acc α' ⟨nm, rfl, hl, hm, D2, B2⟩ X hX
    rw [List.length_cons] at hl
    sizeOf_list_dec
    (repeat' decreasing_trivial_pre_omega)
    refine all_go ?_
    (repeat' decreasing_trivial_pre_omega)
    refine dr_go D2 (by decide) fun i α2 g3 g4 D3 B3 => ?_
    (repeat' decreasing_trivial_pre_omega)
    refine oq_ix_S (by rw [chs_len]; decide) g3 (by rw [chs_len]; omega) ?_
    have hi : i.toNat < CHS.length := by rw [chs_len]; omega
    refine ⟨by rw [List.length_map]; omega, hX _ _ ⟨nm ++ [CHS.getD i.toNat 0], by rw [List.map_append]; rfl, by rw [List.length_append]; simp only [List.length_cons, List.length_nil]; omega, fun k hk => ?_, D3, B2.trans B3⟩⟩
    rcases List.mem_append.mp hk with hk | hk
    · exact hm k hk
    · rw [List.mem_singleton.mp hk, List.getD_eq_getElem?_getD, List.getElem?_eq_getElem hi]
      exact List.getElem_mem hi
theorem row_dr {ns : List Int} {p : Addr} {n : Int} (hn : 0 ≤ n ∧ n ≤ 10) (h : DrAt p α) (q : ∀ (r : List Int) α', (r.length : Int) = n → (∀ d ∈ r, 0 ≤ d ∧ d < 256) → DrAt p α' → But p α α' → Q (ilD r) α') : f_law_row CE CR CF CB CI gX [dref p, scriptD ns, .int n] α Q E := by
  unfold f_law_row m_law_row
  refine w_runP rfl ?_
  sizeOf_list_dec
  (repeat' array_get_dec)
  have hnl : (nums 0 n.toNat).length = n.toNat := by rw [nums_map, List.length_map, List.length_range]
  refine lc_inv (fun rr acc α' => ∃ (r : List Int), acc = r.map .int ∧ r.length + rr.length = n.toNat ∧ (∀ d ∈ r, 0 ≤ d ∧ d < 256) ∧ DrAt p α' ∧ But p α α') ⟨[], rfl, by rw [hnl, List.length_nil, Nat.zero_add], (fun _ h => nomatch h), h, But.refl⟩ (fun _ _ _ _ => trivial) ?_ ?_
  · rintro acc α' ⟨r, rfl, hl, hm, D2, B2⟩
    rw [List.length_nil] at hl
    (repeat' array_get_dec)
    rw [arst_but h.isS B2]
    exact q r _ (by omega) hm D2 B2
  · rintro d rr acc α' ⟨r, rfl, hl, hm, D2, B2⟩ X hX
    rw [List.length_cons] at hl
    sizeOf_list_dec
    (repeat' decreasing_trivial_pre_omega)
    refine dr_go D2 (by decide) fun x α2 x1 x2 D3 B3 => ?_
    (repeat' decreasing_trivial_pre_omega)
    refine dr_go D3 (by decide) fun i α3 g3 g4 D4 B4 => ?_
    (repeat' decreasing_trivial_pre_omega)
    refine oq_ix_li (xs := [0, 255, x]) g3 (by simp only [List.length_cons, List.length_nil]; omega) ?_
    have hx : ∀ y ∈ [0, 255, x], 0 ≤ y ∧ y < 256 := by
      intro y hy
      simp only [List.mem_cons, List.not_mem_nil, or_false] at hy
      omega
    have hi : i.toNat < [0, 255, x].length := by simp only [List.length_cons, List.length_nil]; omega
    have hmm := hx _ (List.getElem_mem hi)
    rw [List.getD_eq_getElem?_getD, List.getElem?_eq_getElem hi]
    refine ⟨by rw [List.length_map]; omega, hX _ _ ⟨r ++ [_], by rw [List.map_append]; rfl, by rw [List.length_append]; simp only [List.length_cons, List.length_nil]; omega, fun k hk => ?_, D4, (B2.trans B3).trans B4⟩⟩
    rcases List.mem_append.mp hk with hk | hk
    · exact hm k hk
    · rw [List.mem_singleton.mp hk]
      exact hmm
end K47
namespace K47
open PySem L2 Hz
local macro_rules | `(tactic| array_mem_dec) => `(tactic| (first | ((with_reducible apply w_xf); exact rfl; exact decide_eq_true rfl; exact rfl) | ((with_reducible apply w_frzS); exact rfl; (first | assumption | exact aset_same); (try simp only [List.set])) | ((with_reducible apply rg1_of); (first | omega | decide)) | ((with_reducible apply rg2_of); (first | omega | decide)) | ((with_reducible apply lok); exact rfl) | ((with_reducible refine it2_dec ?_ ?_) <;> intro)))
local macro_rules | `(tactic| array_mem_dec) => `(tactic| (first | ((with_reducible apply oq_setv2); (simp only [List.set, wipeA]; exact rfl)) | ((with_reducible apply cal_of); exact rfl; (try simp only [List.cons_append, List.nil_append, List.append_nil])) | ((with_reducible apply w_aug); exact rfl) | ((with_reducible apply cel_of); (first | assumption | exact aset_same)) | ((with_reducible apply ceo_of); (first | assumption | exact aset_same)) | ((with_reducible apply tlG_r); (first | assumption | exact aset_same)) | ((with_reducible apply fr_of); (first | assumption | exact aset_same)) | ((with_reducible apply fd_cons); exact trivial) | ((with_reducible apply fd_nil); exact trivial) | ((with_reducible apply oq_isiB (b := true)); exact rfl) | ((with_reducible apply oq_isiB (b := false)); exact rfl) | ((with_reducible apply w_xi); exact rfl; exact decide_eq_true rfl; exact if_pos rfl)))
local macro_rules | `(tactic| array_mem_dec) => `(tactic| (with_reducible first | refine pr2_of ?_ | refine oq_and255 ?_ | refine vw_il ?_ | refine len_il ?_ | refine list_il ?_ | refine w_mk ?_ | refine vw_en ?_ | refine fe_1 ?_ | refine fe_2 ?_ | refine fe_3 ?_ | refine fe_4 ?_ | refine fe_5 ?_ | refine fe_6 ?_ | refine fe_7 ?_ | refine oq_intb ?_))
local macro_rules | `(tactic| array_mem_dec) => `(tactic| (with_reducible first | refine tb_b ?_ | refine ti_b ?_ | refine ts_b ?_ | refine we_nx ?_ | refine we_rt ?_ | refine we_ex ?_ | refine wn_nx ?_ | refine wn_rt ?_ | refine wn_bk ?_ | refine wn_ct ?_ | refine wn_ex ?_ | refine wl_nx ?_ | refine wl_rt ?_ | refine wl_bk ?_ | refine wl_ct ?_ | refine wl_ex ?_ | refine wx_nx ?_ | refine wx_rt ?_ | refine wx_bk ?_ | refine wx_ct ?_ | refine wx_ex ?_ | refine wh_nx ?_ | refine wh_rt ?_ | refine wh_bk ?_ | refine wh_ct ?_ | refine it2_t ?_ | refine it2_f ?_ | refine it2_not ?_ | refine tlG_l ?_ | refine ttG_t ?_))
local macro_rules | `(tactic| array_mem_dec) => `(tactic| ((with_reducible refine oq_id ?_); (first | (with_reducible first | refine vw_i ?_ | refine vw_s ?_ | refine vw_b ?_ | refine vw_n ?_ | refine vw_l ?_ | refine vw_t ?_ | refine vw_sc ?_ | refine vw_o ?_ | refine mv_nil ?_ | refine mv_cons ?_ | refine oq_tgNil ?_ | refine oq_tgCons ?_ | refine oq_add_i ?_ | refine oq_sub ?_ | refine oq_lt ?_ | refine oq_le ?_ | refine oq_gt ?_ | refine oq_ge ?_ | refine oq_eq_i ?_ | refine oq_ne_i ?_ | refine oq_eq_s ?_ | refine oq_ne_s ?_ | refine oq_eq_b ?_ | refine oq_ne_b ?_ | refine oq_is ?_ | refine oq_isNot ?_ | refine oq_in_s ?_ | refine oq_notIn_s ?_ | refine oq_len_l ?_ | refine oq_len_t ?_ | refine oq_int ?_ | refine oq_abs ?_ | refine oq_ord ?_ | refine oq_cut_l ?_ | refine oq_cut_t ?_ | refine oq_list_l ?_ | refine oq_list_t ?_ | refine oq_tuple_l ?_ | refine oq_tuple_t ?_ | refine oq_max2 ?_ | refine oq_min2 ?_ | refine oq_some ?_ | refine oq_len_sc ?_ | refine oq_eq_il ?_ | refine oq_ne_il ?_ | refine oq_eq_it ?_ | refine oq_ne_it ?_ | refine oq_lt_il ?_ | refine oq_lt_it ?_ | refine oq_iadd_i ?_ | refine oq_isT ?_ | refine oq_isNotT ?_) | (first | ((with_reducible apply oq_tgTup); exact rfl) | ((with_reducible apply oq_ix_lk); exact rfl) | ((with_reducible apply oq_ix_tk); exact rfl) | ((with_reducible apply vw_r); (first | assumption | exact aset_same)) | ((with_reducible apply oq_ixN_k); exact rfl; (try simp only [List.set, Int.reduceToNat])) | ((with_reducible apply oq_mod); (first | omega | decide)) | ((with_reducible apply oq_div); (first | omega | decide)) | ((with_reducible apply oq_mul); (first | omega | decide)) | ((with_reducible apply oq_pow); (first | omega | decide)) | ((with_reducible apply oq_shl); (first | omega | decide)) | ((with_reducible apply oq_shr); (first | omega | decide)) | ((with_reducible apply oq_add_s); (first | omega | decide))) | (first | ((with_reducible apply oq_len_s); (first | omega | decide)) | ((with_reducible apply oq_cut_s); (first | omega | decide)) | ((with_reducible apply oq_append); (first | omega | decide)) | ((with_reducible apply oq_insert); (first | omega | decide)) | ((with_reducible apply oq_rep); (first | omega | decide)) | ((with_reducible apply oq_cat); (first | omega | decide))))))
local macro_rules | `(tactic| array_mem_dec) => `(tactic| (with_reducible first | refine w_list ?_ | refine w_tuple ?_ | refine w_str ?_ | refine w_range1 ?_ | refine w_range2 ?_ | refine w_range3 ?_ | refine w_next ?_ | refine w_break ?_ | refine w_cont ?_ | refine w_drop ?_ | refine w_ret ?_ | refine w_retN ?_ | refine w_if ?_ | refine w_asg ?_ | refine w_raise ?_ | refine w_fld ?_ | refine w_seta ?_ | refine w_auga ?_ | refine w_seti ?_ | refine w_mut ?_ | refine w_frz ?_ | refine w_new ?_ | refine w_ext ?_ | refine w_for ?_ | refine w_lc ?_ | refine w_tryA ?_ | refine w_try ?_ | refine w_par ?_))
local macro_rules | `(tactic| array_mem_dec) => `(tactic| (first | ((with_reducible apply w_kV); exact rfl) | (with_reducible first | refine w_kC ?_ | refine w_bop ?_ | refine w_tst ?_ | refine w_val ?_ | refine w_and ?_ | refine w_or ?_ | refine w_not ?_ | refine w_andV ?_ | refine w_orV ?_ | refine w_chain ?_ | refine w_ifK ?_ | refine w_nil ?_ | refine w_cons ?_ | refine w_tup ?_ | refine w_lst ?_ | refine w_call ?_ | refine w_neg ?_ | refine w_b1 ?_ | refine w_bn ?_ | refine w_isi ?_ | refine w_met ?_ | refine w_pnone ?_ | refine w_psome ?_ | refine w_cut ?_ | refine w_yes ?_)))
local macro_rules | `(tactic| array_get_dec) => `(tactic| (with_reducible refine w_seqB ?_))
local macro_rules | `(tactic| array_get_dec) => `(tactic| array_mem_dec)
local macro_rules | `(tactic| decreasing_trivial_pre_omega) => `(tactic| (with_reducible refine w_seq ?_))
local macro_rules | `(tactic| decreasing_trivial_pre_omega) => `(tactic| array_mem_dec)
local macro_rules | `(tactic| sizeOf_list_dec) => `(tactic| (try simp only [List.set, Int.reduceToNat, List.map_cons, List.map_nil, Nat.reduceSub, List.reduceReplicate, List.cons_append, List.nil_append, wipeA, aset_aset, List.getElem?_cons_zero, List.getElem?_cons_succ]))
variable {CE CR CF CB CI gX : Nat} {α : AH} {Q : QD} {E : QX}
theorem oq_and1 {x : Int} {R : D → Prop} (h : R (.int (x % 2))) : oq (dAnd (.int x) (.int 1)) R := ⟨_, by
  have e : ((1 : Int) + 1).toNat.log2 = 1 := by decide +kernel
  show (if (1 : Int) = 2 ^ ((1 : Int) + 1).toNat.log2 - 1 then some (PyData.int (x % 2 ^ ((1 : Int) + 1).toNat.log2)) else none) = some (PyData.int (x % 2))
  rw [e]
  rfl, h⟩
local macro_rules | `(tactic| array_mem_dec) => `(tactic| (with_reducible first | refine oq_and1 ?_))
theorem bit_step {m : Int} {k : Nat} (hk : k < 9) (h : m % 2 ^ k = 0) (hb : ¬ (m / 2 ^ (k : Int).toNat % 2 = 1)) : m % 2 ^ (k + 1) = 0 := by
  rw [Int.toNat_natCast] at hb
  have : k = 0 ∨ k = 1 ∨ k = 2 ∨ k = 3 ∨ k = 4 ∨ k = 5 ∨ k = 6 ∨ k = 7 ∨ k = 8 := by omega
  rcases this with rfl | rfl | rfl | rfl | rfl | rfl | rfl | rfl | rfl <;> simp only [Int.reducePow, Nat.reduceAdd] at * <;> omega
theorem vec_dr {ns : List Int} {p : Addr} (h : DrAt p α) (q : ∀ v α', veOk v → DrAt p α' → But p α α' → Q (.tuple (v.map vD)) α') : f_law_vector CE CR CF CB CI gX [dref p, scriptD ns] α Q E := by
  unfold f_law_vector m_law_vector
  refine w_runP rfl ?_
  sizeOf_list_dec
  (repeat' array_get_dec)
  refine dr_go h (by decide) fun d1 α1 g1 g2 D1 B1 => ?_
  sizeOf_list_dec
  (repeat' array_get_dec)
  try refine bar_of ?_
  sizeOf_list_dec
  refine w_seqI (fun ρ α' => ∃ (m : Int) (x : Option D), ρ = [some (dref p), some (scriptD ns), some (.int m), x] ∧ (1 ≤ m ∧ m ≤ 511) ∧ DrAt p α' ∧ But p α α') ?_ fun X hX => ?_
  rotate_left
  · (repeat' array_get_dec)
    refine dr_go D1 (by decide) fun d2 α2 g3 g4 D2 B2 => ?_
    (repeat' array_get_dec)
    · refine dr_go D2 (by decide) fun d3 α3 g5 g6 D3 B3 => ?_
      have hp : 1 ≤ (1 : Int) * 2 ^ d3.toNat ∧ (1 : Int) * 2 ^ d3.toNat ≤ 511 := by
        obtain ⟨e, rfl⟩ := Int.eq_ofNat_of_zero_le g5
        rw [Int.toNat_natCast]
        have : e = 0 ∨ e = 1 ∨ e = 2 ∨ e = 3 ∨ e = 4 ∨ e = 5 ∨ e = 6 ∨ e = 7 ∨ e = 8 := by omega
        rcases this with rfl | rfl | rfl | rfl | rfl | rfl | rfl | rfl | rfl <;> decide
      (repeat' array_get_dec)
      exact hX _ _ ⟨_, _, rfl, hp, D3, (B1.trans B2).trans B3⟩
    · exact hX _ _ ⟨_, _, rfl, by omega, D2, B1.trans B2⟩
  clear D1 B1
  rintro ρ α1 ⟨m, x, rfl, hm, D1, B1⟩
  sizeOf_list_dec
  (repeat' array_get_dec)
  refine lc_inv (fun rr acc α' => ∃ (v : List (Int × Int)) (k : Nat), k ≤ 9 ∧ rr = nums (k : Int) (9 - k) ∧ acc = v.map vD ∧ v.length ≤ k ∧ (v.map (·.1)).Pairwise (· < ·) ∧ (∀ x ∈ v, (1 ≤ x.1 ∧ x.1 ≤ (k : Int)) ∧ 1 ≤ x.2 ∧ x.2 < 4294967296) ∧ (v = [] → m % 2 ^ k = 0) ∧ DrAt p α' ∧ But p α α') ⟨[], 0, by omega, rfl, rfl, by simp, by simp, (fun _ h => nomatch h), fun _ => by simp, D1, B1⟩ (fun _ _ _ _ => trivial) ?_ ?_
  · rintro acc α' ⟨v, k, hk, hr, rfl, hl, hp, hx, hz, D2, B2⟩
    obtain rfl : k = 9 := by
      rcases Nat.lt_or_ge k 9 with h | h
      · obtain ⟨j, hj⟩ : ∃ j, 9 - k = j + 1 := ⟨9 - k - 1, by omega⟩
        rw [hj] at hr
        cases hr
      · omega
    (repeat' array_get_dec)
    rw [arst_but h.isS B2]
    refine q v _ ⟨?_, by omega, hp, fun x hxx => ?_⟩ D2 B2
    · cases v with
      | nil =>
        have := hz rfl
        simp only [Int.reducePow] at this
        omega
      | cons a b => simp
    · have := hx x hxx
      exact ⟨⟨this.1.1, by have := this.1.2; omega⟩, this.2⟩
  · rintro d rr acc α' ⟨v, k, hk, hr, rfl, hl, hp, hx, hz, D2, B2⟩ X hX
    have hk9 : k < 9 := by
      rcases Nat.lt_or_ge k 9 with h | h
      · exact h
      · rw [show 9 - k = 0 by omega] at hr
        cases hr
    obtain ⟨j, hj⟩ : ∃ j, 9 - k = j + 1 := ⟨9 - k - 1, by omega⟩
    rw [hj] at hr
    obtain ⟨rfl, rfl⟩ : d = .int (k : Int) ∧ rr = nums (((k + 1 : Nat)) : Int) (9 - (k + 1)) := by
      rw [show 9 - (k + 1) = j by omega]
      have hr : d :: rr = .int (k : Int) :: nums ((k : Int) + 1) j := hr
      injection hr with h1 h2
      exact ⟨h1, by rw [h2]; rfl⟩
    have hal : (v.map vD).length < 100000 := by rw [List.length_map]; omega
    sizeOf_list_dec
    (repeat' array_get_dec)
    · refine cnt_go (by decide) D2 fun c α2 g3 g4 D3 B3 => ?_
      (repeat' array_get_dec)
      refine ⟨hal, hX _ _ ⟨v ++ [((k : Int) + 1, c)], k + 1, by omega, rfl, by rw [List.map_append]; rfl, by rw [List.length_append]; simp only [List.length_cons, List.length_nil]; omega, ?_, fun x hxx => ?_, fun hn => ?_, D3, B2.trans B3⟩⟩
      · rw [List.map_append, List.pairwise_append]
        refine ⟨hp, by simp, fun a ha b hb => ?_⟩
        obtain ⟨x, hx1, rfl⟩ := List.mem_map.mp ha
        have := (hx x hx1).1.2
        simp only [List.map_cons, List.map_nil, List.mem_singleton] at hb
        omega
      · rcases List.mem_append.mp hxx with h1 | h1
        · have := hx x h1
          exact ⟨⟨this.1.1, by have := this.1.2; omega⟩, this.2⟩
        · rw [List.mem_singleton.mp h1]
          exact ⟨⟨by show (1 : Int) ≤ k + 1; omega, by show (k : Int) + 1 ≤ _; omega⟩, g3, g4⟩
      · simp at hn
    · rename_i hb
      refine hX _ _ ⟨v, k + 1, by omega, rfl, rfl, by omega, hp, fun x hxx => ?_, fun hn => bit_step hk9 (hz hn) hb, D2, B2⟩
      have := hx x hxx
      exact ⟨⟨this.1.1, by have := this.1.2; omega⟩, this.2⟩
end K47
namespace K47
open PySem L2 Hz
local macro_rules | `(tactic| array_mem_dec) => `(tactic| (first | ((with_reducible apply w_xf); exact rfl; exact decide_eq_true rfl; exact rfl) | ((with_reducible apply w_frzS); exact rfl; (first | assumption | exact aset_same); (try simp only [List.set])) | ((with_reducible apply rg1_of); (first | omega | decide)) | ((with_reducible apply rg2_of); (first | omega | decide)) | ((with_reducible apply lok); exact rfl) | ((with_reducible refine it2_dec ?_ ?_) <;> intro)))
local macro_rules | `(tactic| array_mem_dec) => `(tactic| (first | ((with_reducible apply oq_setv2); (simp only [List.set, wipeA]; exact rfl)) | ((with_reducible apply cal_of); exact rfl; (try simp only [List.cons_append, List.nil_append, List.append_nil])) | ((with_reducible apply w_aug); exact rfl) | ((with_reducible apply cel_of); (first | assumption | exact aset_same)) | ((with_reducible apply ceo_of); (first | assumption | exact aset_same)) | ((with_reducible apply tlG_r); (first | assumption | exact aset_same)) | ((with_reducible apply fr_of); (first | assumption | exact aset_same)) | ((with_reducible apply fd_cons); exact trivial) | ((with_reducible apply fd_nil); exact trivial) | ((with_reducible apply oq_isiB (b := true)); exact rfl) | ((with_reducible apply oq_isiB (b := false)); exact rfl) | ((with_reducible apply w_xi); exact rfl; exact decide_eq_true rfl; exact if_pos rfl)))
local macro_rules | `(tactic| array_mem_dec) => `(tactic| (with_reducible first | refine pr2_of ?_ | refine oq_and255 ?_ | refine vw_il ?_ | refine len_il ?_ | refine list_il ?_ | refine w_mk ?_ | refine vw_en ?_ | refine fe_1 ?_ | refine fe_2 ?_ | refine fe_3 ?_ | refine fe_4 ?_ | refine fe_5 ?_ | refine fe_6 ?_ | refine fe_7 ?_ | refine oq_intb ?_))
local macro_rules | `(tactic| array_mem_dec) => `(tactic| (with_reducible first | refine tb_b ?_ | refine ti_b ?_ | refine ts_b ?_ | refine we_nx ?_ | refine we_rt ?_ | refine we_ex ?_ | refine wn_nx ?_ | refine wn_rt ?_ | refine wn_bk ?_ | refine wn_ct ?_ | refine wn_ex ?_ | refine wl_nx ?_ | refine wl_rt ?_ | refine wl_bk ?_ | refine wl_ct ?_ | refine wl_ex ?_ | refine wx_nx ?_ | refine wx_rt ?_ | refine wx_bk ?_ | refine wx_ct ?_ | refine wx_ex ?_ | refine wh_nx ?_ | refine wh_rt ?_ | refine wh_bk ?_ | refine wh_ct ?_ | refine it2_t ?_ | refine it2_f ?_ | refine it2_not ?_ | refine tlG_l ?_ | refine ttG_t ?_))
local macro_rules | `(tactic| array_mem_dec) => `(tactic| ((with_reducible refine oq_id ?_); (first | (with_reducible first | refine vw_i ?_ | refine vw_s ?_ | refine vw_b ?_ | refine vw_n ?_ | refine vw_l ?_ | refine vw_t ?_ | refine vw_sc ?_ | refine vw_o ?_ | refine mv_nil ?_ | refine mv_cons ?_ | refine oq_tgNil ?_ | refine oq_tgCons ?_ | refine oq_add_i ?_ | refine oq_sub ?_ | refine oq_lt ?_ | refine oq_le ?_ | refine oq_gt ?_ | refine oq_ge ?_ | refine oq_eq_i ?_ | refine oq_ne_i ?_ | refine oq_eq_s ?_ | refine oq_ne_s ?_ | refine oq_eq_b ?_ | refine oq_ne_b ?_ | refine oq_is ?_ | refine oq_isNot ?_ | refine oq_in_s ?_ | refine oq_notIn_s ?_ | refine oq_len_l ?_ | refine oq_len_t ?_ | refine oq_int ?_ | refine oq_abs ?_ | refine oq_ord ?_ | refine oq_cut_l ?_ | refine oq_cut_t ?_ | refine oq_list_l ?_ | refine oq_list_t ?_ | refine oq_tuple_l ?_ | refine oq_tuple_t ?_ | refine oq_max2 ?_ | refine oq_min2 ?_ | refine oq_some ?_ | refine oq_len_sc ?_ | refine oq_eq_il ?_ | refine oq_ne_il ?_ | refine oq_eq_it ?_ | refine oq_ne_it ?_ | refine oq_lt_il ?_ | refine oq_lt_it ?_ | refine oq_iadd_i ?_ | refine oq_isT ?_ | refine oq_isNotT ?_) | (first | ((with_reducible apply oq_tgTup); exact rfl) | ((with_reducible apply oq_ix_lk); exact rfl) | ((with_reducible apply oq_ix_tk); exact rfl) | ((with_reducible apply vw_r); (first | assumption | exact aset_same)) | ((with_reducible apply oq_ixN_k); exact rfl; (try simp only [List.set, Int.reduceToNat])) | ((with_reducible apply oq_mod); (first | omega | decide)) | ((with_reducible apply oq_div); (first | omega | decide)) | ((with_reducible apply oq_mul); (first | omega | decide)) | ((with_reducible apply oq_pow); (first | omega | decide)) | ((with_reducible apply oq_shl); (first | omega | decide)) | ((with_reducible apply oq_shr); (first | omega | decide)) | ((with_reducible apply oq_add_s); (first | omega | decide))) | (first | ((with_reducible apply oq_len_s); (first | omega | decide)) | ((with_reducible apply oq_cut_s); (first | omega | decide)) | ((with_reducible apply oq_append); (first | omega | decide)) | ((with_reducible apply oq_insert); (first | omega | decide)) | ((with_reducible apply oq_rep); (first | omega | decide)) | ((with_reducible apply oq_cat); (first | omega | decide))))))
local macro_rules | `(tactic| array_mem_dec) => `(tactic| (with_reducible first | refine w_list ?_ | refine w_tuple ?_ | refine w_str ?_ | refine w_range1 ?_ | refine w_range2 ?_ | refine w_range3 ?_ | refine w_next ?_ | refine w_break ?_ | refine w_cont ?_ | refine w_drop ?_ | refine w_ret ?_ | refine w_retN ?_ | refine w_if ?_ | refine w_asg ?_ | refine w_raise ?_ | refine w_fld ?_ | refine w_seta ?_ | refine w_auga ?_ | refine w_seti ?_ | refine w_mut ?_ | refine w_frz ?_ | refine w_new ?_ | refine w_ext ?_ | refine w_for ?_ | refine w_lc ?_ | refine w_tryA ?_ | refine w_try ?_ | refine w_par ?_))
local macro_rules | `(tactic| array_mem_dec) => `(tactic| (first | ((with_reducible apply w_kV); exact rfl) | (with_reducible first | refine w_kC ?_ | refine w_bop ?_ | refine w_tst ?_ | refine w_val ?_ | refine w_and ?_ | refine w_or ?_ | refine w_not ?_ | refine w_andV ?_ | refine w_orV ?_ | refine w_chain ?_ | refine w_ifK ?_ | refine w_nil ?_ | refine w_cons ?_ | refine w_tup ?_ | refine w_lst ?_ | refine w_call ?_ | refine w_neg ?_ | refine w_b1 ?_ | refine w_bn ?_ | refine w_isi ?_ | refine w_met ?_ | refine w_pnone ?_ | refine w_psome ?_ | refine w_cut ?_ | refine w_yes ?_)))
local macro_rules | `(tactic| array_get_dec) => `(tactic| (with_reducible refine w_seqB ?_))
local macro_rules | `(tactic| array_get_dec) => `(tactic| array_mem_dec)
local macro_rules | `(tactic| decreasing_trivial_pre_omega) => `(tactic| (with_reducible refine w_seq ?_))
local macro_rules | `(tactic| decreasing_trivial_pre_omega) => `(tactic| array_mem_dec)
local macro_rules | `(tactic| sizeOf_list_dec) => `(tactic| (try simp only [List.set, Int.reduceToNat, List.map_cons, List.map_nil, Nat.reduceSub, List.reduceReplicate, List.cons_append, List.nil_append, wipeA, aset_aset, List.getElem?_cons_zero, List.getElem?_cons_succ]))
variable {CE CR CF CB CI gX : Nat} {α : AH} {Q : QD} {E : QX}
def BuX (p : Addr) (α α' : AH) : Prop := ∀ a, a ≠ p → (α a).isSome = true → α' a = α a
theorem BuX.of {p : Addr} {α1 : AH} (h : But p α α1) : BuX p α α1 := fun a ha _ => h a ha
theorem BuX.but {p : Addr} {α1 α2 : AH} (h : BuX p α α1) (k : But p α1 α2) : BuX p α α2 := fun a ha hs => (k a ha).trans (h a ha hs)
theorem BuX.new {p z : Addr} {α1 : AH} {d : D} (h : BuX p α α1) (hz : α1 z = none) : BuX p α (aset α1 z d) := fun a ha hs => by
  rw [aset_ne fun e => ?_]
  · exact h a ha hs
  · rw [← h a ha hs, e, hz] at hs
    cases hs
theorem BuX.put {p z : Addr} {α1 : AH} {d : D} (h : BuX p α α1) (hz : α z = none) : BuX p α (aset α1 z d) := fun a ha hs => by
  rw [aset_ne fun e => ?_]
  · exact h a ha hs
  · rw [e, hz] at hs
    cases hs
theorem BuX.none {p z : Addr} {α1 : AH} (h : BuX p α α1) (hz : α1 z = none) (hp : p ≠ z) : α z = none := by
  cases e : α z with
  | none => rfl
  | some c =>
    have := h z (Ne.symm hp) (by rw [e]; rfl)
    rw [e, hz] at this
    cases this
theorem arst_bux {p : Addr} {α' : AH} (h : BuX p α α') : But p α (arst α α') := fun a ha => by
  unfold arst
  by_cases q : (α a).isSome = true
  · rw [if_pos q]
    exact h a ha q
  · rw [if_neg q]
    cases e : α a with
    | none => rfl
    | some c => rw [e] at q; exact absurd rfl q
theorem DrAt.cong {p : Addr} {α' : AH} (h : DrAt p α) (e : α' p = α p) : DrAt p α' := by
  obtain ⟨a, b, h⟩ := h
  exact ⟨a, b, e.trans h⟩
theorem DrAt.ne {p z : Addr} (h : DrAt p α) (hz : α z = none) : p ≠ z := fun e => by
  have := h.isS
  rw [e, hz] at this
  cases this
theorem DrAt.new {p z : Addr} {d : D} (h : DrAt p α) (hz : α z = none) : DrAt p (aset α z d) := h.cong (aset_ne (h.ne hz))
def rwOk (rows : List (List Int)) : Prop := (∀ p ∈ rows, okp p) ∧ rows.length ≤ 255 ∧ ∀ j, j + 1 < rows.length → (rows.getD j []).length = 4
theorem okp4 {p : List Int} (h : p.length = 4) (hd : ∀ d ∈ p, 0 ≤ d ∧ d < 256) : okp p := ⟨by omega, fun e => by (rw [e] at h; cases h), hd⟩
theorem rwOk_of {rows : List (List Int)} {r : List Int} (h : ∀ p ∈ rows, okp p ∧ p.length = 4) (hr : okp r) (hl : rows.length ≤ 254) : rwOk (rows ++ [r]) := by
  refine ⟨fun p hp => ?_, by rw [List.length_append]; simp only [List.length_cons, List.length_nil]; omega, fun j hj => ?_⟩
  · rcases List.mem_append.mp hp with hp | hp
    · exact (h p hp).1
    · rw [List.mem_singleton.mp hp]
      exact hr
  · rw [List.length_append, List.length_cons, List.length_nil] at hj
    have hj : j < rows.length := by omega
    rw [List.getD_eq_getElem?_getD, List.getElem?_append_left hj, List.getElem?_eq_getElem hj]
    exact (h _ (List.getElem_mem hj)).2
theorem rwOk_nil : rwOk [] := ⟨(fun _ h => nomatch h), by simp, fun j hj => by simp at hj⟩
theorem ent_dr {ns : List Int} {p : Addr} (h : DrAt p α) (q : ∀ (x : EF) rows num α', EOk x rows → 1 ≤ num → num < 4294967296 → DrAt p α' → But p α α' → Q (.tuple [efT x, .int num]) α') : f_law_entry CE CR CF CB CI gX [dref p, scriptD ns] α Q E := by
  unfold f_law_entry m_law_entry
  refine w_runP rfl ?_
  sizeOf_list_dec
  (repeat' array_get_dec)
  refine dr_go h (by decide) fun d1 α1 g1 g2 D1 B1 => ?_
  replace B1 := BuX.of B1
  (repeat' array_get_dec)
  try refine bar_of ?_
  sizeOf_list_dec
  (repeat' array_get_dec)
  intro c hc
  (repeat' array_get_dec)
  try refine bar_of ?_
  sizeOf_list_dec
  generalize decide (d1 = 0) = de
  have B2 := B1.new (d := .list []) hc
  have D2 := D1.new (d := .list []) hc
  have hc2 : (aset α1 c (.list [])) c = some (.list (([] : List (List Int)).map ilD)) := aset_same
  have hcp := D1.ne hc
  generalize aset α1 c (.list []) = α2 at *
  clear D1 B1 hc
  refine w_seqI (fun ρ α' => ∃ (c : Addr) (rows : List (List Int)) (x : Option D), ρ = [some (dref p), some (scriptD ns), some (.bool de), some (dref c), none, none, x, none] ∧ p ≠ c ∧ α' c = some (.list (rows.map ilD)) ∧ rwOk rows ∧ (de = true → rows = []) ∧ DrAt p α' ∧ BuX p α α') ?_ fun X hX => ?_
  rotate_left
  · cases de with
    | true =>
      (repeat' array_get_dec)
      exact hX _ _ ⟨c, [], _, rfl, hcp, hc2, rwOk_nil, fun _ => rfl, D2, B2⟩
    | false =>
      (repeat' array_get_dec)
      refine dr_go D2 (by decide) fun n α3 g3 g4 D3 B3 => ?_
      have hnl : (nums 0 n.toNat).length = n.toNat := by rw [nums_map, List.length_map, List.length_range]
      (repeat' array_get_dec)
      refine lc_inv (fun rr acc α' => ∃ (rows : List (List Int)), acc = rows.map ilD ∧ rows.length + rr.length = n.toNat ∧ (∀ p ∈ rows, okp p ∧ p.length = 4) ∧ DrAt p α' ∧ BuX p α α') ⟨[], rfl, by rw [hnl, List.length_nil, Nat.zero_add], (fun _ h => nomatch h), D3, B2.but B3⟩ (fun _ _ _ _ => trivial) ?_ ?_
      rotate_left
      · rintro d rr acc α' ⟨rows, rfl, hl, hm, D4, B4⟩ X hX
        rw [List.length_cons] at hl
        sizeOf_list_dec
        (repeat' array_get_dec)
        refine row_dr (n := 4) (by decide) D4 fun r α5 hr hd D5 B5 => ?_
        refine ⟨by rw [List.length_map]; omega, hX _ _ ⟨rows ++ [r], by rw [List.map_append]; rfl, by rw [List.length_append]; simp only [List.length_cons, List.length_nil]; omega, fun k hk => ?_, D5, B4.but B5⟩⟩
        rcases List.mem_append.mp hk with hk | hk
        · exact hm k hk
        · rw [List.mem_singleton.mp hk]
          exact ⟨okp4 (by omega) hd, by omega⟩
      rintro acc α4 ⟨rows, rfl, hl, hm, D4, B4⟩
      rw [List.length_nil] at hl
      clear D3 B3 D2 B2 hc2 hcp
      intro c1 hc1
      (repeat' array_get_dec)
      try refine bar_of ?_
      sizeOf_list_dec
      have hcp := D4.ne hc1
      have hn1 := B4.none hc1 hcp
      have B5 := B4.new (d := .list (rows.map ilD)) hc1
      have D5 := D4.new (d := .list (rows.map ilD)) hc1
      have hc5 : (aset α4 c1 (.list (rows.map ilD))) c1 = some (.list (rows.map ilD)) := aset_same
      generalize aset α4 c1 (.list (rows.map ilD)) = α5 at *
      clear D4 B4 hc1
      refine w_seqI (fun ρ α' => ∃ (c : Addr) (rows : List (List Int)) (x : Option D), ρ = [some (dref p), some (scriptD ns), some (.bool false), some (dref c), none, none, x, none] ∧ p ≠ c ∧ α c = none ∧ α' c = some (.list (rows.map ilD)) ∧ (∀ p ∈ rows, okp p ∧ p.length = 4) ∧ rows.length ≤ 254 ∧ DrAt p α' ∧ BuX p α α') ?_ fun Y hY => ?_
      rotate_left
      · (repeat' array_get_dec)
        refine dr_go D5 (by decide) fun d2 α6 g5 g6 D6 B6 => ?_
        have hc6 : α6 c1 = some (.list (rows.map ilD)) := (B6 c1 (Ne.symm hcp)).trans hc5
        (repeat' array_get_dec)
        · refine dr_go D6 (by decide) fun d3 α7 g7 g8 D7 B7 => ?_
          have hc7 : α7 c1 = some (.list (rows.map ilD)) := (B7 c1 (Ne.symm hcp)).trans hc6
          have hnl : (nums 0 (250 + d3).toNat).length = (250 + d3).toNat := by rw [nums_map, List.length_map, List.length_range]
          (repeat' array_get_dec)
          refine lc_inv (fun rr acc α' => α' = α7 ∧ ∃ (k : Nat) (rs : List (List Int)), k ≤ (250 + d3).toNat ∧ rr = nums (k : Int) ((250 + d3).toNat - k) ∧ acc = rs.map ilD ∧ rs.length = k ∧ ∀ p ∈ rs, okp p ∧ p.length = 4) ⟨rfl, 0, [], by omega, rfl, rfl, rfl, (fun _ h => nomatch h)⟩ (fun _ _ _ _ => trivial) ?_ ?_
          · rintro acc _ ⟨rfl, k, rs, hk, hr, rfl, hl2, hm2⟩
            have hk2 : k = (250 + d3).toNat := by
              rcases Nat.lt_or_ge k (250 + d3).toNat with h | h
              · obtain ⟨j, hj⟩ : ∃ j, (250 + d3).toNat - k = j + 1 := ⟨(250 + d3).toNat - k - 1, by omega⟩
                rw [hj] at hr
                cases hr
              · omega
            (repeat' array_get_dec)
            refine oq_cat (by rw [List.length_map, List.length_map]; omega) ?_
            (repeat' array_get_dec)
            intro c2 hc2
            (repeat' array_get_dec)
            refine hY _ _ ⟨c2, rows ++ rs, _, rfl, D7.ne hc2, ((B5.but B6).but B7).none hc2 (D7.ne hc2), by rw [aset_same, List.map_append], fun k hk => ?_, by rw [List.length_append]; omega, D7.new hc2, ((B5.but B6).but B7).new hc2⟩
            rcases List.mem_append.mp hk with hk | hk
            · exact hm k hk
            · exact hm2 k hk
          · rintro d rr acc _ ⟨rfl, k, rs, hk, hr, rfl, hl2, hm2⟩ Z hZ
            have hk9 : k < (250 + d3).toNat := by
              rcases Nat.lt_or_ge k (250 + d3).toNat with h | h
              · exact h
              · rw [show (250 + d3).toNat - k = 0 by omega] at hr
                cases hr
            obtain ⟨j, hj⟩ : ∃ j, (250 + d3).toNat - k = j + 1 := ⟨(250 + d3).toNat - k - 1, by omega⟩
            rw [hj] at hr
            obtain ⟨rfl, rfl⟩ : d = .int (k : Int) ∧ rr = nums (((k + 1 : Nat)) : Int) ((250 + d3).toNat - (k + 1)) := by
              rw [show (250 + d3).toNat - (k + 1) = j by omega]
              have hr : d :: rr = .int (k : Int) :: nums ((k : Int) + 1) j := hr
              injection hr with h1 h2
              exact ⟨h1, by rw [h2]; rfl⟩
            sizeOf_list_dec
            (repeat' array_get_dec)
            refine ⟨by rw [List.length_map]; omega, hZ _ _ ⟨rfl, k + 1, rs ++ [[(k : Int) % 256, 0, 7, 255 - (k : Int) % 256]], by omega, rfl, by rw [List.map_append]; rfl, by rw [List.length_append]; simp only [List.length_cons, List.length_nil]; omega, fun k hk => ?_⟩⟩
            rcases List.mem_append.mp hk with hk | hk
            · exact hm2 k hk
            · rw [List.mem_singleton.mp hk]
              refine ⟨okp4 rfl fun d hd => ?_, rfl⟩
              simp only [List.mem_cons, List.not_mem_nil, or_false] at hd
              omega
        · exact hY _ _ ⟨c1, rows, _, rfl, hcp, hn1, hc6, hm, by omega, D6, B5.but B6⟩
      clear D5 B5 hc5 hcp hm hl
      rintro ρ α6 ⟨c2, rows, x, rfl, hcp, hn2, hc6, hm, hl, D6, B6⟩
      sizeOf_list_dec
      (repeat' array_get_dec)
      refine dr_go D6 (by decide) fun d4 α7 g7 g8 D7 B7 => ?_
      (repeat' array_get_dec)
      refine row_dr (n := 1 + d4) (by omega) D7 fun r α8 hr hd D8 B8 => ?_
      have hc8 : α8 c2 = some (.list (rows.map ilD)) := (B8 c2 (Ne.symm hcp)).trans ((B7 c2 (Ne.symm hcp)).trans hc6)
      have hal : (rows.map ilD).length < 100000 := by rw [List.length_map]; omega
      have hokr : okp r := ⟨by omega, fun e => by rw [e] at hr; simp at hr; omega, hd⟩
      have hrw := rwOk_of hm hokr hl
      (repeat' array_get_dec)
      try refine oq_append hal ?_
      (repeat' array_get_dec)
      try refine bar_of ?_
      sizeOf_list_dec
      have D9 : DrAt p (aset α8 c2 (.list (rows.map ilD ++ [ilD r]))) := D8.cong (aset_ne hcp)
      have B9 : BuX p α (aset α8 c2 (.list (rows.map ilD ++ [ilD r]))) := ((B6.but B7).but B8).put hn2
      have hc9 : (aset α8 c2 (.list (rows.map ilD ++ [ilD r]))) c2 = some (.list ((rows ++ [r]).map ilD)) := by rw [aset_same, List.map_append]; rfl
      generalize aset α8 c2 (.list (rows.map ilD ++ [ilD r])) = α9 at *
      generalize rows ++ [r] = rw at *
      clear D8 D7 D6 B6 B7 B8 hc6 hc8
      (repeat' array_get_dec)
      refine dr_go D9 (by decide) fun d5 α10 g9 g10 D10 B10 => ?_
      have hc10 : α10 c2 = some (.list (rw.map ilD)) := (B10 c2 (Ne.symm hcp)).trans hc9
      (repeat' array_get_dec)
      · intro c3 hc3
        (repeat' array_get_dec)
        exact hX _ _ ⟨c3, [], _, rfl, D10.ne hc3, aset_same, rwOk_nil, fun _ => rfl, D10.new hc3, (B9.but B10).new hc3⟩
      · exact hX _ _ ⟨c2, rw, _, rfl, hcp, hc10, hrw, (fun e => nomatch e), D10, B9.but B10⟩
  clear D2 B2 hcp hc2
  rintro ρ α3 ⟨c, rows, x, rfl, hcp, hc3, hrw, hde, D3, B3⟩
  sizeOf_list_dec
  (repeat' array_get_dec)
  refine dr_go D3 (by decide) fun md α4 g3 g4 D4 B4 => ?_
  (repeat' array_get_dec)
  refine cnt_go (by decide) D4 fun mn α5 g5 g6 D5 B5 => ?_
  (repeat' array_get_dec)
  try refine bar_of ?_
  sizeOf_list_dec
  (repeat' array_get_dec)
  refine nm_go D5 fun nm α6 hnm D6 B6 => ?_
  (repeat' array_get_dec)
  refine vec_dr D6 fun ve α7 hve D7 B7 => ?_
  (repeat' array_get_dec)
  refine cnt_go (by decide) D7 fun hh α8 g7 g8 D8 B8 => ?_
  (repeat' array_get_dec)
  try refine bar_of ?_
  sizeOf_list_dec
  (repeat' array_get_dec)
  refine cnt_go (by decide) D8 fun ti α9 g9 g10 D9 B9 => ?_
  have B49 := ((((B4.trans B5).trans B6).trans B7).trans B8).trans B9
  have hc9 : α9 c = some (.list (rows.map ilD)) := (B49 c (Ne.symm hcp)).trans hc3
  have B39 := B3.but B49
  clear B3 B4 B5 B6 B7 B8 B9 B49 hc3 D3 D4 D5 D6 D7 D8
  (repeat' array_get_dec)
  refine lc_map rows ilD (fun p => .int (blkV p)) rfl (by have := hrw.2.1; omega) hc9 (fun z hz => ⟨_, rfl, fun R hR => ?_⟩) ?_
  · sizeOf_list_dec
    (repeat' array_get_dec)
    refine lblk_go (hrw.1 z hz).1 ?_
    exact hR
  have hbv : rows.map (fun p => PyData.int (blkV p)) = (rows.map (val 256 1)).map .int := by
    rw [List.map_map]
    refine List.map_congr_left fun p hp => ?_
    have := hrw.1 p hp
    show PyData.int (blkV p) = .int (val 256 1 p)
    rw [blkV_eq (List.length_pos_iff.mpr this.2.1) this.1]
  rw [hbv]
  (repeat' array_get_dec)
  try refine oq_add_t (by simp only [List.length_cons, List.length_nil]; omega) ?_
  (repeat' array_get_dec)
  try refine bar_of ?_
  sizeOf_list_dec
  (repeat' array_get_dec)
  refine cnt_go (lo := 1) (by decide) D9 fun num α10 g11 g12 D10 B10 => ?_
  (repeat' array_get_dec)
  refine q ⟨nm, ve, hh, 1 + md, mn, de, ti, rows.map (val 256 1)⟩ rows num _ ⟨hnm, hve, ⟨g7, g8⟩, ⟨by show 1 ≤ 1 + md; omega, by show 1 + md ≤ 9; omega⟩, ⟨g5, g6⟩, ⟨g9, g10⟩, rfl, hrw.1, hrw.2.1, hde, hrw.2.2⟩ g11 g12 (D10.cong (arst_at h.isS)) (arst_bux (B39.but B10))
end K47
namespace K47
open PySem L2 Hz
local macro_rules | `(tactic| array_mem_dec) => `(tactic| (first | ((with_reducible apply w_xf); exact rfl; exact decide_eq_true rfl; exact rfl) | ((with_reducible apply w_frzS); exact rfl; (first | assumption | exact aset_same); (try simp only [List.set])) | ((with_reducible apply rg1_of); (first | omega | decide)) | ((with_reducible apply rg2_of); (first | omega | decide)) | ((with_reducible apply lok); exact rfl) | ((with_reducible refine it2_dec ?_ ?_) <;> intro)))
local macro_rules | `(tactic| array_mem_dec) => `(tactic| (first | ((with_reducible apply oq_setv2); (simp only [List.set, wipeA]; exact rfl)) | ((with_reducible apply cal_of); exact rfl; (try simp only [List.cons_append, List.nil_append, List.append_nil])) | ((with_reducible apply w_aug); exact rfl) | ((with_reducible apply cel_of); (first | assumption | exact aset_same)) | ((with_reducible apply ceo_of); (first | assumption | exact aset_same)) | ((with_reducible apply tlG_r); (first | assumption | exact aset_same)) | ((with_reducible apply fr_of); (first | assumption | exact aset_same)) | ((with_reducible apply fd_cons); exact trivial) | ((with_reducible apply fd_nil); exact trivial) | ((with_reducible apply oq_isiB (b := true)); exact rfl) | ((with_reducible apply oq_isiB (b := false)); exact rfl) | ((with_reducible apply w_xi); exact rfl; exact decide_eq_true rfl; exact if_pos rfl)))
local macro_rules | `(tactic| array_mem_dec) => `(tactic| (with_reducible first | refine pr2_of ?_ | refine oq_and255 ?_ | refine vw_il ?_ | refine len_il ?_ | refine list_il ?_ | refine w_mk ?_ | refine vw_en ?_ | refine fe_1 ?_ | refine fe_2 ?_ | refine fe_3 ?_ | refine fe_4 ?_ | refine fe_5 ?_ | refine fe_6 ?_ | refine fe_7 ?_ | refine oq_intb ?_))
local macro_rules | `(tactic| array_mem_dec) => `(tactic| (with_reducible first | refine tb_b ?_ | refine ti_b ?_ | refine ts_b ?_ | refine we_nx ?_ | refine we_rt ?_ | refine we_ex ?_ | refine wn_nx ?_ | refine wn_rt ?_ | refine wn_bk ?_ | refine wn_ct ?_ | refine wn_ex ?_ | refine wl_nx ?_ | refine wl_rt ?_ | refine wl_bk ?_ | refine wl_ct ?_ | refine wl_ex ?_ | refine wx_nx ?_ | refine wx_rt ?_ | refine wx_bk ?_ | refine wx_ct ?_ | refine wx_ex ?_ | refine wh_nx ?_ | refine wh_rt ?_ | refine wh_bk ?_ | refine wh_ct ?_ | refine it2_t ?_ | refine it2_f ?_ | refine it2_not ?_ | refine tlG_l ?_ | refine ttG_t ?_))
local macro_rules | `(tactic| array_mem_dec) => `(tactic| ((with_reducible refine oq_id ?_); (first | (with_reducible first | refine vw_i ?_ | refine vw_s ?_ | refine vw_b ?_ | refine vw_n ?_ | refine vw_l ?_ | refine vw_t ?_ | refine vw_sc ?_ | refine vw_o ?_ | refine mv_nil ?_ | refine mv_cons ?_ | refine oq_tgNil ?_ | refine oq_tgCons ?_ | refine oq_add_i ?_ | refine oq_sub ?_ | refine oq_lt ?_ | refine oq_le ?_ | refine oq_gt ?_ | refine oq_ge ?_ | refine oq_eq_i ?_ | refine oq_ne_i ?_ | refine oq_eq_s ?_ | refine oq_ne_s ?_ | refine oq_eq_b ?_ | refine oq_ne_b ?_ | refine oq_is ?_ | refine oq_isNot ?_ | refine oq_in_s ?_ | refine oq_notIn_s ?_ | refine oq_len_l ?_ | refine oq_len_t ?_ | refine oq_int ?_ | refine oq_abs ?_ | refine oq_ord ?_ | refine oq_cut_l ?_ | refine oq_cut_t ?_ | refine oq_list_l ?_ | refine oq_list_t ?_ | refine oq_tuple_l ?_ | refine oq_tuple_t ?_ | refine oq_max2 ?_ | refine oq_min2 ?_ | refine oq_some ?_ | refine oq_len_sc ?_ | refine oq_eq_il ?_ | refine oq_ne_il ?_ | refine oq_eq_it ?_ | refine oq_ne_it ?_ | refine oq_lt_il ?_ | refine oq_lt_it ?_ | refine oq_iadd_i ?_ | refine oq_isT ?_ | refine oq_isNotT ?_) | (first | ((with_reducible apply oq_tgTup); exact rfl) | ((with_reducible apply oq_ix_lk); exact rfl) | ((with_reducible apply oq_ix_tk); exact rfl) | ((with_reducible apply vw_r); (first | assumption | exact aset_same)) | ((with_reducible apply oq_ixN_k); exact rfl; (try simp only [List.set, Int.reduceToNat])) | ((with_reducible apply oq_mod); (first | omega | decide)) | ((with_reducible apply oq_div); (first | omega | decide)) | ((with_reducible apply oq_mul); (first | omega | decide)) | ((with_reducible apply oq_pow); (first | omega | decide)) | ((with_reducible apply oq_shl); (first | omega | decide)) | ((with_reducible apply oq_shr); (first | omega | decide)) | ((with_reducible apply oq_add_s); (first | omega | decide))) | (first | ((with_reducible apply oq_len_s); (first | omega | decide)) | ((with_reducible apply oq_cut_s); (first | omega | decide)) | ((with_reducible apply oq_append); (first | omega | decide)) | ((with_reducible apply oq_insert); (first | omega | decide)) | ((with_reducible apply oq_rep); (first | omega | decide)) | ((with_reducible apply oq_cat); (first | omega | decide))))))
local macro_rules | `(tactic| array_mem_dec) => `(tactic| (with_reducible first | refine w_list ?_ | refine w_tuple ?_ | refine w_str ?_ | refine w_range1 ?_ | refine w_range2 ?_ | refine w_range3 ?_ | refine w_next ?_ | refine w_break ?_ | refine w_cont ?_ | refine w_drop ?_ | refine w_ret ?_ | refine w_retN ?_ | refine w_if ?_ | refine w_asg ?_ | refine w_raise ?_ | refine w_fld ?_ | refine w_seta ?_ | refine w_auga ?_ | refine w_seti ?_ | refine w_mut ?_ | refine w_frz ?_ | refine w_new ?_ | refine w_ext ?_ | refine w_for ?_ | refine w_lc ?_ | refine w_tryA ?_ | refine w_try ?_ | refine w_par ?_))
local macro_rules | `(tactic| array_mem_dec) => `(tactic| (first | ((with_reducible apply w_kV); exact rfl) | (with_reducible first | refine w_kC ?_ | refine w_bop ?_ | refine w_tst ?_ | refine w_val ?_ | refine w_and ?_ | refine w_or ?_ | refine w_not ?_ | refine w_andV ?_ | refine w_orV ?_ | refine w_chain ?_ | refine w_ifK ?_ | refine w_nil ?_ | refine w_cons ?_ | refine w_tup ?_ | refine w_lst ?_ | refine w_call ?_ | refine w_neg ?_ | refine w_b1 ?_ | refine w_bn ?_ | refine w_isi ?_ | refine w_met ?_ | refine w_pnone ?_ | refine w_psome ?_ | refine w_cut ?_ | refine w_yes ?_)))
local macro_rules | `(tactic| array_get_dec) => `(tactic| (with_reducible refine w_seqB ?_))
local macro_rules | `(tactic| array_get_dec) => `(tactic| array_mem_dec)
local macro_rules | `(tactic| decreasing_trivial_pre_omega) => `(tactic| (with_reducible refine w_seq ?_))
local macro_rules | `(tactic| decreasing_trivial_pre_omega) => `(tactic| array_mem_dec)
local macro_rules | `(tactic| sizeOf_list_dec) => `(tactic| (try simp only [List.set, Int.reduceToNat, List.map_cons, List.map_nil, Nat.reduceSub, List.reduceReplicate, List.cons_append, List.nil_append, wipeA, aset_aset, List.getElem?_cons_zero, List.getElem?_cons_succ]))
variable {CE CR CF CB CI gX : Nat} {α : AH} {Q : QD} {E : QX}
theorem cutt_il {l : List Int} {k : Int} {R : D → Prop} (h0 : 0 ≤ k) (h : R (ilD (l.take k.toNat))) : oq (dCut (ilD l) none (some k)) R := ⟨_, by
  obtain ⟨k, rfl⟩ := Int.eq_ofNat_of_zero_le h0
  show some (PyData.list (cutD (l.map PyData.int) none (some (k : Int)))) = some (ilD (l.take k))
  unfold cutD ilD
  rw [HT.sIx_nat, List.length_map, HT.sIx_none, List.drop_zero, Nat.sub_zero, List.map_take]
  congr 2
  rw [List.take_eq_take_iff, List.length_map]
  omega, h⟩
theorem cutd_il {l : List Int} {k : Int} {R : D → Prop} (h0 : 0 ≤ k) (h : R (ilD (l.drop k.toNat))) : oq (dCut (ilD l) (some k) none) R := ⟨_, by
  obtain ⟨k, rfl⟩ := Int.eq_ofNat_of_zero_le h0
  show some (PyData.list (cutD (l.map PyData.int) (some (k : Int)) none)) = some (ilD (l.drop k))
  unfold cutD ilD
  rw [HT.sIx_nat, HT.sIx_none, List.map_drop]
  congr 2
  rw [List.take_of_length_le (by rw [List.length_drop]; omega)]
  rcases Nat.le_total k (l.map PyData.int).length with h | h
  · rw [Nat.min_eq_left h]
  · rw [Nat.min_eq_right h, List.drop_length, List.drop_eq_nil_of_le h], h⟩
theorem wEn_len {x : EF} {num : Int} {rows : List (List Int)} (k : EOk x rows) : (wEn x num rows).length ≤ 1600 := by
  have h1 := wA_len (num := num) k.nm.1.2 k.ve.2.1
  have h2 := wBk_len k.ok
  have h3 := k.len
  unfold wEn
  simp only [List.length_append, List.length_cons, List.length_nil, show ∀ n, (four n).length = 4 from fun _ => rfl]
  omega
theorem wNm_len {nm : List Nat} : (wNm nm).length = nm.length + 1 := by
  unfold wNm
  rw [List.length_cons, List.length_map]
theorem wVe_len2 {ve : List (Int × Int)} : (wVe ve).length = 5 * ve.length + 1 := by
  unfold wVe
  rw [List.length_cons, wVe_len]
def byt (w : List Int) : Prop := ∀ d ∈ w, 0 ≤ d ∧ d < 256
theorem byt_app {a b : List Int} (h : byt a) (k : byt b) : byt (a ++ b) := fun d hd => (List.mem_append.mp hd).elim (h d) (k d)
theorem byt_nil : byt [] := fun _ h => nomatch h
theorem byt_cons {a : Int} {b : List Int} (h : 0 ≤ a ∧ a < 256) (k : byt b) : byt (a :: b) := fun d hd => (List.mem_cons.mp hd).elim (fun e => e ▸ h) (k d)
theorem byt_one {a : Int} (h : 0 ≤ a ∧ a < 256) : byt [a] := byt_cons h byt_nil
theorem byt_take {a : List Int} {k : Nat} (h : byt a) : byt (a.take k) := fun d hd => h d (List.mem_of_mem_take hd)
theorem byt_drop {a : List Int} {k : Nat} (h : byt a) : byt (a.drop k) := fun d hd => h d (List.mem_of_mem_drop hd)
theorem byt_four {n : Int} (h : 0 ≤ n ∧ n < 4294967296) : byt (four n) := byt_cons (by omega) (byt_cons (by omega) (byt_cons (by omega) (byt_one (by omega))))
theorem byt_nm {nm : List Nat} (h : (1 ≤ nm.length ∧ nm.length ≤ 40) ∧ ∀ k ∈ nm, k ∈ CHS) : byt (wNm nm) := byt_cons (by omega) fun d hd => by
  obtain ⟨k, hk, rfl⟩ := List.mem_map.mp hd
  have := chs_lt k (h.2 k hk)
  exact ⟨Int.natCast_nonneg k, by show (k : Int) < 256; omega⟩
theorem byt_ve {ve : List (Int × Int)} (h : veOk ve) : byt (wVe ve) := byt_cons (by have := h.2.1; omega) fun d hd => by
  obtain ⟨x, hx, hd⟩ := List.mem_flatMap.mp hd
  have := h.2.2.2 x hx
  exact byt_cons (by omega) (byt_four (by omega)) d hd
theorem byt_en {x : EF} {num : Int} {rows : List (List Int)} (k : EOk x rows) (h : 1 ≤ num ∧ num < 4294967296) : byt (wEn x num rows) := by
  have k1 := k.h
  have k2 := k.md
  have k3 := k.mn
  have k4 := k.ti
  have k5 := k.len
  refine byt_app (byt_app (byt_app (byt_app (byt_app (byt_four (by omega)) (byt_nm k.nm)) (byt_ve k.ve)) (byt_app (byt_app (byt_four (by omega)) (byt_one (by omega))) (byt_four (by omega)))) (byt_app (byt_app (byt_one (by split <;> omega)) (byt_four (by omega))) (byt_one (by omega)))) fun d hd => ?_
  obtain ⟨p, hp, hd⟩ := List.mem_flatMap.mp hd
  have := k.ok p hp
  exact byt_cons (by have := this.1; omega) this.2.2 d hd
theorem val_dr {ns : List Int} {p : Addr} {kd : Int} (hk : 0 ≤ kd ∧ kd < 7) (h : DrAt p α) (q : ∀ w α', w.length ≤ 1600 → byt w → DrAt p α' → But p α α' → Q (.tuple [ilD w, ilD w]) α') : f_law_value CE CR CF CB CI gX [dref p, scriptD ns, .int kd] α Q E := by
  unfold f_law_value m_law_value
  refine w_runP rfl ?_
  sizeOf_list_dec
  (repeat' array_get_dec)
  · refine cnt_go (lo := 0) (by decide) h fun n α1 g1 g2 D1 B1 => ?_
    (repeat' array_get_dec)
    try refine bar_of ?_
    sizeOf_list_dec
    (repeat' array_get_dec)
    refine lf_go ?_
    (repeat' array_get_dec)
    refine nb_go ?_
    (repeat' array_get_dec)
    rw [arst_but h.isS B1]
    exact q _ _ (by simp [four]) (byt_four ⟨g1, g2⟩) D1 B1
  try refine bar_of ?_
  sizeOf_list_dec
  (repeat' array_get_dec)
  · refine nm_go h fun nm α1 hnm D1 B1 => ?_
    (repeat' array_get_dec)
    try refine bar_of ?_
    sizeOf_list_dec
    (repeat' array_get_dec)
    refine lnw_go (by omega) ?_
    (repeat' array_get_dec)
    refine nmb_go (by omega) ?_
    (repeat' array_get_dec)
    rw [arst_but h.isS B1]
    exact q _ _ (by rw [wNm_len]; omega) (byt_nm hnm) D1 B1
  try refine bar_of ?_
  sizeOf_list_dec
  (repeat' array_get_dec)
  · refine vec_dr h fun ve α1 hve D1 B1 => ?_
    have := hve.2.1
    (repeat' array_get_dec)
    try refine bar_of ?_
    sizeOf_list_dec
    (repeat' array_get_dec)
    refine lvw_go (by omega) ?_
    (repeat' array_get_dec)
    refine veb_go (by omega) ?_
    (repeat' array_get_dec)
    rw [arst_but h.isS B1]
    exact q _ _ (by rw [wVe_len2]; omega) (byt_ve hve) D1 B1
  try refine bar_of ?_
  sizeOf_list_dec
  (repeat' array_get_dec)
  · refine ent_dr h fun x rows num α1 hx g1 g2 D1 B1 => ?_
    (repeat' array_get_dec)
    try refine bar_of ?_
    sizeOf_list_dec
    (repeat' array_get_dec)
    refine lew_go hx ?_
    (repeat' array_get_dec)
    refine made_go ?_
    (repeat' array_get_dec)
    refine eb_go hx ?_
    (repeat' array_get_dec)
    rw [arst_but h.isS B1]
    exact q _ _ (wEn_len hx) (byt_en hx ⟨g1, g2⟩) D1 B1
  try refine bar_of ?_
  sizeOf_list_dec
  (repeat' array_get_dec)
  · refine dr_go h (by decide) fun n α1 g1 g2 D1 B1 => ?_
    (repeat' array_get_dec)
    refine row_dr (n := 1 + n) (by omega) D1 fun r α2 hr hd D2 B2 => ?_
    (repeat' array_get_dec)
    try refine bar_of ?_
    sizeOf_list_dec
    (repeat' array_get_dec)
    refine add_il (a := [(r.length : Int)]) (by simp only [List.length_cons, List.length_nil]; omega) ?_
    (repeat' array_get_dec)
    refine add_il (a := [(r.length : Int)]) (by simp only [List.length_cons, List.length_nil]; omega) ?_
    (repeat' array_get_dec)
    rw [arst_but h.isS (B1.trans B2)]
    exact q _ _ (by simp only [List.length_append, List.length_cons, List.length_nil]; omega) (byt_app (byt_one (by omega)) hd) D2 (B1.trans B2)
  try refine bar_of ?_
  sizeOf_list_dec
  (repeat' array_get_dec)
  refine dr_go h (by decide) fun n α1 g1 g2 D1 B1 => ?_
  (repeat' array_get_dec)
  try refine bar_of ?_
  sizeOf_list_dec
  (repeat' array_get_dec)
  rw [arst_but h.isS B1]
  exact q [n] _ (by simp) (byt_one ⟨g1, g2⟩) D1 B1
theorem chg_dr {ns : List Int} {p : Addr} {w : List Int} (hw : w.length ≤ 1600) (hb : byt w) (h : DrAt p α) (q : ∀ w' α', w'.length ≤ 1601 → byt w' → DrAt p α' → But p α α' → Q (ilD w') α') : f_law_changed CE CR CF CB CI gX [dref p, scriptD ns, ilD w] α Q E := by
  unfold f_law_changed m_law_changed
  refine w_runP rfl ?_
  sizeOf_list_dec
  (repeat' array_get_dec)
  refine dr_go h (by omega) fun a α1 g1 g2 D1 B1 => ?_
  (repeat' array_get_dec)
  try refine bar_of ?_
  sizeOf_list_dec
  (repeat' array_get_dec)
  refine dr_go D1 (by decide) fun y α2 g3 g4 D2 B2 => ?_
  (repeat' array_get_dec)
  refine dr_go D2 (by decide) fun i α3 g5 g6 D3 B3 => ?_
  (repeat' array_get_dec)
  refine oq_ix_li (xs := [0, 1, 2, 9, 10, 44, 255, y]) g5 (by simp only [List.length_cons, List.length_nil]; omega) ?_
  have hbb : 0 ≤ ([0, 1, 2, 9, 10, 44, 255, y] : List Int).getD i.toNat 0 ∧ ([0, 1, 2, 9, 10, 44, 255, y] : List Int).getD i.toNat 0 < 256 := by
    have hi : i.toNat < [0, 1, 2, 9, 10, 44, 255, y].length := by simp only [List.length_cons, List.length_nil]; omega
    rw [List.getD_eq_getElem?_getD, List.getElem?_eq_getElem hi]
    have hm := List.getElem_mem hi
    generalize ([0, 1, 2, 9, 10, 44, 255, y])[i.toNat] = z at *
    simp only [List.mem_cons, List.not_mem_nil, or_false] at hm
    show 0 ≤ z ∧ z < 256
    omega
  generalize ([0, 1, 2, 9, 10, 44, 255, y] : List Int).getD i.toNat 0 = b at *
  (repeat' array_get_dec)
  try refine bar_of ?_
  sizeOf_list_dec
  (repeat' array_get_dec)
  refine dr_go D3 (by decide) fun kd α4 g7 g8 D4 B4 => ?_
  replace B4 := ((B1.trans B2).trans B3).trans B4
  clear B1 B2 B3 D1 D2 D3
  (repeat' array_get_dec)
  try refine bar_of ?_
  sizeOf_list_dec
  have t1 : (w.take a.toNat).length = a.toNat := by rw [List.length_take]; omega
  have t2 : (w.drop a.toNat).length = w.length - a.toNat := by rw [List.length_drop]
  have t3 : (w.drop (a + 1).toNat).length = w.length - (a + 1).toNat := by rw [List.length_drop]
  have fin : ∀ w', w'.length ≤ 1601 → byt w' → Q (ilD w') (arst α α4) := fun w' hl hbw => by
    rw [arst_but h.isS B4]
    exact q _ _ hl hbw D4 B4
  (repeat' array_get_dec)
  · refine cutt_il g1 ?_
    (repeat' array_get_dec)
    exact fin _ (by omega) (byt_take hb)
  try refine bar_of ?_
  sizeOf_list_dec
  (repeat' array_get_dec)
  · refine cutt_il g1 ?_
    (repeat' array_get_dec)
    refine cutd_il (by omega) ?_
    (repeat' array_get_dec)
    refine add_il (by omega) ?_
    (repeat' array_get_dec)
    exact fin _ (by rw [List.length_append]; omega) (byt_app (byt_take hb) (byt_drop hb))
  try refine bar_of ?_
  sizeOf_list_dec
  (repeat' array_get_dec)
  · refine cutt_il g1 ?_
    (repeat' array_get_dec)
    refine add_il (b := [b]) (by simp only [List.length_cons, List.length_nil]; omega) ?_
    (repeat' array_get_dec)
    refine cutd_il (by omega) ?_
    (repeat' array_get_dec)
    refine add_il (by rw [List.length_append]; simp only [List.length_cons, List.length_nil]; omega) ?_
    (repeat' array_get_dec)
    exact fin _ (by simp only [List.length_append, List.length_cons, List.length_nil]; omega) (byt_app (byt_app (byt_take hb) (byt_one hbb)) (byt_drop hb))
  try refine bar_of ?_
  sizeOf_list_dec
  (repeat' array_get_dec)
  · refine cutt_il g1 ?_
    (repeat' array_get_dec)
    refine add_il (b := [b]) (by simp only [List.length_cons, List.length_nil]; omega) ?_
    (repeat' array_get_dec)
    refine cutd_il (by omega) ?_
    (repeat' array_get_dec)
    refine add_il (by rw [List.length_append]; simp only [List.length_cons, List.length_nil]; omega) ?_
    (repeat' array_get_dec)
    exact fin _ (by simp only [List.length_append, List.length_cons, List.length_nil]; omega) (byt_app (byt_app (byt_take hb) (byt_one hbb)) (byt_drop hb))
  all_goals
    try refine bar_of ?_
    sizeOf_list_dec
    (repeat' array_get_dec)
    exact fin _ (by omega) hb
end K47
namespace K47
open PySem L2 Hz
local macro_rules | `(tactic| array_mem_dec) => `(tactic| (first | ((with_reducible apply w_xf); exact rfl; exact decide_eq_true rfl; exact rfl) | ((with_reducible apply w_frzS); exact rfl; (first | assumption | exact aset_same); (try simp only [List.set])) | ((with_reducible apply rg1_of); (first | omega | decide)) | ((with_reducible apply rg2_of); (first | omega | decide)) | ((with_reducible apply lok); exact rfl) | ((with_reducible refine it2_dec ?_ ?_) <;> intro)))
local macro_rules | `(tactic| array_mem_dec) => `(tactic| (first | ((with_reducible apply oq_setv2); (simp only [List.set, wipeA]; exact rfl)) | ((with_reducible apply cal_of); exact rfl; (try simp only [List.cons_append, List.nil_append, List.append_nil])) | ((with_reducible apply w_aug); exact rfl) | ((with_reducible apply cel_of); (first | assumption | exact aset_same)) | ((with_reducible apply ceo_of); (first | assumption | exact aset_same)) | ((with_reducible apply tlG_r); (first | assumption | exact aset_same)) | ((with_reducible apply fr_of); (first | assumption | exact aset_same)) | ((with_reducible apply fd_cons); exact trivial) | ((with_reducible apply fd_nil); exact trivial) | ((with_reducible apply oq_isiB (b := true)); exact rfl) | ((with_reducible apply oq_isiB (b := false)); exact rfl) | ((with_reducible apply w_xi); exact rfl; exact decide_eq_true rfl; exact if_pos rfl)))
local macro_rules | `(tactic| array_mem_dec) => `(tactic| (with_reducible first | refine pr2_of ?_ | refine oq_and255 ?_ | refine vw_il ?_ | refine len_il ?_ | refine list_il ?_ | refine w_mk ?_ | refine vw_en ?_ | refine fe_1 ?_ | refine fe_2 ?_ | refine fe_3 ?_ | refine fe_4 ?_ | refine fe_5 ?_ | refine fe_6 ?_ | refine fe_7 ?_ | refine oq_intb ?_))
local macro_rules | `(tactic| array_mem_dec) => `(tactic| (with_reducible first | refine tb_b ?_ | refine ti_b ?_ | refine ts_b ?_ | refine we_nx ?_ | refine we_rt ?_ | refine we_ex ?_ | refine wn_nx ?_ | refine wn_rt ?_ | refine wn_bk ?_ | refine wn_ct ?_ | refine wn_ex ?_ | refine wl_nx ?_ | refine wl_rt ?_ | refine wl_bk ?_ | refine wl_ct ?_ | refine wl_ex ?_ | refine wx_nx ?_ | refine wx_rt ?_ | refine wx_bk ?_ | refine wx_ct ?_ | refine wx_ex ?_ | refine wh_nx ?_ | refine wh_rt ?_ | refine wh_bk ?_ | refine wh_ct ?_ | refine it2_t ?_ | refine it2_f ?_ | refine it2_not ?_ | refine tlG_l ?_ | refine ttG_t ?_))
local macro_rules | `(tactic| array_mem_dec) => `(tactic| ((with_reducible refine oq_id ?_); (first | (with_reducible first | refine vw_i ?_ | refine vw_s ?_ | refine vw_b ?_ | refine vw_n ?_ | refine vw_l ?_ | refine vw_t ?_ | refine vw_sc ?_ | refine vw_o ?_ | refine mv_nil ?_ | refine mv_cons ?_ | refine oq_tgNil ?_ | refine oq_tgCons ?_ | refine oq_add_i ?_ | refine oq_sub ?_ | refine oq_lt ?_ | refine oq_le ?_ | refine oq_gt ?_ | refine oq_ge ?_ | refine oq_eq_i ?_ | refine oq_ne_i ?_ | refine oq_eq_s ?_ | refine oq_ne_s ?_ | refine oq_eq_b ?_ | refine oq_ne_b ?_ | refine oq_is ?_ | refine oq_isNot ?_ | refine oq_in_s ?_ | refine oq_notIn_s ?_ | refine oq_len_l ?_ | refine oq_len_t ?_ | refine oq_int ?_ | refine oq_abs ?_ | refine oq_ord ?_ | refine oq_cut_l ?_ | refine oq_cut_t ?_ | refine oq_list_l ?_ | refine oq_list_t ?_ | refine oq_tuple_l ?_ | refine oq_tuple_t ?_ | refine oq_max2 ?_ | refine oq_min2 ?_ | refine oq_some ?_ | refine oq_len_sc ?_ | refine oq_eq_il ?_ | refine oq_ne_il ?_ | refine oq_eq_it ?_ | refine oq_ne_it ?_ | refine oq_lt_il ?_ | refine oq_lt_it ?_ | refine oq_iadd_i ?_ | refine oq_isT ?_ | refine oq_isNotT ?_) | (first | ((with_reducible apply oq_tgTup); exact rfl) | ((with_reducible apply oq_ix_lk); exact rfl) | ((with_reducible apply oq_ix_tk); exact rfl) | ((with_reducible apply vw_r); (first | assumption | exact aset_same)) | ((with_reducible apply oq_ixN_k); exact rfl; (try simp only [List.set, Int.reduceToNat])) | ((with_reducible apply oq_mod); (first | omega | decide)) | ((with_reducible apply oq_div); (first | omega | decide)) | ((with_reducible apply oq_mul); (first | omega | decide)) | ((with_reducible apply oq_pow); (first | omega | decide)) | ((with_reducible apply oq_shl); (first | omega | decide)) | ((with_reducible apply oq_shr); (first | omega | decide)) | ((with_reducible apply oq_add_s); (first | omega | decide))) | (first | ((with_reducible apply oq_len_s); (first | omega | decide)) | ((with_reducible apply oq_cut_s); (first | omega | decide)) | ((with_reducible apply oq_append); (first | omega | decide)) | ((with_reducible apply oq_insert); (first | omega | decide)) | ((with_reducible apply oq_rep); (first | omega | decide)) | ((with_reducible apply oq_cat); (first | omega | decide))))))
local macro_rules | `(tactic| array_mem_dec) => `(tactic| (with_reducible first | refine w_list ?_ | refine w_tuple ?_ | refine w_str ?_ | refine w_range1 ?_ | refine w_range2 ?_ | refine w_range3 ?_ | refine w_next ?_ | refine w_break ?_ | refine w_cont ?_ | refine w_drop ?_ | refine w_ret ?_ | refine w_retN ?_ | refine w_if ?_ | refine w_asg ?_ | refine w_raise ?_ | refine w_fld ?_ | refine w_seta ?_ | refine w_auga ?_ | refine w_seti ?_ | refine w_mut ?_ | refine w_frz ?_ | refine w_new ?_ | refine w_ext ?_ | refine w_for ?_ | refine w_lc ?_ | refine w_tryA ?_ | refine w_try ?_ | refine w_par ?_))
local macro_rules | `(tactic| array_mem_dec) => `(tactic| (first | ((with_reducible apply w_kV); exact rfl) | (with_reducible first | refine w_kC ?_ | refine w_bop ?_ | refine w_tst ?_ | refine w_val ?_ | refine w_and ?_ | refine w_or ?_ | refine w_not ?_ | refine w_andV ?_ | refine w_orV ?_ | refine w_chain ?_ | refine w_ifK ?_ | refine w_nil ?_ | refine w_cons ?_ | refine w_tup ?_ | refine w_lst ?_ | refine w_call ?_ | refine w_neg ?_ | refine w_b1 ?_ | refine w_bn ?_ | refine w_isi ?_ | refine w_met ?_ | refine w_pnone ?_ | refine w_psome ?_ | refine w_cut ?_ | refine w_yes ?_)))
local macro_rules | `(tactic| array_get_dec) => `(tactic| (with_reducible refine w_seqB ?_))
local macro_rules | `(tactic| array_get_dec) => `(tactic| array_mem_dec)
local macro_rules | `(tactic| decreasing_trivial_pre_omega) => `(tactic| (with_reducible refine w_seq ?_))
local macro_rules | `(tactic| decreasing_trivial_pre_omega) => `(tactic| array_mem_dec)
local macro_rules | `(tactic| sizeOf_list_dec) => `(tactic| (try simp only [List.set, Int.reduceToNat, List.map_cons, List.map_nil, Nat.reduceSub, List.reduceReplicate, List.cons_append, List.nil_append, wipeA, aset_aset, List.getElem?_cons_zero, List.getElem?_cons_succ]))
variable {CE CR CF CB CI gX : Nat} {α : AH} {Q : QD} {E : QX}
def DV (kd lo hi : Int) (ds : List Int) (x : Xs) : D × Xs :=
  if kd = 0 then (.int (LN lo ds x).1, (LN lo ds x).2)
  else if kd = 1 then (.str (S (LNm ds x).1), (LNm ds x).2)
  else if kd = 2 then (.tuple ((LVec ds x).1.map vD), (LVec ds x).2)
  else if kd = 3 then (.tuple [efT (LE ds x).1.1, .int (LE ds x).1.2], (LE ds x).2)
  else if kd = 4 then (.int (LBk 1 ds x).1, (LBk 1 ds x).2)
  else if kd = 5 then (.int (Tk 1 9 ds x).1, (Tk 1 9 ds x).2)
  else (.int (Tk lo hi ds x).1, (Tk lo hi ds x).2)
def RV (kd lo hi : Int) (l : List Int) : Rd D :=
  if kd = 0 then bn (rN lo l) fun n l => .ok (.int n, l)
  else if kd = 1 then bn (rNm l) fun n l => .ok (.str (S n), l)
  else if kd = 2 then bn (rVec l) fun v l => .ok (.tuple (v.map vD), l)
  else if kd = 3 then bn (rE l) fun z l => .ok (.tuple [efT z.1, .int z.2], l)
  else if kd = 4 then bn (rBk 1 l) fun n l => .ok (.int n, l)
  else if kd = 5 then bn (rB 1 9 l) fun n l => .ok (.int n, l)
  else bn (rB lo hi l) fun n l => .ok (.int n, l)
theorem rv_rel {kd lo hi : Int} {ds l : List Int} : Rel ds (RV kd lo hi l) (DV kd lo hi ds (.ok l)) := by
  unfold RV DV
  repeat' split
  · exact bn_rel (G := fun n x => (PyData.int n, x)) ln_rel (fun _ _ _ => rfl) fun _ _ => rfl
  · exact bn_rel (G := fun n x => (PyData.str (S n), x)) lnm_rel (fun _ _ _ => rfl) fun _ _ => rfl
  · exact bn_rel (G := fun (n : List (Int × Int)) x => (PyData.tuple (n.map vD), x)) lvec_rel (fun _ _ _ => rfl) fun _ _ => rfl
  · exact bn_rel (G := fun (n : EF × Int) x => (PyData.tuple [efT n.1, .int n.2], x)) le_rel (fun _ _ _ => rfl) fun _ _ => rfl
  · exact bn_rel (G := fun n x => (PyData.int n, x)) (lbk_rel (by decide)) (fun _ _ _ => rfl) fun _ _ => rfl
  · exact bn_rel (G := fun n x => (PyData.int n, x)) tk_rel (fun _ _ _ => rfl) fun _ _ => rfl
  · exact bn_rel (G := fun n x => (PyData.int n, x)) tk_rel (fun _ _ _ => rfl) fun _ _ => rfl
def outD (ds : List Int) (y : D × Xs) : D := match y.2 with
  | .ok l => .tuple [y.1, .int ((ds.length - l.length : Nat) : Int)]
  | .error p => .tuple [.none, .int (p : Nat)]
def outR (ds : List Int) (r : Rd D) : D := match r with
  | .ok (v, l) => .tuple [v, .int ((ds.length - l.length : Nat) : Int)]
  | .error e => .tuple [.none, .int ((ds.length - e : Nat) : Int)]
theorem out_eq {ds : List Int} {r : Rd D} {y : D × Xs} (h : Rel ds r y) : outR ds r = outD ds y := by
  obtain ⟨d, x⟩ := y
  cases r with
  | error e =>
    have h : x = .error (ds.length - e) := h
    rw [h]
    rfl
  | ok z =>
    obtain ⟨v, l'⟩ := z
    have h : (d, x) = (v, .ok l') := h
    rw [h]
    rfl
theorem arst_bx {b : Addr} {α' : AH} (hb : α b = none) (h : BuX b α α') : arst α α' = α := arst_ext fun a ha => h a (fun e => by rw [e, hb] at ha; cases ha) ha
theorem due_go {ds : List Int} {kd lo hi : Int} {a : Nat} (ha : a ≤ ds.length) (q : Q (outD ds (DV kd lo hi ds (.ok (ds.drop a)))) α) : f_law_due CE CR CF CB CI gX [ilD ds, .int kd, .int a, .int lo, .int hi] α Q E := by
  unfold f_law_due m_law_due
  refine w_runP rfl ?_
  sizeOf_list_dec
  (repeat' array_get_dec)
  intro b hb
  (repeat' array_get_dec)
  try refine bar_of ?_
  sizeOf_list_dec
  (repeat' array_get_dec)
  try refine bar_of ?_
  sizeOf_list_dec
  have S0 : BxS b ds (.ok (ds.drop a)) (aset α b (.list [.int (a : Nat), .int (-1)])) := ⟨a, aset_same, ha, rfl⟩
  have B0 : BuX b α (aset α b (.list [.int (a : Nat), .int (-1)])) := fun z hz _ => aset_ne hz
  generalize (.ok (ds.drop a) : Xs) = x at *
  generalize aset α b (.list [.int (a : Nat), .int (-1)]) = α1 at *
  refine w_seqI (fun ρ α' => ρ = [some (ilD ds), some (.int kd), some (.int (a : Nat)), some (.int lo), some (.int hi), some (dref b), some (DV kd lo hi ds x).1] ∧ BxS b ds (DV kd lo hi ds x).2 α' ∧ BuX b α α') ?_ fun X hX => ?_
  rotate_left
  · have hX : ∀ v y α', DV kd lo hi ds x = (v, y) → BxS b ds y α' → But b α1 α' → X [some (ilD ds), some (.int kd), some (.int (a : Nat)), some (.int lo), some (.int hi), some (dref b), some v] α' := fun v y α' e h1 h2 => hX _ _ ⟨by rw [e], by rw [e]; exact h1, B0.but h2⟩
    unfold DV at hX
    (repeat' array_get_dec)
    · refine lnum_go S0 fun α2 S2 B2 => ?_
      (repeat' array_get_dec)
      exact hX _ _ _ (by rw [if_pos (by assumption)]) S2 B2
    · refine lname_go S0 fun α2 S2 B2 => ?_
      (repeat' array_get_dec)
      exact hX _ _ _ (by rw [if_neg (by assumption), if_pos (by assumption)]) S2 B2
    · refine lvec_go S0 fun α2 S2 B2 => ?_
      (repeat' array_get_dec)
      exact hX _ _ _ (by rw [if_neg (by assumption), if_neg (by assumption), if_pos (by assumption)]) S2 B2
    · refine lent_go S0 fun α2 S2 B2 => ?_
      (repeat' array_get_dec)
      exact hX _ _ _ (by rw [if_neg (by assumption), if_neg (by assumption), if_neg (by assumption), if_pos (by assumption)]) S2 B2
    · refine lrow_go (by decide) S0 fun α2 S2 B2 hl => ?_
      (repeat' array_get_dec)
      refine lblk_go hl ?_
      (repeat' array_get_dec)
      exact hX _ _ _ (by rw [if_neg (by assumption), if_neg (by assumption), if_neg (by assumption), if_neg (by assumption), if_pos (by assumption)]; rfl) S2 B2
    · refine take_go S0 fun α2 S2 B2 => ?_
      (repeat' array_get_dec)
      exact hX _ _ _ (by rw [if_neg (by assumption), if_neg (by assumption), if_neg (by assumption), if_neg (by assumption), if_neg (by assumption), if_pos (by assumption)]) S2 B2
    · refine take_go S0 fun α2 S2 B2 => ?_
      (repeat' array_get_dec)
      exact hX _ _ _ (by rw [if_neg (by assumption), if_neg (by assumption), if_neg (by assumption), if_neg (by assumption), if_neg (by assumption), if_neg (by assumption)]) S2 B2
  generalize DV kd lo hi ds x = y at *
  obtain ⟨v, y⟩ := y
  rintro ρ α2 ⟨rfl, S2, B2⟩
  have hr := arst_bx hb B2
  clear S0 B0
  cases y with
  | ok l =>
    obtain ⟨a2, h2, h3, h4⟩ := S2
    have el : ds.length - l.length = a2 := by rw [h4, List.length_drop]; omega
    unfold outD at q
    simp only [el] at q
    (repeat' array_get_dec)
    all_goals try (exfalso; omega)
    try refine bar_of ?_
    sizeOf_list_dec
    (repeat' array_get_dec)
    rw [hr]
    exact q
  | error e =>
    obtain ⟨a2, h2⟩ := S2
    unfold outD at q
    simp only at q
    (repeat' array_get_dec)
    all_goals try (exfalso; omega)
    try refine bar_of ?_
    sizeOf_list_dec
    (repeat' array_get_dec)
    rw [hr]
    exact q
end K47
namespace K47
open PySem L2 Hz
local macro_rules | `(tactic| array_mem_dec) => `(tactic| (first | ((with_reducible apply w_xf); exact rfl; exact decide_eq_true rfl; exact rfl) | ((with_reducible apply w_frzS); exact rfl; (first | assumption | exact aset_same); (try simp only [List.set])) | ((with_reducible apply rg1_of); (first | omega | decide)) | ((with_reducible apply rg2_of); (first | omega | decide)) | ((with_reducible apply lok); exact rfl) | ((with_reducible refine it2_dec ?_ ?_) <;> intro)))
local macro_rules | `(tactic| array_mem_dec) => `(tactic| (first | ((with_reducible apply oq_setv2); (simp only [List.set, wipeA]; exact rfl)) | ((with_reducible apply cal_of); exact rfl; (try simp only [List.cons_append, List.nil_append, List.append_nil])) | ((with_reducible apply w_aug); exact rfl) | ((with_reducible apply cel_of); (first | assumption | exact aset_same)) | ((with_reducible apply ceo_of); (first | assumption | exact aset_same)) | ((with_reducible apply tlG_r); (first | assumption | exact aset_same)) | ((with_reducible apply fr_of); (first | assumption | exact aset_same)) | ((with_reducible apply fd_cons); exact trivial) | ((with_reducible apply fd_nil); exact trivial) | ((with_reducible apply oq_isiB (b := true)); exact rfl) | ((with_reducible apply oq_isiB (b := false)); exact rfl) | ((with_reducible apply w_xi); exact rfl; exact decide_eq_true rfl; exact if_pos rfl)))
local macro_rules | `(tactic| array_mem_dec) => `(tactic| (with_reducible first | refine pr2_of ?_ | refine fl_d ?_ | refine fl_a ?_ | refine oq_and255 ?_ | refine vw_il ?_ | refine len_il ?_ | refine list_il ?_ | refine w_mk ?_ | refine vw_en ?_ | refine fe_1 ?_ | refine fe_2 ?_ | refine fe_3 ?_ | refine fe_4 ?_ | refine fe_5 ?_ | refine fe_6 ?_ | refine fe_7 ?_ | refine oq_intb ?_))
local macro_rules | `(tactic| array_mem_dec) => `(tactic| (with_reducible first | refine tb_b ?_ | refine ti_b ?_ | refine ts_b ?_ | refine we_nx ?_ | refine we_rt ?_ | refine we_ex ?_ | refine wn_nx ?_ | refine wn_rt ?_ | refine wn_bk ?_ | refine wn_ct ?_ | refine wn_ex ?_ | refine wl_nx ?_ | refine wl_rt ?_ | refine wl_bk ?_ | refine wl_ct ?_ | refine wl_ex ?_ | refine wx_nx ?_ | refine wx_rt ?_ | refine wx_bk ?_ | refine wx_ct ?_ | refine wx_ex ?_ | refine wh_nx ?_ | refine wh_rt ?_ | refine wh_bk ?_ | refine wh_ct ?_ | refine it2_t ?_ | refine it2_f ?_ | refine it2_not ?_ | refine tlG_l ?_ | refine ttG_t ?_))
local macro_rules | `(tactic| array_mem_dec) => `(tactic| ((with_reducible refine oq_id ?_); (first | (with_reducible first | refine vw_i ?_ | refine vw_s ?_ | refine vw_b ?_ | refine vw_n ?_ | refine vw_l ?_ | refine vw_t ?_ | refine vw_sc ?_ | refine vw_o ?_ | refine mv_nil ?_ | refine mv_cons ?_ | refine oq_tgNil ?_ | refine oq_tgCons ?_ | refine oq_add_i ?_ | refine oq_sub ?_ | refine oq_lt ?_ | refine oq_le ?_ | refine oq_gt ?_ | refine oq_ge ?_ | refine oq_eq_i ?_ | refine oq_ne_i ?_ | refine oq_eq_s ?_ | refine oq_ne_s ?_ | refine oq_eq_b ?_ | refine oq_ne_b ?_ | refine oq_is ?_ | refine oq_isNot ?_ | refine oq_in_s ?_ | refine oq_notIn_s ?_ | refine oq_len_l ?_ | refine oq_len_t ?_ | refine oq_int ?_ | refine oq_abs ?_ | refine oq_ord ?_ | refine oq_cut_l ?_ | refine oq_cut_t ?_ | refine oq_list_l ?_ | refine oq_list_t ?_ | refine oq_tuple_l ?_ | refine oq_tuple_t ?_ | refine oq_max2 ?_ | refine oq_min2 ?_ | refine oq_some ?_ | refine oq_len_sc ?_ | refine oq_eq_il ?_ | refine oq_ne_il ?_ | refine oq_eq_it ?_ | refine oq_ne_it ?_ | refine oq_lt_il ?_ | refine oq_lt_it ?_ | refine oq_iadd_i ?_ | refine oq_isT ?_ | refine oq_isNotT ?_) | (first | ((with_reducible apply oq_tgTup); exact rfl) | ((with_reducible apply oq_ix_lk); exact rfl) | ((with_reducible apply oq_ix_tk); exact rfl) | ((with_reducible apply vw_r); (first | assumption | exact aset_same)) | ((with_reducible apply oq_ixN_k); exact rfl; (try simp only [List.set, Int.reduceToNat])) | ((with_reducible apply oq_mod); (first | omega | decide)) | ((with_reducible apply oq_div); (first | omega | decide)) | ((with_reducible apply oq_mul); (first | omega | decide)) | ((with_reducible apply oq_pow); (first | omega | decide)) | ((with_reducible apply oq_shl); (first | omega | decide)) | ((with_reducible apply oq_shr); (first | omega | decide)) | ((with_reducible apply oq_add_s); (first | omega | decide))) | (first | ((with_reducible apply oq_len_s); (first | omega | decide)) | ((with_reducible apply oq_cut_s); (first | omega | decide)) | ((with_reducible apply oq_append); (first | omega | decide)) | ((with_reducible apply oq_insert); (first | omega | decide)) | ((with_reducible apply oq_rep); (first | omega | decide)) | ((with_reducible apply oq_cat); (first | omega | decide))))))
local macro_rules | `(tactic| array_mem_dec) => `(tactic| (with_reducible first | refine w_list ?_ | refine w_tuple ?_ | refine w_str ?_ | refine w_range1 ?_ | refine w_range2 ?_ | refine w_range3 ?_ | refine w_next ?_ | refine w_break ?_ | refine w_cont ?_ | refine w_drop ?_ | refine w_ret ?_ | refine w_retN ?_ | refine w_if ?_ | refine w_asg ?_ | refine w_raise ?_ | refine w_fld ?_ | refine w_seta ?_ | refine w_auga ?_ | refine w_seti ?_ | refine w_mut ?_ | refine w_frz ?_ | refine w_new ?_ | refine w_ext ?_ | refine w_for ?_ | refine w_lc ?_ | refine w_tryA ?_ | refine w_try ?_ | refine w_par ?_))
local macro_rules | `(tactic| array_mem_dec) => `(tactic| (first | ((with_reducible apply w_kV); exact rfl) | (with_reducible first | refine w_kC ?_ | refine w_bop ?_ | refine w_tst ?_ | refine w_val ?_ | refine w_and ?_ | refine w_or ?_ | refine w_not ?_ | refine w_andV ?_ | refine w_orV ?_ | refine w_chain ?_ | refine w_ifK ?_ | refine w_nil ?_ | refine w_cons ?_ | refine w_tup ?_ | refine w_lst ?_ | refine w_call ?_ | refine w_neg ?_ | refine w_b1 ?_ | refine w_bn ?_ | refine w_isi ?_ | refine w_met ?_ | refine w_pnone ?_ | refine w_psome ?_ | refine w_cut ?_ | refine w_yes ?_)))
local macro_rules | `(tactic| array_get_dec) => `(tactic| (with_reducible refine w_seqB ?_))
local macro_rules | `(tactic| array_get_dec) => `(tactic| array_mem_dec)
local macro_rules | `(tactic| decreasing_trivial_pre_omega) => `(tactic| (with_reducible refine w_seq ?_))
local macro_rules | `(tactic| decreasing_trivial_pre_omega) => `(tactic| array_mem_dec)
local macro_rules | `(tactic| sizeOf_list_dec) => `(tactic| (try simp only [List.set, Int.reduceToNat, List.map_cons, List.map_nil, Nat.reduceSub, List.reduceReplicate, List.cons_append, List.nil_append, wipeA, aset_aset, List.getElem?_cons_zero, List.getElem?_cons_succ]))
variable {CE CR CF CB CI gX : Nat} {α : AH} {Q : QD} {E : QX}
theorem told_go {r : Addr} {ds l : List Int} {kd lo hi : Int} (S : RdAt CR r ds l α) (ok : ∀ v l' α', RV kd lo hi l = .ok (v, l') → RdAt CR r ds l' α' → But r α α' → Q v α')
    (er : ∀ e α', RV kd lo hi l = .error e → But r α α' → E (bx CI (ds.length - e)) α') : f_law_told_of CE CR CF CB CI gX [dref r, .int kd, .int lo, .int hi] α Q E := by
  unfold f_law_told_of m_law_told_of
  refine w_runP rfl ?_
  have ok : ∀ v l' α', RV kd lo hi l = .ok (v, l') → RdAt CR r ds l' α' → But r α α' → Q v (arst α α') := fun v l' α' h1 h2 h3 => by
    rw [arst_but S.isS h3]
    exact ok v l' α' h1 h2 h3
  have er : ∀ e α', RV kd lo hi l = .error e → But r α α' → E (bx CI (ds.length - e)) (arst α α') := fun e α' h1 h3 => by
    rw [arst_but S.isS h3]
    exact er e α' h1 h3
  unfold RV at ok er
  sizeOf_list_dec
  (repeat' array_get_dec)
  · rename_i h0
    rw [if_pos h0] at ok er
    refine meth_rd S (fun _ _ => rfl) rfl ?_
    (repeat' array_get_dec)
    refine num_go S (fun n l1 α1 h1 S1 B1 => ?_) (fun e α1 h1 B1 => ?_)
    · (repeat' array_get_dec)
      exact ok _ _ _ (by rw [h1]; rfl) S1 B1
    · (repeat' array_get_dec)
      exact er _ _ (by rw [h1]; rfl) B1
  rename_i n0
  rw [if_neg n0] at ok er
  try refine bar_of ?_
  sizeOf_list_dec
  (repeat' array_get_dec)
  · rename_i h0
    rw [if_pos h0] at ok er
    refine meth_rd S (fun _ _ => rfl) rfl ?_
    (repeat' array_get_dec)
    refine name_go S (fun n l1 α1 h1 hl S1 B1 => ?_) (fun e α1 h1 B1 => ?_)
    · (repeat' array_get_dec)
      exact ok _ _ _ (by rw [h1]; rfl) S1 B1
    · (repeat' array_get_dec)
      exact er _ _ (by rw [h1]; rfl) B1
  rename_i n1
  rw [if_neg n1] at ok er
  try refine bar_of ?_
  sizeOf_list_dec
  (repeat' array_get_dec)
  · rename_i h0
    rw [if_pos h0] at ok er
    refine meth_rd S (fun _ _ => rfl) rfl ?_
    (repeat' array_get_dec)
    refine vec_go S (fun n l1 α1 h1 hl S1 B1 => ?_) (fun e α1 h1 B1 => ?_)
    · (repeat' array_get_dec)
      exact ok _ _ _ (by rw [h1]; rfl) S1 B1
    · (repeat' array_get_dec)
      exact er _ _ (by rw [h1]; rfl) B1
  rename_i n2
  rw [if_neg n2] at ok er
  try refine bar_of ?_
  sizeOf_list_dec
  (repeat' array_get_dec)
  · rename_i h0
    rw [if_pos h0] at ok er
    refine meth_rd S (fun _ _ => rfl) rfl ?_
    (repeat' array_get_dec)
    refine ent_go S (fun x num l1 α1 h1 S1 B1 => ?_) (fun e α1 h1 B1 => ?_)
    · (repeat' array_get_dec)
      try refine bar_of ?_
      sizeOf_list_dec
      (repeat' array_get_dec)
      refine fields_go ?_
      (repeat' array_get_dec)
      exact ok _ _ _ (by rw [h1]; rfl) S1 B1
    · (repeat' array_get_dec)
      exact er _ _ (by rw [h1]; rfl) B1
  rename_i n3
  rw [if_neg n3] at ok er
  try refine bar_of ?_
  sizeOf_list_dec
  (repeat' array_get_dec)
  · rename_i h0
    rw [if_pos h0] at ok er
    refine meth_rd S (fun _ _ => rfl) rfl ?_
    (repeat' array_get_dec)
    refine blk_go (by decide) S (fun n l1 α1 h1 S1 B1 => ?_) (fun e α1 h1 B1 => ?_)
    · (repeat' array_get_dec)
      exact ok _ _ _ (by rw [h1]; rfl) S1 B1
    · (repeat' array_get_dec)
      exact er _ _ (by rw [h1]; rfl) B1
  rename_i n4
  rw [if_neg n4] at ok er
  try refine bar_of ?_
  sizeOf_list_dec
  (repeat' array_get_dec)
  · rename_i h0
    rw [if_pos h0] at ok er
    refine meth_rd S (fun _ _ => rfl) rfl ?_
    (repeat' array_get_dec)
    refine dev_go S (fun n l1 α1 h1 S1 B1 => ?_) (fun e α1 h1 B1 => ?_)
    · (repeat' array_get_dec)
      exact ok _ _ _ (by rw [h1]; rfl) S1 B1
    · (repeat' array_get_dec)
      exact er _ _ (by rw [h1]; rfl) B1
  rename_i n5
  rw [if_neg n5] at ok er
  try refine bar_of ?_
  sizeOf_list_dec
  (repeat' array_get_dec)
  refine meth_rd S (fun _ _ => rfl) rfl ?_
  (repeat' array_get_dec)
  refine byte_go S (fun n l1 α1 h1 S1 B1 => ?_) (fun e α1 h1 B1 => ?_)
  · (repeat' array_get_dec)
    exact ok _ _ _ (by rw [h1]; rfl) S1 B1
  · (repeat' array_get_dec)
    exact er _ _ (by rw [h1]; rfl) B1
theorem rdi_go {z : Addr} {ds : List Int} {a : Nat} (hz : α z = some (oD CR [])) (q : Q .none (aset α z (rdO CR ds a))) : f_Reader_init CE CR CF CB CI gX [dref z, ilD ds, .int a] α Q E := by
  unfold f_Reader_init m_Reader_init
  refine w_runF rfl ?_
  sizeOf_list_dec
  (repeat' decreasing_trivial_pre_omega)
  refine ⟨by show (0 : Nat) < 900; decide, ?_⟩
  (repeat' decreasing_trivial_pre_omega)
  refine ⟨by show (1 : Nat) < 900; decide, ?_⟩
  (repeat' decreasing_trivial_pre_omega)
  simp only [aset_aset]
  exact q
theorem exm_t (nx : CB ≠ CI) {R : Bool → Prop} (h : R true) : oq (exm_InvalidBytes CE CR CF CB CI gX CI) R := ⟨true, by
  unfold exm_InvalidBytes
  rw [if_neg (Ne.symm nx), if_pos rfl], h⟩
theorem xiF : xi_FolderkinError CE CR CF CB CI gX CI = some true := by
  unfold xi_FolderkinError
  by_cases e : CI = CB
  · rw [if_pos e]
  · rw [if_neg e, if_pos rfl]
theorem xiV : xi_ValueError CE CR CF CB CI gX CI = some true := by
  unfold xi_ValueError
  by_cases e : CI = CB
  · rw [if_pos e]
  · rw [if_neg e, if_pos rfl]
theorem isXt : isX CE CR CF CB CI gX CI = true := by
  unfold isX
  rw [decide_eq_true (rfl : CI = CI), Bool.or_true]
theorem outc_go {ds : List Int} {kd lo hi : Int} {a : Nat} (nx : CB ≠ CI) (ha : a ≤ ds.length) (q : Q (outR ds (RV kd lo hi (ds.drop a))) α) : f_law_outcome CE CR CF CB CI gX [ilD ds, .int kd, .int a, .int lo, .int hi] α Q E := by
  unfold f_law_outcome m_law_outcome
  refine w_runP rfl ?_
  sizeOf_list_dec
  (repeat' array_get_dec)
  refine ⟨rfl, fun z hz => ?_⟩
  refine rdi_go aset_same ⟨rfl, ?_⟩
  rw [aset_aset]
  have S0 : RdAt CR z ds (ds.drop a) (aset α z (rdO CR ds a)) := ⟨a, aset_same, ha, rfl⟩
  have B0 : BuX z α (aset α z (rdO CR ds a)) := fun z hz _ => aset_ne hz
  generalize aset α z (rdO CR ds a) = α1 at *
  (repeat' array_get_dec)
  try refine bar_of ?_
  sizeOf_list_dec
  (repeat' array_get_dec)
  refine told_go S0 (fun v l' α2 h1 S1 B1 => ?_) (fun e α2 h1 B1 => ?_)
  · have hr := arst_bx hz (B0.but B1)
    (repeat' array_get_dec)
    try refine bar_of ?_
    sizeOf_list_dec
    obtain ⟨a2, h2, h3, rfl⟩ := S1
    rw [h1] at q
    have el : ds.length - (ds.drop a2).length = a2 := by rw [List.length_drop]; omega
    unfold outR at q
    simp only [el] at q
    (repeat' array_get_dec)
    rw [hr]
    exact q
  · have hr := arst_bx hz (B0.but B1)
    rw [h1] at q
    refine exm_t nx ?_
    (repeat' array_get_dec)
    intro a1 dx
    sizeOf_list_dec
    (repeat' array_get_dec)
    refine w_xi rfl isXt xiF ?_
    (repeat' array_get_dec)
    refine w_xi rfl isXt xiV ?_
    (repeat' array_get_dec)
    try refine bar_of ?_
    sizeOf_list_dec
    (repeat' array_get_dec)
    refine w_xf rfl isXt rfl ?_
    (repeat' array_get_dec)
    rw [hr]
    exact q
end K47
namespace K47
open PySem L2 Hz
theorem rN_four {lo n : Int} {r : List Int} (h : 0 ≤ n ∧ n < 4294967296) (hlo : 0 ≤ lo ∧ lo ≤ n) : rN lo (four n ++ r) = .ok (n, r) := by
  show bn (rB 0 255 (n / 16777216 :: n / 65536 % 256 :: n / 256 % 256 :: n % 256 :: r)) _ = _
  rw [rB_pos (by omega)]
  show bn (rB 0 255 (n / 65536 % 256 :: n / 256 % 256 :: n % 256 :: r)) _ = _
  rw [rB_pos (by omega)]
  show bn (rB 0 255 (n / 256 % 256 :: n % 256 :: r)) _ = _
  rw [rB_pos (by omega)]
  show bn (rB (if (n / 16777216 * 256 + n / 65536 % 256) * 256 + n / 256 % 256 = 0 then lo else 0) 255 (n % 256 :: r)) _ = _
  rw [rB_pos (by split <;> omega)]
  show Except.ok (((n / 16777216 * 256 + n / 65536 % 256) * 256 + n / 256 % 256) * 256 + n % 256, r) = _
  congr 2
  omega
theorem rC_w : ∀ {nm : List Nat} {r : List Int}, (∀ k ∈ nm, k ∈ CHS) → rC nm.length (nm.map Int.ofNat ++ r) = .ok (nm, r)
  | [], r, _ => rfl
  | k :: nm, r, h => by
    have hk := h k List.mem_cons_self
    have hb := chs_lt k hk
    show bn (rB 0 255 ((k : Int) :: (nm.map Int.ofNat ++ r))) _ = _
    rw [rB_pos (by omega)]
    have e : chO (k : Int) = some k := by
      unfold chO
      rw [if_pos ⟨by omega, by omega, by rw [Int.toNat_natCast]; exact hk⟩, Int.toNat_natCast]
    show (match chO (k : Int) with
      | none => _
      | some z => pre [z] (rC nm.length (nm.map Int.ofNat ++ r))) = _
    rw [e]
    show pre [k] (rC nm.length (nm.map Int.ofNat ++ r)) = _
    rw [rC_w fun x hx => h x (List.mem_cons_of_mem _ hx)]
    rfl
theorem rNm_w {nm : List Nat} {r : List Int} (h : (1 ≤ nm.length ∧ nm.length ≤ 40) ∧ ∀ k ∈ nm, k ∈ CHS) : rNm (wNm nm ++ r) = .ok (nm, r) := by
  unfold rNm wNm
  rw [List.cons_append, rB_pos (by omega)]
  show rC ((nm.length : Int)).toNat (nm.map Int.ofNat ++ r) = _
  rw [Int.toNat_natCast]
  exact rC_w h.2
theorem inc_le : ∀ {v : List (Int × Int)} {x : Int × Int}, ((x :: v).map (·.1)).Pairwise (· < ·) → (∀ y ∈ x :: v, y.1 ≤ 9) → x.1 + (v.length : Nat) ≤ 9
  | [], x, _, h => by
    have := h x List.mem_cons_self
    simp only [List.length_nil]
    omega
  | y :: w, x, hp, h => by
    rw [List.map_cons, List.pairwise_cons] at hp
    have h1 := hp.1 y.1 (by simp)
    have h2 := inc_le hp.2 fun z hz => h z (List.mem_cons_of_mem _ hz)
    rw [List.length_cons]
    omega
theorem rV_w : ∀ {v : List (Int × Int)} {d : Int} {r : List Int}, (v.map (·.1)).Pairwise (· < ·) → (∀ x ∈ v, (d < x.1 ∧ x.1 ≤ 9) ∧ 1 ≤ x.2 ∧ x.2 < 4294967296) → rV v.length d ((v.flatMap fun x => x.1 :: four x.2) ++ r) = .ok (v, r)
  | [], d, r, _, _ => rfl
  | x :: v, d, r, hp, h => by
    have hx := h x List.mem_cons_self
    have hl := inc_le hp fun y hy => (h y hy).1.2
    rw [List.map_cons, List.pairwise_cons] at hp
    rw [List.flatMap_cons, List.append_assoc, List.cons_append]
    show bn (rB (d + 1) (9 - (v.length : Nat)) (x.1 :: (four x.2 ++ ((v.flatMap fun x => x.1 :: four x.2) ++ r)))) _ = _
    rw [rB_pos (by omega)]
    show bn (rN 1 (four x.2 ++ ((v.flatMap fun x => x.1 :: four x.2) ++ r))) _ = _
    rw [rN_four (by omega) (by omega)]
    show pre [(x.1, x.2)] (rV v.length x.1 ((v.flatMap fun x => x.1 :: four x.2) ++ r)) = _
    rw [rV_w hp.2 fun y hy => ⟨⟨hp.1 y.1 (List.mem_map.mpr ⟨y, hy, rfl⟩), (h y (List.mem_cons_of_mem _ hy)).1.2⟩, (h y (List.mem_cons_of_mem _ hy)).2⟩]
    rfl
theorem rVec_w {v : List (Int × Int)} {r : List Int} (h : veOk v) : rVec (wVe v ++ r) = .ok (v, r) := by
  obtain ⟨h1, h2, h3, h4⟩ := h
  unfold rVec wVe
  rw [List.cons_append, rB_pos (by omega)]
  show rV ((v.length : Int)).toNat 0 ((v.flatMap fun x => x.1 :: four x.2) ++ r) = _
  rw [Int.toNat_natCast]
  exact rV_w h3 fun x hx => ⟨⟨by have := (h4 x hx).1.1; omega, (h4 x hx).1.2⟩, (h4 x hx).2⟩
theorem rBs_w : ∀ {p r : List Int}, (∀ d ∈ p, 0 ≤ d ∧ d < 256) → rBs p.length (p ++ r) = .ok (p, r)
  | [], r, _ => rfl
  | d :: p, r, h => by
    have hd := h d List.mem_cons_self
    show bn (rB 0 255 (d :: (p ++ r))) _ = _
    rw [rB_pos (by omega)]
    show pre [d] (rBs p.length (p ++ r)) = _
    rw [rBs_w fun x hx => h x (List.mem_cons_of_mem _ hx)]
    rfl
theorem rBk_w {lo : Int} {p r : List Int} (h : okp p) (hlo : lo ≤ p.length) : rBk lo (wBk p ++ r) = .ok (val 256 1 p, r) := by
  have h4 := h.1
  unfold rBk rR wBk
  rw [List.cons_append, rB_pos (by omega)]
  show bn (rBs ((p.length : Int)).toNat (p ++ r)) _ = _
  rw [Int.toNat_natCast, rBs_w h.2.2]
  rfl
theorem rBl_w : ∀ {rows : List (List Int)} {r : List Int}, (∀ p ∈ rows, okp p) → (∀ j, j + 1 < rows.length → (rows.getD j []).length = 4) → rBl rows.length (rows.flatMap wBk ++ r) = .ok (rows.map (val 256 1), r)
  | [], r, _, _ => rfl
  | p :: rows, r, h, hs => by
    have hp := h p List.mem_cons_self
    have hl : (if rows.length = 0 then 1 else 4 : Int) ≤ p.length := by
      split
      · have := List.length_pos_iff.mpr hp.2.1
        omega
      · have := hs 0 (by rw [List.length_cons]; omega)
        have this : p.length = 4 := this
        omega
    rw [List.flatMap_cons, List.append_assoc]
    show bn (rBk (if rows.length = 0 then 1 else 4) (wBk p ++ (rows.flatMap wBk ++ r))) _ = _
    rw [rBk_w hp hl]
    show pre [val 256 1 p] (rBl rows.length (rows.flatMap wBk ++ r)) = _
    rw [rBl_w (fun x hx => h x (List.mem_cons_of_mem _ hx)) fun j hj => hs (j + 1) (by rw [List.length_cons]; omega)]
    rfl
theorem wEn_app {x : EF} {num : Int} {rows : List (List Int)} {r : List Int} : wEn x num rows ++ r = four num ++ (wNm x.nm ++ (wVe x.ve ++ (four x.h ++ (x.md :: (four x.mn ++ ((if x.de then 1 else 0) :: (four x.ti ++ ((rows.length : Int) :: (rows.flatMap wBk ++ r))))))))) := by
  unfold wEn wA
  simp only [List.append_assoc, List.cons_append, List.nil_append]
theorem rE_w {x : EF} {num : Int} {rows : List (List Int)} {r : List Int} (k : EOk x rows) (h1 : 1 ≤ num) (h2 : num < 4294967296) : rE (wEn x num rows ++ r) = .ok ((x, num), r) := by
  rw [wEn_app, rE, rN_four (by omega) (by omega)]
  show rE1 num _ = _
  rw [rE1, rNm_w k.nm]
  show rE2 num x.nm _ = _
  rw [rE2, rVec_w k.ve]
  show rE3 num x.nm x.ve _ = _
  have kh := k.h
  have kd := k.md
  have kn := k.mn
  have kt := k.ti
  rw [rE3, rN_four (by omega) (by omega)]
  show rE4 num x.nm x.ve x.h _ = _
  rw [rE4, rB_pos (by omega)]
  show rE5 num x.nm x.ve x.h x.md _ = _
  rw [rE5, rN_four (by omega) (by omega)]
  show rE6 num x.nm x.ve x.h x.md x.mn _ = _
  rw [rE6, rB_pos (by split <;> omega)]
  show rE7 num x.nm x.ve x.h x.md x.mn _ _ = _
  rw [rE7, rN_four (by omega) (by omega)]
  show rE8 num x.nm x.ve x.h x.md x.mn _ x.ti _ = _
  have kl := k.len
  have kde := k.de
  rw [rE8, rB_pos (by
    cases hde : x.de with
    | true =>
      rw [kde hde]
      simp
    | false =>
      simp
      omega)]
  show rE9 num x.nm x.ve x.h x.md x.mn _ x.ti ((rows.length : Int)) (rows.flatMap wBk ++ r) = _
  rw [rE9, Int.toNat_natCast, rBl_w k.ok k.shape, ← k.bl]
  show Except.ok ((_, num), r) = _
  obtain ⟨nm, ve, h, md, mn, de, ti, bl⟩ := x
  cases de <;> rfl
end K47
namespace K47
open PySem L2 Hz
local macro_rules | `(tactic| array_mem_dec) => `(tactic| (first | ((with_reducible apply w_xf); exact rfl; exact decide_eq_true rfl; exact rfl) | ((with_reducible apply w_frzS); exact rfl; (first | assumption | exact aset_same); (try simp only [List.set])) | ((with_reducible apply rg1_of); (first | omega | decide)) | ((with_reducible apply rg2_of); (first | omega | decide)) | ((with_reducible apply lok); exact rfl) | ((with_reducible refine it2_dec ?_ ?_) <;> intro)))
local macro_rules | `(tactic| array_mem_dec) => `(tactic| (first | ((with_reducible apply oq_setv2); (simp only [List.set, wipeA]; exact rfl)) | ((with_reducible apply cal_of); exact rfl; (try simp only [List.cons_append, List.nil_append, List.append_nil])) | ((with_reducible apply w_aug); exact rfl) | ((with_reducible apply cel_of); (first | assumption | exact aset_same)) | ((with_reducible apply ceo_of); (first | assumption | exact aset_same)) | ((with_reducible apply tlG_r); (first | assumption | exact aset_same)) | ((with_reducible apply fr_of); (first | assumption | exact aset_same)) | ((with_reducible apply fd_cons); exact trivial) | ((with_reducible apply fd_nil); exact trivial) | ((with_reducible apply oq_isiB (b := true)); exact rfl) | ((with_reducible apply oq_isiB (b := false)); exact rfl) | ((with_reducible apply w_xi); exact rfl; exact decide_eq_true rfl; exact if_pos rfl)))
local macro_rules | `(tactic| array_mem_dec) => `(tactic| (with_reducible first | refine pr2_of ?_ | refine fl_d ?_ | refine fl_a ?_ | refine oq_and255 ?_ | refine vw_il ?_ | refine len_il ?_ | refine list_il ?_ | refine w_mk ?_ | refine vw_en ?_ | refine fe_1 ?_ | refine fe_2 ?_ | refine fe_3 ?_ | refine fe_4 ?_ | refine fe_5 ?_ | refine fe_6 ?_ | refine fe_7 ?_ | refine oq_intb ?_))
local macro_rules | `(tactic| array_mem_dec) => `(tactic| (with_reducible first | refine tb_b ?_ | refine ti_b ?_ | refine ts_b ?_ | refine we_nx ?_ | refine we_rt ?_ | refine we_ex ?_ | refine wn_nx ?_ | refine wn_rt ?_ | refine wn_bk ?_ | refine wn_ct ?_ | refine wn_ex ?_ | refine wl_nx ?_ | refine wl_rt ?_ | refine wl_bk ?_ | refine wl_ct ?_ | refine wl_ex ?_ | refine wx_nx ?_ | refine wx_rt ?_ | refine wx_bk ?_ | refine wx_ct ?_ | refine wx_ex ?_ | refine wh_nx ?_ | refine wh_rt ?_ | refine wh_bk ?_ | refine wh_ct ?_ | refine it2_t ?_ | refine it2_f ?_ | refine it2_not ?_ | refine tlG_l ?_ | refine ttG_t ?_))
local macro_rules | `(tactic| array_mem_dec) => `(tactic| ((with_reducible refine oq_id ?_); (first | (with_reducible first | refine vw_i ?_ | refine vw_s ?_ | refine vw_b ?_ | refine vw_n ?_ | refine vw_l ?_ | refine vw_t ?_ | refine vw_sc ?_ | refine vw_o ?_ | refine mv_nil ?_ | refine mv_cons ?_ | refine oq_tgNil ?_ | refine oq_tgCons ?_ | refine oq_add_i ?_ | refine oq_sub ?_ | refine oq_lt ?_ | refine oq_le ?_ | refine oq_gt ?_ | refine oq_ge ?_ | refine oq_eq_i ?_ | refine oq_ne_i ?_ | refine oq_eq_s ?_ | refine oq_ne_s ?_ | refine oq_eq_b ?_ | refine oq_ne_b ?_ | refine oq_is ?_ | refine oq_isNot ?_ | refine oq_in_s ?_ | refine oq_notIn_s ?_ | refine oq_len_l ?_ | refine oq_len_t ?_ | refine oq_int ?_ | refine oq_abs ?_ | refine oq_ord ?_ | refine oq_cut_l ?_ | refine oq_cut_t ?_ | refine oq_list_l ?_ | refine oq_list_t ?_ | refine oq_tuple_l ?_ | refine oq_tuple_t ?_ | refine oq_max2 ?_ | refine oq_min2 ?_ | refine oq_some ?_ | refine oq_len_sc ?_ | refine oq_eq_il ?_ | refine oq_ne_il ?_ | refine oq_eq_it ?_ | refine oq_ne_it ?_ | refine oq_lt_il ?_ | refine oq_lt_it ?_ | refine oq_iadd_i ?_ | refine oq_isT ?_ | refine oq_isNotT ?_) | (first | ((with_reducible apply oq_tgTup); exact rfl) | ((with_reducible apply oq_ix_lk); exact rfl) | ((with_reducible apply oq_ix_tk); exact rfl) | ((with_reducible apply vw_r); (first | assumption | exact aset_same)) | ((with_reducible apply oq_ixN_k); exact rfl; (try simp only [List.set, Int.reduceToNat])) | ((with_reducible apply oq_mod); (first | omega | decide)) | ((with_reducible apply oq_div); (first | omega | decide)) | ((with_reducible apply oq_mul); (first | omega | decide)) | ((with_reducible apply oq_pow); (first | omega | decide)) | ((with_reducible apply oq_shl); (first | omega | decide)) | ((with_reducible apply oq_shr); (first | omega | decide)) | ((with_reducible apply oq_add_s); (first | omega | decide))) | (first | ((with_reducible apply oq_len_s); (first | omega | decide)) | ((with_reducible apply oq_cut_s); (first | omega | decide)) | ((with_reducible apply oq_append); (first | omega | decide)) | ((with_reducible apply oq_insert); (first | omega | decide)) | ((with_reducible apply oq_rep); (first | omega | decide)) | ((with_reducible apply oq_cat); (first | omega | decide))))))
local macro_rules | `(tactic| array_mem_dec) => `(tactic| (with_reducible first | refine w_list ?_ | refine w_tuple ?_ | refine w_str ?_ | refine w_range1 ?_ | refine w_range2 ?_ | refine w_range3 ?_ | refine w_next ?_ | refine w_break ?_ | refine w_cont ?_ | refine w_drop ?_ | refine w_ret ?_ | refine w_retN ?_ | refine w_if ?_ | refine w_asg ?_ | refine w_raise ?_ | refine w_fld ?_ | refine w_seta ?_ | refine w_auga ?_ | refine w_seti ?_ | refine w_mut ?_ | refine w_frz ?_ | refine w_new ?_ | refine w_ext ?_ | refine w_for ?_ | refine w_lc ?_ | refine w_tryA ?_ | refine w_try ?_ | refine w_par ?_))
local macro_rules | `(tactic| array_mem_dec) => `(tactic| (first | ((with_reducible apply w_kV); exact rfl) | (with_reducible first | refine w_kC ?_ | refine w_bop ?_ | refine w_tst ?_ | refine w_val ?_ | refine w_and ?_ | refine w_or ?_ | refine w_not ?_ | refine w_andV ?_ | refine w_orV ?_ | refine w_chain ?_ | refine w_ifK ?_ | refine w_nil ?_ | refine w_cons ?_ | refine w_tup ?_ | refine w_lst ?_ | refine w_call ?_ | refine w_neg ?_ | refine w_b1 ?_ | refine w_bn ?_ | refine w_isi ?_ | refine w_met ?_ | refine w_pnone ?_ | refine w_psome ?_ | refine w_cut ?_ | refine w_yes ?_)))
local macro_rules | `(tactic| array_get_dec) => `(tactic| (with_reducible refine w_seqB ?_))
local macro_rules | `(tactic| array_get_dec) => `(tactic| array_mem_dec)
local macro_rules | `(tactic| decreasing_trivial_pre_omega) => `(tactic| (with_reducible refine w_seq ?_))
local macro_rules | `(tactic| decreasing_trivial_pre_omega) => `(tactic| array_mem_dec)
local macro_rules | `(tactic| sizeOf_list_dec) => `(tactic| (try simp only [List.set, Int.reduceToNat, List.map_cons, List.map_nil, Nat.reduceSub, List.reduceReplicate, List.cons_append, List.nil_append, wipeA, aset_aset, List.getElem?_cons_zero, List.getElem?_cons_succ]))
variable {CE CR CF CB CI gX : Nat} {α : AH} {Q : QD} {E : QX}
theorem dEqB_self {d : D} (h : okD 60 d = true) : dEqB d d = some true := by
  have e := PySem.SeqAt.eqv_refl _ (okD_ok 60 _ h).1
  unfold dEqB
  cases d with
  | str s => simp
  | _ => simp only [h, e, and_self, if_true]
theorem oq_ne_self {d : D} {R : D → Prop} (h : okD 60 d = true) (q : R (.bool false)) : oq (dNe d d) R := oq_ne_d (dEqB_self h) q
theorem oq_eq_self {d : D} {R : D → Prop} (h : okD 60 d = true) (q : R (.bool true)) : oq (dEq d d) R := oq_eq_d (dEqB_self h) q
theorem okD_int (k : Nat) (i : Int) : okD k (.int i) = true := by cases k <;> rfl
theorem okD_bool (k : Nat) (i : Bool) : okD k (.bool i) = true := by cases k <;> rfl
theorem okD_nm (k : Nat) {nm : List Nat} (h : ∀ c ∈ nm, c ∈ CHS) : okD k (.str (S nm)) = true := by
  have e : PyData.strOk (S nm) = true := by
    show ((S nm).cps.all (· < 0x110000)) = true
    have : (S nm).cps = nm.toArray := rfl
    rw [this, List.all_toArray, List.all_eq_true]
    intro c hc
    have := (chs_lt c (h c hc)).2
    exact decide_eq_true (by omega)
  cases k <;> exact e
theorem okD_tup {k : Nat} {ds : List D} (h : ∀ d ∈ ds, okD k d = true) : okD (k + 1) (.tuple ds) = true := by
  show ds.all (okD k) = true
  rw [List.all_eq_true]
  exact h
theorem okD_ve (k : Nat) {v : List (Int × Int)} : okD (k + 2) (.tuple (v.map vD)) = true := okD_tup fun d hd => by
  obtain ⟨x, _, rfl⟩ := List.mem_map.mp hd
  exact okD_tup fun d hd => by
    simp only [List.mem_cons, List.not_mem_nil, or_false] at hd
    rcases hd with rfl | rfl <;> exact okD_int _ _
theorem okD_its (k : Nat) {v : List Int} : okD (k + 1) (.tuple (v.map .int)) = true := okD_ints k v
theorem okD_ef (k : Nat) {x : EF} (h : ∀ c ∈ x.nm, c ∈ CHS) : okD (k + 3) (efT x) = true := okD_tup fun d hd => by
  simp only [List.mem_cons, List.not_mem_nil, or_false] at hd
  rcases hd with rfl | rfl | rfl | rfl | rfl | rfl | rfl
  · exact okD_nm _ h
  · exact okD_ve k
  · exact okD_int _ _
  · exact okD_tup fun d hd => by
      simp only [List.mem_cons, List.not_mem_nil, or_false] at hd
      rcases hd with rfl | rfl <;> exact okD_int _ _
  · exact okD_bool _ _
  · exact okD_int _ _
  · exact okD_its _
theorem fnd_mem {c : Int} {z : Nat} (h : z ∈ fnd c) : z ∈ CHS := by
  unfold fnd at h
  exact (List.mem_filter.mp h).1
theorem lci_mem {ds : List Int} {x : Xs} {z : Nat} : ∀ k, z ∈ (LCi ds x k).1 → z ∈ CHS
  | 0, h => nomatch h
  | k + 1, h => by
    have h : z ∈ (LCi ds x k).1 ++ fnd (Tk 45 126 ds (LCi ds x k).2).1 := h
    rcases List.mem_append.mp h with h | h
    · exact lci_mem k h
    · exact fnd_mem h
theorem okD_DV {kd lo hi : Int} {ds : List Int} {x : Xs} : okD 59 (DV kd lo hi ds x).1 = true := by
  unfold DV
  repeat' split
  · exact okD_int _ _
  · exact okD_nm _ fun c hc => lci_mem _ hc
  · exact okD_ve 57
  · exact okD_tup fun d hd => by
      simp only [List.mem_cons, List.not_mem_nil, or_false] at hd
      rcases hd with rfl | rfl
      · exact okD_ef 55 fun c hc => lci_mem (ds := ds) (x := (Tk 1 40 ds (LN 1 ds x).2).2) (Tk 1 40 ds (LN 1 ds x).2).1.toNat hc
      · exact okD_int _ _
  · exact okD_int _ _
  · exact okD_int _ _
  · exact okD_int _ _
theorem okD_out {kd lo hi : Int} {ds : List Int} {x : Xs} : okD 60 (outD ds (DV kd lo hi ds x)) = true := by
  have h := okD_DV (kd := kd) (lo := lo) (hi := hi) (ds := ds) (x := x)
  generalize DV kd lo hi ds x = y at *
  obtain ⟨v, y⟩ := y
  cases y with
  | ok l =>
    exact okD_tup fun d hd => by
      simp only [List.mem_cons, List.not_mem_nil, or_false] at hd
      rcases hd with rfl | rfl
      · exact h
      · exact okD_int _ _
  | error e =>
    exact okD_tup fun d hd => by
      simp only [List.mem_cons, List.not_mem_nil, or_false] at hd
      rcases hd with rfl | rfl
      · rfl
      · exact okD_int _ _
theorem vw_ef {x : EF} {R : D → Prop} (h : R (efT x)) : oq (vw α (efT x)) R := ⟨_, rfl, h⟩
local macro_rules | `(tactic| array_mem_dec) => `(tactic| (with_reducible first | refine vw_ef ?_))
theorem BuX.via {p z : Addr} {α1 α2 : AH} (h : BuX p α α1) (hz : α z = Option.none) (k : But z α1 α2) : BuX p α α2 := fun a ha hs => (k a fun e => by rw [e, hz] at hs; cases hs).trans (h a ha hs)
theorem turn_go {ns : List Int} {p : Addr} (h : DrAt p α) (q : ∀ α', DrAt p α' → But p α α' → Q (.bool true) α') : f_law_in_turn CE CR CF CB CI gX [dref p, scriptD ns] α Q E := by
  unfold f_law_in_turn m_law_in_turn
  refine w_runP rfl ?_
  sizeOf_list_dec
  (repeat' array_get_dec)
  refine ent_dr h fun x rows num α1 hx h1 h2 D1 B1 => ?_
  (repeat' array_get_dec)
  try refine bar_of ?_
  sizeOf_list_dec
  (repeat' array_get_dec)
  refine nm_go D1 fun nm α2 hnm D2 B2 => ?_
  (repeat' array_get_dec)
  try refine bar_of ?_
  sizeOf_list_dec
  (repeat' array_get_dec)
  refine vec_dr D2 fun ve α3 hve D3 B3 => ?_
  have B03 := (B1.trans B2).trans B3
  clear B1 B2 B3 D1 D2
  have l1 := wEn_len (num := num) hx
  have l2 := wNm_len (nm := nm)
  have l3 := wVe_len2 (ve := ve)
  have l4 : (four num).length = 4 := rfl
  have h9 := hve.2.1
  (repeat' array_get_dec)
  try refine bar_of ?_
  sizeOf_list_dec
  (repeat' array_get_dec)
  refine lew_go hx ?_
  (repeat' array_get_dec)
  refine add_il (a := [5]) (by simp only [List.length_cons, List.length_nil]; omega) ?_
  (repeat' array_get_dec)
  refine lnw_go (by omega) ?_
  (repeat' array_get_dec)
  refine add_il (by simp only [List.length_append, List.length_cons, List.length_nil]; omega) ?_
  (repeat' array_get_dec)
  refine lf_go ?_
  (repeat' array_get_dec)
  refine add_il (by simp only [List.length_append, List.length_cons, List.length_nil]; omega) ?_
  (repeat' array_get_dec)
  try refine bar_of ?_
  sizeOf_list_dec
  (repeat' array_get_dec)
  refine lvw_go (by omega) ?_
  (repeat' array_get_dec)
  refine add_il (by simp only [List.length_append, List.length_cons, List.length_nil]; omega) ?_
  (repeat' array_get_dec)
  refine add_il (b := [2, 0, 7]) (by simp only [List.length_append, List.length_cons, List.length_nil]; omega) ?_
  (repeat' array_get_dec)
  refine add_il (b := [9]) (by simp only [List.length_append, List.length_cons, List.length_nil]; omega) ?_
  (repeat' array_get_dec)
  try refine bar_of ?_
  sizeOf_list_dec
  (repeat' array_get_dec)
  refine ⟨rfl, fun z hz => ?_⟩
  refine rdi_go (a := 1) aset_same ⟨rfl, ?_⟩
  rw [aset_aset]
  have hdr : (5 :: (wEn x num rows ++ wNm nm ++ four num ++ wVe ve ++ [2, 0, 7] ++ [9])).drop 1 = wEn x num rows ++ (wNm nm ++ (four num ++ (wVe ve ++ [2, 0, 7, 9]))) := by
    simp only [List.append_assoc, List.cons_append, List.nil_append, List.drop_succ_cons, List.drop_zero]
  have hln : 1 ≤ (5 :: (wEn x num rows ++ wNm nm ++ four num ++ wVe ve ++ [2, 0, 7] ++ [9])).length := by
    simp only [List.length_append, List.length_cons, List.length_nil]; omega
  generalize (5 :: (wEn x num rows ++ wNm nm ++ four num ++ wVe ve ++ [2, 0, 7] ++ [9]) : List Int) = ds at *
  have S0 : RdAt CR z ds (wEn x num rows ++ (wNm nm ++ (four num ++ (wVe ve ++ [2, 0, 7, 9])))) (aset α3 z (rdO CR ds 1)) := ⟨1, aset_same, hln, hdr.symm⟩
  have hpz := D3.ne hz
  have D4 : DrAt p (aset α3 z (rdO CR ds 1)) := D3.cong (aset_ne hpz)
  have B4 : BuX p α (aset α3 z (rdO CR ds 1)) := (BuX.of B03).new hz
  have hzn := (BuX.of B03).none hz hpz
  generalize aset α3 z (rdO CR ds 1) = α4 at *
  (repeat' array_get_dec)
  try refine bar_of ?_
  sizeOf_list_dec
  (repeat' array_get_dec)
  refine meth_rd S0 (fun _ _ => rfl) rfl ?_
  (repeat' array_get_dec)
  refine ent_go S0 (fun x' num' l' α5 h5 S5 B5 => ?_) (fun e α5 h5 B5 => ?_)
  rotate_left
  · rw [rE_w hx h1 h2] at h5
    cases h5
  rw [rE_w hx h1 h2] at h5
  cases h5
  have D5 := D4.cong (B5 p hpz)
  replace B5 := B4.via hzn B5
  (repeat' array_get_dec)
  try refine bar_of ?_
  sizeOf_list_dec
  (repeat' array_get_dec)
  refine fields_go ?_
  (repeat' array_get_dec)
  refine oq_ne_self (okD_ef 57 hx.nm.2) ?_
  (repeat' array_get_dec)
  all_goals try (exfalso; omega)
  refine meth_rd S5 (fun _ _ => rfl) rfl ?_
  (repeat' array_get_dec)
  refine name_go S5 (fun nm' l' α6 h6 hl6 S6 B6 => ?_) (fun e α6 h6 B6 => ?_)
  rotate_left
  · rw [rNm_w hnm] at h6
    cases h6
  rw [rNm_w hnm] at h6
  cases h6
  have D6 := D5.cong (B6 p hpz)
  replace B6 := B5.via hzn B6
  (repeat' array_get_dec)
  all_goals try contradiction
  refine meth_rd S6 (fun _ _ => rfl) rfl ?_
  (repeat' array_get_dec)
  refine num_go S6 (fun n' l' α7 h7 S7 B7 => ?_) (fun e α7 h7 B7 => ?_)
  rotate_left
  · rw [rN_four (by omega) (by omega)] at h7
    cases h7
  rw [rN_four (by omega) (by omega)] at h7
  cases h7
  have D7 := D6.cong (B7 p hpz)
  replace B7 := B6.via hzn B7
  (repeat' array_get_dec)
  all_goals try (exfalso; omega)
  try refine bar_of ?_
  sizeOf_list_dec
  (repeat' array_get_dec)
  refine meth_rd S7 (fun _ _ => rfl) rfl ?_
  (repeat' array_get_dec)
  refine vec_go S7 (fun v' l' α8 h8 hl8 S8 B8 => ?_) (fun e α8 h8 B8 => ?_)
  rotate_left
  · rw [rVec_w hve] at h8
    cases h8
  rw [rVec_w hve] at h8
  cases h8
  have D8 := D7.cong (B8 p hpz)
  replace B8 := B7.via hzn B8
  (repeat' array_get_dec)
  refine oq_eq_self (okD_ve 58) ?_
  (repeat' array_get_dec)
  refine meth_rd S8 (fun _ _ => rfl) rfl ?_
  (repeat' array_get_dec)
  have hbk : rBk 1 ([2, 0, 7, 9] : List Int) = .ok (65543, [9]) := rBk_w (p := [0, 7]) (r := [9]) ⟨by decide, by decide, by decide⟩ (by decide)
  refine blk_go (by decide) S8 (fun v' l' α9 h9 S9 B9 => ?_) (fun e α9 h9 B9 => ?_)
  rotate_left
  · rw [hbk] at h9
    cases h9
  rw [hbk] at h9
  cases h9
  have D9 := D8.cong (B9 p hpz)
  replace B9 := B8.via hzn B9
  (repeat' array_get_dec)
  all_goals try contradiction
  refine meth_rd S9 (fun _ _ => rfl) rfl ?_
  (repeat' array_get_dec)
  refine dev_go S9 (fun v' l' α10 h10 S10 B10 => ?_) (fun e α10 h10 B10 => ?_)
  rotate_left
  · cases (show (Except.ok ((9 : Int), ([] : List Int)) : Rd Int) = .error e from h10)
  cases (show (Except.ok ((9 : Int), ([] : List Int)) : Rd Int) = .ok (v', l') from h10)
  have D10 := D9.cong (B10 p hpz)
  replace B10 := B9.via hzn B10
  obtain ⟨a2, s1, s2, s3⟩ := S10
  have ea : a2 = ds.length := by
    have := congrArg List.length s3
    rw [List.length_drop, List.length_nil] at this
    omega
  subst ea
  (repeat' array_get_dec)
  all_goals try contradiction
  rw [decide_eq_true rfl]
  exact q _ (D10.cong (arst_at h.isS)) (arst_bux B10)
end K47
namespace K47
open PySem L2 Hz
local macro_rules | `(tactic| array_mem_dec) => `(tactic| (first | ((with_reducible apply w_xf); exact rfl; exact decide_eq_true rfl; exact rfl) | ((with_reducible apply w_frzS); exact rfl; (first | assumption | exact aset_same); (try simp only [List.set])) | ((with_reducible apply rg1_of); (first | omega | decide)) | ((with_reducible apply rg2_of); (first | omega | decide)) | ((with_reducible apply lok); exact rfl) | ((with_reducible refine it2_dec ?_ ?_) <;> intro)))
local macro_rules | `(tactic| array_mem_dec) => `(tactic| (first | ((with_reducible apply oq_setv2); (simp only [List.set, wipeA]; exact rfl)) | ((with_reducible apply cal_of); exact rfl; (try simp only [List.cons_append, List.nil_append, List.append_nil])) | ((with_reducible apply w_aug); exact rfl) | ((with_reducible apply cel_of); (first | assumption | exact aset_same)) | ((with_reducible apply ceo_of); (first | assumption | exact aset_same)) | ((with_reducible apply tlG_r); (first | assumption | exact aset_same)) | ((with_reducible apply fr_of); (first | assumption | exact aset_same)) | ((with_reducible apply fd_cons); exact trivial) | ((with_reducible apply fd_nil); exact trivial) | ((with_reducible apply oq_isiB (b := true)); exact rfl) | ((with_reducible apply oq_isiB (b := false)); exact rfl) | ((with_reducible apply w_xi); exact rfl; exact decide_eq_true rfl; exact if_pos rfl)))
local macro_rules | `(tactic| array_mem_dec) => `(tactic| (with_reducible first | refine pr2_of ?_ | refine fl_d ?_ | refine fl_a ?_ | refine oq_and255 ?_ | refine vw_il ?_ | refine len_il ?_ | refine list_il ?_ | refine w_mk ?_ | refine vw_en ?_ | refine fe_1 ?_ | refine fe_2 ?_ | refine fe_3 ?_ | refine fe_4 ?_ | refine fe_5 ?_ | refine fe_6 ?_ | refine fe_7 ?_ | refine oq_intb ?_ | refine vw_ef ?_))
local macro_rules | `(tactic| array_mem_dec) => `(tactic| (with_reducible first | refine tb_b ?_ | refine ti_b ?_ | refine ts_b ?_ | refine we_nx ?_ | refine we_rt ?_ | refine we_ex ?_ | refine wn_nx ?_ | refine wn_rt ?_ | refine wn_bk ?_ | refine wn_ct ?_ | refine wn_ex ?_ | refine wl_nx ?_ | refine wl_rt ?_ | refine wl_bk ?_ | refine wl_ct ?_ | refine wl_ex ?_ | refine wx_nx ?_ | refine wx_rt ?_ | refine wx_bk ?_ | refine wx_ct ?_ | refine wx_ex ?_ | refine wh_nx ?_ | refine wh_rt ?_ | refine wh_bk ?_ | refine wh_ct ?_ | refine it2_t ?_ | refine it2_f ?_ | refine it2_not ?_ | refine tlG_l ?_ | refine ttG_t ?_))
local macro_rules | `(tactic| array_mem_dec) => `(tactic| ((with_reducible refine oq_id ?_); (first | (with_reducible first | refine vw_i ?_ | refine vw_s ?_ | refine vw_b ?_ | refine vw_n ?_ | refine vw_l ?_ | refine vw_t ?_ | refine vw_sc ?_ | refine vw_o ?_ | refine mv_nil ?_ | refine mv_cons ?_ | refine oq_tgNil ?_ | refine oq_tgCons ?_ | refine oq_add_i ?_ | refine oq_sub ?_ | refine oq_lt ?_ | refine oq_le ?_ | refine oq_gt ?_ | refine oq_ge ?_ | refine oq_eq_i ?_ | refine oq_ne_i ?_ | refine oq_eq_s ?_ | refine oq_ne_s ?_ | refine oq_eq_b ?_ | refine oq_ne_b ?_ | refine oq_is ?_ | refine oq_isNot ?_ | refine oq_in_s ?_ | refine oq_notIn_s ?_ | refine oq_len_l ?_ | refine oq_len_t ?_ | refine oq_int ?_ | refine oq_abs ?_ | refine oq_ord ?_ | refine oq_cut_l ?_ | refine oq_cut_t ?_ | refine oq_list_l ?_ | refine oq_list_t ?_ | refine oq_tuple_l ?_ | refine oq_tuple_t ?_ | refine oq_max2 ?_ | refine oq_min2 ?_ | refine oq_some ?_ | refine oq_len_sc ?_ | refine oq_eq_il ?_ | refine oq_ne_il ?_ | refine oq_eq_it ?_ | refine oq_ne_it ?_ | refine oq_lt_il ?_ | refine oq_lt_it ?_ | refine oq_iadd_i ?_ | refine oq_isT ?_ | refine oq_isNotT ?_) | (first | ((with_reducible apply oq_tgTup); exact rfl) | ((with_reducible apply oq_ix_lk); exact rfl) | ((with_reducible apply oq_ix_tk); exact rfl) | ((with_reducible apply vw_r); (first | assumption | exact aset_same)) | ((with_reducible apply oq_ixN_k); exact rfl; (try simp only [List.set, Int.reduceToNat])) | ((with_reducible apply oq_mod); (first | omega | decide)) | ((with_reducible apply oq_div); (first | omega | decide)) | ((with_reducible apply oq_mul); (first | omega | decide)) | ((with_reducible apply oq_pow); (first | omega | decide)) | ((with_reducible apply oq_shl); (first | omega | decide)) | ((with_reducible apply oq_shr); (first | omega | decide)) | ((with_reducible apply oq_add_s); (first | omega | decide))) | (first | ((with_reducible apply oq_len_s); (first | omega | decide)) | ((with_reducible apply oq_cut_s); (first | omega | decide)) | ((with_reducible apply oq_append); (first | omega | decide)) | ((with_reducible apply oq_insert); (first | omega | decide)) | ((with_reducible apply oq_rep); (first | omega | decide)) | ((with_reducible apply oq_cat); (first | omega | decide))))))
local macro_rules | `(tactic| array_mem_dec) => `(tactic| (with_reducible first | refine w_list ?_ | refine w_tuple ?_ | refine w_str ?_ | refine w_range1 ?_ | refine w_range2 ?_ | refine w_range3 ?_ | refine w_next ?_ | refine w_break ?_ | refine w_cont ?_ | refine w_drop ?_ | refine w_ret ?_ | refine w_retN ?_ | refine w_if ?_ | refine w_asg ?_ | refine w_raise ?_ | refine w_fld ?_ | refine w_seta ?_ | refine w_auga ?_ | refine w_seti ?_ | refine w_mut ?_ | refine w_frz ?_ | refine w_new ?_ | refine w_ext ?_ | refine w_for ?_ | refine w_lc ?_ | refine w_tryA ?_ | refine w_try ?_ | refine w_par ?_))
local macro_rules | `(tactic| array_mem_dec) => `(tactic| (first | ((with_reducible apply w_kV); exact rfl) | (with_reducible first | refine w_kC ?_ | refine w_bop ?_ | refine w_tst ?_ | refine w_val ?_ | refine w_and ?_ | refine w_or ?_ | refine w_not ?_ | refine w_andV ?_ | refine w_orV ?_ | refine w_chain ?_ | refine w_ifK ?_ | refine w_nil ?_ | refine w_cons ?_ | refine w_tup ?_ | refine w_lst ?_ | refine w_call ?_ | refine w_neg ?_ | refine w_b1 ?_ | refine w_bn ?_ | refine w_isi ?_ | refine w_met ?_ | refine w_pnone ?_ | refine w_psome ?_ | refine w_cut ?_ | refine w_yes ?_)))
local macro_rules | `(tactic| array_get_dec) => `(tactic| (with_reducible refine w_seqB ?_))
local macro_rules | `(tactic| array_get_dec) => `(tactic| array_mem_dec)
local macro_rules | `(tactic| decreasing_trivial_pre_omega) => `(tactic| (with_reducible refine w_seq ?_))
local macro_rules | `(tactic| decreasing_trivial_pre_omega) => `(tactic| array_mem_dec)
local macro_rules | `(tactic| sizeOf_list_dec) => `(tactic| (try simp only [List.set, Int.reduceToNat, List.map_cons, List.map_nil, Nat.reduceSub, List.reduceReplicate, List.cons_append, List.nil_append, wipeA, aset_aset, List.getElem?_cons_zero, List.getElem?_cons_succ]))
theorem flat1 {a : Int} : ∀ n : Nat, (List.replicate n [PyData.int a]).flatten = (List.replicate n a).map PyData.int
  | 0 => rfl
  | n + 1 => by
    rw [List.replicate_succ, List.flatten_cons, flat1 n]
    rfl
theorem noF_rd {CR : Nat} {ds : List Int} {a : Nat} {m : Str} (hm : ∀ x y : D, lookF m [(.str "data", x), (.str "at", y)] = none) : noF CR m (rdO CR ds a) = true := by
  show (decide (Int.ofNat CR = Int.ofNat CR) && (lookF m _).isNone) = true
  rw [decide_eq_true rfl, hm]
  rfl
theorem law_true (CE CR CF CB CI gX : Nat) (nx : CB ≠ CI) (ns : List Int) (hns : ns.length ≤ 63) : f_law CE CR CF CB CI gX [scriptD ns] (fun _ => none) (fun d _ => d = .bool true) (fun _ _ => False) := by
  unfold f_law m_law
  refine w_runF rfl ?_
  sizeOf_list_dec
  generalize (fun _ => none : AH) = α0
  (repeat' array_get_dec)
  intro p hp
  (repeat' array_get_dec)
  try refine bar_of ?_
  sizeOf_list_dec
  have D1 : DrAt p (aset α0 p (.list [.int 0, .int 0])) := ⟨0, 0, aset_same⟩
  generalize aset α0 p (.list [.int 0, .int 0]) = α1 at *
  refine w_seqI (fun ρ α' => ρ = [some (scriptD ns), some (dref p), none, none, none, none, none, none, none, none, none] ∧ DrAt p α') ?_ fun X hX => ?_
  rotate_left
  · (repeat' array_get_dec)
    refine dr_go D1 (by decide) fun d1 α2 g1 g2 D2 B2 => ?_
    (repeat' array_get_dec)
    · refine turn_go D2 fun α3 D3 B3 => ?_
      (repeat' array_get_dec)
      exact hX _ _ ⟨rfl, D3⟩
    · exact hX _ _ ⟨rfl, D2⟩
  clear D1 hp
  rintro ρ α2 ⟨rfl, D2⟩
  clear α1
  sizeOf_list_dec
  (repeat' array_get_dec)
  refine dr_go D2 (by decide) fun kd α3 g1 g2 D3 B3 => ?_
  (repeat' array_get_dec)
  try refine bar_of ?_
  sizeOf_list_dec
  (repeat' array_get_dec)
  refine val_dr ⟨g1, g2⟩ D3 fun w α4 hw hwb D4 B4 => ?_
  (repeat' array_get_dec)
  try refine bar_of ?_
  sizeOf_list_dec
  (repeat' array_get_dec)
  refine oq_ne_self (okD_ints 59 w) ?_
  (repeat' array_get_dec)
  try refine bar_of ?_
  sizeOf_list_dec
  (repeat' array_get_dec)
  refine dr_go D4 (by decide) fun a α5 g3 g4 D5 B5 => ?_
  obtain ⟨a, rfl⟩ := Int.eq_ofNat_of_zero_le g3
  (repeat' array_get_dec)
  try refine bar_of ?_
  sizeOf_list_dec
  (repeat' array_get_dec)
  try refine oq_rep (by simp only [List.length_cons, List.length_nil]; omega) ?_
  rw [Int.toNat_natCast, flat1]
  (repeat' array_get_dec)
  refine chg_dr hw hwb D5 fun w' α6 hw' hwb' D6 B6 => ?_
  (repeat' array_get_dec)
  have lr : (List.replicate a (17 : Int)).length = a := List.length_replicate
  refine add_il (a := List.replicate a 17) (by omega) ?_
  (repeat' array_get_dec)
  try refine bar_of ?_
  sizeOf_list_dec
  (repeat' array_get_dec)
  refine dr_go D6 (by decide) fun n α7 g5 g6 D7 B7 => ?_
  (repeat' array_get_dec)
  refine row_dr (n := n) (by omega) D7 fun r α8 hr hd D8 B8 => ?_
  (repeat' array_get_dec)
  refine add_il (by rw [List.length_append]; omega) ?_
  have hdb : byt (List.replicate a 17 ++ w' ++ r) := byt_app (byt_app (fun d hd => by rw [List.eq_of_mem_replicate hd]; decide) hwb') hd
  have hal : a ≤ (List.replicate a 17 ++ w' ++ r).length := by simp only [List.length_append]; omega
  generalize List.replicate a 17 ++ w' ++ r = ds at *
  clear B3 B4 B5 B6 B7 B8 D2 D3 D4 D5 D6 D7
  (repeat' array_get_dec)
  try refine bar_of ?_
  sizeOf_list_dec
  (repeat' array_get_dec)
  refine dr_go D8 (by decide) fun lo α9 g7 g8 D9 B9 => ?_
  (repeat' array_get_dec)
  try refine bar_of ?_
  sizeOf_list_dec
  (repeat' array_get_dec)
  try refine bar_of ?_
  sizeOf_list_dec
  refine w_seqI (fun ρ α' => ∃ lo hi : Int, ρ = [some (scriptD ns), some (dref p), some (.int kd), some (.int (a : Nat)), some (ilD ds), some (.int lo), some (.int hi), none, none, some (ilD w), some (ilD w)] ∧ DrAt p α') ?_ fun X hX => ?_
  rotate_left
  · (repeat' array_get_dec)
    · refine dr_go D9 (by decide) fun l2 α10 g9 g10 D10 B10 => ?_
      (repeat' array_get_dec)
      try refine bar_of ?_
      sizeOf_list_dec
      (repeat' array_get_dec)
      refine dr_go (n := 256 - l2) D10 (by omega) fun h2 α11 g11 g12 D11 B11 => ?_
      (repeat' array_get_dec)
      exact hX _ _ ⟨_, _, rfl, D11⟩
    · exact hX _ _ ⟨_, _, rfl, D9⟩
  clear D8 D9 B9 g7 g8 lo
  rintro ρ α10 ⟨lo, hi, rfl, D10⟩
  sizeOf_list_dec
  (repeat' array_get_dec)
  try refine bar_of ?_
  sizeOf_list_dec
  (repeat' array_get_dec)
  refine outc_go nx hal ?_
  have hout := out_eq (rv_rel (kd := kd) (lo := lo) (hi := hi) (ds := ds) (l := ds.drop a))
  have hok := okD_out (kd := kd) (lo := lo) (hi := hi) (ds := ds) (x := .ok (ds.drop a))
  have hz : kd = 0 → lo = 0 → a = 0 → (∃ e z, rN 0 ds = .error e ∧ outR ds (RV kd lo hi (ds.drop a)) = .tuple [.none, z]) ∨ (∃ n l v, rN 0 ds = .ok (n, l) ∧ outR ds (RV kd lo hi (ds.drop a)) = .tuple [.int n, v]) := fun e1 e2 e3 => by
    subst e1
    subst e2
    subst e3
    rw [List.drop_zero]
    unfold RV
    rw [if_pos rfl]
    cases hr : rN 0 ds with
    | error e => exact .inl ⟨_, _, rfl, rfl⟩
    | ok z =>
      obtain ⟨n, l⟩ := z
      exact .inr ⟨_, _, _, rfl, rfl⟩
  have htu : ∃ v i, outR ds (RV kd lo hi (ds.drop a)) = .tuple [v, .int i] := by
    cases RV kd lo hi (ds.drop a) with
    | error e => exact ⟨_, _, rfl⟩
    | ok z => exact ⟨_, _, rfl⟩
  obtain ⟨v, i, htu⟩ := htu
  rw [← hout, htu] at hok
  rw [htu] at hout hz
  rw [htu]
  (repeat' array_get_dec)
  try refine bar_of ?_
  sizeOf_list_dec
  (repeat' array_get_dec)
  refine oq_ne_self (okD_ints 59 ds) ?_
  (repeat' array_get_dec)
  refine due_go hal ?_
  rw [← hout]
  (repeat' array_get_dec)
  refine oq_ne_self hok ?_
  (repeat' array_get_dec)
  try refine bar_of ?_
  sizeOf_list_dec
  refine w_seqI (fun ρ α' => ρ = [some (scriptD ns), some (dref p), some (.int kd), some (.int (a : Nat)), some (ilD ds), some (.int lo), some (.int hi), some (ilD ds), some (.tuple [v, .int i]), some (ilD w), some (ilD w)]) ?_ fun X hX => ?_
  rotate_left
  · (repeat' array_get_dec)
    · rename_i hlt
      refine w_meth ?_
      (repeat' array_get_dec)
      refine ⟨rfl, fun z hz => ?_⟩
      refine rdi_go (a := a) aset_same ⟨rfl, ?_⟩
      rw [aset_aset]
      refine vw_rd aset_same ⟨noF_rd fun _ _ => rfl, ?_⟩
      (repeat' array_get_dec)
      have S0 : RdAt CR z ds (ds.drop a) (aset α10 z (rdO CR ds a)) := ⟨a, aset_same, hal, rfl⟩
      have hk : a < ds.length := by omega
      have hdr : ds.drop a = ds.getD a 0 :: ds.drop (a + 1) := by
        rw [List.drop_eq_getElem_cons hk, List.getD_eq_getElem?_getD, List.getElem?_eq_getElem hk]
        rfl
      have hbb : 0 ≤ ds.getD a 0 ∧ ds.getD a 0 < 256 := by
        rw [List.getD_eq_getElem?_getD, List.getElem?_eq_getElem hk]
        exact hdb _ (List.getElem_mem hk)
      have hrb : rB 0 255 (ds.drop a) = .ok (ds.getD a 0, ds.drop (a + 1)) := by rw [hdr, rB_pos (by omega)]
      refine byte_go S0 (fun x l' α' hx _ _ => ?_) (fun e α' hx _ => ?_)
      rotate_left
      · rw [hrb] at hx
        cases hx
      rw [hrb] at hx
      cases hx
      (repeat' array_get_dec)
      refine oq_ix_m hk ?_
      (repeat' array_get_dec)
      all_goals try contradiction
      exact hX _ _ rfl
    · exact hX _ _ rfl
  rintro ρ α11 rfl
  sizeOf_list_dec
  (repeat' array_get_dec)
  · rename_i e1 e2 e3
    subst e2
    subst e3
    obtain rfl : a = 0 := by omega
    have hzz := hz rfl rfl rfl
    refine ⟨rfl, fun z hz => ?_⟩
    refine rdi_go (a := 0) aset_same ⟨rfl, ?_⟩
    rw [aset_aset]
    refine vw_rd aset_same ?_
    (repeat' array_get_dec)
    all_goals try (exfalso; omega)
    obtain ⟨e, y, h1, h2⟩ | ⟨n, l, y, h1, h2⟩ := hzz
    · obtain ⟨rfl, rfl⟩ : v = .none ∧ y = .int i := by
        injection h2 with h2
        injection h2 with h2 h3
        injection h3 with h3
        exact ⟨h2, h3.symm⟩
      (repeat' array_get_dec)
      rw [show isNoneD PyData.none = true from rfl]
      (repeat' array_get_dec)
      exact rfl
    · obtain ⟨rfl, rfl⟩ : v = .int n ∧ y = .int i := by
        injection h2 with h2
        injection h2 with h2 h3
        injection h3 with h3
        exact ⟨h2, h3.symm⟩
      (repeat' array_get_dec)
      rw [show isNoneD (PyData.int n) = false from rfl]
      (repeat' array_get_dec)
      refine w_meth ?_
      (repeat' array_get_dec)
      refine ⟨rfl, fun z2 hz2 => ?_⟩
      refine rdi_go (a := 0) aset_same ⟨rfl, ?_⟩
      rw [aset_aset]
      refine vw_rd aset_same ⟨noF_rd fun _ _ => rfl, ?_⟩
      (repeat' array_get_dec)
      refine num_go (ds := ds) (l := ds) (lo := 0) ⟨0, aset_same, by omega, rfl⟩ (fun x l' α' hx _ _ => ?_) (fun e α' hx _ => ?_)
      rotate_left
      · rw [h1] at hx
        cases hx
      rw [h1] at hx
      cases hx
      (repeat' array_get_dec)
      rw [decide_eq_true rfl]
  all_goals
    try refine bar_of ?_
    sizeOf_list_dec
    (repeat' array_get_dec)
    exact rfl
end K47
open PySem PySem.W PyProof.Rows in
set_option maxRecDepth 100000 in
set_option maxHeartbeats 0 in
theorem PySem.Challenge.cw_folderkin_k47_values_as_bytes_holds : PySem.Challenge.rw_folderkin_k47_values_as_bytes.Holds := by
  w_on; o_law; k_head; (case hw => w_witness2)
  k_fill
  refine Hz.walk_law (l := PySem.Challenge.rw_folderkin_k47_values_as_bytes) (k := 9) (x := "_law_script") rfl rfl ⟨rfl, by decide, by decide⟩ (fun w h Y => PySem.W.kIn_of Y) ?F
  case F =>
    intro w mg fa h KX G hmg
    refine' K47.all_mk KX G hmg ?aC_Entry ?aC_Reader ?aC_FolderkinError ?aC_InvalidBlock ?aC_InvalidBytes ?a0 ?l0 ?c0 ?k0 ?a1 ?l1 ?c1 ?k1 ?a2 ?l2 ?c2 ?k2 ?a3 ?l3 ?c3 ?k3 ?a4 ?i4 ?l4 ?c4 ?k4 ?a5 ?l5 ?c5 ?k5 ?a6 ?l6 ?c6 ?k6 ?a7 ?l7 ?c7 ?k7 ?a8 ?l8 ?c8 ?k8 ?a9 ?l9 ?c9 ?k9 ?a10 ?l10 ?c10 ?k10 ?a11 ?i11 ?l11 ?c11 ?k11 ?t11 ?a12 ?i12 ?l12 ?c12 ?k12 ?t12 ?a13 ?i13 ?l13 ?c13 ?k13 ?t13 ?a14 ?i14 ?l14 ?c14 ?k14 ?a15 ?i15 ?l15 ?c15 ?k15 ?a16 ?i16 ?l16 ?c16 ?k16 ?a17 ?i17 ?l17 ?c17 ?k17 ?t17 ?a18 ?i18 ?l18 ?c18 ?k18 ?t18 ?a19 ?i19 ?l19 ?c19 ?k19 ?a20 ?l20 ?c20 ?k20 ?a21 ?l21 ?c21 ?k21 ?a22 ?l22 ?c22 ?k22 ?a23 ?l23 ?c23 ?k23 ?a24 ?l24 ?c24 ?k24 ?a25 ?l25 ?c25 ?k25 ?a26 ?l26 ?c26 ?k26 ?a27 ?l27 ?c27 ?k27 ?a28 ?l28 ?c28 ?k28 ?a29 ?l29 ?c29 ?k29 ?a30 ?l30 ?c30 ?k30 ?a31 ?l31 ?c31 ?k31 ?a32 ?l32 ?c32 ?k32 ?a33 ?l33 ?c33 ?k33 ?a34 ?l34 ?c34 ?k34 ?a35 ?l35 ?c35 ?k35 ?a36 ?l36 ?c36 ?k36 ?a37 ?l37 ?c37 ?k37 ?a38 ?l38 ?c38 ?k38 ?a39 ?l39 ?c39 ?k39 ?a40 ?l40 ?c40 ?k40 ?a41 ?l41 ?c41 ?k41 ?a42 ?l42 ?c42 ?k42 ?a43 ?l43 ?c43 ?k43 ?a44 ?l44 ?c44 ?k44 ?a45 ?l45 ?c45 ?k45 ?a46 ?l46 ?c46 ?k46 ?a47 ?l47 ?c47 ?k47 ?pg_Entry ?hd_Entry ?po_Entry ?sa_Entry ?mk_Entry ?kc_Entry ?cha_Entry ?chn_Entry ?cht_Entry ?chm_Entry ?cic_Entry ?cty_Entry ?nNoneType_Entry ?nbool_Entry ?nint_Entry ?nstr_Entry ?nlist_Entry ?ntuple_Entry ?na_name_Entry ?na_vector_Entry ?na_height_Entry ?na_maker_Entry ?na_deleted_Entry ?na_time_Entry ?na_blocks_Entry ?pg_Reader ?hd_Reader ?po_Reader ?sa_Reader ?mk_Reader ?kc_Reader ?cha_Reader ?chn_Reader ?cht_Reader ?chm_Reader ?cic_Reader ?cty_Reader ?nNoneType_Reader ?nbool_Reader ?nint_Reader ?nstr_Reader ?nlist_Reader ?ntuple_Reader ?na_data_Reader ?na_at_Reader ?lX ?cX ?oX ?vX ?fX ?ceX ?dX ?kX ?tX ?tpX ?topX ?suX ?e0_FolderkinError ?ez_FolderkinError ?e1_FolderkinError ?e2_FolderkinError ?e3_FolderkinError ?e4_FolderkinError ?e5_FolderkinError ?e6_FolderkinError ?e7_FolderkinError ?e8_FolderkinError ?e9_FolderkinError ?ea_FolderkinError ?eb_FolderkinError ?ec_FolderkinError ?ed_FolderkinError ?ee_FolderkinError ?ef_FolderkinError ?eg_FolderkinError ?eh_FolderkinError ?e0_InvalidBlock ?ez_InvalidBlock ?e1_InvalidBlock ?e2_InvalidBlock ?e3_InvalidBlock ?e4_InvalidBlock ?e5_InvalidBlock ?e6_InvalidBlock ?e7_InvalidBlock ?e8_InvalidBlock ?e9_InvalidBlock ?ea_InvalidBlock ?eb_InvalidBlock ?ec_InvalidBlock ?ed_InvalidBlock ?ee_InvalidBlock ?ef_InvalidBlock ?eg_InvalidBlock ?eh_InvalidBlock ?e0_InvalidBytes ?ez_InvalidBytes ?e1_InvalidBytes ?e2_InvalidBytes ?e3_InvalidBytes ?e4_InvalidBytes ?e5_InvalidBytes ?e6_InvalidBytes ?e7_InvalidBytes ?e8_InvalidBytes ?e9_InvalidBytes ?ea_InvalidBytes ?eb_InvalidBytes ?ec_InvalidBytes ?ed_InvalidBytes ?ee_InvalidBytes ?ef_InvalidBytes ?eg_InvalidBytes ?eh_InvalidBytes ?es_InvalidBlock_InvalidBytes ?es_InvalidBytes_InvalidBytes ?es_InvalidBlock_FolderkinError ?es_InvalidBytes_FolderkinError ?z_ValueError ?z_bool ?z_int ?z_isinstance ?z_len ?z_list ?z_ord ?z_range ?z_tuple ?y_MOST_DEVICE ?y_BLOCK ?y_MOST_NAME ?y_FIRST_CODE ?y_TABLE ?y_CHARACTERS ?y_MOST_BLOCKS K47.law_true
    (case aC_Entry => k_is)
    (case aC_Reader => k_is)
    (case aC_FolderkinError => k_is)
    (case aC_InvalidBlock => k_is)
    (case aC_InvalidBytes => k_is)
    (case ea_FolderkinError => k_is)
    (case ea_InvalidBlock => k_is)
    (case ea_InvalidBytes => k_is)
    (case a0 => k_is)
    (case l0 => k_is)
    (case c0 => k_is)
    (case k0 => k_is)
    (case a1 => k_is)
    (case l1 => k_is)
    (case c1 => k_is)
    (case k1 => k_is)
    (case a2 => k_is)
    (case l2 => k_is)
    (case c2 => k_is)
    (case k2 => k_is)
    (case a3 => k_is)
    (case l3 => k_is)
    (case c3 => k_is)
    (case k3 => k_is)
    (case a4 => k_is)
    (case i4 => k_is)
    (case l4 => k_is)
    (case c4 => k_is)
    (case k4 => k_is)
    (case a5 => k_is)
    (case l5 => k_is)
    (case c5 => k_is)
    (case k5 => k_is)
    (case a6 => k_is)
    (case l6 => k_is)
    (case c6 => k_is)
    (case k6 => k_is)
    (case a7 => k_is)
    (case l7 => k_is)
    (case c7 => k_is)
    (case k7 => k_is)
    (case a8 => k_is)
    (case l8 => k_is)
    (case c8 => k_is)
    (case k8 => k_is)
    (case a9 => k_is)
    (case l9 => k_is)
    (case c9 => k_is)
    (case k9 => k_is)
    (case a10 => k_is)
    (case l10 => k_is)
    (case c10 => k_is)
    (case k10 => k_is)
    (case a11 => k_is)
    (case i11 => k_is)
    (case l11 => k_is)
    (case c11 => k_is)
    (case k11 => k_is)
    (case t11 => k_is)
    (case a12 => k_is)
    (case i12 => k_is)
    (case l12 => k_is)
    (case c12 => k_is)
    (case k12 => k_is)
    (case t12 => k_is)
    (case a13 => k_is)
    (case i13 => k_is)
    (case l13 => k_is)
    (case c13 => k_is)
    (case k13 => k_is)
    (case t13 => k_is)
    (case a14 => k_is)
    (case i14 => k_is)
    (case l14 => k_is)
    (case c14 => k_is)
    (case k14 => k_is)
    (case a15 => k_is)
    (case i15 => k_is)
    (case l15 => k_is)
    (case c15 => k_is)
    (case k15 => k_is)
    (case a16 => k_is)
    (case i16 => k_is)
    (case l16 => k_is)
    (case c16 => k_is)
    (case k16 => k_is)
    (case a17 => k_is)
    (case i17 => k_is)
    (case l17 => k_is)
    (case c17 => k_is)
    (case k17 => k_is)
    (case t17 => k_is)
    (case a18 => k_is)
    (case i18 => k_is)
    (case l18 => k_is)
    (case c18 => k_is)
    (case k18 => k_is)
    (case t18 => k_is)
    (case a19 => k_is)
    (case i19 => k_is)
    (case l19 => k_is)
    (case c19 => k_is)
    (case k19 => k_is)
    (case a20 => k_is)
    (case l20 => k_is)
    (case c20 => k_is)
    (case k20 => k_is)
    (case a21 => k_is)
    (case l21 => k_is)
    (case c21 => k_is)
    (case k21 => k_is)
    (case a22 => k_is)
    (case l22 => k_is)
    (case c22 => k_is)
    (case k22 => k_is)
    (case a23 => k_is)
    (case l23 => k_is)
    (case c23 => k_is)
    (case k23 => k_is)
    (case a24 => k_is)
    (case l24 => k_is)
    (case c24 => k_is)
    (case k24 => k_is)
    (case a25 => k_is)
    (case l25 => k_is)
    (case c25 => k_is)
    (case k25 => k_is)
    (case a26 => k_is)
    (case l26 => k_is)
    (case c26 => k_is)
    (case k26 => k_is)
    (case a27 => k_is)
    (case l27 => k_is)
    (case c27 => k_is)
    (case k27 => k_is)
    (case a28 => k_is)
    (case l28 => k_is)
    (case c28 => k_is)
    (case k28 => k_is)
    (case a29 => k_is)
    (case l29 => k_is)
    (case c29 => k_is)
    (case k29 => k_is)
    (case a30 => k_is)
    (case l30 => k_is)
    (case c30 => k_is)
    (case k30 => k_is)
    (case a31 => k_is)
    (case l31 => k_is)
    (case c31 => k_is)
    (case k31 => k_is)
    (case a32 => k_is)
    (case l32 => k_is)
    (case c32 => k_is)
    (case k32 => k_is)
    (case a33 => k_is)
    (case l33 => k_is)
    (case c33 => k_is)
    (case k33 => k_is)
    (case a34 => k_is)
    (case l34 => k_is)
    (case c34 => k_is)
    (case k34 => k_is)
    (case a35 => k_is)
    (case l35 => k_is)
    (case c35 => k_is)
    (case k35 => k_is)
    (case a36 => k_is)
    (case l36 => k_is)
    (case c36 => k_is)
    (case k36 => k_is)
    (case a37 => k_is)
    (case l37 => k_is)
    (case c37 => k_is)
    (case k37 => k_is)
    (case a38 => k_is)
    (case l38 => k_is)
    (case c38 => k_is)
    (case k38 => k_is)
    (case a39 => k_is)
    (case l39 => k_is)
    (case c39 => k_is)
    (case k39 => k_is)
    (case a40 => k_is)
    (case l40 => k_is)
    (case c40 => k_is)
    (case k40 => k_is)
    (case a41 => k_is)
    (case l41 => k_is)
    (case c41 => k_is)
    (case k41 => k_is)
    (case a42 => k_is)
    (case l42 => k_is)
    (case c42 => k_is)
    (case k42 => k_is)
    (case a43 => k_is)
    (case l43 => k_is)
    (case c43 => k_is)
    (case k43 => k_is)
    (case a44 => k_is)
    (case l44 => k_is)
    (case c44 => k_is)
    (case k44 => k_is)
    (case a45 => k_is)
    (case l45 => k_is)
    (case c45 => k_is)
    (case k45 => k_is)
    (case a46 => k_is)
    (case l46 => k_is)
    (case c46 => k_is)
    (case k46 => k_is)
    (case a47 => k_is)
    (case l47 => k_is)
    (case c47 => k_is)
    (case k47 => k_is)
    (case pg_Entry => k_is)
    (case hd_Entry => k_is)
    (case po_Entry => k_is)
    (case sa_Entry => k_is)
    (case mk_Entry => k_is)
    (case kc_Entry => k_is)
    (case cha_Entry => k_is)
    (case chn_Entry => k_is)
    (case cht_Entry => k_is)
    (case chm_Entry => k_is)
    (case cic_Entry => k_is)
    (case cty_Entry => k_is)
    (case nNoneType_Entry => k_is)
    (case nbool_Entry => k_is)
    (case nint_Entry => k_is)
    (case nstr_Entry => k_is)
    (case nlist_Entry => k_is)
    (case ntuple_Entry => k_is)
    (case na_name_Entry => k_is)
    (case na_vector_Entry => k_is)
    (case na_height_Entry => k_is)
    (case na_maker_Entry => k_is)
    (case na_deleted_Entry => k_is)
    (case na_time_Entry => k_is)
    (case na_blocks_Entry => k_is)
    (case pg_Reader => k_is)
    (case hd_Reader => k_is)
    (case po_Reader => k_is)
    (case sa_Reader => k_is)
    (case mk_Reader => k_is)
    (case kc_Reader => k_is)
    (case cha_Reader => k_is)
    (case chn_Reader => k_is)
    (case cht_Reader => k_is)
    (case chm_Reader => k_is)
    (case cic_Reader => k_is)
    (case cty_Reader => k_is)
    (case nNoneType_Reader => k_is)
    (case nbool_Reader => k_is)
    (case nint_Reader => k_is)
    (case nstr_Reader => k_is)
    (case nlist_Reader => k_is)
    (case ntuple_Reader => k_is)
    (case na_data_Reader => k_is)
    (case na_at_Reader => k_is)
    (case lX => k_is)
    (case cX => k_is)
    (case oX => k_is)
    (case vX => rfl)
    (case fX => decide +kernel)
    (case ceX => k_is)
    (case dX => k_is)
    (case kX => k_is)
    (case tX => k_is)
    (case tpX => k_is)
    (case topX => decide +kernel)
    (case suX => k_is)
    (case e0_FolderkinError => k_is)
    (case ez_FolderkinError => rfl)
    (case e1_FolderkinError => k_is)
    (case e2_FolderkinError => k_is)
    (case e3_FolderkinError => k_is)
    (case e4_FolderkinError => k_is)
    (case e5_FolderkinError => k_is)
    (case e6_FolderkinError => k_is)
    (case e7_FolderkinError => ks_is)
    (case e8_FolderkinError => k_is)
    (case e9_FolderkinError => k_is)
    (case eb_FolderkinError => k_is)
    (case ec_FolderkinError => k_is)
    (case ed_FolderkinError => k_is)
    (case ee_FolderkinError => k_is)
    (case ef_FolderkinError => k_is)
    (case eg_FolderkinError => k_is)
    (case eh_FolderkinError => k_is)
    (case e0_InvalidBlock => k_is)
    (case ez_InvalidBlock => rfl)
    (case e1_InvalidBlock => k_is)
    (case e2_InvalidBlock => k_is)
    (case e3_InvalidBlock => k_is)
    (case e4_InvalidBlock => k_is)
    (case e5_InvalidBlock => k_is)
    (case e6_InvalidBlock => k_is)
    (case e7_InvalidBlock => ks_is)
    (case e8_InvalidBlock => k_is)
    (case e9_InvalidBlock => k_is)
    (case eb_InvalidBlock => k_is)
    (case ec_InvalidBlock => k_is)
    (case ed_InvalidBlock => k_is)
    (case ee_InvalidBlock => k_is)
    (case ef_InvalidBlock => k_is)
    (case eg_InvalidBlock => k_is)
    (case eh_InvalidBlock => k_is)
    (case e0_InvalidBytes => k_is)
    (case ez_InvalidBytes => rfl)
    (case e1_InvalidBytes => k_is)
    (case e2_InvalidBytes => k_is)
    (case e3_InvalidBytes => k_is)
    (case e4_InvalidBytes => k_is)
    (case e5_InvalidBytes => k_is)
    (case e6_InvalidBytes => k_is)
    (case e7_InvalidBytes => ks_is)
    (case e8_InvalidBytes => k_is)
    (case e9_InvalidBytes => k_is)
    (case eb_InvalidBytes => k_is)
    (case ec_InvalidBytes => k_is)
    (case ed_InvalidBytes => k_is)
    (case ee_InvalidBytes => k_is)
    (case ef_InvalidBytes => k_is)
    (case eg_InvalidBytes => k_is)
    (case eh_InvalidBytes => k_is)
    (case es_InvalidBlock_InvalidBytes => k_is)
    (case es_InvalidBytes_InvalidBytes => k_is)
    (case es_InvalidBlock_FolderkinError => k_is)
    (case es_InvalidBytes_FolderkinError => k_is)
    (case z_ValueError => k_is)
    (case z_bool => k_is)
    (case z_int => k_is)
    (case z_isinstance => k_is)
    (case z_len => k_is)
    (case z_list => k_is)
    (case z_ord => k_is)
    (case z_range => k_is)
    (case z_tuple => k_is)
    (case y_MOST_DEVICE => k_is)
    (case y_BLOCK => k_is)
    (case y_MOST_NAME => k_is)
    (case y_FIRST_CODE => k_is)
    (case y_TABLE => k_is)
    (case y_CHARACTERS => k_is)
    (case y_MOST_BLOCKS => k_is)
