import PyProof.Rows.All
import Wide.All
import OpenK.AllK
import Wide.FinOn
import HandS.ForMost
import HandS.ForExc
import HandS.CallSlots
import HandS.IsInst
import HandS.TupAny
import HandS.Deep
import HandS.Wide
import HandS.Zip
import KE.DataCmp
import HandS.OwnEq
import HandS.SlotsOwn
import HandS.Defaults
import HandS.ExcInit
import HandS.ExcSuper
import HandS.ExcField
import HandS.ExcIs
import KE.KSuper
import KE.KExcSuper
import HandS.TryOnly
import HandS.Iter
import HandS.More
import HandS.Replace
import HandS.StrMore
import PyProof.Rows.StrRev
import HandS.Style
import KE.DatumOrd
import PyProof.StrLawsFirst
import PyProof.StrLawsChain
import PyProof.Rows.StrDouble
import PyProof.StrOps2
import HandS.WordsDict
import HandS.DictEq
import HandS.WideBits
import KE.GoesComp
import KE.GoesRaise
import HandS.Strs
import PySem.Challenge.RW_folderkin_k21_records_and_cut_logs
import KE.RegKSuper
set_option Elab.async false
set_option linter.all false
set_option maxRecDepth 100000
set_option maxHeartbeats 4000000
namespace Hz
open PySem L2
abbrev D := PyData
abbrev Frag := PySem.W.Frag
/-- the heap without the addresses that B hides -/
def hide (B : Addr → Bool) (H : Hp) : Hp := fun a => if B a = true then none else H a
def Sub (H H' : Hp) : Prop := ∀ a o, H a = some o → H' a = some o
theorem Sub.refl (H : Hp) : Sub H H := fun _ _ h => h
theorem Sub.trans {H H1 H2 : Hp} (a : Sub H H1) (b : Sub H1 H2) : Sub H H2 := fun x o h => b x o (a x o h)
theorem hide_some {B : Addr → Bool} {H : Hp} {a : Addr} {o : HO} (h : hide B H a = some o) : B a = false ∧ H a = some o := by
  unfold hide at h
  split at h
  · cases h
  · rename_i q
    exact ⟨by simpa using q, h⟩
theorem hide_of {B : Addr → Bool} {H : Hp} {a : Addr} {o : HO} (b : B a = false) (h : H a = some o) : hide B H a = some o := by
  unfold hide
  rw [b]
  exact h
theorem hide_sub (B : Addr → Bool) (H : Hp) : Sub (hide B H) H := fun a o h => (hide_some h).2
theorem Sub.new {H : Hp} {p : Addr} {o : HO} (h : H p = none) : Sub H (upd H p o) := fun a u e => by
  rw [upd_ne (ne_of_none e h)]
  exact e
def kD : Key → D
  | .inl i => .int i
  | .inr x => .str x
/-- a tuple that begins with a pair of a whole number and something: its object is known -/
def needX : List D → Bool
  | .tuple [.int _, _] :: _ => true
  | _ => false
def ExT (o : Obj) : Prop := o.cls = .type "tuple" ∧ o.dict = none
def XT (H : Hp) (a : Addr) : Prop := ∃ (o : Obj) (u : HO), H a = some (.frz o u) ∧ ExT o
theorem XT.mono {H H' : Hp} {a : Addr} (e : Sub H H') (h : XT H a) : XT H' a := let ⟨o, u, h1, h2⟩ := h; ⟨o, u, e _ _ h1, h2⟩
mutual
/-- v, in H, is the datum d -/
inductive Rp (K : Frag) (H : Hp) : V → D → Prop
  | non : Rp K H .non .none
  | bl (b : Bool) : Rp K H (.bl b) (.bool b)
  | int (i : Int) : Rp K H (.int i) (.int i)
  | str (x : Str) : Rp K H (.str x) (.str x)
  | lst {a : Addr} {xs : List V} {ds : List D} : SqL K H a xs → RpL K H xs ds → Rp K H (.ref a) (.list ds)
  | tup {a : Addr} {xs : List V} {ds : List D} : SqT K H a xs → RpL K H xs ds → (needX ds = true → XT H a) → Rp K H (.ref a) (.tuple ds)
  | dct {a : Addr} {kvs : List (Key × V)} {ds : List (D × D)} : Rd H a (.dK kvs) → RpK K H kvs ds → Rp K H (.ref a) (.dict ds)
  | obj {a C dx : Addr} {fs : List (Str × V)} {ds : List (D × D)} : H a = some (.ins C dx fs) → RpF K H fs ds → Rp K H (.ref a) (.dict ((.none, .int (Int.ofNat C)) :: ds))
  /-- a dict that stays as it is -/
  | fdc {a : Addr} {o : Obj} {kvs : List (Key × V)} {ds : List (D × D)} : H a = some (.frz o (.dK kvs)) → RpK K H kvs ds → Rp K H (.ref a) (.dict ((.none, .none) :: ds))
  | fnc {a : Addr} : Rp K H (.ref a) (.dict [(.bool true, .int (Int.ofNat a))])
  /-- a thing that may change: its address -/
  | ref {a : Addr} : Rp K H (.ref a) (.dict [(.bool false, .int (Int.ofNat a))])
  /-- a caught exception: its dict, its class -/
  | exc {a dx C : Addr} {fs : List (Str × V)} {ds : List (D × D)} : H dx = some (.xd fs) → RpF K H fs ds → Rp K H (.ref a) (.dict ((.bool true, .tuple [.int (Int.ofNat a), .int (Int.ofNat dx), .int (Int.ofNat C)]) :: ds))
inductive RpL (K : Frag) (H : Hp) : List V → List D → Prop
  | nil : RpL K H [] []
  | cons {v : V} {vs : List V} {d : D} {ds : List D} : Rp K H v d → RpL K H vs ds → RpL K H (v :: vs) (d :: ds)
inductive RpK (K : Frag) (H : Hp) : List (Key × V) → List (D × D) → Prop
  | nil : RpK K H [] []
  | cons {k : Key} {v : V} {vs : List (Key × V)} {d : D} {ds : List (D × D)} : Rp K H v d → RpK K H vs ds → RpK K H ((k, v) :: vs) ((kD k, d) :: ds)
inductive RpF (K : Frag) (H : Hp) : List (Str × V) → List (D × D) → Prop
  | nil : RpF K H [] []
  | cons {f : Str} {v : V} {vs : List (Str × V)} {d : D} {ds : List (D × D)} : Rp K H v d → RpF K H vs ds → RpF K H ((f, v) :: vs) ((.str f, d) :: ds)
end
theorem sub_rd {H H' : Hp} {a : Addr} {u : HO} (e : Sub H H') (h : Rd H a u) : Rd H' a u := by
  rcases h with h | ⟨o, h⟩
  · exact Or.inl (e a _ h)
  · exact Or.inr ⟨o, e a _ h⟩
theorem sub_l {K : Frag} {H H' : Hp} {a : Addr} {xs : List V} (e : Sub H H') (h : SqL K H a xs) : SqL K H' a xs := by
  rcases h with h | h
  · exact Or.inl (sub_rd e h)
  · exact Or.inr h
theorem sub_t {K : Frag} {H H' : Hp} {a : Addr} {xs : List V} (e : Sub H H') (h : SqT K H a xs) : SqT K H' a xs := by
  rcases h with h | h
  · exact Or.inl (sub_rd e h)
  · exact Or.inr h
mutual
theorem Rp.mono {K : Frag} {H H' : Hp} (e : Sub H H') : ∀ {v : V} {d : D}, Rp K H v d → Rp K H' v d
  | _, _, .non => .non
  | _, _, .bl b => .bl b
  | _, _, .int i => .int i
  | _, _, .str x => .str x
  | _, _, .lst h r => .lst (sub_l e h) (RpL.mono e r)
  | _, _, .tup h r x => .tup (sub_t e h) (RpL.mono e r) fun n => (x n).mono e
  | _, _, .dct h r => .dct (sub_rd e h) (RpK.mono e r)
  | _, _, .obj h r => .obj (e _ _ h) (RpF.mono e r)
  | _, _, .fdc h r => .fdc (e _ _ h) (RpK.mono e r)
  | _, _, .fnc => .fnc
  | _, _, .ref => .ref
  | _, _, .exc h r => .exc (e _ _ h) (RpF.mono e r)
theorem RpL.mono {K : Frag} {H H' : Hp} (e : Sub H H') : ∀ {v : List V} {d : List D}, RpL K H v d → RpL K H' v d
  | _, _, .nil => .nil
  | _, _, .cons h r => .cons (Rp.mono e h) (RpL.mono e r)
theorem RpK.mono {K : Frag} {H H' : Hp} (e : Sub H H') : ∀ {v : List (Key × V)} {d : List (D × D)}, RpK K H v d → RpK K H' v d
  | _, _, .nil => .nil
  | _, _, .cons h r => .cons (Rp.mono e h) (RpK.mono e r)
theorem RpF.mono {K : Frag} {H H' : Hp} (e : Sub H H') : ∀ {v : List (Str × V)} {d : List (D × D)}, RpF K H v d → RpF K H' v d
  | _, _, .nil => .nil
  | _, _, .cons h r => .cons (Rp.mono e h) (RpF.mono e r)
end
theorem RpL.length {K : Frag} {H : Hp} : ∀ {vs : List V} {ds : List D}, RpL K H vs ds → vs.length = ds.length
  | _, _, .nil => rfl
  | _, _, .cons _ r => by rw [List.length_cons, List.length_cons, RpL.length r]
theorem RpL.get {K : Frag} {H : Hp} : ∀ {vs : List V} {ds : List D} {i : Nat} {v : V}, RpL K H vs ds → vs[i]? = some v → ∃ d, ds[i]? = some d ∧ Rp K H v d
  | _, _, _, _, .nil, e => by simp at e
  | _, _, 0, _, .cons h r, e => by
    simp at e
    subst e
    exact ⟨_, rfl, h⟩
  | _, _, i + 1, v, .cons h r, e => by
    obtain ⟨d, h1, h2⟩ := RpL.get (i := i) (v := v) r (by simpa using e)
    exact ⟨d, by simpa using h1, h2⟩
theorem RpL.get' {K : Frag} {H : Hp} : ∀ {vs : List V} {ds : List D} {i : Nat} {d : D}, RpL K H vs ds → ds[i]? = some d → ∃ v, vs[i]? = some v ∧ Rp K H v d
  | _, _, _, _, .nil, e => by simp at e
  | _, _, 0, _, .cons h r, e => by
    simp at e
    subst e
    exact ⟨_, rfl, h⟩
  | _, _, i + 1, v, .cons h r, e => by
    obtain ⟨d, h1, h2⟩ := RpL.get' (i := i) (d := v) r (by simpa using e)
    exact ⟨d, by simpa using h1, h2⟩
theorem RpL.append {K : Frag} {H : Hp} : ∀ {vs us : List V} {ds es : List D}, RpL K H vs ds → RpL K H us es → RpL K H (vs ++ us) (ds ++ es)
  | _, _, _, _, .nil, s => s
  | _, _, _, _, .cons h r, s => .cons h (RpL.append r s)
theorem RpL.set {K : Frag} {H : Hp} {v : V} {d : D} (q : Rp K H v d) : ∀ {vs : List V} {ds : List D} (i : Nat), RpL K H vs ds → RpL K H (vs.set i v) (ds.set i d)
  | _, _, _, .nil => .nil
  | _, _, 0, .cons _ r => .cons q r
  | _, _, i + 1, .cons h r => .cons h (RpL.set q i r)
theorem RpL.take {K : Frag} {H : Hp} : ∀ {vs : List V} {ds : List D} (n : Nat), RpL K H vs ds → RpL K H (vs.take n) (ds.take n)
  | _, _, 0, _ => .nil
  | _, _, _ + 1, .nil => .nil
  | _, _, n + 1, .cons h r => .cons h (RpL.take n r)
theorem RpL.drop {K : Frag} {H : Hp} : ∀ {vs : List V} {ds : List D} (n : Nat), RpL K H vs ds → RpL K H (vs.drop n) (ds.drop n)
  | _, _, 0, r => r
  | _, _, _ + 1, .nil => .nil
  | _, _, n + 1, .cons _ r => RpL.drop n r
theorem RpL.ints {K : Frag} {H : Hp} : ∀ ns : List Int, RpL K H (ns.map V.int) (ns.map PyData.int)
  | [] => .nil
  | n :: ns => .cons (.int n) (RpL.ints ns)
theorem RpL.of_bools {K : Frag} {H : Hp} : ∀ {ns : List Bool} {vs : List V}, RpL K H vs (ns.map PyData.bool) → vs = ns.map V.bl
  | [], _, h => by cases h; rfl
  | n :: ns, _, h => by
    cases h with
    | cons a b =>
      cases a
      rw [RpL.of_bools b]
      rfl
/-- a value that may be read: its own node may be hidden, its parts are not -/
inductive Rs (K : Frag) (B : Addr → Bool) (H : Hp) : V → D → Prop
  | vis {v : V} {d : D} : Rp K (hide B H) v d → Rs K B H v d
  | lst {a : Addr} {xs : List V} {ds : List D} : SqL K H a xs → RpL K (hide B H) xs ds → Rs K B H (.ref a) (.list ds)
  | dct {a : Addr} {kvs : List (Key × V)} {ds : List (D × D)} : Rd H a (.dK kvs) → RpK K (hide B H) kvs ds → Rs K B H (.ref a) (.dict ds)
  | obj {a C dx : Addr} {fs : List (Str × V)} {ds : List (D × D)} : H a = some (.ins C dx fs) → RpF K (hide B H) fs ds → Rs K B H (.ref a) (.dict ((.none, .int (Int.ofNat C)) :: ds))
theorem Rs.rp {K : Frag} {B : Addr → Bool} {H : Hp} {v : V} {d : D} (h : Rs K B H v d) : Rp K H v d := by
  cases h with
  | vis h => exact h.mono (hide_sub B H)
  | lst h r => exact .lst h (r.mono (hide_sub B H))
  | dct h r => exact .dct h (r.mono (hide_sub B H))
  | obj h r => exact .obj h (r.mono (hide_sub B H))
theorem Rs.list {K : Frag} {B : Addr → Bool} {H : Hp} {v : V} {ds : List D} (h : Rs K B H v (.list ds)) : ∃ a xs, v = .ref a ∧ SqL K H a xs ∧ RpL K (hide B H) xs ds := by
  cases h with
  | vis h =>
    cases h with
    | lst h r => exact ⟨_, _, rfl, sub_l (hide_sub B H) h, r⟩
  | lst h r => exact ⟨_, _, rfl, h, r⟩
theorem Rs.tuple {K : Frag} {B : Addr → Bool} {H : Hp} {v : V} {ds : List D} (h : Rs K B H v (.tuple ds)) : ∃ a xs, v = .ref a ∧ SqT K H a xs ∧ RpL K (hide B H) xs ds := by
  cases h with
  | vis h =>
    cases h with
    | tup h r x => exact ⟨_, _, rfl, sub_t (hide_sub B H) h, r⟩
theorem Rs.int {K : Frag} {B : Addr → Bool} {H : Hp} {v : V} {i : Int} (h : Rs K B H v (.int i)) : v = .int i := by
  cases h with
  | vis h => cases h; rfl
theorem Rs.bool {K : Frag} {B : Addr → Bool} {H : Hp} {v : V} {i : Bool} (h : Rs K B H v (.bool i)) : v = .bl i := by
  cases h with
  | vis h => cases h; rfl
theorem Rs.str {K : Frag} {B : Addr → Bool} {H : Hp} {v : V} {i : Str} (h : Rs K B H v (.str i)) : v = .str i := by
  cases h with
  | vis h => cases h; rfl
theorem Rs.none {K : Frag} {B : Addr → Bool} {H : Hp} {v : V} (h : Rs K B H v .none) : v = .non := by
  cases h with
  | vis h => cases h; rfl
theorem Rp.inti {K : Frag} {H : Hp} {v : V} {i : Int} (h : Rp K H v (.int i)) : v = .int i := by cases h; rfl
theorem Rp.booli {K : Frag} {H : Hp} {v : V} {i : Bool} (h : Rp K H v (.bool i)) : v = .bl i := by cases h; rfl
theorem Rp.stri {K : Frag} {H : Hp} {v : V} {i : Str} (h : Rp K H v (.str i)) : v = .str i := by cases h; rfl
theorem Rp.nonei {K : Frag} {H : Hp} {v : V} (h : Rp K H v .none) : v = .non := by cases h; rfl
mutual
def plain : D → Bool
  | .dict _ => false
  | .list ds => plains ds
  | .tuple ds => plains ds
  | _ => true
def plains : List D → Bool
  | [] => true
  | d :: ds => plain d && plains ds
end
mutual
theorem Rp.dp {K : Frag} {H : Hp} : ∀ {v : V} {d : D}, Rp K H v d → plain d = true → Dp K H v d
  | _, _, .non, _ => .non
  | _, _, .bl b, _ => .bl b
  | _, _, .int i, _ => .int i
  | _, _, .str x, _ => .str x
  | _, _, .lst h r, p => .lst h (RpL.dp r (by simpa [plain] using p))
  | _, _, .tup h r _, p => .tup h (RpL.dp r (by simpa [plain] using p))
  | _, _, .dct h r, p => by simp [plain] at p
  | _, _, .obj h r, p => by simp [plain] at p
  | _, _, .fdc h r, p => by simp [plain] at p
  | _, _, .fnc, p => by simp [plain] at p
  | _, _, .ref, p => by simp [plain] at p
  | _, _, .exc _ _, p => by simp [plain] at p
theorem RpL.dp {K : Frag} {H : Hp} : ∀ {v : List V} {d : List D}, RpL K H v d → plains d = true → DpAll K H v d
  | _, _, .nil, _ => .nil
  | _, _, .cons (d := d) (ds := ds) h r, p => by
    have q : plain d = true ∧ plains ds = true := by simpa [plains] using p
    exact .cons (Rp.dp h q.1) (RpL.dp r q.2)
end
end Hz
namespace Hz
open PySem L2
def OwnAt (K : Frag) (Hh : Hp) (o : Option HO) : D → Prop
  | .list ds => ∃ vs, o = some (.lst vs) ∧ RpL K Hh vs ds
  | .dict ds => ∃ kvs, o = some (.dK kvs) ∧ RpK K Hh kvs ds
  | _ => False
theorem OwnAt.mono {K : Frag} {H H' : Hp} {o : Option HO} {d : D} (e : Sub H H') (h : OwnAt K H o d) : OwnAt K H' o d := by
  cases d with
  | list ds => obtain ⟨vs, a, b⟩ := h; exact ⟨vs, a, b.mono e⟩
  | dict ds => obtain ⟨vs, a, b⟩ := h; exact ⟨vs, a, b.mono e⟩
  | _ => exact h.elim
theorem OwnAt.ne {K : Frag} {H : Hp} {o : Option HO} {d : D} (h : OwnAt K H o d) : ∃ u, o = some u := by
  cases d with
  | list ds => obtain ⟨vs, a, b⟩ := h; exact ⟨_, a⟩
  | dict ds => obtain ⟨vs, a, b⟩ := h; exact ⟨_, a⟩
  | _ => exact h.elim
/-- what stands at a cell -/
inductive CellAt (K : Frag) (Hh : Hp) : Option HO → D → Prop
  | own {o : Option HO} {d : D} : OwnAt K Hh o d → CellAt K Hh o d
  | obj {C dx : Addr} {fs : List (Str × V)} {ds : List (D × D)} : RpF K Hh fs ds → CellAt K Hh (some (.ins C dx fs)) (.dict ((.none, .int (Int.ofNat C)) :: ds))
theorem CellAt.mono {K : Frag} {H H' : Hp} {o : Option HO} {d : D} (e : Sub H H') (h : CellAt K H o d) : CellAt K H' o d := by
  cases h with
  | own h => exact .own (h.mono e)
  | obj h => exact .obj (h.mono e)
theorem CellAt.ne {K : Frag} {H : Hp} {o : Option HO} {d : D} (h : CellAt K H o d) : ∃ u, o = some u := by
  cases h with
  | own h => exact h.ne
  | obj h => exact ⟨_, rfl⟩
/-- a cell that is seen, as a datum -/
theorem CellAt.rp {K : Frag} {Hh : Hp} {l : Addr} {d : D} (h : CellAt K Hh (Hh l) d) : Rp K Hh (.ref l) d := by
  generalize e : Hh l = o at h
  cases h with
  | own h =>
    cases d with
    | list ds => obtain ⟨vs, a, b⟩ := h; exact .lst (.inl (.inl (e.trans a))) b
    | dict ds => obtain ⟨vs, a, b⟩ := h; exact .dct (.inl (e.trans a)) b
    | _ => exact h.elim
  | obj h => exact .obj e h
theorem CellAt.rs {K : Frag} {B : Addr → Bool} {H : Hp} {l : Addr} {d : D} (h : CellAt K (hide B H) (H l) d) : Rs K B H (.ref l) d := by
  generalize e : H l = o at h
  cases h with
  | own h =>
    cases d with
    | list ds => obtain ⟨vs, a, b⟩ := h; exact .lst (.inl (.inl (e.trans a))) b
    | dict ds => obtain ⟨vs, a, b⟩ := h; exact .dct (.inl (e.trans a)) b
    | _ => exact h.elim
  | obj h => exact .obj e h
abbrev En := List (Option D)
/-- what stands in the cells -/
abbrev AH := Addr → Option D
def aset (α : AH) (a : Addr) (c : D) : AH := fun b => if b = a then some c else α b
def adel (α : AH) (a : Addr) : AH := fun b => if b = a then none else α b
/-- the cells of α' that α has -/
def arst (α α' : AH) : AH := fun b => if (α b).isSome = true then α' b else none
theorem aset_same {α : AH} {a : Addr} {c : D} : aset α a c a = some c := if_pos rfl
theorem aset_ne {α : AH} {a b : Addr} {c : D} (h : b ≠ a) : aset α a c b = α b := if_neg h
theorem adel_same {α : AH} {a : Addr} : adel α a a = none := if_pos rfl
theorem adel_ne {α : AH} {a b : Addr} (h : b ≠ a) : adel α a b = α b := if_neg h
theorem adel_aset {α : AH} {a : Addr} {c : D} (h : α a = none) : adel (aset α a c) a = α := by
  funext b
  by_cases e : b = a
  · rw [e, adel_same, h]
  · rw [adel_ne e, aset_ne e]
theorem aset_aset {α : AH} {a : Addr} {c d : D} : aset (aset α a c) a d = aset α a d := by
  funext b
  by_cases e : b = a
  · rw [e, aset_same, aset_same]
  · rw [aset_ne e, aset_ne e, aset_ne e]
theorem aset_id {α : AH} {a : Addr} {c : D} (h : α a = some c) : aset α a c = α := by
  funext b
  by_cases e : b = a
  · rw [e, aset_same, h]
  · rw [aset_ne e]
theorem arst_self {α : AH} : arst α α = α := by
  funext b
  unfold arst
  split
  · rfl
  · rename_i h
    cases q : α b with
    | none => rfl
    | some c => rw [q] at h; exact absurd rfl h
theorem arst_old {α α' : AH} {a : Addr} {c : D} (h : ∃ d, α a = some d) : arst α (aset α' a c) = aset (arst α α') a c := by
  obtain ⟨d, h⟩ := h
  funext b
  by_cases e : b = a
  · rw [e, aset_same]
    unfold arst
    rw [h, aset_same]
    rfl
  · rw [aset_ne e]
    unfold arst
    rw [aset_ne e]
def dref (a : Addr) : D := .dict [(.bool false, .int (Int.ofNat a))]
/-- a datum as it may be read: a cell by its content -/
def vw (α : AH) : D → Option D
  | .dict ((.bool false, .int n) :: _) => α n.toNat
  | d => some d
/-- the heap bears the cells; B hides all that may change -/
structure Bs (K : Frag) (B : Addr → Bool) (H : Hp) (α : AH) : Prop where
  cel : ∀ a c, α a = some c → B a = true ∧ CellAt K (hide B H) (H a) c
  bk : ∀ a, B a = true → ∃ o, H a = some o
structure SR (K : Frag) (B : Addr → Bool) (σ : St) (H : Hp) (ρ : En) (α : AH) : Prop where
  len : σ.length = ρ.length
  val : ∀ (i : Nat) d, ρ[i]? = some (some d) → ∃ v, σ[i]? = some (some v) ∧ Rp K (hide B H) v d
  bs : Bs K B H α
/-- from a state to a later one -/
structure Af (K : Frag) (B : Addr → Bool) (H : Hp) (α : AH) (B' : Addr → Bool) (H' : Hp) (α' : AH) : Prop where
  sub : Sub (hide B H) (hide B' H')
  bs : Bs K B' H' α'
  keep : ∀ b, B b = true → α b = none → B' b = true ∧ H' b = H b
  fr : ∀ b, α b = none → H b ≠ none → α' b = none
  grow : ∀ b o, H b = some o → ∃ o', H' b = some o'
def ins (l : Addr) (B : Addr → Bool) : Addr → Bool := fun a => decide (a = l) || B a
def del (l : Addr) (B : Addr → Bool) : Addr → Bool := fun a => !decide (a = l) && B a
theorem ins_self {l : Addr} {B : Addr → Bool} : ins l B l = true := by unfold ins; simp
theorem ins_or {l a : Addr} {B : Addr → Bool} (h : ins l B a = true) : a = l ∨ B a = true := by
  unfold ins at h
  simpa using h
theorem ins_of {l a : Addr} {B : Addr → Bool} (h : B a = true) : ins l B a = true := by unfold ins; simp [h]
theorem ins_ne {l a : Addr} {B : Addr → Bool} (h : a ≠ l) : ins l B a = B a := by unfold ins; simp [h]
theorem del_self {l : Addr} {B : Addr → Bool} : del l B l = false := by unfold del; simp
theorem del_ne {l a : Addr} {B : Addr → Bool} (h : a ≠ l) : del l B a = B a := by unfold del; simp [h]
theorem hide_mono {B B' : Addr → Bool} {H : Hp} (h : ∀ a, B' a = true → B a = true) : Sub (hide B H) (hide B' H) := fun a o e => by
  obtain ⟨e1, e2⟩ := hide_some e
  refine hide_of ?_ e2
  cases q : B' a with
  | false => rfl
  | true => rw [h a q] at e1; cases e1
theorem hsub {B : Addr → Bool} {H H' : Hp} (e : Sub H H') : Sub (hide B H) (hide B H') := fun b o q => hide_of (hide_some q).1 (e _ _ (hide_some q).2)
theorem sub_ins {l : Addr} {B : Addr → Bool} {H H' : Hp} (h : H l = none) (e : Sub (hide B H) (hide B H')) : Sub (hide B H) (hide (ins l B) H') := fun a o q => by
  obtain ⟨e1, e2⟩ := hide_some q
  refine hide_of ?_ (hide_some (e _ _ q)).2
  rw [ins_ne (fun z => by rw [z, h] at e2; cases e2)]
  exact e1
section
variable {K : Frag} {B B' B1 B2 : Addr → Bool} {σ σ' : St} {H H' H1 H2 : Hp} {ρ ρ' : En} {α α' α1 α2 : AH} {l : Addr} {c d : D} {v : V}
theorem Bs.fresh (S : Bs K B H α) (h : H l = none) : B l = false := by
  cases q : B l with
  | false => rfl
  | true =>
    obtain ⟨o, e⟩ := S.bk l q
    rw [h] at e
    cases e
theorem Bs.none (S : Bs K B H α) (h : B l = false) : α l = none := by
  cases q : α l with
  | none => rfl
  | some c => rw [(S.cel l c q).1] at h; cases h
theorem Bs.new (S : Bs K B H α) (h : H l = Option.none) : α l = Option.none := S.none (S.fresh h)
theorem Bs.at_ (S : Bs K B H α) (h : α l = some c) : ∃ o, H l = some o := S.bk l (S.cel l c h).1
theorem Af.refl (S : Bs K B H α) : Af K B H α B H α := ⟨Sub.refl _, S, fun _ h _ => ⟨h, rfl⟩, fun _ h _ => h, fun _ o e => ⟨o, e⟩⟩
theorem Af.trans (S : Bs K B H α) (a : Af K B H α B1 H1 α1) (b : Af K B1 H1 α1 B2 H2 α2) : Af K B H α B2 H2 α2 := by
  refine ⟨a.sub.trans b.sub, b.bs, fun c h n => ?_, fun c n h => ?_, fun c o e => ?_⟩
  · obtain ⟨h1, h2⟩ := a.keep c h n
    obtain ⟨o, e⟩ := S.bk c h
    obtain ⟨h3, h4⟩ := b.keep c h1 (a.fr c n (by rw [e]; exact fun z => nomatch z))
    exact ⟨h3, h4.trans h2⟩
  · cases q : H c with
    | none => exact absurd q h
    | some o =>
      obtain ⟨o', e'⟩ := a.grow c o q
      exact b.fr c (a.fr c n h) (by rw [e']; exact fun z => nomatch z)
  · obtain ⟨o', e'⟩ := a.grow c o e
    exact b.grow c o' e'
theorem SR.step (S : SR K B σ H ρ α) (a : Af K B H α B' H' α') : SR K B' σ H' ρ α' := ⟨S.len, fun i d e => by
  obtain ⟨v, g1, g2⟩ := S.val i d e
  exact ⟨v, g1, g2.mono a.sub⟩, a.bs⟩
/-- the heap only grew -/
theorem Bs.grow (S : Bs K B H α) (e : Sub H H') : Bs K B H' α := ⟨fun a c h => by
  obtain ⟨h1, h2⟩ := S.cel a c h
  obtain ⟨u, g⟩ := h2.ne
  refine ⟨h1, ?_⟩
  rw [g] at h2
  rw [e _ _ g]
  exact h2.mono (hsub e), fun a h => by
  obtain ⟨o, g⟩ := S.bk a h
  exact ⟨o, e _ _ g⟩⟩
theorem Af.of_sub (S : Bs K B H α) (e : Sub H H') : Af K B H α B H' α := ⟨hsub e, S.grow e, fun b h _ => ⟨h, by
  obtain ⟨o, g⟩ := S.bk b h
  rw [g, e _ _ g]⟩, fun _ h _ => h, fun b o g => ⟨o, e _ _ g⟩⟩
/-- a new cell -/
theorem Af.cell (S : Bs K B H α) (e : Sub H H') (h : H l = none) (o : CellAt K (hide (ins l B) H') (H' l) c) : Af K B H α (ins l B) H' (aset α l c) := by
  have hs : Sub (hide B H) (hide (ins l B) H') := sub_ins h (hsub e)
  refine ⟨hs, ⟨fun a d q => ?_, fun a q => ?_⟩, fun b hb n => ⟨ins_of hb, ?_⟩, fun b n hb => ?_, fun b o g => ⟨o, e _ _ g⟩⟩
  · by_cases z : a = l
    · subst z
      rw [aset_same] at q
      cases q
      exact ⟨ins_self, o⟩
    · rw [aset_ne z] at q
      obtain ⟨h1, h2⟩ := S.cel a d q
      obtain ⟨u, g⟩ := h2.ne
      refine ⟨ins_of h1, ?_⟩
      rw [g] at h2
      rw [e _ _ g]
      exact h2.mono hs
  · rcases ins_or q with z | z
    · subst z
      exact o.ne
    · obtain ⟨o', g⟩ := S.bk a z
      exact ⟨o', e _ _ g⟩
  · obtain ⟨o', g⟩ := S.bk b hb
    rw [g, e _ _ g]
  · by_cases z : b = l
    · subst z
      exact absurd h hb
    · rw [aset_ne z]
      exact n
/-- another content of a cell -/
theorem Af.write {o : HO} (S : Bs K B H α) (h : α l = some d) (hc : CellAt K (hide B H) (some o) c) : Af K B H α B (upd H l o) (aset α l c) := by
  have bl : B l = true := (S.cel l d h).1
  have hh : hide B (upd H l o) = hide B H := by
    funext a
    unfold hide
    by_cases q : a = l
    · rw [q, bl]
      rfl
    · rw [upd_ne q]
  have hs : Sub (hide B H) (hide B (upd H l o)) := by rw [hh]; exact Sub.refl _
  refine ⟨hs, ⟨fun a e q => ?_, fun a q => ?_⟩, fun b hb n => ⟨hb, ?_⟩, fun b n hb => ?_, fun b u g => ?_⟩
  · by_cases z : a = l
    · subst z
      rw [aset_same] at q
      cases q
      rw [upd_same, hh]
      exact ⟨bl, hc⟩
    · rw [aset_ne z] at q
      obtain ⟨h1, h2⟩ := S.cel a e q
      rw [upd_ne z, hh]
      exact ⟨h1, h2⟩
  · by_cases z : a = l
    · exact ⟨o, by rw [z, upd_same]⟩
    · rw [upd_ne z]
      exact S.bk a q
  · rw [upd_ne (fun z => by rw [z, h] at n; cases n)]
  · rw [aset_ne (fun z => by rw [z, h] at n; cases n)]
    exact n
  · by_cases z : b = l
    · exact ⟨o, by rw [z, upd_same]⟩
    · exact ⟨u, by rw [upd_ne z]; exact g⟩
/-- a cell becomes a datum -/
theorem Af.frz (S : Bs K B H α) (a : Af K B H α B' H' α') (h : α' l = some c) : Af K B H α (del l B') H' (adel α' l) ∧ Rp K (hide (del l B') H') (.ref l) c := by
  have hs : Sub (hide B' H') (hide (del l B') H') := hide_mono fun b hb => by
    by_cases z : b = l
    · subst z; rw [del_self] at hb; cases hb
    · rw [del_ne z] at hb; exact hb
  obtain ⟨bl, hc⟩ := a.bs.cel l c h
  refine ⟨⟨a.sub.trans hs, ⟨fun b e q => ?_, fun b q => ?_⟩, fun b hb n => ?_, fun b n hb => ?_, a.grow⟩, ?_⟩
  · have z : b ≠ l := fun z => by rw [z, adel_same] at q; cases q
    rw [adel_ne z] at q
    obtain ⟨h1, h2⟩ := a.bs.cel b e q
    exact ⟨by rw [del_ne z]; exact h1, h2.mono hs⟩
  · have z : b ≠ l := fun z => by rw [z, del_self] at q; cases q
    rw [del_ne z] at q
    exact a.bs.bk b q
  · obtain ⟨h1, h2⟩ := a.keep b hb n
    have z : b ≠ l := fun z => by
      subst z
      obtain ⟨o, g⟩ := S.bk b hb
      rw [a.fr b n (by rw [g]; exact fun z => nomatch z)] at h
      cases h
    exact ⟨by rw [del_ne z]; exact h1, h2⟩
  · by_cases z : b = l
    · rw [z, adel_same]
    · rw [adel_ne z]
      exact a.fr b n hb
  · refine CellAt.rp ?_
    obtain ⟨o, g⟩ := hc.ne
    rw [g] at hc
    rw [hide_of del_self g]
    exact hc.mono hs
/-- the new cells are forgotten -/
theorem Af.rst (S : Bs K B H α) (a : Af K B H α B' H' α') : ∃ B2, Af K B H α B2 H' (arst α α') ∧ Sub (hide B' H') (hide B2 H') := by
  have hs : Sub (hide B' H') (hide (fun b => B' b && ((α b).isSome || !(α' b).isSome)) H') := hide_mono fun b hb => by simp at hb; exact hb.1
  refine ⟨_, ⟨a.sub.trans hs, ⟨fun b e q => ?_, fun b q => a.bs.bk b (by simp at q; exact q.1)⟩, fun b hb n => ?_, fun b n hb => ?_, a.grow⟩, hs⟩
  · unfold arst at q
    split at q
    · rename_i z
      obtain ⟨h1, h2⟩ := a.bs.cel b e q
      exact ⟨by simp [h1, z], h2.mono hs⟩
    · cases q
  · obtain ⟨h1, h2⟩ := a.keep b hb n
    obtain ⟨o, g⟩ := S.bk b hb
    have z := a.fr b n (by rw [g]; exact fun z => nomatch z)
    exact ⟨by simp [h1, z], h2⟩
  · unfold arst
    rw [n]
    rfl
theorem vw_rs (S : Bs K B H α) (h : Rp K (hide B H) v c) (e : vw α c = some d) : Rs K B H v d := by
  have go : vw α c = some c → Rs K B H v d := fun z => by
    rw [z] at e
    cases e
    exact .vis h
  cases h with
  | ref => exact (S.cel _ _ e).2.rs
  | dct a r =>
    cases r with
    | nil => exact go rfl
    | @cons k _ _ _ _ r1 r2 => cases k <;> exact go rfl
  | _ => exact go rfl
theorem Rp.cell {a : Addr} {H : Hp} (h : Rp K H v (dref a)) : v = .ref a := by
  generalize e : dref a = z at h
  cases h with
  | ref =>
    have e1 := List.cons.inj (PyData.dict.inj e)
    have e2 : PyData.int (Int.ofNat a) = PyData.int (Int.ofNat _) := congrArg Prod.snd e1.1
    rw [Int.ofNat.inj (PyData.int.inj e2)]
  | dct _ r =>
    cases r with
    | nil => cases e
    | @cons k _ _ _ _ r1 r2 =>
      have e1 := (List.cons.inj (PyData.dict.inj e)).1
      have e2 : PyData.bool false = kD k := congrArg Prod.fst e1
      cases k <;> cases e2
  | _ => cases e
end
structure C0 where
  P : Program
  w : World
  K : Frag
  mg : Str → Option Value
  base : Heap
  k : Nat
  top : Bool
  cm : Bool := true
  xc : Option (Addr × Addr × Nat) := none
  oc : List Str := []
abbrev C0.at_ (c : C0) (k : Nat) : C0 := { c with k := k, top := true, cm := true, xc := none, oc := [] }
/-- the contexts of a block of a def: its names, its scope -/
structure In (c : C0) (N : List Str) (sc : Scope) (X : Cx) : Prop where
  P : X.prog = c.P
  w : X.w = c.w
  K : X.K = c.K
  mg : X.mg = c.mg
  base : X.base = c.base
  rm : c.cm = true → Room c.k X.A
  un : X.A.units + 200 < cLine
  N : X.N = N
  sc : X.env.scope = sc
  calm : c.cm = true → X.calm = true
  fn : c.top = true → X.fn = fun _ => true
  po : PassesOwn (model X.prog X.w) X.A X.env X.xe
  fs : c.top = true → X.stack = X.env :: X.outer ∧ X.env.frame = some X.env.locals
  xi : ∀ a dx C, c.xc = some (a, dx, C) → ∃ (Y : Cx) (oe : Obj) (pn : List (Addr × Obj)), X = Y.suite a ((a, oe) :: pn) ∧ Zc (.ref C) (some dx) oe ∧ ∃ vs, oe.data = .fields vs
  oc : ∀ x, c.oc.contains x = true → X.fn x = true
section
variable {c : C0} {N : List Str} {sc : Scope} {X : Cx}
theorem In.u64 (I : In c N sc X) : X.A.units + 64 < cLine := by have := I.un; omega
theorem In.u65 (I : In c N sc X) : X.A.units + 65 < cLine := by have := I.un; omega
theorem In.gl {x : Str} (I : In c N sc X) (h : sc.names.lookup x = some .globalImplicit) : Gl X x := by
  show X.env.scope.names.lookup x = _
  rw [I.sc]
  exact h
theorem In.vis {x : Str} (I : In c N sc X) (h : Vis sc x) : Vis X.env.scope x := by
  rw [I.sc]
  exact h
end
/-- an exception: its class, its attributes -/
structure Ex where
  C : Nat
  fs : List (D × D)
abbrev QD := D → AH → Prop
abbrev QX := Ex → AH → Prop
abbrev ME := En → AH → QD → QX → Prop
abbrev MT := En → AH → (Bool → AH → Prop) → QX → Prop
abbrev ML := En → AH → (List D → AH → Prop) → QX → Prop
def XR (K : Frag) (Hh : Hp) (cls : Value) (d : Option Addr) (x : Ex) : Prop := cls = .ref x.C ∧ ∃ dx fs, d = some dx ∧ Hh dx = some (.xd fs) ∧ RpF K Hh fs x.fs
theorem XR.mono {K : Frag} {H H' : Hp} {cls : Value} {d : Option Addr} {x : Ex} (e : Sub H H') (h : XR K H cls d x) : XR K H' cls d x := by
  obtain ⟨h1, dx, fs, h2, h3, h4⟩ := h
  exact ⟨h1, dx, fs, h2, e _ _ h3, h4.mono e⟩
/-- what the wish W grants: the exceptions that E takes -/
def SX (K : Frag) (W : WX) (B : Addr → Bool) (σ : St) (H : Hp) (α : AH) (E : QX) : Prop := ∀ x B' α' cls d H', Af K B H α B' H' α' → XR K (hide B' H') cls d x → E x α' → W cls d σ H'
theorem SX.after {K : Frag} {W : WX} {B B1 : Addr → Bool} {σ : St} {H H1 : Hp} {α α1 : AH} {E : QX} (S : Bs K B H α) (h : SX K W B σ H α E) (a : Af K B H α B1 H1 α1) : SX K W B1 σ H1 α1 E := fun x B' α' cls d H' b => h x B' α' cls d H' (a.trans S b)
theorem SX.never {K : Frag} {W : WX} {B : Addr → Bool} {σ : St} {H : Hp} {α : AH} : SX K W B σ H α (fun _ _ => False) := fun _ _ _ _ _ _ _ _ z => z.elim
/-- the reading of an expression grants what m wishes: a datum | a new list or dict, as a cell -/
def Sd (K : Frag) (W : WX) (t : TE) (m : ME) : Prop :=
  ∀ B σ H ρ α, SR K B σ H ρ α → ∀ Qm Em, m ρ α Qm Em → ∀ Q : VK, (∀ v d B' H' α', Af K B H α B' H' α' → Rp K (hide B' H') v d → Qm d α' → Q v H') → SX K W B σ H α Em → t σ H Q
def Sf (K : Frag) (W : WX) (t : TE) (m : ME) : Prop :=
  ∀ B σ H ρ α, SR K B σ H ρ α → ∀ Qm Em, m ρ α Qm Em → ∀ Q : VK, (∀ l c B' H' α', Af K B H α B' H' (aset α' l c) → α' l = none → Qm c α' → Q (.ref l) H') → SX K W B σ H α Em → t σ H Q
def Stt (K : Frag) (W : WX) (t : TT) (m : MT) : Prop :=
  ∀ B σ H ρ α, SR K B σ H ρ α → ∀ Qm Em, m ρ α Qm Em → ∀ Q : Bool → Hp → Prop, (∀ b B' H' α', Af K B H α B' H' α' → Qm b α' → Q b H') → SX K W B σ H α Em → t σ H Q
def SA (K : Frag) (W : WX) (t : TA) (m : ML) : Prop :=
  ∀ B σ H ρ α, SR K B σ H ρ α → ∀ Qm Em, m ρ α Qm Em → ∀ Q : List V → Hp → Prop, (∀ vs ds B' H' α', Af K B H α B' H' α' → RpL K (hide B' H') vs ds → Qm ds α' → Q vs H') → SX K W B σ H α Em → t σ H Q
def JE (c : C0) (N : List Str) (sc : Scope) (e : Expr) (m : ME) : Prop := ∃ t : WX → TE, (∀ X W, In c N sc X → Takes X W → PE X e (t W)) ∧ ∀ W, Sd c.K W (t W) m
def JF (c : C0) (N : List Str) (sc : Scope) (e : Expr) (m : ME) : Prop := ∃ t : WX → TE, (∀ X W, In c N sc X → Takes X W → PE X e (t W)) ∧ ∀ W, Sf c.K W (t W) m
def JT (c : C0) (N : List Str) (sc : Scope) (e : Expr) (m : MT) : Prop := ∃ t : WX → TT, (∀ X W, In c N sc X → Takes X W → PT X e (t W)) ∧ ∀ W, Stt c.K W (t W) m
def JW (c : C0) (N : List Str) (sc : Scope) (e : Expr) (m : MT) : Prop := ∃ t : WX → TT, (∀ X W, In c N sc X → Takes X W → PW X e (t W)) ∧ ∀ W, Stt c.K W (t W) m
def JL (c : C0) (N : List Str) (sc : Scope) (es : List Expr) (m : ML) : Prop := ∃ t : WX → TA, (∀ X W, In c N sc X → Takes X W → PA X es (t W)) ∧ ∀ W, SA c.K W (t W) m
end Hz
namespace Hz
open PySem L2
def oq {α : Type} (o : Option α) (Q : α → Prop) : Prop := ∃ z, o = some z ∧ Q z
def kC (d : D) : ME := fun ρ α Q E => Q d α
def kV (i : Nat) : ME := fun ρ α Q E => ∃ d, ρ[i]? = some (some d) ∧ Q d α
section
variable {c : C0} {N : List Str} {sc : Scope} {K : Frag} {W : WX}
theorem sd_c {v : V} {d : D} (h : ∀ H, Rp K H v d) : Sd K W (tC v) (kC d) := fun B σ H ρ α S Qm Em m Q q x => q v d B H α (Af.refl S.bs) (h _) m
theorem ce_int {i j pos} : JE c N sc (.Constant (.int i) j pos) (kC (.int i)) := ⟨_, fun _ _ _ _ => pe_int, fun _ => sd_c fun _ => .int i⟩
theorem ce_bl {i j pos} : JE c N sc (.Constant (.bool i) j pos) (kC (.bool i)) := ⟨_, fun _ _ _ _ => pe_bl, fun _ => sd_c fun _ => .bl i⟩
theorem ce_non {j pos} : JE c N sc (.Constant .none j pos) (kC .none) := ⟨_, fun _ _ _ _ => pe_non, fun _ => sd_c fun _ => .non⟩
theorem ce_str {i j pos} : JE c N sc (.Constant (.str i) j pos) (kC (.str i)) := ⟨_, fun _ _ _ _ => pe_str, fun _ => sd_c fun _ => .str i⟩
theorem sd_var {i : Nat} : Sd K W (tVar i) (kV i) := fun B σ H ρ α S Qm Em m Q q x => by
  obtain ⟨d, h, m⟩ := m
  obtain ⟨v, h1, h2⟩ := S.val i _ h
  exact ⟨v, h1, q v d B H α (Af.refl S.bs) h2 m⟩
theorem ce_var {i : Nat} {x : Str} {pos : Pos} (hN : N[i]? = some x) (hv : Vis sc x) (hd : (x == ("__debug__" : Str)) = false := by decide) (hcd : (x == ("__classdict__" : Str)) = false := by decide) : JE c N sc (.Name x pos) (kV i) :=
  ⟨fun _ => tVar i, fun X _ I _ => pe_var (by rw [I.N]; exact hN) (I.vis hv) hd hcd, fun _ => sd_var⟩
/-- a name of the module: a constant -/
theorem ce_glob {x : Str} {v : V} {u : Value} {d : D} {pos : Pos} (hg : sc.names.lookup x = some .globalImplicit) (hm : c.mg x = some u) (r : RelV v u) (h : ∀ H, Rp c.K H v d) (hd : (x == ("__debug__" : Str)) = false := by decide) : JE c N sc (.Name x pos) (kC d) :=
  ⟨fun _ => tC v, fun X _ I _ => pe_glob (I.gl hg) (by rw [I.mg]; exact hm) r hd, fun _ => sd_c h⟩
end
def newK (m : ME) : ME := fun ρ α Q E => m ρ α (fun c α1 => ∀ p, α1 p = none → Q (dref p) (aset α1 p c)) E
def frzK (m : ME) : ME := fun ρ α Q E => m ρ α (fun d α1 => ∃ p c, d = dref p ∧ α1 p = some c ∧ Q c (adel α1 p)) E
section
variable {c : C0} {N : List Str} {sc : Scope} {e : Expr} {m : ME}
theorem JF.je (h : JF c N sc e m) : JE c N sc e m := by
  obtain ⟨t, h1, h2⟩ := h
  refine ⟨t, h1, fun W B σ H ρ α S Qm Em mm Q q x => h2 W B σ H ρ α S Qm Em mm Q (fun l c' B' H' α' A hl qm => ?_) x⟩
  obtain ⟨A2, r⟩ := A.frz S.bs aset_same
  rw [adel_aset hl] at A2
  exact q _ c' _ H' α' A2 r qm
theorem JF.new (h : JF c N sc e m) : JE c N sc e (newK m) := by
  obtain ⟨t, h1, h2⟩ := h
  refine ⟨t, h1, fun W B σ H ρ α S Qm Em mm Q q x => h2 W B σ H ρ α S _ Em mm Q (fun l c' B' H' α' A hl qm => ?_) x⟩
  exact q _ _ _ H' _ A .ref (qm l hl)
theorem JE.frz (h : JE c N sc e m) : JE c N sc e (frzK m) := by
  obtain ⟨t, h1, h2⟩ := h
  refine ⟨t, h1, fun W B σ H ρ α S Qm Em mm Q q x => h2 W B σ H ρ α S _ Em mm Q (fun v d B' H' α' A r qm => ?_) x⟩
  obtain ⟨p, c', rfl, hp, qm⟩ := qm
  obtain ⟨A2, r2⟩ := A.frz S.bs hp
  rw [r.cell]
  exact q _ c' _ H' _ A2 r2 qm
end
/-- a two-place operation, by data -/
structure OpD (K : Frag) (XS : Cx → Prop) (f : Value → Value → Sem Value) (g : D → D → Option D) : Prop where
  ex : ∃ r : R2, (∀ X, XS X → OpR X f r) ∧ ∀ (B : Addr → Bool) (H : Hp) (x y : V) (d e z : D), (∀ a, B a = true → ∃ o, H a = some o) → Rs K B H x d → Rs K B H y e → g d e = some z →
    ∀ Q : VK, (∀ v H', Sub H H' → Rp K (hide B H') v z → Q v H') → r x y H Q
/-- .. that gives a new list -/
structure OpF (K : Frag) (XS : Cx → Prop) (f : Value → Value → Sem Value) (g : D → D → Option D) : Prop where
  ex : ∃ r : R2, (∀ X, XS X → OpR X f r) ∧ ∀ (B : Addr → Bool) (H : Hp) (x y : V) (d e z : D), (∀ a, B a = true → ∃ o, H a = some o) → Rs K B H x d → Rs K B H y e → g d e = some z →
    ∀ Q : VK, (∀ l H', Sub H H' → H l = none → OwnAt K (hide (ins l B) H') (H' l) z → Q (.ref l) H') → r x y H Q
def bop (g : D → D → Option D) (ma mb : ME) : ME := fun ρ α Q E => ma ρ α (fun d α1 => mb ρ α1 (fun e α2 => oq (vw α2 d) fun d' => oq (vw α2 e) fun e' => oq (g d' e') fun z => Q z α2) E) E
section
variable {K : Frag} {W : WX} {r : R2} {ta tb : TE} {ma mb : ME} {g : D → D → Option D}
theorem sd_bop (ha : Sd K W ta ma) (hb : Sd K W tb mb) (hr : ∀ (B : Addr → Bool) (H : Hp) (x y : V) (d e z : D), (∀ a, B a = true → ∃ o, H a = some o) → Rs K B H x d → Rs K B H y e → g d e = some z →
    ∀ Q : VK, (∀ v H', Sub H H' → Rp K (hide B H') v z → Q v H') → r x y H Q) : Sd K W (tOp r ta tb) (bop g ma mb) := fun B σ H ρ α S Qm Em m Q q x => by
  refine ha B σ H ρ α S _ Em m _ (fun v d B1 H1 α1 A1 r1 m => ?_) x
  refine hb B1 σ H1 ρ α1 (S.step A1) _ Em m _ (fun u e B2 H2 α2 A2 r2 m => ?_) (x.after S.bs A1)
  obtain ⟨d', hd, e', he, z, hz, m⟩ := m
  refine hr B2 H2 v u d' e' z A2.bs.bk (vw_rs A2.bs (r1.mono A2.sub) hd) (vw_rs A2.bs r2 he) hz _ fun w H3 s3 r3 => ?_
  exact q w z B2 H3 α2 ((A1.trans S.bs A2).trans S.bs (Af.of_sub A2.bs s3)) r3 m
theorem sf_bop (ha : Sd K W ta ma) (hb : Sd K W tb mb) (hr : ∀ (B : Addr → Bool) (H : Hp) (x y : V) (d e z : D), (∀ a, B a = true → ∃ o, H a = some o) → Rs K B H x d → Rs K B H y e → g d e = some z →
    ∀ Q : VK, (∀ l H', Sub H H' → H l = none → OwnAt K (hide (ins l B) H') (H' l) z → Q (.ref l) H') → r x y H Q) : Sf K W (tOp r ta tb) (bop g ma mb) := fun B σ H ρ α S Qm Em m Q q x => by
  refine ha B σ H ρ α S _ Em m _ (fun v d B1 H1 α1 A1 r1 m => ?_) x
  refine hb B1 σ H1 ρ α1 (S.step A1) _ Em m _ (fun u e B2 H2 α2 A2 r2 m => ?_) (x.after S.bs A1)
  obtain ⟨d', hd, e', he, z, hz, m⟩ := m
  refine hr B2 H2 v u d' e' z A2.bs.bk (vw_rs A2.bs (r1.mono A2.sub) hd) (vw_rs A2.bs r2 he) hz _ fun l H3 s3 hl r3 => ?_
  exact q l z (ins l B2) H3 α2 ((A1.trans S.bs A2).trans S.bs (Af.cell A2.bs s3 hl (.own r3))) (A2.bs.new hl) m
end
section
variable {c : C0} {N : List Str} {sc : Scope} {a b d : Expr} {ma mb md : ME} {g g' : D → D → Option D} {pos : Pos}
theorem ce_op {op : Operator} (ho : OpD c.K (In c N sc) (binaryOp op) g) (ha : JE c N sc a ma) (hb : JE c N sc b mb) : JE c N sc (.BinOp a op b pos) (bop g ma mb) := by
  obtain ⟨r, h1, h2⟩ := ho.ex
  obtain ⟨ta, p1, s1⟩ := ha
  obtain ⟨tb, p2, s2⟩ := hb
  exact ⟨_, fun X W I T => pe_op (h1 X I) (p1 X W I T) (p2 X W I T), fun W => sd_bop (s1 W) (s2 W) h2⟩
theorem cf_op {op : Operator} (ho : OpF c.K (In c N sc) (binaryOp op) g) (ha : JE c N sc a ma) (hb : JE c N sc b mb) : JF c N sc (.BinOp a op b pos) (bop g ma mb) := by
  obtain ⟨r, h1, h2⟩ := ho.ex
  obtain ⟨ta, p1, s1⟩ := ha
  obtain ⟨tb, p2, s2⟩ := hb
  exact ⟨_, fun X W I T => pe_op (h1 X I) (p1 X W I T) (p2 X W I T), fun W => sf_bop (s1 W) (s2 W) h2⟩
theorem ce_cmp {op : CmpOp} (ho : OpD c.K (In c N sc) (compareOp op) g) (ha : JE c N sc a ma) (hb : JE c N sc b mb) (hm : behindInMarks op b = false := by rfl) : JE c N sc (.Compare a [op] [b] pos) (bop g ma mb) := by
  obtain ⟨r, h1, h2⟩ := ho.ex
  obtain ⟨ta, p1, s1⟩ := ha
  obtain ⟨tb, p2, s2⟩ := hb
  exact ⟨_, fun X W I T => pe_cmpR (h1 X I) (p1 X W I T) (p2 X W I T) hm, fun W => sd_bop (s1 W) (s2 W) h2⟩
end
def tst (m : ME) : MT := fun ρ α Q E => m ρ α (fun d α1 => ∃ b, d = .bool b ∧ Q b α1) E
def valK (m : MT) : ME := fun ρ α Q E => m ρ α (fun b α1 => Q (.bool b) α1) E
def andK (ma mb : MT) : MT := fun ρ α Q E => ma ρ α (fun b α1 => if b = true then mb ρ α1 Q E else Q false α1) E
def orK (ma mb : MT) : MT := fun ρ α Q E => ma ρ α (fun b α1 => if b = true then Q true α1 else mb ρ α1 Q E) E
def notK (ma : MT) : MT := fun ρ α Q E => ma ρ α (fun b α1 => Q (!b) α1) E
/-- and, or as values: all but the last bools -/
def andV (ma : MT) (mb : ME) : ME := fun ρ α Q E => ma ρ α (fun b α1 => if b = true then mb ρ α1 Q E else Q (.bool false) α1) E
def orV (ma : MT) (mb : ME) : ME := fun ρ α Q E => ma ρ α (fun b α1 => if b = true then Q (.bool true) α1 else mb ρ α1 Q E) E
/-- a < b < c -/
def chainK (g g' : D → D → Option D) (ma mb md : ME) : ME := fun ρ α Q E => ma ρ α (fun d α1 => mb ρ α1 (fun e α2 => oq (g d e) fun z => ∃ b, z = .bool b ∧ if b = true then md ρ α2 (fun f α3 => oq (g' e f) fun z' => Q z' α3) E else Q (.bool false) α2) E) E
def ifK (mt : MT) (ma mb : ME) : ME := fun ρ α Q E => mt ρ α (fun b α1 => if b = true then ma ρ α1 Q E else mb ρ α1 Q E) E
section
variable {c : C0} {N : List Str} {sc : Scope} {e a b d : Expr} {ma mb md : ME} {ta tb : MT} {g g' : D → D → Option D} {pos : Pos} {rest : List Expr} {K : Frag} {W : WX}
theorem st_tst {te : TE} (h : Sd K W te ma) : Stt K W (tB te) (tst ma) := fun B σ H ρ α S Qm Em m Q q x => h B σ H ρ α S _ Em m _ (fun v d B' H' α' A r m => by
  obtain ⟨k, rfl, m⟩ := m
  exact ⟨k, r.booli, q k B' H' α' A m⟩) x
theorem st_tst2 {te : TE} (h : Sd K W te ma) : Stt K W (tTest te) (tst ma) := fun B σ H ρ α S Qm Em m Q q x => h B σ H ρ α S _ Em m _ (fun v d B' H' α' A r m => by
  obtain ⟨k, rfl, m⟩ := m
  exact ⟨k, r.booli, q k B' H' α' A m⟩) x
theorem jt_val (h : JE c N sc e ma) (he : ∀ (env : PySem.Env) (whole : Sem Value), isTrue e env whole = (do let v ← whole; standAt e.pos; holding [v] (truthy v)) := by intros; rfl) : JT c N sc e (tst ma) := by
  obtain ⟨t, h1, h2⟩ := h
  exact ⟨_, fun X W I T => pt_val (h1 X W I T) (fun w => he _ w), fun W => st_tst (h2 W)⟩
theorem jt_cmp {op : CmpOp} (ho : OpD c.K (In c N sc) (compareOp op) g) (ha : JE c N sc a ma) (hb : JE c N sc b mb) (hm : behindInMarks op b = false := by rfl) : JT c N sc (.Compare a [op] [b] pos) (tst (bop g ma mb)) := by
  obtain ⟨r, h1, h2⟩ := ho.ex
  obtain ⟨ta, p1, s1⟩ := ha
  obtain ⟨tb, p2, s2⟩ := hb
  exact ⟨_, fun X W I T => pt_cmpR (h1 X I) (p1 X W I T) (p2 X W I T) hm, fun W => st_tst2 (sd_bop (s1 W) (s2 W) h2)⟩
theorem st_and {t u : TT} (h1 : Stt K W t ta) (h2 : Stt K W u tb) : Stt K W (tAnd t u) (andK ta tb) := fun B σ H ρ α S Qm Em m Q q x =>
  h1 B σ H ρ α S _ Em m _ (fun b B1 H1 α1 A1 m => by
    cases b with
    | true => exact h2 B1 σ H1 ρ α1 (S.step A1) _ Em m Q (fun b B2 H2 α2 A2 m => q b B2 H2 α2 (A1.trans S.bs A2) m) (x.after S.bs A1)
    | false => exact q false B1 H1 α1 A1 m) x
theorem st_or {t u : TT} (h1 : Stt K W t ta) (h2 : Stt K W u tb) : Stt K W (tOr t u) (orK ta tb) := fun B σ H ρ α S Qm Em m Q q x =>
  h1 B σ H ρ α S _ Em m _ (fun b B1 H1 α1 A1 m => by
    cases b with
    | false => exact h2 B1 σ H1 ρ α1 (S.step A1) _ Em m Q (fun b B2 H2 α2 A2 m => q b B2 H2 α2 (A1.trans S.bs A2) m) (x.after S.bs A1)
    | true => exact q true B1 H1 α1 A1 m) x
theorem st_not {t : TT} (h1 : Stt K W t ta) : Stt K W (tNot t) (notK ta) := fun B σ H ρ α S Qm Em m Q q x => h1 B σ H ρ α S _ Em m _ (fun b B1 H1 α1 A1 m => q _ B1 H1 α1 A1 m) x
theorem jw_and1 (h : JT c N sc a ta) : JW c N sc (.BoolOp .And [a] pos) ta := by
  obtain ⟨t, h1, h2⟩ := h
  exact ⟨t, fun X W I T => pw_and1 (h1 X W I T), h2⟩
theorem jw_or1 (h : JT c N sc a ta) : JW c N sc (.BoolOp .Or [a] pos) ta := by
  obtain ⟨t, h1, h2⟩ := h
  exact ⟨t, fun X W I T => pw_or1 (h1 X W I T), h2⟩
theorem jw_and (h : JT c N sc a ta) (k : JW c N sc (.BoolOp .And (b :: rest) pos) tb) : JW c N sc (.BoolOp .And (a :: b :: rest) pos) (andK ta tb) := by
  obtain ⟨t, h1, h2⟩ := h
  obtain ⟨u, k1, k2⟩ := k
  exact ⟨_, fun X W I T => pw_and (h1 X W I T) (k1 X W I T), fun W => st_and (h2 W) (k2 W)⟩
theorem jw_or (h : JT c N sc a ta) (k : JW c N sc (.BoolOp .Or (b :: rest) pos) tb) : JW c N sc (.BoolOp .Or (a :: b :: rest) pos) (orK ta tb) := by
  obtain ⟨t, h1, h2⟩ := h
  obtain ⟨u, k1, k2⟩ := k
  exact ⟨_, fun X W I T => pw_or (h1 X W I T) (k1 X W I T), fun W => st_or (h2 W) (k2 W)⟩
theorem jt_w (h : JW c N sc a ta) : JT c N sc a ta := by
  obtain ⟨t, h1, h2⟩ := h
  exact ⟨t, fun X W I T => (h1 X W I T).pt, h2⟩
theorem jt_not (h : JT c N sc a ta) : JT c N sc (.UnaryOp .Not a pos) (notK ta) := by
  obtain ⟨t, h1, h2⟩ := h
  exact ⟨_, fun X W I T => pt_not (h1 X W I T), fun W => st_not (h2 W)⟩
theorem sd_chain {r r' : R2} {ta tb tc : TE} (ha : Sd K W ta ma) (hb : Sd K W tb mb) (hc : Sd K W tc md)
    (hr : ∀ (B : Addr → Bool) (H : Hp) (x y : V) (d e z : D), (∀ a, B a = true → ∃ o, H a = some o) → Rs K B H x d → Rs K B H y e → g d e = some z → ∀ Q : VK, (∀ v H', Sub H H' → Rp K (hide B H') v z → Q v H') → r x y H Q)
    (hr' : ∀ (B : Addr → Bool) (H : Hp) (x y : V) (d e z : D), (∀ a, B a = true → ∃ o, H a = some o) → Rs K B H x d → Rs K B H y e → g' d e = some z → ∀ Q : VK, (∀ v H', Sub H H' → Rp K (hide B H') v z → Q v H') → r' x y H Q) :
    Sd K W (tChain r r' ta tb tc) (chainK g g' ma mb md) := fun B σ H ρ α S Qm Em m Q q x => by
  refine ha B σ H ρ α S _ Em m _ (fun v d B1 H1 α1 A1 r1 m => ?_) x
  refine hb B1 σ H1 ρ α1 (S.step A1) _ Em m _ (fun u e B2 H2 α2 A2 r2 m => ?_) (x.after S.bs A1)
  obtain ⟨z, hz, k, rfl, m⟩ := m
  refine hr B2 H2 v u d e _ A2.bs.bk (.vis (r1.mono A2.sub)) (.vis r2) hz _ fun w H3 s3 r3 => ?_
  have A3 := (A1.trans S.bs A2).trans S.bs (Af.of_sub A2.bs s3)
  refine ⟨k, r3.booli, ?_⟩
  cases k with
  | true =>
    refine hc B2 σ H3 ρ α2 (S.step A3) _ Em m _ (fun y f B4 H4 α4 A4 r4 m => ?_) (x.after S.bs A3)
    obtain ⟨z', hz', m⟩ := m
    refine hr' B4 H4 u y e f z' A4.bs.bk (.vis ((r2.mono (hsub s3)).mono A4.sub)) (.vis r4) hz' _ fun v5 H5 s5 r5 => ?_
    exact q v5 z' B4 H5 α4 ((A3.trans S.bs A4).trans S.bs (Af.of_sub A4.bs s5)) r5 m
  | false => exact q _ _ B2 H3 α2 A3 (.bl false) m
theorem jt_chain {op op' : CmpOp} (ho : OpD c.K (In c N sc) (compareOp op) g) (ho' : OpD c.K (In c N sc) (compareOp op') g') (ha : JE c N sc a ma) (hb : JE c N sc b mb) (hc : JE c N sc d md)
    (hm : lastMarks [op, op'] [b, d] = false := by with_unfolding_all rfl) : JT c N sc (.Compare a [op, op'] [b, d] pos) (tst (chainK g g' ma mb md)) := by
  obtain ⟨r, h1, h2⟩ := ho.ex
  obtain ⟨r', h1', h2'⟩ := ho'.ex
  obtain ⟨ta, p1, s1⟩ := ha
  obtain ⟨tb, p2, s2⟩ := hb
  obtain ⟨tc, p3, s3⟩ := hc
  exact ⟨_, fun X W I T => pt_chain (h1 X I) (h1' X I) (p1 X W I T) (p2 X W I T) (p3 X W I T) hm, fun W => st_tst2 (sd_chain (s1 W) (s2 W) (s3 W) h2 h2')⟩
theorem je_one {op} (h : JE c N sc a ma) : JE c N sc (.BoolOp op [a] pos) ma := by
  obtain ⟨t, h1, h2⟩ := h
  exact ⟨t, fun X W I T => pe_one (h1 X W I T), h2⟩
theorem je_and (h : JE c N sc a ma) (k : JE c N sc (.BoolOp .And (b :: rest) pos) mb) : JE c N sc (.BoolOp .And (a :: b :: rest) pos) (andV (tst ma) mb) := by
  obtain ⟨t, h1, h2⟩ := h
  obtain ⟨u, k1, k2⟩ := k
  refine ⟨_, fun X W I T => pe_and (h1 X W I T) (k1 X W I T), fun W B σ H ρ α S Qm Em m Q q x => ?_⟩
  refine h2 W B σ H ρ α S _ Em m _ (fun v d B1 H1 α1 A1 r m => ?_) x
  obtain ⟨k, rfl, m⟩ := m
  refine ⟨k, r.booli, ?_⟩
  cases k with
  | true => exact k2 W B1 σ H1 ρ α1 (S.step A1) _ Em m Q (fun v d B2 H2 α2 A2 r2 m => q v d B2 H2 α2 (A1.trans S.bs A2) r2 m) (x.after S.bs A1)
  | false => exact q _ _ B1 H1 α1 A1 (.bl false) m
theorem je_if (ht : JT c N sc d ta) (ha : JE c N sc a ma) (hb : JE c N sc b mb) : JE c N sc (.IfExp d a b pos) (ifK ta ma mb) := by
  obtain ⟨t, h1, h2⟩ := ht
  obtain ⟨u, k1, k2⟩ := ha
  obtain ⟨w, l1, l2⟩ := hb
  refine ⟨_, fun X W I T => pe_ifExp (h1 X W I T) (k1 X W I T) (l1 X W I T), fun W B σ H ρ α S Qm Em m Q q x => ?_⟩
  refine h2 W B σ H ρ α S _ Em m _ (fun k B1 H1 α1 A1 m => ?_) x
  cases k with
  | true => exact k2 W B1 σ H1 ρ α1 (S.step A1) _ Em m Q (fun v d B2 H2 α2 A2 r2 m => q v d B2 H2 α2 (A1.trans S.bs A2) r2 m) (x.after S.bs A1)
  | false => exact l2 W B1 σ H1 ρ α1 (S.step A1) _ Em m Q (fun v d B2 H2 α2 A2 r2 m => q v d B2 H2 α2 (A1.trans S.bs A2) r2 m) (x.after S.bs A1)
end
def nilK : ML := fun ρ α Q E => Q [] α
def consK (ma : ME) (mr : ML) : ML := fun ρ α Q E => ma ρ α (fun d α1 => mr ρ α1 (fun ds α2 => Q (d :: ds) α2) E) E
def tupK (m : ML) : ME := fun ρ α Q E => m ρ α (fun ds α1 => ds.length ≤ 100000 ∧ Q (.tuple ds) α1) E
def lstK (m : ML) : ME := fun ρ α Q E => m ρ α (fun ds α1 => ds.length ≤ 100000 ∧ Q (.list ds) α1) E
section
variable {c : C0} {N : List Str} {sc : Scope} {e : Expr} {es : List Expr} {ma : ME} {mr : ML} {pos : Pos} {K : Frag} {W : WX}
theorem sa_nil : SA K W tNil nilK := fun B σ H ρ α S Qm Em m Q q x => q [] [] B H α (Af.refl S.bs) .nil m
theorem jl_nil : JL c N sc [] nilK := ⟨_, fun _ _ _ _ => pa_nil, fun _ => sa_nil⟩
theorem sa_cons {te : TE} {t : TA} (h : Sd K W te ma) (k : SA K W t mr) : SA K W (tCons te t) (consK ma mr) := fun B σ H ρ α S Qm Em m Q q x =>
  h B σ H ρ α S _ Em m _ (fun v d B1 H1 α1 A1 r1 m => k B1 σ H1 ρ α1 (S.step A1) _ Em m _ (fun vs ds B2 H2 α2 A2 r2 m => q (v :: vs) (d :: ds) B2 H2 α2 (A1.trans S.bs A2) (.cons (r1.mono A2.sub) r2) m) (x.after S.bs A1)) x
theorem jl_cons (h : JE c N sc e ma) (k : JL c N sc es mr) (hs : ∀ env, starEach (e :: es) env = (false, eval e env) :: starEach es env := by intros; rfl) : JL c N sc (e :: es) (consK ma mr) := by
  obtain ⟨t, h1, h2⟩ := h
  obtain ⟨u, k1, k2⟩ := k
  exact ⟨_, fun X W I T => pa_cons (h1 X W I T) (k1 X W I T) (hs _), fun W => sa_cons (h2 W) (k2 W)⟩
theorem own_new {H : Hp} {B : Addr → Bool} {p : Addr} {vs : List V} {ds : List D} (h : H p = none) (r : RpL K (hide B H) vs ds) : OwnAt K (hide (ins p B) (upd H p (.lst vs))) (upd H p (.lst vs) p) (.list ds) :=
  ⟨vs, upd_same, r.mono (sub_ins h (hsub (Sub.new h)))⟩
theorem sz5 {n : Nat} (h : n ≤ 100000) : n ≤ sizeLine := Nat.le_trans h (by decide)
/-- a new tuple, its object known -/
theorem tnew {X : Cx} {pins : List (Addr × Obj)} {σ : L2.St} {H : Hp} {s : Shared} {xs : List V} {us : List Value} (I : Inv X pins σ H s) (r : Vals xs us) (z : xs.length ≤ sizeLine) :
    Inv X pins σ (upd H s.heap.objs.size (.frz { cls := .type "tuple", data := .seq us.toArray } (.tup xs))) { s with heap := s.heap.push { cls := .type "tuple", data := .seq us.toArray } } :=
  I.laid (t' := s.toks) (fun b u e => Heap.get?_push_of_some _ e) (Nat.le_refl _) ⟨Heap.get?_push_size _ rfl, z, us, r, ⟨_, Heap.get?_push_size _ rfl, rfl, _, rfl⟩⟩
def tTupX (t : TA) : TE := fun σ H Q => t σ H fun xs H1 => xs.length ≤ sizeLine ∧ ∀ p o, ExT o → H1 p = none → Q (.ref p) (upd H1 p (.frz o (.tup xs)))
theorem pe_tupX {X : Cx} {es : List Expr} {t : TA} {x1} {pos : Pos} (h : PA X es t) : PE X (.Tuple es x1 pos) (tTupX t) := by
  refine ⟨fun pins s σ H Q I hq => ?_⟩
  refine wpAny_Tuple_spliced (thn (h.run pos pins s σ H _ I hq) fun us s1 ⟨xs, H1, I1, r, z, q⟩ => ⟨by rw [← r.length]; exact z, ?_⟩)
  exact ⟨.ref s1.heap.objs.size, _, tnew I1 r z, rfl, q _ _ ⟨rfl, rfl⟩ (I1.hok.fresh (Nat.le_refl _))⟩
theorem tup_new {K : Frag} {B : Addr → Bool} {H : Hp} {p : Addr} {o : Obj} {vs : List V} {ds : List D} (bk : ∀ a, B a = true → ∃ o, H a = some o) (x : ExT o) (h : H p = none) (r : RpL K (hide B H) vs ds) : Sub H (upd H p (.frz o (.tup vs))) ∧ Rp K (hide B (upd H p (.frz o (.tup vs)))) (.ref p) (.tuple ds) := by
  have bp : B p = false := by
    cases q : B p with
    | false => rfl
    | true => obtain ⟨o, e⟩ := bk p q; rw [h] at e; cases e
  exact ⟨Sub.new h, .tup (.inl (.inr ⟨o, hide_of bp upd_same⟩)) (r.mono (hsub (Sub.new h))) fun _ => ⟨o, _, hide_of bp upd_same, x⟩⟩
theorem je_tup {x1} (h : JL c N sc es mr) : JE c N sc (.Tuple es x1 pos) (tupK mr) := by
  obtain ⟨t, h1, h2⟩ := h
  refine ⟨_, fun X W I T => pe_tupX (h1 X W I T), fun W B σ H ρ α S Qm Em m Q q x => ?_⟩
  refine h2 W B σ H ρ α S _ Em m _ (fun vs ds B1 H1 α1 A1 r1 m => ⟨by rw [r1.length]; exact sz5 m.1, fun p o ho hp => ?_⟩) x
  obtain ⟨s1, r2⟩ := tup_new A1.bs.bk ho hp r1
  exact q _ _ _ _ _ (A1.trans S.bs (Af.of_sub A1.bs s1)) r2 m.2
theorem jf_lst (h : JL c N sc es mr) : JF c N sc (.List es pos) (lstK mr) := by
  obtain ⟨t, h1, h2⟩ := h
  refine ⟨_, fun X W I T => pe_lst (h1 X W I T), fun W B σ H ρ α S Qm Em m Q q x => ?_⟩
  refine h2 W B σ H ρ α S _ Em m _ (fun vs ds B1 H1 α1 A1 r1 m => ⟨by rw [r1.length]; exact sz5 m.1, fun p hp => ?_⟩) x
  exact q p _ _ _ α1 (A1.trans S.bs (Af.cell A1.bs (Sub.new hp) hp (.own (own_new hp r1)))) (A1.bs.new hp) m.2
end
abbrev Fm := List D → AH → QD → QX → Prop
/-- what a def promises -/
def spD (K : Frag) (fm : Fm) : Sp := fun vs H Q E => ∃ (B : Addr → Bool) (α : AH) (ds : List D) (Qm : QD) (Em : QX), Bs K B H α ∧ RpL K (hide B H) vs ds ∧ fm ds α Qm Em ∧
  (∀ v d B' H' α', Af K B H α B' H' α' → Rp K (hide B' H') v d → Qm d α' → Q v H') ∧ ∀ x B' α' cls d H', Af K B H α B' H' α' → XR K (hide B' H') cls d x → Em x α' → E cls d H'
/-- a def of the text as its data say -/
abbrev FnD (c : C0) (k : Nat) (x : Str) (np : Nat) (ds : List D) (fm : Fm) : Prop := ∃ (f : Addr) (fd : FuncData) (ps : List Str) (dV : List Value) (dvs : List V), FnOk c.P c.w c.K c.mg c.base (L2.CX c.P c.w) k f fd ps (fun vs H Q E => vs.length = ps.length ∧ spD c.K fm vs H Q E) ∧ c.mg x = some (.ref f) ∧ PySem.W.keepIn c.K (.ref f) = true ∧ Binds c.K fd ps dV ∧ Vals dvs dV ∧ (∀ H, RpL c.K H dvs ds) ∧ ps.length = np + ds.length
theorem FnD.ex {c : C0} {k : Nat} {x : Str} {np : Nat} {ds : List D} {fm : Fm} (h : FnD c k x np ds fm) : ∃ (f : Addr) (fd : FuncData) (ps : List Str) (dV : List Value) (dvs : List V), FnOk c.P c.w c.K c.mg c.base (L2.CX c.P c.w) k f fd ps (fun vs H Q E => vs.length = ps.length ∧ spD c.K fm vs H Q E) ∧ c.mg x = some (.ref f) ∧ PySem.W.keepIn c.K (.ref f) = true ∧ Binds c.K fd ps dV ∧ Vals dvs dV ∧ (∀ H, RpL c.K H dvs ds) ∧ ps.length = np + ds.length := h
section
variable {c : C0} {N : List Str} {sc : Scope} {e : Expr} {es : List Expr} {mr : ML} {pos p : Pos} {K : Frag} {W : WX} {x : Str}
/-- the number of arguments is asked -/
def callN (np : Nat) (fm : Fm) (ds : List D) (m : ML) : ME := fun ρ α Q E => m ρ α (fun as α1 => as.length = np ∧ fm (as ++ ds) α1 Q E) E
theorem sd_call {ta : TA} {fm : Fm} {np n : Nat} {ds : List D} {dvs : List V} (hd : ∀ H, RpL K H dvs ds) (hn : n = np + ds.length) (h : SA K W ta mr) : Sd K W (tCallSD (fun vs H Q E => vs.length = n ∧ spD K fm vs H Q E) dvs (WE W) ta) (callN np fm ds mr) := fun B σ H ρ α S Qm Em m Q q x => by
  refine h B σ H ρ α S _ Em m _ (fun vs as B1 H1 α1 A1 ra m => ?_) x
  refine ⟨by rw [List.length_append, ra.length, m.1, hn, (hd H1).length], B1, α1, as ++ ds, Qm, Em, A1.bs, ra.append (hd _), m.2, fun v d B2 H2 α2 A2 r2 m => q v d B2 H2 α2 (A1.trans S.bs A2) r2 m, fun y B2 α2 cls d H2 A2 r2 m => x y B2 α2 cls d H2 (A1.trans S.bs A2) r2 m⟩
theorem je_call {fm : Fm} {np k : Nat} {ds : List D} (F : FnD c k x np ds fm) (hk : k ≤ c.k) (hg : sc.names.lookup x = some .globalImplicit) (ha : JL c N sc (e :: es) mr) (hc : c.cm = true := by rfl)
    (hdb : (x == ("__debug__" : Str)) = false := by decide) (he : ∀ env, starEach (e :: es) env = (false, eval e env) :: starEach es env := by intros; rfl) (hpl : ∀ env, (backTo pos (starEach es env)).any (·.1) = false := by intros; rfl) :
    JE c N sc (.Call (.Name x p) (e :: es) [] pos) (callN np fm ds mr) := by
  obtain ⟨f, fd, ps, dV, dvs, F, h1, h2, h3, h4, h5, h6⟩ := F.ex
  obtain ⟨t, p1, s1⟩ := ha
  refine ⟨fun W => tCallSD (fun vs H Q E => vs.length = ps.length ∧ spD c.K fm vs H Q E) dvs (WE W) (t W), fun X W I T => ?_, fun W => sd_call h5 h6 (s1 W)⟩
  have F' : FnOk X.prog X.w X.K X.mg X.base (L2.CX X.prog X.w) k f fd ps (fun vs H Q E => vs.length = ps.length ∧ spD c.K fm vs H Q E) := by
    rw [I.P, I.w, I.K, I.mg, I.base]
    exact F
  exact pe_callSD F' ((I.rm hc).mono hk) (I.gl hg) (by rw [I.mg]; exact h1) (by rw [I.K]; exact h2) (by rw [I.K]; exact h3) h4 (fun σ => passAt T σ) (p1 X W I T) hdb (he _) (hpl _)
end
end Hz
namespace Hz
open PySem L2
/-- what is wished behind a statement -/
structure Md where
  nx : En → AH → Prop
  rt : D → AH → Prop
  bk : En → AH → Prop
  ct : En → AH → Prop
  ex : Ex → En → AH → Prop
abbrev MS := En → AH → Md → Prop
structure Fi (K : Frag) (B : Addr → Bool) (H : Hp) (α : AH) (D : Md) (Dn : Ends) : Prop where
  nx : ∀ B' σ' H' ρ' α', Af K B H α B' H' α' → SR K B' σ' H' ρ' α' → D.nx ρ' α' → Dn.nx σ' H'
  rt : ∀ v d B' H' α', Af K B H α B' H' α' → Rp K (hide B' H') v d → D.rt d α' → Dn.rt v H'
  bk : ∀ B' σ' H' ρ' α', Af K B H α B' H' α' → SR K B' σ' H' ρ' α' → D.bk ρ' α' → Dn.bk σ' H'
  ct : ∀ B' σ' H' ρ' α', Af K B H α B' H' α' → SR K B' σ' H' ρ' α' → D.ct ρ' α' → Dn.ct σ' H'
def FX (K : Frag) (W : WX) (B : Addr → Bool) (H : Hp) (α : AH) (D : Md) : Prop := ∀ x B' σ' ρ' α' cls d H', Af K B H α B' H' α' → SR K B' σ' H' ρ' α' → XR K (hide B' H') cls d x → D.ex x ρ' α' → W cls d σ' H'
def SS (K : Frag) (W : WX) (t : TS) (m : MS) : Prop := ∀ B σ H ρ α, SR K B σ H ρ α → ∀ D, m ρ α D → ∀ Dn : Ends, Fi K B H α D Dn → FX K W B H α D → t Dn σ H
def JS (c : C0) (N : List Str) (sc : Scope) (s : Stmt) (m : MS) : Prop := ∃ t : WX → TS, (∀ X W, In c N sc X → Takes X W → PS X s (t W)) ∧ ∀ W, SS c.K W (t W) m
def JB (c : C0) (N : List Str) (sc : Scope) (s : List Stmt) (m : MS) : Prop := ∃ t : WX → TS, (∀ X W, In c N sc X → Takes X W → PSs X s (t W)) ∧ ∀ W, SS c.K W (t W) m
section
variable {K : Frag} {W : WX} {B B1 : Addr → Bool} {σ : St} {H H1 : Hp} {ρ : En} {α α1 : AH} {D : Md} {Dn : Ends}
theorem Fi.after (S : Bs K B H α) (h : Fi K B H α D Dn) (a : Af K B H α B1 H1 α1) : Fi K B1 H1 α1 D Dn :=
  ⟨fun B' σ' H' ρ' α' b => h.nx B' σ' H' ρ' α' (a.trans S b), fun v d B' H' α' b => h.rt v d B' H' α' (a.trans S b), fun B' σ' H' ρ' α' b => h.bk B' σ' H' ρ' α' (a.trans S b), fun B' σ' H' ρ' α' b => h.ct B' σ' H' ρ' α' (a.trans S b)⟩
theorem FX.after (S : Bs K B H α) (h : FX K W B H α D) (a : Af K B H α B1 H1 α1) : FX K W B1 H1 α1 D := fun x B' σ' ρ' α' cls d H' b => h x B' σ' ρ' α' cls d H' (a.trans S b)
/-- an expression of a statement raises at the statement's slots -/
theorem FX.sx (S : SR K B σ H ρ α) (h : FX K W B H α D) : SX K W B σ H α (fun x α' => D.ex x ρ α') := fun x B' α' cls d H' a r e => h x B' σ ρ α' cls d H' a (S.step a) r e
end
def nextS : MS := fun ρ α D => D.nx ρ α
def seqS (m1 m2 : MS) : MS := fun ρ α D => m1 ρ α { D with nx := fun ρ1 α1 => m2 ρ1 α1 D }
def breakS : MS := fun ρ α D => D.bk ρ α
def contS : MS := fun ρ α D => D.ct ρ α
def dropS (m : ME) : MS := fun ρ α D => m ρ α (fun _ α1 => D.nx ρ α1) (fun x α1 => D.ex x ρ α1)
def retS (m : ME) : MS := fun ρ α D => m ρ α (fun d α1 => D.rt d α1) (fun x α1 => D.ex x ρ α1)
def retN : MS := fun ρ α D => D.rt .none α
def ifS (mt : MT) (m1 m2 : MS) : MS := fun ρ α D => mt ρ α (fun b α1 => if b = true then m1 ρ α1 D else m2 ρ α1 D) (fun x α1 => D.ex x ρ α1)
def setv (i : Nat) (d : D) (ρ : En) : Option En := some (ρ.set i (some d))
def asgS (m : ME) (g : D → En → Option En) : MS := fun ρ α D => m ρ α (fun d α1 => oq (g d ρ) fun ρ1 => D.nx ρ1 α1) (fun x α1 => D.ex x ρ α1)
/-- the cell in a slot becomes a datum -/
def frzS (i : Nat) (m : MS) : MS := fun ρ α D => ∃ p c, ρ[i]? = some (some (dref p)) ∧ α p = some c ∧ m (ρ.set i (some c)) (adel α p) D
section
variable {c : C0} {N : List Str} {sc : Scope} {K : Frag} {W : WX} {t u : TS} {m m1 m2 : MS} {s : Stmt} {rest b1 b2 : List Stmt} {me : ME} {mt : MT} {e : Expr} {pos p1 : Pos} {i : Nat} {x : Str}
theorem ss_next : SS K W tNext nextS := fun B σ H ρ α S D m Dn h x => h.nx B σ H ρ α (Af.refl S.bs) S m
theorem ss_seq (h1 : SS K W t m1) (h2 : SS K W u m2) : SS K W (tSeq t u) (seqS m1 m2) := fun B σ H ρ α S D m Dn h x =>
  h1 B σ H ρ α S _ m _ ⟨fun B' σ' H' ρ' α' a S' m' => h2 B' σ' H' ρ' α' S' D m' Dn (h.after S.bs a) (x.after S.bs a), h.rt, h.bk, h.ct⟩ x
theorem jb_nil : JB c N sc [] nextS := ⟨_, fun _ _ _ _ => pss_nil, fun _ => ss_next⟩
theorem jb_cons (h : JS c N sc s m1) (k : JB c N sc rest m2) : JB c N sc (s :: rest) (seqS m1 m2) := by
  obtain ⟨t, h1, h2⟩ := h
  obtain ⟨u, k1, k2⟩ := k
  exact ⟨_, fun X W I T => pss_cons (h1 X W I T) (k1 X W I T), fun W => ss_seq (h2 W) (k2 W)⟩
theorem jb_one (h : JS c N sc s m1) : JB c N sc [s] m1 := by
  obtain ⟨t, h1, h2⟩ := h
  exact ⟨_, fun X W I T => pss_one (h1 X W I T), h2⟩
theorem js_expr (h : JE c N sc e me) (hs : ∀ env, swapsWith e none pos.line env = pure false := by intros; rfl) : JS c N sc (.Expr e pos) (dropS me) := by
  obtain ⟨t, h1, h2⟩ := h
  exact ⟨_, fun X W I T => ps_expr (h1 X W I T) (hs _), fun W B σ H ρ α S D m Dn h x => h2 W B σ H ρ α S _ _ m _ (fun v d B' H' α' A r q => h.nx B' σ H' ρ α' A (S.step A) q) (x.sx S)⟩
theorem js_ret (h : JE c N sc e me) : JS c N sc (.Return (some e) pos) (retS me) := by
  obtain ⟨t, h1, h2⟩ := h
  exact ⟨_, fun X W I T => ps_ret (h1 X W I T), fun W B σ H ρ α S D m Dn h x => h2 W B σ H ρ α S _ _ m _ (fun v d B' H' α' A r q => h.rt v d B' H' α' A r q) (x.sx S)⟩
theorem js_if (ht : JT c N sc e mt) (h1 : JB c N sc b1 m1) (h2 : JB c N sc b2 m2) : JS c N sc (.If e b1 b2 pos) (ifS mt m1 m2) := by
  obtain ⟨t, p1, s1⟩ := ht
  obtain ⟨u, p2, s2⟩ := h1
  obtain ⟨w, p3, s3⟩ := h2
  refine ⟨_, fun X W I T => ps_if (p1 X W I T) (p2 X W I T) (p3 X W I T), fun W B σ H ρ α S D m Dn h x => s1 W B σ H ρ α S _ _ m _ (fun b B' H' α' A q => ?_) (x.sx S)⟩
  cases b with
  | true => exact s2 W B' σ H' ρ α' (S.step A) D q Dn (h.after S.bs A) (x.after S.bs A)
  | false => exact s3 W B' σ H' ρ α' (S.step A) D q Dn (h.after S.bs A) (x.after S.bs A)
theorem ss_frz (h : SS K W t m) : SS K W t (frzS i m) := fun B σ H ρ α S D mm Dn h' x => by
  obtain ⟨p, d, e, hp, mm⟩ := mm
  obtain ⟨v, g1, g2⟩ := S.val i _ e
  have hv := g2.cell
  subst hv
  obtain ⟨A, r⟩ := (Af.refl S.bs).frz S.bs hp
  refine h _ σ H _ _ ⟨by simpa using S.len, fun j d' z => ?_, A.bs⟩ D mm Dn (h'.after S.bs A) (x.after S.bs A)
  by_cases q : i = j
  · subst q
    rw [List.getElem?_set_self (List.getElem?_eq_some_iff.mp e).1] at z
    cases z
    exact ⟨_, g1, r⟩
  · rw [List.getElem?_set_ne q] at z
    obtain ⟨w, a, b⟩ := S.val j d' z
    exact ⟨w, a, b.mono A.sub⟩
theorem jb_frz (h : JB c N sc rest m) : JB c N sc rest (frzS i m) := by
  obtain ⟨t, h1, h2⟩ := h
  exact ⟨t, h1, fun W => ss_frz (h2 W)⟩
end
/-- a target at the slots js -/
def SgT (K : Frag) (js : List Nat) (g : TG) (mg : D → En → Option En) : Prop :=
  ∀ B σ H ρ α v d ρ', SR K B σ H ρ α → Rp K (hide B H) v d → mg d ρ = some ρ' → ∀ Q : St → Hp → Prop, (∀ σ', SR K B σ' H ρ' α → (∀ j, j ∉ js → σ'[j]? = σ[j]? ∧ ρ'[j]? = ρ[j]?) → σ'.length = σ.length → Q σ' H) → g v σ H Q
def SgTs (K : Frag) (js : List Nat) (g : TGs) (mg : List D → En → Option En) : Prop :=
  ∀ B σ H ρ α vs ds ρ', SR K B σ H ρ α → RpL K (hide B H) vs ds → mg ds ρ = some ρ' → ∀ Q : St → Hp → Prop, (∀ σ', SR K B σ' H ρ' α → (∀ j, j ∉ js → σ'[j]? = σ[j]? ∧ ρ'[j]? = ρ[j]?) → σ'.length = σ.length → Q σ' H) → g vs σ H Q
theorem SR.set {K : Frag} {B : Addr → Bool} {σ : St} {H : Hp} {ρ : En} {α : AH} {i : Nat} {v : V} {d : D} (S : SR K B σ H ρ α) (r : Rp K (hide B H) v d) : SR K B (σ.set i (some v)) H (ρ.set i (some d)) α := by
  refine ⟨by simpa using S.len, fun j d' e => ?_, S.bs⟩
  by_cases q : i = j
  · subst q
    have hl : i < ρ.length := by simpa using (List.getElem?_eq_some_iff.mp e).1
    rw [List.getElem?_set_self hl] at e
    cases e
    exact ⟨v, List.getElem?_set_self (by rw [S.len]; exact hl), r⟩
  · rw [List.getElem?_set_ne q] at e
    obtain ⟨w, a, b⟩ := S.val j d' e
    exact ⟨w, by rw [List.getElem?_set_ne q]; exact a, b⟩
theorem sgt_name {K : Frag} {i : Nat} : SgT K [i] (gName i) (setv i) := fun B σ H ρ α v d ρ' S r e Q q => by
  cases e
  refine q _ (S.set r) (fun j hj => ?_) (by simp)
  have z : i ≠ j := fun z => hj (by simp [z])
  exact ⟨List.getElem?_set_ne z, List.getElem?_set_ne z⟩
def tgNil : List D → En → Option En := fun ds ρ => match ds with
  | [] => some ρ
  | _ => none
def tgCons (mg : D → En → Option En) (mr : List D → En → Option En) : List D → En → Option En := fun ds ρ => match ds with
  | d :: r => (mg d ρ).bind (mr r)
  | [] => none
def tgTup (n : Nat) (mr : List D → En → Option En) : D → En → Option En := fun d ρ => match d with
  | .tuple ds => if ds.length = n then mr ds ρ else none
  | _ => none
def JTg (c : C0) (N : List Str) (sc : Scope) (e : Expr) (js : List Nat) (mg : D → En → Option En) : Prop := ∃ g, (∀ X, In c N sc X → PG X e g) ∧ SgT c.K js g mg
def JTgs (c : C0) (N : List Str) (sc : Scope) (es : List Expr) (js : List Nat) (mg : List D → En → Option En) : Prop := ∃ g, (∀ X, In c N sc X → PGs X es g) ∧ SgTs c.K js g mg
section
variable {K : Frag} {mg : D → En → Option En} {mr : List D → En → Option En} {js ks : List Nat} {n : Nat}
theorem sgts_nil : SgTs K [] gNil tgNil := fun B σ H ρ α vs ds ρ' S r e Q q => by
  cases r with
  | nil =>
    cases e
    exact ⟨rfl, q σ S (fun _ _ => ⟨rfl, rfl⟩) rfl⟩
  | cons _ _ => cases e
theorem sgts_cons {g : TG} {u : TGs} (h : SgT K js g mg) (k : SgTs K ks u mr) : SgTs K (js ++ ks) (gCons g u) (tgCons mg mr) := fun B σ H ρ α vs ds ρ' S r e Q q => by
  cases r with
  | nil => cases e
  | cons r1 r2 =>
    rename_i v vs d ds
    unfold tgCons at e
    cases z : mg d ρ with
    | none => simp [z] at e
    | some ρ1 =>
      simp only [z, Option.bind_some] at e
      refine ⟨v, vs, rfl, h B σ H ρ α v d ρ1 S r1 z _ fun σ1 b1 l1 n1 => ?_⟩
      refine k B σ1 H ρ1 α vs ds ρ' b1 r2 e _ fun σ2 b2 l2 n2 => q σ2 b2 (fun j hj => ?_) (n2.trans n1)
      rw [List.mem_append, not_or] at hj
      obtain ⟨a1, a2⟩ := l1 j hj.1
      obtain ⟨a3, a4⟩ := l2 j hj.2
      exact ⟨a3.trans a1, a4.trans a2⟩
theorem sgt_tup {u : TGs} (k : SgTs K ks u mr) : SgT K ks (gTup K n u) (tgTup n mr) := fun B σ H ρ α v d ρ' S r e Q q => by
  unfold tgTup at e
  split at e
  · rename_i ds
    split at e
    · rename_i hn
      cases r with
      | tup ht rr _ =>
        refine ⟨_, _, rfl, sub_t (hide_sub B H) ht, ?_, ?_⟩
        · rw [rr.length]; exact hn
        · exact k B σ H ρ α _ ds ρ' S rr e Q q
    · cases e
  · cases e
end
/-- a name that may be stored -/
def Sto (c : C0) (sc : Scope) (x : Str) : Prop := sc.names.lookup x = some .local ∨ ((c.top || c.oc.contains x) = true ∧ sc.names.lookup x = some .cell)
section
variable {c : C0} {N : List Str} {sc : Scope} {e value : Expr} {es : List Expr} {js ks : List Nat} {mg : D → En → Option En} {mr : List D → En → Option En} {pos p1 p2 : Pos} {i j n k : Nat} {x : Str} {me mi : ME} {K : Frag} {W : WX}
theorem Sto.loc {X : Cx} (h : Sto c sc x) (I : In c N sc X) : Loc X.env.scope x := by
  rw [I.sc]
  rcases h with h | ⟨_, h⟩
  · exact .inl h
  · exact .inr h
theorem Sto.vis (h : Sto c sc x) : Vis sc x := by
  rcases h with h | ⟨_, h⟩
  · exact .inl h
  · exact .inr (.inl h)
theorem Sto.fn {X : Cx} (h : Sto c sc x) (I : In c N sc X) : X.fn x = true ∨ X.env.scope.names.lookup x = some .local := by
  rw [I.sc]
  rcases h with h | ⟨h, _⟩
  · exact .inr h
  · rcases Bool.or_eq_true _ _ ▸ h with h | h
    · rw [I.fn h]; exact .inl rfl
    · exact .inl (I.oc _ h)
theorem jtg_name (nd : N.Nodup) (hN : N[i]? = some x) (hs : Sto c sc x) : JTg c N sc (.Name x pos) [i] (setv i) :=
  ⟨_, fun X I => pg_name (by rw [I.N]; exact nd) (by rw [I.N]; exact hN) (hs.loc I) (hs.fn I), sgt_name⟩
theorem jtgs_nil : JTgs c N sc [] [] tgNil := ⟨_, fun _ _ => pgs_nil, sgts_nil⟩
theorem jtgs_cons (h : JTg c N sc e js mg) (k : JTgs c N sc es ks mr) (hs : ∀ env, (assignEach (e :: es) env).map (·.2) = assign e env :: (assignEach es env).map (·.2) := by intros; rfl) : JTgs c N sc (e :: es) (js ++ ks) (tgCons mg mr) := by
  obtain ⟨g, h1, h2⟩ := h
  obtain ⟨u, k1, k2⟩ := k
  exact ⟨_, fun X I => pgs_cons (h1 X I) (k1 X I) (hs _), sgts_cons h2 k2⟩
theorem jtg_tup (h : JTgs c N sc es js mr) (hc : c.cm = true := by rfl) (hn : ∀ env, (assignEach es env).length = n := by intros; rfl) (hst : ∀ env, (assignEach es env).findIdx? (·.1) = none := by intros; rfl) : JTg c N sc (.Tuple es k pos) js (tgTup n mr) := by
  obtain ⟨u, k1, k2⟩ := h
  refine ⟨gTup c.K n u, fun X I => ?_, sgt_tup k2⟩
  have q := pg_tup (k := k) (pos := pos) (I.calm hc) (k1 X I) (hn _) (hst _)
  rw [I.K] at q
  exact q
theorem ss_asg {te : TE} {g : TG} (h : Sd K W te me) (k : SgT K js g mg) : SS K W (tAsg te g) (asgS me mg) := fun B σ H ρ α S D m Dn h' x =>
  h B σ H ρ α S _ _ m _ (fun v d B' H' α' A r q => by
    obtain ⟨ρ', e, q⟩ := q
    exact k B' σ H' ρ α' v d ρ' (S.step A) r e _ fun σ' S' _ _ => h'.nx B' σ' H' ρ' α' A S' q) (x.sx S)
theorem js_set (nd : N.Nodup) (hN : N[i]? = some x) (hs : Sto c sc x) (h : JE c N sc e me) (hw : ∀ env, swapsWith e (some (.Name x p1)) pos.line env = pure false := by intros; rfl) : JS c N sc (.Assign [.Name x p1] e pos) (asgS me (setv i)) := by
  obtain ⟨t, h1, h2⟩ := h
  exact ⟨_, fun X W I T => ps_set (by rw [I.N]; exact nd) (by rw [I.N]; exact hN) (hs.loc I) (h1 X W I T) (hw _) (hs.fn I), fun W => ss_asg (h2 W) sgt_name⟩
theorem js_asg (h : JE c N sc value me) (g : JTg c N sc e js mg) (hs : ∀ env, swapsWithSole [e] value pos.line env = pure false := by intros; rfl) (hw : ∀ env, swappedStores [e] value env = pure none := by intros; rfl)
    (h1 : ∀ env, (assignEach [e] env).map (·.2) = [assign e env] := by intros; rfl) : JS c N sc (.Assign [e] value pos) (asgS me mg) := by
  obtain ⟨t, a1, a2⟩ := h
  obtain ⟨u, b1, b2⟩ := g
  exact ⟨_, fun X W I T => ps_asg (a1 X W I T) (b1 X I) (hs _) (hw _) (h1 _), fun W => ss_asg (a2 W) b2⟩
end
def augS (g : D → D → Option D) (i : Nat) (me : ME) : MS := fun ρ α D => ∃ d, ρ[i]? = some (some d) ∧ me ρ α (fun e α1 => oq (g d e) fun z => D.nx (ρ.set i (some z)) α1) (fun x α1 => D.ex x ρ α1)
section
variable {c : C0} {N : List Str} {sc : Scope} {e : Expr} {pos p1 : Pos} {x : Str} {me : ME} {g : D → D → Option D}
/-- a, b = x, y -/
def parS (i j : Nat) (ml : ML) : MS := fun ρ α D => ml ρ α (fun ds α1 => ∃ d e, ds = [d, e] ∧ D.nx ((ρ.set i (some d)).set j (some e)) α1) (fun x α1 => D.ex x ρ α1)
theorem js_aug {op : Operator} {i : Nat} (nd : N.Nodup) (ho : OpD c.K (In c N sc) (inplaceOp op) g) (h : JE c N sc e me) (hN : N[i]? = some x := by rfl) (hs : Sto c sc x := by first | exact Or.inl rfl | exact Or.inr ⟨rfl, rfl⟩) : JS c N sc (.AugAssign (.Name x p1) op e pos) (augS g i me) := by
  obtain ⟨r, h1, h2⟩ := ho.ex
  obtain ⟨t, a1, a2⟩ := h
  refine ⟨_, fun X W I T => ps_aug (by rw [I.N]; exact nd) (by rw [I.N]; exact hN) (hs.loc I) (a1 X W I T) (h1 X I) (hs.fn I), fun W B σ H ρ α S D m Dn h' x => ?_⟩
  obtain ⟨d, e0, m⟩ := m
  obtain ⟨v, g1, g2⟩ := S.val i d e0
  refine ⟨v, g1, a2 W B σ H ρ α S _ _ m _ (fun w d1 B1 H1 α1 A1 r1 m => ?_) (x.sx S)⟩
  obtain ⟨z, hz, m⟩ := m
  refine h2 B1 H1 v w d d1 z A1.bs.bk (.vis (g2.mono A1.sub)) (.vis r1) hz _ fun y H2 s2 r2 => ?_
  have A2 := A1.trans S.bs (Af.of_sub A1.bs s2)
  exact h'.nx _ _ _ _ _ A2 ((S.step A2).set r2) m
end
structure MuD (K : Frag) (XS : Cx → Prop) (id : String) (f : List D → List D → Option (D × List D)) : Prop where
  ex : ∃ r : V → List V → Hp → VK → Prop, (∀ X, XS X → MtR X id r) ∧ ∀ (B : Addr → Bool) (H : Hp) (l : Addr) (vs : List V) (ds : List D) (us : List V) (as : List D) (z : D) (ds' : List D),
    (∀ a, B a = true → ∃ o, H a = some o) → B l = true → H l = some (.lst vs) → RpL K (hide B H) vs ds → RpL K (hide B H) us as → f ds as = some (z, ds') →
    ∀ Q : VK, (∀ y vs', RpL K (hide B H) vs' ds' → Rp K (hide B H) y z → Q y (upd H l (.lst vs'))) → r (.ref l) us H Q
/-- a cell that holds a list -/
def cellL (α : AH) (o : D) (Q : Addr → List D → Prop) : Prop := ∃ a ds, o = dref a ∧ α a = some (.list ds) ∧ Q a ds
/-- vs: are the arguments read through their cells? -/
def mapV (α : AH) : List D → Option (List D)
  | [] => some []
  | d :: ds => (vw α d).bind fun z => (mapV α ds).map fun r => z :: r
def mutK (f : List D → List D → Option (D × List D)) (mo : ME) (ma : ML) : ME := fun ρ α Q E => mo ρ α (fun o α1 => cellL α1 o fun _ _ => ma ρ α1 (fun as α2 => cellL α2 o fun a ds => oq (f ds as) fun z => Q z.1 (aset α2 a (.list z.2))) E) E
section
variable {c : C0} {N : List Str} {sc : Scope} {e e2 o : Expr} {es : List Expr} {pos p1 p2 p3 : Pos} {i : Nat} {x m : Str} {me mi mo : ME} {ma : ML} {K : Frag} {W : WX} {id : String} {f : List D → List D → Option (D × List D)} {r : V → List V → Hp → VK → Prop}
theorem Bs.list {B : Addr → Bool} {H : Hp} {α : AH} {l : Addr} {ds : List D} (S : Bs K B H α) (h : α l = some (.list ds)) : B l = true ∧ ∃ vs, H l = some (.lst vs) ∧ RpL K (hide B H) vs ds := by
  obtain ⟨h1, h2⟩ := S.cel l _ h
  refine ⟨h1, ?_⟩
  generalize ez : PyData.list ds = z at h2
  generalize eo : H l = o at h2
  cases h2 with
  | own h =>
    subst ez
    exact h
  | obj h => cases ez
theorem dref_inj {a b : Addr} (h : dref a = dref b) : a = b := by
  have e1 := List.cons.inj (PyData.dict.inj h)
  have e2 : PyData.int (Int.ofNat a) = PyData.int (Int.ofNat b) := congrArg Prod.snd e1.1
  exact Int.ofNat.inj (PyData.int.inj e2)
theorem sd_mut {to : TE} {ta : TA} (ho : Sd K W to mo) (h : SA K W ta ma) (hr : ∀ (B : Addr → Bool) (H : Hp) (l : Addr) (vs : List V) (ds : List D) (us : List V) (as : List D) (z : D) (ds' : List D),
    (∀ a, B a = true → ∃ o, H a = some o) → B l = true → H l = some (.lst vs) → RpL K (hide B H) vs ds → RpL K (hide B H) us as → f ds as = some (z, ds') →
    ∀ Q : VK, (∀ y vs', RpL K (hide B H) vs' ds' → Rp K (hide B H) y z → Q y (upd H l (.lst vs'))) → r (.ref l) us H Q) : Sd K W (tBM K "list" r to ta) (mutK f mo ma) := fun B σ H ρ α S Qm Em m Q q x => by
  refine ho B σ H ρ α S _ Em m _ (fun v o B1 H1 α1 A1 r1 m => ?_) x
  obtain ⟨a, ds, rfl, e1, m⟩ := m
  obtain ⟨b1, vs, g1, g2⟩ := A1.bs.list e1
  have hv := r1.cell
  subst hv
  refine ⟨.inl ⟨rfl, vs, .inl (.inl g1)⟩, ?_⟩
  refine h B1 σ H1 ρ α1 (S.step A1) _ Em m _ (fun us as B2 H2 α2 A2 ra m => ?_) (x.after S.bs A1)
  obtain ⟨a', ds', ea, e2, z, hz, m⟩ := m
  have ea' := dref_inj ea
  subst ea'
  obtain ⟨b2, vs', g3, g4⟩ := A2.bs.list e2
  obtain ⟨z1, z2⟩ := z
  refine hr B2 H2 a vs' ds' us as z1 z2 A2.bs.bk b2 g3 g4 ra hz _ fun y ws k1 k2 => ?_
  have w := Af.write (o := .lst ws) (c := .list z2) A2.bs e2 (.own ⟨_, rfl, k1⟩)
  exact q y z1 B2 _ _ ((A1.trans S.bs A2).trans S.bs w) (k2.mono w.sub) m
theorem je_mut (ho : MuD c.K (In c N sc) id f) (slot : Slot "list" m id) (hty : typeOf (.builtin id) = pure (.type "method_descriptor")) (h1 : JE c N sc o mo) (h : JL c N sc (e :: es) ma)
    (hbase : ∀ env, attributeBase o m env (eval o env) = eval o env := by intros; rfl)
    (hfew : ∀ env, ((backTo p3 (starEach (e :: es) env)).all (fun x => !x.1) && (backToKw p3 (keywordEach [] env)).all (fun x => x.1.isSome) && decide ((e :: es).length + ([] : List Keyword).length + (if ([] : List Keyword).isEmpty then 0 else 1) < 30)) = true := by intros; rfl)
    (hline : (p2.endLine == p3.line) = true := by rfl) (hs : ∀ env, starEach (e :: es) env = (false, eval e env) :: starEach es env := by intros; rfl) (hplain : ∀ env, (backTo p3 (starEach es env)).any (·.1) = false := by intros; rfl) :
    JE c N sc (.Call (.Attribute o m p2) (e :: es) [] p3) (mutK f mo ma) := by
  obtain ⟨t, a1, a2⟩ := h
  obtain ⟨u, b1, b2⟩ := h1
  obtain ⟨r, hr1, hr2⟩ := ho.ex
  refine ⟨fun W => tBM c.K "list" r (u W) (t W), fun X W I T => ?_, fun W => sd_mut (b2 W) (a2 W) hr2⟩
  have q := pe_bm (cpos := p3) (apos := p2) PySem.F.plainAttrs_list slot hty (hr1 X I) (b1 X W I T) (a1 X W I T) (hbase _) (hfew _) hline (hs _) (hplain _)
  rw [I.K] at q
  exact q
def muAppend (ds as : List D) : Option (D × List D) := match as with
  | [d] => if ds.length < 100000 then some (.none, ds ++ [d]) else none
  | _ => none
theorem mu_append {XS : Cx → Prop} : MuD K XS "list.append" muAppend := ⟨_, fun X _ => mt_append, fun B H l vs ds us as z ds' bk bl hl r ra e Q q => by
  unfold muAppend at e
  split at e
  · rename_i d
    split at e
    · rename_i hn
      cases e
      cases ra with
      | cons r1 r2 =>
        cases r2
        exact ⟨l, vs, _, rfl, rfl, hl, Nat.lt_of_lt_of_le (by rw [r.length]; exact hn) (by decide), q _ _ (r.append (.cons r1 .nil)) .non⟩
    · cases e
  · cases e⟩
/-- o[k] = e, o a list that changes -/
def setiS (me mo mi : ME) : MS := fun ρ α D => me ρ α (fun d α1 => mo ρ α1 (fun o α2 => mi ρ α2 (fun k α3 => cellL α3 o fun a ds => ∃ i, k = .int i ∧ oq (ixN ds.length i) fun j => D.nx ρ (aset α3 a (.list (ds.set j d)))) (fun x α1 => D.ex x ρ α1)) (fun x α1 => D.ex x ρ α1)) (fun x α1 => D.ex x ρ α1)
theorem ss_seti {te to ti : TE} (h : Sd K W te me) (ho : Sd K W to mo) (hi : Sd K W ti mi) : SS K W (tAsg te (gSub to ti rSetL)) (setiS me mo mi) := fun B σ H ρ α S D m Dn h' x => by
  refine h B σ H ρ α S _ _ m _ (fun v d B1 H1 α1 A1 r1 m => ?_) (x.sx S)
  have S1 := S.step A1
  refine ho B1 σ H1 ρ α1 S1 _ _ m _ (fun w o B2 H2 α2 A2 r2 m => ?_) ((x.sx S).after S.bs A1)
  have A12 := A1.trans S.bs A2
  refine hi B2 σ H2 ρ α2 (S.step A12) _ _ m _ (fun y k B3 H3 α3 A3 r3 m => ?_) ((x.sx S).after S.bs A12)
  obtain ⟨a, ds, rfl, e, i, rfl, j, hj, m⟩ := m
  obtain ⟨b1, vs, g1, g2⟩ := A3.bs.list e
  have hw := r2.cell
  subst hw
  refine ⟨a, vs, i, j, rfl, r3.inti, g1, by rw [g2.length]; exact hj, ?_⟩
  have w := Af.write (o := .lst (vs.set j v)) (c := .list (ds.set j d)) A3.bs e (.own ⟨_, rfl, g2.set (r1.mono (A2.sub.trans A3.sub)) j⟩)
  have A := (A12.trans S.bs A3).trans S.bs w
  exact h'.nx _ _ _ _ _ A (S.step A) m
theorem js_seti (h : JE c N sc e me) (ho : JE c N sc o mo) (hi : JE c N sc e2 mi)
    (ha : ∀ env v, assign (.Subscript o e2 p2) env v = (do
      let ov ← holding [v] (eval o env)
      let iv ← holding [v, ov] (eval e2 env)
      standAt p2
      holding [v, ov, iv] (setItem ov iv v)
      release [v, ov, iv] []) := by intros; rfl)
    (hs : ∀ env, swapsWithSole [.Subscript o e2 p2] e pos.line env = pure false := by intros; rfl) (hw : ∀ env, swappedStores [.Subscript o e2 p2] e env = pure none := by intros; rfl)
    (h1 : ∀ env, (assignEach [.Subscript o e2 p2] env).map (·.2) = [assign (.Subscript o e2 p2) env] := by intros; rfl) :
    JS c N sc (.Assign [.Subscript o e2 p2] e pos) (setiS me mo mi) := by
  obtain ⟨t, a1, a2⟩ := h
  obtain ⟨w, d1, d2⟩ := ho
  obtain ⟨u, b1, b2⟩ := hi
  exact ⟨_, fun X W I T => ps_asg (a1 X W I T) (pg_sub (d1 X W I T) (b1 X W I T) set_list (ha _)) (hs _) (hw _) (h1 _), fun W => ss_seti (a2 W) (d2 W) (b2 W)⟩
end
end Hz
namespace Hz
open PySem L2
/-- what is walked: its data, what must stay so while it is walked -/
abbrev MI := En → AH → (List D → (AH → Prop) → AH → Prop) → QX → Prop
def ItOk (K : Frag) (J : It) (G : AH → Prop) (B : Addr → Bool) (H : Hp) (ds : List D) : Prop := ∀ B' H' α', Sub (hide B H) (hide B' H') → Bs K B' H' α' → G α' →
  (∀ (i : Nat) d, ds[i]? = some d → J.go i H' ∧ ∀ x H'', J.yld i H' x H'' → Sub H' H'' ∧ Rp K (hide B' H'') x d) ∧ J.stop ds.length H'
def SI (K : Frag) (W : WX) (wi : TI) (m : MI) : Prop :=
  ∀ B σ H ρ α, SR K B σ H ρ α → ∀ Qm Em, m ρ α Qm Em → ∀ R : It → Hp → Prop, (∀ J ds G B' H' α', Af K B H α B' H' α' → ItOk K J G B' H' ds → Qm ds G α' → R J H') → SX K W B σ H α Em → wi σ H R
def JI (c : C0) (N : List Str) (sc : Scope) (tg iter : Expr) (m : MI) : Prop := ∃ wi : WX → TI, (∀ X W, In c N sc X → Takes X W → PI X tg iter (wi W)) ∧ ∀ W, SI c.K W (wi W) m
def listK (m : ME) : MI := fun ρ α Q E => m ρ α (fun d α1 => ∃ ds, vw α1 d = some (.list ds) ∧ Q ds (fun α' => vw α' d = some (.list ds)) α1) E
def tupleK (m : ME) : MI := fun ρ α Q E => m ρ α (fun d α1 => ∃ ds, d = .tuple ds ∧ Q ds (fun _ => True) α1) E
/-- lo, lo + 1, .., n of them -/
def nums (lo : Int) : Nat → List D
  | 0 => []
  | n + 1 => .int lo :: nums (lo + 1) n
theorem nums_length : ∀ (n : Nat) (lo : Int), (nums lo n).length = n
  | 0, _ => rfl
  | n + 1, lo => by
    show (nums (lo + 1) n).length + 1 = n + 1
    rw [nums_length n]
theorem nums_get : ∀ (n : Nat) (lo : Int) (i : Nat) (d : D), (nums lo n)[i]? = some d → i < n ∧ d = .int (lo + i)
  | 0, _, i, d, h => by simp [nums] at h
  | n + 1, lo, 0, d, h => by
    simp [nums] at h
    exact ⟨by omega, by rw [← h]; simp⟩
  | n + 1, lo, i + 1, d, h => by
    have h' : (nums (lo + 1) n)[i]? = some d := h
    obtain ⟨a, b⟩ := nums_get n (lo + 1) i d h'
    refine ⟨by omega, ?_⟩
    rw [b]
    congr 1
    omega
def rangeK1 (m : ML) : MI := fun ρ α Q E => m ρ α (fun ds α1 => ∃ n : Int, ds = [.int n] ∧ (-(2 ^ 62) ≤ n ∧ n < 2 ^ 62) ∧ Q (nums 0 n.toNat) (fun _ => True) α1) E
def rangeK2 (m : ML) : MI := fun ρ α Q E => m ρ α (fun ds α1 => ∃ a b : Int, ds = [.int a, .int b] ∧ (-(2 ^ 62) ≤ a ∧ a < 2 ^ 62 ∧ -(2 ^ 62) ≤ b ∧ b < 2 ^ 62) ∧ Q (nums a (b - a).toNat) (fun _ => True) α1) E
section
variable {c : C0} {N : List Str} {sc : Scope} {e a b tg : Expr} {pos p : Pos} {me : ME} {ma : ML} {K : Frag} {W : WX}
theorem si_list {te : TE} (h : Sd K W te me) : SI K W (iList K te) (listK me) := fun B σ H ρ α S Qm Em m R q x => by
  refine h B σ H ρ α S _ Em m _ (fun v d B1 H1 α1 A r m => ?_) x
  obtain ⟨ds, hd, m⟩ := m
  cases r with
  | lst hs rr =>
    cases hd
    refine ⟨_, rfl, ⟨_, sub_l (hide_sub B1 H1) hs⟩, q _ ds _ B1 H1 α1 A (fun B' H' α' sb bs g => ⟨fun i d hi => ?_, ?_⟩) m⟩
    · obtain ⟨v, g1, g2⟩ := rr.get' hi
      refine ⟨⟨_, v, sub_l ((sb.trans (hide_sub B' H'))) hs, g1⟩, fun x H'' y => ?_⟩
      obtain ⟨rfl, y⟩ := y
      refine ⟨Sub.refl _, ?_⟩
      have := y _ (sub_l (sb.trans (hide_sub B' _)) hs)
      rw [g1] at this
      cases this
      exact g2.mono sb
    · exact ⟨_, sub_l ((sb.trans (hide_sub B' H'))) hs, by rw [rr.length]; exact Nat.le_refl _⟩
  | @ref a =>
    obtain ⟨b1, vs, g1, g2⟩ := A.bs.list (show α1 a = some (.list ds) from hd)
    refine ⟨a, rfl, ⟨vs, .inl (.inl g1)⟩, q _ ds _ B1 H1 α1 A (fun B' H' α' sb bs g => ?_) m⟩
    obtain ⟨b2, us, k1, k2⟩ := bs.list (show α' a = some (.list ds) from g)
    refine ⟨fun i d hi => ?_, ⟨us, .inl (.inl k1), by rw [k2.length]; exact Nat.le_refl _⟩⟩
    obtain ⟨v, l1, l2⟩ := k2.get' hi
    refine ⟨⟨us, v, .inl (.inl k1), l1⟩, fun x H'' y => ?_⟩
    obtain ⟨rfl, y⟩ := y
    refine ⟨Sub.refl _, ?_⟩
    have := y _ (.inl (.inl k1))
    rw [l1] at this
    cases this
    exact l2
  | dct _ r =>
    cases r with
    | nil => cases hd
    | @cons k _ _ _ _ r1 r2 => cases k <;> cases hd
  | _ => cases hd
theorem si_tup {te : TE} (h : Sd K W te me) : SI K W (iTup K te) (tupleK me) := fun B σ H ρ α S Qm Em m R q x => by
  refine h B σ H ρ α S _ Em m _ (fun v d B1 H1 α1 A r m => ?_) x
  obtain ⟨ds, rfl, m⟩ := m
  cases r with
  | tup hs rr _ =>
    refine ⟨_, rfl, ⟨_, sub_t (hide_sub B1 H1) hs⟩, q _ ds _ B1 H1 α1 A (fun B' H' α' sb bs g => ⟨fun i d hi => ?_, ?_⟩) m⟩
    · obtain ⟨v, g1, g2⟩ := rr.get' hi
      refine ⟨⟨_, v, sub_t ((sb.trans (hide_sub B' H'))) hs, g1⟩, fun x H'' y => ?_⟩
      obtain ⟨rfl, y⟩ := y
      refine ⟨Sub.refl _, ?_⟩
      have := y _ (sub_t (sb.trans (hide_sub B' _)) hs)
      rw [g1] at this
      cases this
      exact g2.mono sb
    · exact ⟨_, sub_t ((sb.trans (hide_sub B' H'))) hs, by rw [rr.length]; exact Nat.le_refl _⟩
theorem ji_list (h : JE c N sc e me) : JI c N sc tg e (listK me) := by
  obtain ⟨t, h1, h2⟩ := h
  refine ⟨fun W => iList c.K (t W), fun X W I T => ?_, fun W => si_list (h2 W)⟩
  have q := pi_list (tg := tg) (h1 X W I T)
  rw [I.K] at q
  exact q
theorem ji_tup (h : JE c N sc e me) : JI c N sc tg e (tupleK me) := by
  obtain ⟨t, h1, h2⟩ := h
  refine ⟨fun W => iTup c.K (t W), fun X W I T => ?_, fun W => si_tup (h2 W)⟩
  have q := pi_tup (tg := tg) (h1 X W I T)
  rw [I.K] at q
  exact q
theorem it_range {B : Addr → Bool} {H : Hp} {G : AH → Prop} {lo : Int} {n : Nat} : ItOk K (Itr lo n) G B H (nums lo n) := fun B' H' α' sb bk g => ⟨fun i d hi => by
  obtain ⟨a, b⟩ := nums_get n lo i d hi
  refine ⟨a, fun x H'' y => ?_⟩
  obtain ⟨rfl, rfl⟩ := y
  refine ⟨Sub.refl _, ?_⟩
  rw [b]
  exact .int _, by rw [nums_length]; exact Nat.le_refl n⟩
theorem ji_range1 (hg : sc.names.lookup ("range" : Str) = some .globalImplicit) (hm : c.mg ("range" : Str) = none) (h : JL c N sc [a] ma) (hs : ∀ env, starEach [a] env = [(false, eval a env)] := by intros; rfl) : JI c N sc tg (.Call (.Name "range" p) [a] [] pos) (rangeK1 ma) := by
  obtain ⟨t, h1, h2⟩ := h
  refine ⟨fun W => iRng1 (t W), fun X W I T => pi_range1 (I.gl hg) (by rw [I.mg]; exact hm) (h1 X W I T) (hs _), fun W B σ H ρ α S Qm Em m R q x => ?_⟩
  refine h2 W B σ H ρ α S _ Em m _ (fun vs ds B1 H1 α1 A r m => ?_) x
  obtain ⟨n, rfl, hb, m⟩ := m
  cases r with
  | cons r1 r2 =>
    cases r2
    cases r1
    exact ⟨n, rfl, hb.1, hb.2, q _ _ _ B1 H1 α1 A it_range m⟩
theorem ji_range2 (hg : sc.names.lookup ("range" : Str) = some .globalImplicit) (hm : c.mg ("range" : Str) = none) (h : JL c N sc [a, b] ma) (hs : ∀ env, starEach [a, b] env = [(false, eval a env), (false, eval b env)] := by intros; rfl) (hs2 : ∀ env, starEach [b] env = [(false, eval b env)] := by intros; rfl) : JI c N sc tg (.Call (.Name "range" p) [a, b] [] pos) (rangeK2 ma) := by
  obtain ⟨t, h1, h2⟩ := h
  refine ⟨fun W => iRng2 (t W), fun X W I T => pi_range2 (I.gl hg) (by rw [I.mg]; exact hm) (h1 X W I T) (hs _) (hs2 _), fun W B σ H ρ α S Qm Em m R q x => ?_⟩
  refine h2 W B σ H ρ α S _ Em m _ (fun vs ds B1 H1 α1 A r m => ?_) x
  obtain ⟨n, k, rfl, hb, m⟩ := m
  cases r with
  | cons r1 r2 =>
    cases r2 with
    | cons r2 r3 =>
      cases r3
      cases r1
      cases r2
      exact ⟨n, k, rfl, hb, q _ _ _ B1 H1 α1 A it_range m⟩
end
def forD (mg : D → En → Option En) (mb : MS) (G : AH → Prop) (D0 : Md) : List D → En → AH → Prop
  | [], ρ, α => G α ∧ D0.nx ρ α
  | d :: ds, ρ, α => G α ∧ oq (mg d ρ) fun ρ1 => mb ρ1 α { D0 with nx := fun ρ2 α2 => forD mg mb G D0 ds ρ2 α2, ct := fun ρ2 α2 => forD mg mb G D0 ds ρ2 α2, bk := D0.nx }
def forS (mi : MI) (mg : D → En → Option En) (mb : MS) : MS := fun ρ α D => mi ρ α (fun ds G α1 => forD mg mb G D ds ρ α1) (fun x α1 => D.ex x ρ α1)
def whileS (mt : MT) (mb : MS) : MS := fun ρ α D => ∃ V : Nat → En → AH → Prop, (∃ m, V m ρ α) ∧ ∀ m ρ α, V m ρ α → mt ρ α (fun b α1 => if b = true then mb ρ α1 { D with nx := fun ρ2 α2 => ∃ m', m' < m ∧ V m' ρ2 α2, ct := fun ρ2 α2 => ∃ m', m' < m ∧ V m' ρ2 α2, bk := D.nx } else D.nx ρ α1) (fun x α1 => D.ex x ρ α1)
section
variable {c : C0} {N : List Str} {sc : Scope} {e a b tg iter : Expr} {body : List Stmt} {pos p : Pos} {mi : MI} {mg : D → En → Option En} {mb : MS} {mt : MT} {K : Frag} {W : WX} {js : List Nat} {tb : TS} {wi : TI} {g : TG} {tt : TT}
theorem ss_for (hi : SI K W wi mi) (hg : SgT K js g mg) (hb : SS K W tb mb) : SS K W (tFor wi g tb) (forS mi mg mb) := fun B σ H ρ α S D0 m Dn h' x => by
  refine hi B σ H ρ α S _ _ m _ (fun J ds G B1 H1 α1 A ok m => ?_) (x.sx S)
  have S1 := S.step A
  have h1 := h'.after S.bs A
  have x1 := x.after S.bs A
  refine ⟨fun i n σ' H' => ∃ B' ρ' α', Af K B1 H1 α1 B' H' α' ∧ SR K B' σ' H' ρ' α' ∧ n = ds.length - i ∧ i ≤ ds.length ∧ forD mg mb G D0 (ds.drop i) ρ' α', ⟨ds.length, B1, ρ, α1, Af.refl S1.bs, S1, by simp, Nat.zero_le _, by simpa using m⟩, ?_⟩
  rintro i n σ' H' ⟨B', ρ', α', A', S', rfl, hle, hf⟩
  have hG : G α' := by
    cases q : ds.drop i with
    | nil => rw [q] at hf; exact hf.1
    | cons _ _ => rw [q] at hf; exact hf.1
  obtain ⟨go, stop⟩ := ok B' H' α' A'.sub S'.bs hG
  by_cases hlt : i < ds.length
  · obtain ⟨d, hd⟩ : ∃ d, ds[i]? = some d := ⟨_, List.getElem?_eq_getElem hlt⟩
    have dr : ds.drop i = d :: ds.drop (i + 1) := by
      rw [List.drop_eq_getElem_cons hlt]
      rw [List.getElem?_eq_getElem hlt] at hd
      cases hd
      rfl
    rw [dr] at hf
    obtain ⟨_, ρ2, e2, hf⟩ := hf
    obtain ⟨g1, g2⟩ := go i d hd
    refine .inr ⟨g1, fun σ2 H2 => ∃ B2 ρ2 α2, Af K B1 H1 α1 B2 H2 α2 ∧ SR K B2 σ2 H2 ρ2 α2 ∧ forD mg mb G D0 (ds.drop (i + 1)) ρ2 α2, fun σ2 H2 ⟨B2, ρ2, α2, k1, k2, k3⟩ => ⟨ds.length - (i + 1), by omega, B2, ρ2, α2, k1, k2, rfl, hlt, k3⟩, fun x H2 y => ?_⟩
    obtain ⟨sb, rx⟩ := g2 x H2 y
    have A2 := A'.trans S1.bs (Af.of_sub S'.bs sb)
    refine hg B' σ' H2 ρ' α' x d ρ2 (S'.step (Af.of_sub S'.bs sb)) rx e2 _ fun σ3 S3 _ _ => ?_
    have nx : ∀ B4 σ4 H4 ρ4 α4, Af K B' H2 α' B4 H4 α4 → SR K B4 σ4 H4 ρ4 α4 → forD mg mb G D0 (ds.drop (i + 1)) ρ4 α4 → ∃ B2 ρ2 α2, Af K B1 H1 α1 B2 H4 α2 ∧ SR K B2 σ4 H4 ρ2 α2 ∧ forD mg mb G D0 (ds.drop (i + 1)) ρ2 α2 := fun B4 σ4 H4 ρ4 α4 a s f => ⟨B4, ρ4, α4, A2.trans S1.bs a, s, f⟩
    refine hb B' σ3 H2 ρ2 α' S3 _ hf _ ⟨nx, fun v d B4 H4 α4 a r z => h1.rt v d B4 H4 α4 (A2.trans S1.bs a) r z, fun B4 σ4 H4 ρ4 α4 a s z => h1.nx B4 σ4 H4 ρ4 α4 (A2.trans S1.bs a) s z, nx⟩ (x1.after S1.bs A2)
  · have ei : i = ds.length := by omega
    subst ei
    rw [List.drop_length] at hf
    exact .inl ⟨stop, h1.nx B' σ' H' ρ' α' A' S' hf.2⟩
theorem js_for (hi : JI c N sc tg iter mi) (hg : JTg c N sc tg js mg) (hb : JB c N sc body mb) (hc : c.cm = true := by rfl) (hs : ∀ env x, foldedSetIterable iter env x = pure x := by intros; rfl) : JS c N sc (.For tg iter body [] pos) (forS mi mg mb) := by
  obtain ⟨wi, a1, a2⟩ := hi
  obtain ⟨g, b1, b2⟩ := hg
  obtain ⟨t, c1, c2⟩ := hb
  exact ⟨_, fun X W I T => ps_for I.po (I.calm hc) (a1 X W I T) (b1 X I) (c1 X W I T) (hs _), fun W => ss_for (a2 W) b2 (c2 W)⟩
theorem ss_while (ht : Stt K W tt mt) (hb : SS K W tb mb) : SS K W (tWhile tt tb) (whileS mt mb) := fun B σ H ρ α S D0 m Dn h' x => by
  obtain ⟨V, ⟨n, hn⟩, step⟩ := m
  refine ⟨fun n σ' H' => ∃ B' ρ' α', Af K B H α B' H' α' ∧ SR K B' σ' H' ρ' α' ∧ V n ρ' α', ⟨n, B, ρ, α, Af.refl S.bs, S, hn⟩, ?_⟩
  rintro n σ' H' ⟨B', ρ', α', A', S', hv⟩
  refine ht B' σ' H' ρ' α' S' _ _ (step n ρ' α' hv) _ (fun b B2 H2 α2 A2 m => ?_) ((x.after S.bs A').sx S')
  have A3 := A'.trans S.bs A2
  have S2 := S'.step A2
  cases b with
  | false => exact h'.nx B2 σ' H2 ρ' α2 A3 S2 m
  | true =>
    show ∃ N : L2.St → Hp → Prop, _
    refine ⟨fun σ2 H2 => ∃ m', m' < n ∧ ∃ B2 ρ2 α2, Af K B H α B2 H2 α2 ∧ SR K B2 σ2 H2 ρ2 α2 ∧ V m' ρ2 α2, fun σ2 H2 z => z, ?_⟩
    have nx : ∀ B4 σ4 H4 ρ4 α4, Af K B2 H2 α2 B4 H4 α4 → SR K B4 σ4 H4 ρ4 α4 → (∃ m', m' < n ∧ V m' ρ4 α4) → ∃ m', m' < n ∧ ∃ B2 ρ2 α2, Af K B H α B2 H4 α2 ∧ SR K B2 σ4 H4 ρ2 α2 ∧ V m' ρ2 α2 := fun B4 σ4 H4 ρ4 α4 a s ⟨m', hm, f⟩ => ⟨m', hm, B4, ρ4, α4, A3.trans S.bs a, s, f⟩
    exact hb B2 σ' H2 ρ' α2 S2 _ m _ ⟨nx, fun v d B4 H4 α4 a r z => h'.rt v d B4 H4 α4 (A3.trans S.bs a) r z, fun B4 σ4 H4 ρ4 α4 a s z => h'.nx B4 σ4 H4 ρ4 α4 (A3.trans S.bs a) s z, nx⟩ (x.after S.bs A3)
theorem js_while (ht : JT c N sc e mt) (hb : JB c N sc body mb) : JS c N sc (.While e body [] pos) (whileS mt mb) := by
  obtain ⟨t, a1, a2⟩ := ht
  obtain ⟨u, b1, b2⟩ := hb
  exact ⟨_, fun X W I T => ps_while I.po (a1 X W I T) (b1 X W I T), fun W => ss_while (a2 W) (b2 W)⟩
end
def wipeA {α : Type} (l : List (Option α)) : List Nat → List (Option α)
  | [] => l
  | v :: vs => (wipeA l vs).set v none
theorem wipe_eq (σ : L2.St) : ∀ vs, wipe σ vs = wipeA σ vs
  | [] => rfl
  | v :: vs => by
    show (wipe σ vs).set v none = _
    rw [wipe_eq σ vs]
    rfl
theorem wipeA_length {α : Type} (l : List (Option α)) : ∀ vs, (wipeA l vs).length = l.length
  | [] => rfl
  | v :: vs => by
    show ((wipeA l vs).set v none).length = _
    rw [List.length_set, wipeA_length l vs]
theorem wipeA_out {α : Type} {l : List (Option α)} {j : Nat} : ∀ {vs : List Nat}, j ∉ vs → (wipeA l vs)[j]? = l[j]?
  | [], _ => rfl
  | v :: vs, h => by
    rw [List.mem_cons, not_or] at h
    show ((wipeA l vs).set v none)[j]? = _
    rw [List.getElem?_set_ne (Ne.symm h.1), wipeA_out h.2]
theorem wipeA_in {α : Type} {l : List (Option α)} {j : Nat} : ∀ {vs : List Nat}, j ∈ vs → j < l.length → (wipeA l vs)[j]? = some none
  | v :: vs, h, hl => by
    show ((wipeA l vs).set v none)[j]? = _
    by_cases e : v = j
    · subst e
      rw [List.getElem?_set_self (by rw [wipeA_length]; exact hl)]
    · rw [List.getElem?_set_ne e]
      rcases List.mem_cons.mp h with z | z
      · exact absurd z.symm e
      · exact wipeA_in z hl
theorem wipeA_some {α : Type} {l : List (Option α)} {j : Nat} {x : α} {vs : List Nat} (h : (wipeA l vs)[j]? = some (some x)) : j ∉ vs ∧ l[j]? = some (some x) := by
  by_cases q : j ∈ vs
  · have hl : j < l.length := by
      have := (List.getElem?_eq_some_iff.mp h).1
      rwa [wipeA_length] at this
    rw [wipeA_in q hl] at h
    cases h
  · rw [wipeA_out q] at h
    exact ⟨q, h⟩
theorem SR.wipe {K : Frag} {B : Addr → Bool} {σ : L2.St} {H : Hp} {ρ : En} {α : AH} {vs : List Nat} (S : SR K B σ H ρ α) : SR K B (wipe σ vs) H (wipeA ρ vs) α := by
  refine ⟨by rw [wipe_eq, wipeA_length, wipeA_length]; exact S.len, fun i d e => ?_, S.bs⟩
  obtain ⟨a, b⟩ := wipeA_some e
  obtain ⟨v, c, d⟩ := S.val i d b
  exact ⟨v, by rw [wipe_eq, wipeA_out a]; exact c, d⟩
theorem wipe_back {σ σ2 : L2.St} {vs js : List Nat} (loc : ∀ j, j ∉ js → σ2[j]? = (wipe σ vs)[j]?) (hj : ∀ j, j ∈ js → j ∈ vs) (hl : σ2.length = (wipe σ vs).length) : wipe σ2 vs = wipe σ vs := by
  rw [wipe_eq, wipe_eq]
  rw [wipe_eq] at loc hl
  refine List.ext_getElem? fun j => ?_
  by_cases q : j ∈ vs
  · by_cases l : j < σ.length
    · rw [wipeA_in q l, wipeA_in q (by rw [hl, wipeA_length]; exact l)]
    · exact (List.getElem?_eq_none (by rw [wipeA_length, hl, wipeA_length]; omega)).trans (List.getElem?_eq_none (by rw [wipeA_length]; omega)).symm
  · rw [wipeA_out q, loc j fun z => q (hj j z)]
/-- a new thing that is hidden, no cell -/
theorem Af.hid {K : Frag} {B : Addr → Bool} {H : Hp} {α : AH} {l : Addr} {o : HO} (S : Bs K B H α) (h : H l = none) : Af K B H α (ins l B) (upd H l o) α := by
  have hs : Sub (hide B H) (hide (ins l B) (upd H l o)) := sub_ins h (hsub (Sub.new h))
  refine ⟨hs, ⟨fun a d q => ?_, fun a q => ?_⟩, fun b hb n => ⟨ins_of hb, ?_⟩, fun b n _ => n, fun b u g => ⟨u, Sub.new h _ _ g⟩⟩
  · obtain ⟨h1, h2⟩ := S.cel a d q
    obtain ⟨u, g⟩ := h2.ne
    refine ⟨ins_of h1, ?_⟩
    rw [g] at h2
    rw [Sub.new h _ _ g]
    exact h2.mono hs
  · rcases ins_or q with z | z
    · exact ⟨o, by rw [z, upd_same]⟩
    · obtain ⟨o', g⟩ := S.bk a z
      exact ⟨o', Sub.new h _ _ g⟩
  · rw [upd_ne (fun z => by
      obtain ⟨o', g⟩ := S.bk b hb
      rw [z, h] at g
      cases g)]
theorem Af.hidW {K : Frag} {B B' : Addr → Bool} {H H' : Hp} {α α' : AH} {l : Addr} {o : HO} (S : Bs K B H α) (a : Af K B H α B' H' α') (h : H l = none) (b : B' l = true) (n : α' l = none) : Af K B H α B' (upd H' l o) α' ∧ Sub (hide B' H') (hide B' (upd H' l o)) := by
  have hh : hide B' (upd H' l o) = hide B' H' := by
    funext x
    unfold hide
    by_cases q : x = l
    · rw [q, b]
      rfl
    · rw [upd_ne q]
  refine ⟨⟨by rw [hh]; exact a.sub, ⟨fun x d q => ?_, fun x q => ?_⟩, fun x hx nx => ?_, a.fr, fun x u g => ?_⟩, by rw [hh]; exact Sub.refl _⟩
  · rw [hh, upd_ne (fun z => by rw [z, n] at q; cases q)]
    exact a.bs.cel x d q
  · by_cases z : x = l
    · exact ⟨o, by rw [z, upd_same]⟩
    · rw [upd_ne z]
      exact a.bs.bk x q
  · have z : x ≠ l := fun z => by
      obtain ⟨o', g⟩ := S.bk x hx
      rw [z, h] at g
      cases g
    rw [upd_ne z]
    exact a.keep x hx nx
  · by_cases z : x = l
    · exact ⟨o, by rw [z, upd_same]⟩
    · rw [upd_ne z]
      exact a.grow x u g
/-- the hidden thing becomes a cell -/
theorem Af.hidC {K : Frag} {B B' : Addr → Bool} {H H' : Hp} {α α' : AH} {l : Addr} {d : D} (a : Af K B H α B' H' α') (h : H l = none) (b : B' l = true) (c : CellAt K (hide B' H') (H' l) d) : Af K B H α B' H' (aset α' l d) := by
  refine ⟨a.sub, ⟨fun x e q => ?_, a.bs.bk⟩, a.keep, fun x n hx => ?_, a.grow⟩
  · by_cases z : x = l
    · subst z
      rw [aset_same] at q
      cases q
      exact ⟨b, c⟩
    · rw [aset_ne z] at q
      exact a.bs.cel x e q
  · rw [aset_ne (fun z => by rw [z] at hx; exact hx h)]
    exact a.fr x n hx
abbrev NX : QX := fun _ _ => False
def yesK : MT := fun _ α Q _ => Q true α
def lcD (vs : List Nat) (mg : D → En → Option En) (mt : MT) (me : ME) (G : AH → Prop) (ρ : En) (Q : D → AH → Prop) : List D → List D → AH → Prop
  | [], acc, α => G α ∧ Q (.list acc) α
  | d :: ds, acc, α => G α ∧ oq (mg d (wipeA ρ vs)) fun ρ1 => mt ρ1 α (fun b α1 => if b = true then me ρ1 α1 (fun y α2 => acc.length < 100000 ∧ lcD vs mg mt me G ρ Q ds (acc ++ [y]) α2) NX else lcD vs mg mt me G ρ Q ds acc α1) NX
def lcK (vs : List Nat) (mi : MI) (mg : D → En → Option En) (mt : MT) (me : ME) : ME := fun ρ α Q E => mi ρ α (fun ds G α1 => lcD vs mg mt me G ρ Q ds [] α1) E
section
variable {K : Frag} {W : WX} {vs js : List Nat} {mi : MI} {mg : D → En → Option En} {mt : MT} {me : ME} {wi : TI} {g : TG} {tt : TT} {te : TE}
theorem sf_lc (hi : SI K W wi mi) (hg : SgT K js g mg) (hj : ∀ j, j ∈ js → j ∈ vs) (ht : Stt K (fun _ _ _ _ => False) tt mt) (he : Sd K (fun _ _ _ _ => False) te me) : Sf K W (tLc wi g tt te vs) (lcK vs mi mg mt me) := fun B σ H ρ α S Qm Em m Q q x => by
  refine hi B σ H ρ α S _ Em m _ (fun J ds G B1 H1 α1 A ok m => ?_) x
  have S1 := S.step A
  intro l hl
  refine ⟨fun i n H' => ∃ B' α' vacc acc, Af K B1 H1 α1 B' H' α' ∧ B' l = true ∧ α' l = none ∧ H' l = some (.lst vacc) ∧ RpL K (hide B' H') vacc acc ∧ n = ds.length - i ∧ i ≤ ds.length ∧ lcD vs mg mt me G ρ Qm (ds.drop i) acc α',
    ⟨ds.length, ins l B1, α1, [], [], Af.hid S1.bs hl, ins_self, S1.bs.new hl, upd_same, .nil, by simp, Nat.zero_le _, by simpa using m⟩, ?_⟩
  rintro i n H' ⟨B', α', vacc, acc, A', bl, nl, el, rl, rfl, hle, hf⟩
  have hG : G α' := by
    cases q : ds.drop i with
    | nil => rw [q] at hf; exact hf.1
    | cons _ _ => rw [q] at hf; exact hf.1
  obtain ⟨go, stop⟩ := ok B' H' α' A'.sub A'.bs hG
  by_cases hlt : i < ds.length
  · obtain ⟨d, hd⟩ : ∃ d, ds[i]? = some d := ⟨_, List.getElem?_eq_getElem hlt⟩
    have dr : ds.drop i = d :: ds.drop (i + 1) := by
      rw [List.drop_eq_getElem_cons hlt]
      rw [List.getElem?_eq_getElem hlt] at hd
      cases hd
      rfl
    rw [dr] at hf
    obtain ⟨_, ρ2, e2, hf⟩ := hf
    obtain ⟨g1, g2⟩ := go i d hd
    refine .inr ⟨g1, fun H2 => ∃ B2 α2 vacc acc, Af K B1 H1 α1 B2 H2 α2 ∧ B2 l = true ∧ α2 l = none ∧ H2 l = some (.lst vacc) ∧ RpL K (hide B2 H2) vacc acc ∧ lcD vs mg mt me G ρ Qm (ds.drop (i + 1)) acc α2,
      fun H2 ⟨B2, α2, va, ac, k1, k2, k3, k4, k5, k6⟩ => ⟨ds.length - (i + 1), by omega, B2, α2, va, ac, k1, k2, k3, k4, k5, rfl, hlt, k6⟩, fun x H2 y => ?_⟩
    obtain ⟨sb, rx⟩ := g2 x H2 y
    have Ab := Af.of_sub A'.bs sb
    have A2 := A'.trans S1.bs Ab
    have Sw : SR K B' (wipe σ vs) H2 (wipeA ρ vs) α' := (S1.step A2).wipe
    refine hg B' _ H2 _ α' x d ρ2 Sw rx e2 _ fun σ3 S3 loc len => ⟨wipe_back (fun j h => (loc j h).1) hj len, ?_⟩
    have el2 : H2 l = some (.lst vacc) := sb _ _ el
    refine ht B' σ3 H2 ρ2 α' S3 _ NX hf _ (fun b B3 H3 α3 A3 m => ?_) SX.never
    obtain ⟨b3, h3⟩ := A3.keep l bl nl
    have n3 : α3 l = none := A3.fr l nl (by rw [el2]; exact fun z => nomatch z)
    have r3 := rl.mono (hsub sb |>.trans A3.sub)
    have A13 := A2.trans S1.bs A3
    cases b with
    | false => exact ⟨B3, α3, vacc, acc, A13, b3, n3, h3.trans el2, r3, m⟩
    | true =>
      refine he B3 σ3 H3 ρ2 α3 (S3.step A3) _ NX m _ (fun v d4 B4 H4 α4 A4 r4 m => ?_) SX.never
      obtain ⟨b4, h4⟩ := A4.keep l b3 n3
      have e4 : H4 l = some (.lst vacc) := h4.trans (h3.trans el2)
      have n4 : α4 l = none := A4.fr l n3 (by rw [h3, el2]; exact fun z => nomatch z)
      have A14 := A13.trans S1.bs A4
      have ra := r3.mono A4.sub
      obtain ⟨w1, w2⟩ := Af.hidW (o := .lst (vacc ++ [v])) S1.bs A14 hl b4 n4
      exact ⟨vacc, e4, by rw [ra.length]; exact Nat.lt_of_lt_of_le m.1 (by decide), B4, α4, vacc ++ [v], acc ++ [d4], w1, b4, n4, upd_same, (ra.append (.cons r4 .nil)).mono w2, m.2⟩
  · have ei : i = ds.length := by omega
    subst ei
    rw [List.drop_length] at hf
    refine .inl ⟨stop, ?_⟩
    exact q l (.list acc) B' H' α' (A.trans S.bs (A'.hidC hl bl (.own ⟨vacc, el, rl⟩))) nl hf.2
theorem Sf.new {m : ME} (h : Sf K W te m) : Sd K W te (newK m) := fun B σ H ρ α S Qm Em mm Q q x => h B σ H ρ α S _ Em mm Q (fun l c' B' H' α' A hl qm => q _ _ _ H' _ A .ref (qm l hl)) x
end
/-- the contexts of a block within -/
abbrev C0.inO (c : C0) (oc : List Str) : C0 := { c with top := false, xc := none, oc := oc }
def JTs (c : C0) (N : List Str) (sc : Scope) (es : List Expr) (m : MT) : Prop := ∃ t : WX → TT, (∀ X W, In c N sc X → Takes X W → PTs X es (t W)) ∧ ∀ W, Stt c.K W (t W) m
section
variable {c : C0} {N : List Str} {sc scope : Scope} {elt tg iter : Expr} {ifs : List Expr} {pos p1 spos : Pos} {own : List (Str × Nat)} {js : List Nat} {mi : MI} {mg : D → En → Option En} {mt : MT} {me : ME} {i : Nat} {x : Str}
theorem In.blk {oc : List Str} (ho : (oc.all fun x => scope.names.lookup x == some .cell) = true) {X : Cx} (I : In c N sc X) (s : Shared) (H : Hp) (C : Addr) (cl : List (Str × Addr)) (fp : List Addr) : In (c.inO oc) N (relS scope sc) (X.blk s H scope (compEnvC scope cl C X.env) fp) :=
  ⟨I.P, I.w, I.K, I.mg, I.base, I.rm, I.un, I.N, by
    show relS scope X.env.scope = _
    rw [I.sc], I.calm, fun h => (by cases h), PassesOwn.never, fun h => (by cases h), fun _ _ _ h => (by cases h), fun x h => by
      have h' := List.all_eq_true.mp ho x (List.contains_iff_mem.mp h)
      exact h'⟩
theorem jts_nil : JTs c N sc [] yesK := ⟨_, fun _ _ _ _ => pts_nil, fun _ B σ H ρ α S Qm Em m Q q x => q true B H α (Af.refl S.bs) m⟩
theorem jts_one {e : Expr} (h : JT c N sc e mt) : JTs c N sc [e] mt := by
  obtain ⟨t, h1, h2⟩ := h
  exact ⟨t, fun X W I T => pts_one (h1 X W I T), h2⟩
theorem jf_lc {oc : List Str} (nd : N.Nodup) (hi : JI c N sc tg iter mi) (ok : BlkOk N sc scope own) (hg : JTg (c.inO oc) N (relS scope sc) tg js mg) (ht : JTs (c.inO oc) N (relS scope sc) ifs mt) (he : JE (c.inO oc) N (relS scope sc) elt me)
    (hj : (js.all fun j => (own.map (·.2)).contains j) = true := by rfl) (hc : c.cm = true := by rfl) (ho : (oc.all fun x => scope.names.lookup x == some .cell) = true := by rfl) (hs : ∀ env x, foldedSetIterable iter env x = pure x := by intros; rfl) : JF c N sc (.ListComp elt [⟨tg, iter, ifs, 0⟩] scope pos) (lcK (own.map (·.2)) mi mg mt me) := by
  obtain ⟨wi, a1, a2⟩ := hi
  obtain ⟨g, b1, b2⟩ := hg
  obtain ⟨tt, c1, c2⟩ := ht
  obtain ⟨te, d1, d2⟩ := he
  refine ⟨fun W => tLc (wi W) g (tt fun _ _ _ _ => False) (te fun _ _ _ _ => False) (own.map (·.2)), fun X W I T => pe_lc (I.calm hc) (by rw [I.N]; exact nd) (a1 X W I T) (by rw [I.N, I.sc]; exact ok) (fun s H C cl fp => b1 _ (I.blk ho s H C cl fp)) (fun s H C cl fp => c1 _ _ (I.blk ho s H C cl fp) takes0) (fun s H C cl fp => d1 _ _ (I.blk ho s H C cl fp) takes0) (hs _), fun W => sf_lc (a2 W) b2 (fun j h => ?_) (c2 _) (d2 _)⟩
  have := (List.all_eq_true.mp hj) j h
  simpa using this
end
/-- p parameters, n slots -/
def runF (p n : Nat) (m : MS) : Fm := fun ds α Q E => ds.length = p ∧ m (ds.map some ++ List.replicate (n - p) none) α { nx := fun _ α' => Q .none α', rt := Q, bk := fun _ _ => False, ct := fun _ _ => False, ex := fun x _ α' => E x α' }
/-- .. that leaves no cell behind but those that were there -/
def runP (p n : Nat) (m : MS) : Fm := fun ds α Q E => runF p n m ds α (fun d α' => Q d (arst α α')) (fun x α' => E x (arst α α'))
section
variable {K : Frag} {B : Addr → Bool} {H : Hp} {α : AH} {vs : List V} {ds : List D} {n : Nat}
theorem entry_sr (S : Bs K B H α) (r : RpL K (hide B H) vs ds) : SR K B (vs.map some ++ List.replicate n none) H (ds.map some ++ List.replicate n none) α := by
  refine ⟨by simp [r.length], fun i d e => ?_, S⟩
  rcases Nat.lt_or_ge i ds.length with hi | hi
  · rw [List.getElem?_append_left (by simpa using hi), List.getElem?_map] at e
    cases q : ds[i]? with
    | none => rw [q] at e; cases e
    | some d' =>
      rw [q] at e
      cases e
      obtain ⟨v, h1, h2⟩ := r.get' q
      refine ⟨v, ?_, h2⟩
      rw [List.getElem?_append_left (by rw [List.length_map, r.length]; exact hi), List.getElem?_map, h1]
      rfl
  · rw [List.getElem?_append_right (by simpa using hi), List.getElem?_replicate] at e
    split at e <;> cases e
theorem Fi.none_ {D : Md} {Q : VK} (h1 : ∀ B' H' ρ' α', Af K B H α B' H' α' → D.nx ρ' α' → Q .non H') (h2 : ∀ v d B' H' α', Af K B H α B' H' α' → Rp K (hide B' H') v d → D.rt d α' → Q v H') (h3 : ∀ ρ' α', ¬ D.bk ρ' α') (h4 : ∀ ρ' α', ¬ D.ct ρ' α') : Fi K B H α D { nx := fun _ H' => Q .non H', rt := Q } :=
  ⟨fun B' σ' H' ρ' α' a _ z => h1 B' H' ρ' α' a z, h2, fun _ _ _ ρ' α' _ _ z => (h3 ρ' α' z).elim, fun _ _ _ ρ' α' _ _ z => (h4 ρ' α' z).elim⟩
end
theorem spD_pure {K : Frag} {p n : Nat} {m : MS} {vs : List V} {H : Hp} {Q : VK} {E : XK} (h : spD K (runP p n m) vs H Q E) : spD K (runF p n m) vs H Q E := by
  obtain ⟨B, α, ds, Qm, Em, S0, r, mm, q, y⟩ := h
  refine ⟨B, α, ds, _, _, S0, r, mm, fun v d B' H' α' a r z => ?_, fun x B' α' cls d H' a xr z => ?_⟩
  · obtain ⟨B2, a2, s2⟩ := a.rst S0
    exact q v d B2 H' _ a2 (r.mono s2) z
  · obtain ⟨B2, a2, s2⟩ := a.rst S0
    exact y x B2 _ cls d H' a2 (xr.mono s2) z
end Hz
namespace Hz
open PySem L2
variable {c : C0} {N : List Str} {sc : Scope}
def okD : Nat → D → Bool
  | _, .none => true
  | _, .bool _ => true
  | _, .int _ => true
  | _, .str x => PyData.strOk x
  | k + 1, .list ds => ds.all (okD k)
  | k + 1, .tuple ds => ds.all (okD k)
  | _, _ => false
theorem okD_all {k : Nat} (h : ∀ d, okD k d = true → d.canLay0 = true ∧ d.depth ≤ k ∧ plain d = true) : ∀ ds : List D, ds.all (okD k) = true → PyData.canLayAll0 ds = true ∧ PyData.depthAll ds ≤ k ∧ plains ds = true
  | [], _ => ⟨rfl, Nat.zero_le _, rfl⟩
  | d :: ds, q => by
    have q' : okD k d = true ∧ ds.all (okD k) = true := by simpa using q
    obtain ⟨a1, a2, a3⟩ := h d q'.1
    obtain ⟨b1, b2, b3⟩ := okD_all h ds q'.2
    refine ⟨by simp [PyData.canLayAll0, a1, b1], ?_, by simp [plains, a3, b3]⟩
    show max d.depth (PyData.depthAll ds) ≤ k
    omega
theorem okD_ok : ∀ (k : Nat) (d : D), okD k d = true → d.canLay0 = true ∧ d.depth ≤ k ∧ plain d = true
  | k, .none, _ => ⟨rfl, by cases k <;> exact Nat.zero_le _, rfl⟩
  | k, .bool _, _ => ⟨rfl, by cases k <;> exact Nat.zero_le _, rfl⟩
  | k, .int _, _ => ⟨rfl, by cases k <;> exact Nat.zero_le _, rfl⟩
  | k, .str x, h => ⟨by cases k <;> exact h, by cases k <;> exact Nat.zero_le _, rfl⟩
  | 0, .list ds, h => by cases h
  | 0, .tuple ds, h => by cases h
  | k + 1, .list ds, h => by
    obtain ⟨a, b, c⟩ := okD_all (okD_ok k) ds h
    exact ⟨a, Nat.succ_le_succ b, c⟩
  | k + 1, .tuple ds, h => by
    obtain ⟨a, b, c⟩ := okD_all (okD_ok k) ds h
    exact ⟨a, Nat.succ_le_succ b, c⟩
  | 0, .dict _, h => by cases h
  | k + 1, .dict _, h => by cases h
theorem okD_shaped {k : Nat} {d : D} (h : okD k d = true) (hk : k ≤ 64) : SeqAt.shaped d = true ∧ plain d = true := by
  obtain ⟨a, b, e⟩ := okD_ok k d h
  exact ⟨by unfold SeqAt.shaped; simp [a]; omega, e⟩
theorem lst_new {K : Frag} {B : Addr → Bool} {H : Hp} {p : Addr} {vs : List V} {ds : List D} (bk : ∀ a, B a = true → ∃ o, H a = some o) (h : H p = none) (r : RpL K (hide B H) vs ds) : Sub H (upd H p (.lst vs)) ∧ Rp K (hide B (upd H p (.lst vs))) (.ref p) (.list ds) := by
  have bp : B p = false := by
    cases q : B p with
    | false => rfl
    | true => obtain ⟨o, e⟩ := bk p q; rw [h] at e; cases e
  exact ⟨Sub.new h, .lst (.inl (.inl (hide_of bp upd_same))) (r.mono (hsub (Sub.new h)))⟩
/-- t + u, its object known -/
def rCatX (K : Frag) : R2 := fun x y H Q => ∃ a b xs ys, x = .ref a ∧ y = .ref b ∧ SqT K H a xs ∧ SqT K H b ys ∧ xs.length + ys.length ≤ sizeLine ∧
  (xs = [] → Q (.ref b) H) ∧ (xs ≠ [] → ys = [] → Q (.ref a) H) ∧ (xs ≠ [] → ys ≠ [] → ∀ p o, ExT o → H p = none → Q (.ref p) (upd H p (.frz o (.tup (xs ++ ys)))))
theorem op_catX {X : Cx} : OpR X (binaryOp .Add) (rCatX X.K) := by
  intro pins s σ H x y v u Q I rx ry h
  obtain ⟨a, b, xs, ys, rfl, rfl, ha, hb, hz, q0, q1, q2⟩ := h
  cases rx
  cases ry
  obtain ⟨its, r1, p1, _⟩ := I.tuple ha
  obtain ⟨its2, r2, p2, _⟩ := I.tuple hb
  by_cases hx : xs = []
  · subst hx
    cases r1
    exact cat_tup0 p1 p2 ⟨.ref b, H, I, rfl, q0 rfl⟩
  · refine HT.cat_tup p1 p2 (fun z => hx (r1.nil_iff.mp z)) (fun z => ⟨.ref a, H, I, rfl, q1 hx (r2.nil_iff.mp z)⟩) (fun z => ?_) (by rw [← r1.length, ← r2.length]; exact hz)
    exact ⟨.ref s.heap.objs.size, _, tnew I (r1.append r2) (by rw [List.length_append]; exact hz), rfl, q2 hx (fun w => z (r2.nil_iff.mpr w)) _ _ ⟨rfl, rfl⟩ (I.hok.fresh (Nat.le_refl _))⟩
/-- list + list, whatever the lists are -/
def rCatL (K : Frag) : R2 := fun x y H Q => ∃ a b xs ys, x = .ref a ∧ y = .ref b ∧ SqL K H a xs ∧ SqL K H b ys ∧ xs.length + ys.length ≤ sizeLine ∧ ∀ p, H p = none → Q (.ref p) (upd H p (.lst (xs ++ ys)))
theorem op_catL {X : Cx} : OpR X (binaryOp .Add) (rCatL X.K) := by
  intro pins s σ H x y v u Q I rx ry h
  obtain ⟨l, b, xs, zs, rfl, rfl, hH, hB, hz, q⟩ := h
  cases rx
  cases ry
  obtain ⟨its, r, pl, z1⟩ := I.list hH
  obtain ⟨its2, r2, pl2, z2⟩ := I.list hB
  have l1 := r.length
  have l2 := r2.length
  obtain ⟨⟨cls, dd, data, sl⟩, ho, hc, n, hd⟩ := pl.isList
  obtain ⟨⟨cls2, dd2, data2, sl2⟩, ho2, hc2, n2, hd2⟩ := pl2.isList
  simp only at hc hd hc2 hd2
  subst hc hd hc2 hd2
  have e : its.toArray ++ its2.toArray = (its ++ its2).toArray := by simp
  refine concat_meets ⟨_, ho, rfl⟩ ⟨_, ho2, rfl⟩ noFill_list_add seq_list_add PySem.F.slot_list_add PySem.F.entry_list_add (PySem.F.args_list_add_2 _ _) (PyProof.Rows.list_addW l b its.toArray its2.toArray n n2 dd dd2 sl sl2 (by rw [List.size_toArray, List.size_toArray]; omega)) ⟨ho, ho2, ?_⟩
  rw [e]
  exact ⟨.ref _, _, I.lnew (t' := s.toks) (r.append r2) (by rw [List.length_append]; omega), rfl, q _ I.fresh⟩
def dAdd : D → D → Option D
  | .int a, .int b => some (.int (a + b))
  | .str a, .str b => if a.length + b.length ≤ 100000 then some (.str (a ++ b)) else none
  | .list a, .list b => if a.length + b.length ≤ 100000 then some (.list (a ++ b)) else none
  | .tuple a, .tuple b => if a.length + b.length ≤ 100000 then some (.tuple (a ++ b)) else none
  | _, _ => none
theorem o_add : OpD c.K (In c N sc) (binaryOp .Add) dAdd := by
  refine ⟨_, fun X I => by
    have h := OpR.or (X := X) op_add (OpR.or op_add_str (OpR.or op_catL op_catX))
    rw [I.K] at h
    exact h, fun B H x y d e z bk hx hy hz Q q => ?_⟩
  unfold dAdd at hz
  split at hz
  · cases hz
    exact .inl ⟨_, _, hx.int, hy.int, q _ H (Sub.refl H) (.int _)⟩
  · split at hz
    · rename_i hl
      cases hz
      exact .inr (.inl ⟨_, _, hx.str, hy.str, sz5 hl, q _ H (Sub.refl H) (.str _)⟩)
    · cases hz
  · split at hz
    · rename_i hl
      cases hz
      obtain ⟨a, xs, rfl, h1, r1⟩ := hx.list
      obtain ⟨b, ys, rfl, h2, r2⟩ := hy.list
      refine .inr (.inr (.inl ⟨a, b, xs, ys, rfl, rfl, h1, h2, by rw [r1.length, r2.length]; exact sz5 hl, fun p hp => ?_⟩))
      obtain ⟨s1, r3⟩ := lst_new bk hp (r1.append r2)
      exact q _ _ s1 r3
    · cases hz
  · split at hz
    · rename_i a b hl
      cases hz
      obtain ⟨a, xs, rfl, h1, r1⟩ := hx.tuple
      obtain ⟨b, ys, rfl, h2, r2⟩ := hy.tuple
      have sub : ∀ {w : Addr} {us : List V} {ds : List D}, Rs c.K B H (.ref w) (.tuple ds) → Rp c.K (hide B H) (.ref w) (.tuple ds) := fun h => by
        cases h with
        | vis h => exact h
      refine .inr (.inr (.inr ⟨a, b, xs, ys, rfl, rfl, h1, h2, by rw [r1.length, r2.length]; exact sz5 hl, fun e => ?_, fun _ e => ?_, fun _ _ p o ho hp => ?_⟩))
      · subst e
        cases r1
        exact q _ H (Sub.refl H) (sub (us := ys) hy)
      · subst e
        cases r2
        rw [List.append_nil] at q
        exact q _ H (Sub.refl H) (sub (us := xs) hx)
      · obtain ⟨s1, r3⟩ := tup_new bk ho hp (r1.append r2)
        exact q _ _ s1 r3
    · cases hz
  · cases hz
/-- list + list, a new list of the def's own -/
def dCat : D → D → Option D
  | .list a, .list b => if a.length + b.length ≤ 100000 then some (.list (a ++ b)) else none
  | _, _ => none
theorem of_cat : OpF c.K (In c N sc) (binaryOp .Add) dCat := by
  refine ⟨_, fun X I => by
    have h := op_catL (X := X)
    rw [I.K] at h
    exact h, fun B H x y d e z bk hx hy hz Q q => ?_⟩
  unfold dCat at hz
  split at hz
  · split at hz
    · rename_i hl
      cases hz
      obtain ⟨a, xs, rfl, h1, r1⟩ := hx.list
      obtain ⟨b, ys, rfl, h2, r2⟩ := hy.list
      refine ⟨a, b, xs, ys, rfl, rfl, h1, h2, by rw [r1.length, r2.length]; exact sz5 hl, fun p hp => ?_⟩
      exact q _ _ (Sub.new hp) hp (own_new hp (r1.append r2))
    · cases hz
  · cases hz
def dSub : D → D → Option D
  | .int a, .int b => some (.int (a - b))
  | _, _ => none
theorem o_sub : OpD c.K (In c N sc) (binaryOp .Sub) dSub := by
  refine ⟨_, fun X I => op_sub, fun B H x y d e z bk hx hy hz Q q => ?_⟩
  unfold dSub at hz
  split at hz
  · cases hz
    exact ⟨_, _, hx.int, hy.int, q _ H (Sub.refl H) (.int _)⟩
  · cases hz
/-- one factor below 2^64 -/
def dMul : D → D → Option D
  | .int a, .int b => if (-(2 ^ 64) < a ∧ a < 2 ^ 64) ∨ (-(2 ^ 64) < b ∧ b < 2 ^ 64) then some (.int (a * b)) else none
  | _, _ => none
theorem o_mul : OpD c.K (In c N sc) (binaryOp .Mult) dMul := by
  refine ⟨_, fun X I => op_mul, fun B H x y d e z bk hx hy hz Q q => ?_⟩
  unfold dMul at hz
  split at hz
  · split at hz
    · rename_i hc
      cases hz
      exact ⟨_, _, hx.int, hy.int, hc, q _ H (Sub.refl H) (.int _)⟩
    · cases hz
  · cases hz
def dMod : D → D → Option D
  | .int a, .int b => if 0 < b then some (.int (a % b)) else none
  | _, _ => none
theorem o_mod : OpD c.K (In c N sc) (binaryOp .Mod) dMod := by
  refine ⟨_, fun X I => op_mod, fun B H x y d e z bk hx hy hz Q q => ?_⟩
  unfold dMod at hz
  split at hz
  · split at hz
    · rename_i hc
      cases hz
      exact ⟨_, _, hx.int, hy.int, hc, q _ H (Sub.refl H) (.int _)⟩
    · cases hz
  · cases hz
/-- a divisor below 2^9000 -/
def dDiv : D → D → Option D
  | .int a, .int b => if 0 < b ∧ b < 2 ^ 80 then some (.int (a / b)) else none
  | _, _ => none
theorem o_div : OpD c.K (In c N sc) (binaryOp .FloorDiv) dDiv := by
  refine ⟨_, fun X I => op_fdivW, fun B H x y d e z bk hx hy hz Q q => ?_⟩
  unfold dDiv at hz
  split at hz
  · split at hz
    · rename_i hc
      cases hz
      exact ⟨_, _, hx.int, hy.int, wide_div (b := 80) hc.1 (by omega) (by decide) (by decide), q _ H (Sub.refl H) (.int _)⟩
    · cases hz
  · cases hz
def dPow : D → D → Option D
  | .int a, .int b => if 0 ≤ b ∧ b ≤ 1000000 ∧ a.natAbs < 2 ^ 64 then some (.int (a ^ b.toNat)) else none
  | _, _ => none
theorem o_pow : OpD c.K (In c N sc) (binaryOp .Pow) dPow := by
  refine ⟨_, fun X I => op_pow, fun B H x y d e z bk hx hy hz Q q => ?_⟩
  unfold dPow at hz
  split at hz
  · split at hz
    · rename_i hc
      cases hz
      exact ⟨_, _, hx.int, hy.int, hc, q _ H (Sub.refl H) (.int _)⟩
    · cases hz
  · cases hz
def dShl : D → D → Option D
  | .int a, .int b => if 0 ≤ b ∧ b ≤ 1000000 ∧ a.natAbs < 2 ^ 64 then some (.int (a * 2 ^ b.toNat)) else none
  | _, _ => none
def dShr : D → D → Option D
  | .int a, .int b => if 0 ≤ b then some (.int (a / 2 ^ b.toNat)) else none
  | _, _ => none
theorem o_shr : OpD c.K (In c N sc) (binaryOp .RShift) dShr := by
  refine ⟨_, fun X I => op_shr, fun B H x y d e z bk hx hy hz Q q => ?_⟩
  unfold dShr at hz
  split at hz
  · split at hz
    · rename_i hc
      cases hz
      exact ⟨_, _, hx.int, hy.int, hc, q _ H (Sub.refl H) (.int _)⟩
    · cases hz
  · cases hz
/-- data that are alike, in order -/
def okC (d e : D) : Bool := okD 60 d && okD 60 e && PySem.W.alike d e && (match d with
  | .none => false
  | _ => true)
theorem okC_all {d e : D} (h : okC d e = true) : okD 60 d = true ∧ okD 60 e = true ∧ PySem.W.alike d e = true ∧ d ≠ .none := by
  unfold okC at h
  simp only [Bool.and_eq_true] at h
  refine ⟨h.1.1.1, h.1.1.2, h.1.2, fun z => ?_⟩
  rw [z] at h
  cases h.2
def rCmpLt (K : Frag) : R2 := fun x y H Q => ∃ d e, Dp K H x d ∧ Dp K H y e ∧ okC d e = true ∧ Q (.bl (PySem.W.dataLt d e)) H
theorem op_cmpLt {X : Cx} (hu : X.A.units + 64 < cLine) : OpR X (compareOp .Lt) (rCmpLt X.K) := by
  intro pins s σ H x y v u Q I rx ry h
  obtain ⟨d, e, hd, he, ok, q⟩ := h
  obtain ⟨k1, k2, k3, k4⟩ := okC_all ok
  obtain ⟨as, r1⟩ := Dp.reads I d x v hd rx
  obtain ⟨bs, r2⟩ := Dp.reads I e y u he ry
  have z := (okD_ok 60 d k1).2.1
  exact PySem.W.lt_data r1 r2 k3 k4 (by omega) ⟨.bl _, H, I, rfl, q⟩
def dLt (d e : D) : Option D := match d, e with
  | .int a, .int b => some (.bool (decide (a < b)))
  | .str a, .str b => some (.bool (decide (a.cps.toList < b.cps.toList)))
  | d, e => if okC d e = true then some (.bool (PySem.W.dataLt d e)) else none
theorem o_lt : OpD c.K (In c N sc) (compareOp .Lt) dLt := by
  refine ⟨_, fun X I => by
    have h := OpR.or (X := X) op_lt (OpR.or op_lt_str (op_cmpLt I.u64))
    rw [I.K] at h
    exact h, fun B H x y d e z bk hx hy hz Q q => ?_⟩
  unfold dLt at hz
  split at hz
  · cases hz
    exact .inl ⟨_, _, hx.int, hy.int, q _ H (Sub.refl H) (.bl _)⟩
  · cases hz
    exact .inr (.inl ⟨_, _, hx.str, hy.str, q _ H (Sub.refl H) (.bl _)⟩)
  · split at hz
    · rename_i ok
      cases hz
      obtain ⟨k1, k2, k3, k4⟩ := okC_all ok
      exact .inr (.inr ⟨_, _, hx.rp.dp (okD_ok 60 _ k1).2.2, hy.rp.dp (okD_ok 60 _ k2).2.2, ok, q _ H (Sub.refl H) (.bl _)⟩)
    · cases hz
def rCmpGt (K : Frag) : R2 := fun x y H Q => ∃ d e, Dp K H x d ∧ Dp K H y e ∧ okC d e = true ∧ Q (.bl (PySem.W.dataLt e d)) H
theorem op_cmpGt {X : Cx} (hu : X.A.units + 64 < cLine) : OpR X (compareOp .Gt) (rCmpGt X.K) := by
  intro pins s σ H x y v u Q I rx ry h
  obtain ⟨d, e, hd, he, ok, q⟩ := h
  obtain ⟨k1, k2, k3, k4⟩ := okC_all ok
  obtain ⟨as, r1⟩ := Dp.reads I d x v hd rx
  obtain ⟨bs, r2⟩ := Dp.reads I e y u he ry
  have z := (okD_ok 60 d k1).2.1
  exact PySem.W.gt_data r1 r2 k3 k4 (by omega) ⟨.bl _, H, I, rfl, q⟩
def dGt (d e : D) : Option D := match d, e with
  | .int a, .int b => some (.bool (decide (b < a)))
  | .str a, .str b => some (.bool (decide (b.cps.toList < a.cps.toList)))
  | d, e => if okC d e = true then some (.bool (PySem.W.dataLt e d)) else none
theorem o_gt : OpD c.K (In c N sc) (compareOp .Gt) dGt := by
  refine ⟨_, fun X I => by
    have h := OpR.or (X := X) op_gt (OpR.or op_gt_str (op_cmpGt I.u64))
    rw [I.K] at h
    exact h, fun B H x y d e z bk hx hy hz Q q => ?_⟩
  unfold dGt at hz
  split at hz
  · cases hz
    exact .inl ⟨_, _, hx.int, hy.int, q _ H (Sub.refl H) (.bl _)⟩
  · cases hz
    exact .inr (.inl ⟨_, _, hx.str, hy.str, q _ H (Sub.refl H) (.bl _)⟩)
  · split at hz
    · rename_i ok
      cases hz
      obtain ⟨k1, k2, k3, k4⟩ := okC_all ok
      exact .inr (.inr ⟨_, _, hx.rp.dp (okD_ok 60 _ k1).2.2, hy.rp.dp (okD_ok 60 _ k2).2.2, ok, q _ H (Sub.refl H) (.bl _)⟩)
    · cases hz
def rCmpLtE (K : Frag) : R2 := fun x y H Q => ∃ d e, Dp K H x d ∧ Dp K H y e ∧ okC d e = true ∧ Q (.bl (!PySem.W.dataLt e d)) H
theorem op_cmpLtE {X : Cx} (hu : X.A.units + 64 < cLine) : OpR X (compareOp .LtE) (rCmpLtE X.K) := by
  intro pins s σ H x y v u Q I rx ry h
  obtain ⟨d, e, hd, he, ok, q⟩ := h
  obtain ⟨k1, k2, k3, k4⟩ := okC_all ok
  obtain ⟨as, r1⟩ := Dp.reads I d x v hd rx
  obtain ⟨bs, r2⟩ := Dp.reads I e y u he ry
  have z := (okD_ok 60 d k1).2.1
  exact PySem.W.le_data r1 r2 k3 k4 (by omega) ⟨.bl _, H, I, rfl, q⟩
def dLe (d e : D) : Option D := match d, e with
  | .int a, .int b => some (.bool (decide (a ≤ b)))
  | d, e => if okC d e = true then some (.bool (!PySem.W.dataLt e d)) else none
theorem o_le : OpD c.K (In c N sc) (compareOp .LtE) dLe := by
  refine ⟨_, fun X I => by
    have h := OpR.or (X := X) op_le (op_cmpLtE I.u64)
    rw [I.K] at h
    exact h, fun B H x y d e z bk hx hy hz Q q => ?_⟩
  unfold dLe at hz
  split at hz
  · cases hz
    exact .inl ⟨_, _, hx.int, hy.int, q _ H (Sub.refl H) (.bl _)⟩
  · split at hz
    · rename_i ok
      cases hz
      obtain ⟨k1, k2, k3, k4⟩ := okC_all ok
      exact .inr (⟨_, _, hx.rp.dp (okD_ok 60 _ k1).2.2, hy.rp.dp (okD_ok 60 _ k2).2.2, ok, q _ H (Sub.refl H) (.bl _)⟩)
    · cases hz
def rCmpGtE (K : Frag) : R2 := fun x y H Q => ∃ d e, Dp K H x d ∧ Dp K H y e ∧ okC d e = true ∧ Q (.bl (!PySem.W.dataLt d e)) H
theorem op_cmpGtE {X : Cx} (hu : X.A.units + 64 < cLine) : OpR X (compareOp .GtE) (rCmpGtE X.K) := by
  intro pins s σ H x y v u Q I rx ry h
  obtain ⟨d, e, hd, he, ok, q⟩ := h
  obtain ⟨k1, k2, k3, k4⟩ := okC_all ok
  obtain ⟨as, r1⟩ := Dp.reads I d x v hd rx
  obtain ⟨bs, r2⟩ := Dp.reads I e y u he ry
  have z := (okD_ok 60 d k1).2.1
  exact PySem.W.ge_data r1 r2 k3 k4 (by omega) ⟨.bl _, H, I, rfl, q⟩
def dGe (d e : D) : Option D := match d, e with
  | .int a, .int b => some (.bool (decide (b ≤ a)))
  | d, e => if okC d e = true then some (.bool (!PySem.W.dataLt d e)) else none
theorem o_ge : OpD c.K (In c N sc) (compareOp .GtE) dGe := by
  refine ⟨_, fun X I => by
    have h := OpR.or (X := X) op_ge (op_cmpGtE I.u64)
    rw [I.K] at h
    exact h, fun B H x y d e z bk hx hy hz Q q => ?_⟩
  unfold dGe at hz
  split at hz
  · cases hz
    exact .inl ⟨_, _, hx.int, hy.int, q _ H (Sub.refl H) (.bl _)⟩
  · split at hz
    · rename_i ok
      cases hz
      obtain ⟨k1, k2, k3, k4⟩ := okC_all ok
      exact .inr (⟨_, _, hx.rp.dp (okD_ok 60 _ k1).2.2, hy.rp.dp (okD_ok 60 _ k2).2.2, ok, q _ H (Sub.refl H) (.bl _)⟩)
    · cases hz
def dEqB (d e : D) : Option Bool := match d, e with
  | .str a, .str b => some (a == b)
  | _, _ => if okD 60 d = true ∧ okD 60 e = true then some (PyData.eqv d e) else none
def dEq (d e : D) : Option D := (dEqB d e).map .bool
def dNe (d e : D) : Option D := (dEqB d e).map fun b => .bool (!b)
theorem o_eq : OpD c.K (In c N sc) (compareOp .Eq) dEq := by
  refine ⟨_, fun X I => by
    have h := OpR.or (X := X) op_eq (op_eqD I.u64)
    rw [I.K] at h
    exact h, fun B H x y d e z bk hx hy hz Q q => ?_⟩
  unfold dEq dEqB at hz
  split at hz
  · simp at hz
    subst hz
    refine .inl ⟨?_, ?_⟩
    · rw [hx.str, hy.str]; rfl
    · rw [hx.str, hy.str, dec_str]
      exact q _ H (Sub.refl H) (.bl _)
  · split at hz
    · rename_i ho
      simp at hz
      subst hz
      obtain ⟨a1, a2⟩ := okD_shaped ho.1 (by decide)
      obtain ⟨b1, b2⟩ := okD_shaped ho.2 (by decide)
      exact .inr ⟨d, e, hx.rp.dp a2, hy.rp.dp b2, a1, b1, q _ H (Sub.refl H) (.bl _)⟩
    · simp at hz
theorem o_ne : OpD c.K (In c N sc) (compareOp .NotEq) dNe := by
  refine ⟨_, fun X I => by
    have h := OpR.or (X := X) op_ne (op_neD I.u64)
    rw [I.K] at h
    exact h, fun B H x y d e z bk hx hy hz Q q => ?_⟩
  unfold dNe dEqB at hz
  split at hz
  · simp at hz
    subst hz
    refine .inl ⟨?_, ?_⟩
    · rw [hx.str, hy.str]; rfl
    · rw [hx.str, hy.str, dec_str]
      exact q _ H (Sub.refl H) (.bl _)
  · split at hz
    · rename_i ho
      simp at hz
      subst hz
      obtain ⟨a1, a2⟩ := okD_shaped ho.1 (by decide)
      obtain ⟨b1, b2⟩ := okD_shaped ho.2 (by decide)
      exact .inr ⟨d, e, hx.rp.dp a2, hy.rp.dp b2, a1, b1, q _ H (Sub.refl H) (.bl _)⟩
    · simp at hz
def isNoneD : D → Bool
  | .none => true
  | _ => false
def dIs : D → D → Option D := fun d e => if isNoneD e then some (.bool (isNoneD d)) else none
def dIsNot : D → D → Option D := fun d e => if isNoneD e then some (.bool (!isNoneD d)) else none
theorem rs_none {K : Frag} {B : Addr → Bool} {H : Hp} {v : V} {d : D} (h : Rs K B H v d) : decide (v = .non) = isNoneD d := by
  have h := h.rp
  cases h <;> rfl
theorem o_is : OpD c.K (In c N sc) (compareOp .Is) dIs := by
  refine ⟨_, fun X I => op_isN, fun B H x y d e z bk hx hy hz Q q => ?_⟩
  unfold dIs at hz
  split at hz
  · rename_i he
    cases hz
    have : e = .none := by
      cases e <;> first | rfl | cases he
    subst this
    refine ⟨hy.none, ?_⟩
    rw [rs_none hx]
    exact q _ H (Sub.refl H) (.bl _)
  · cases hz
/-- x in a text (one sign) | a list of any data | a tuple of flat data -/
def flatD : D → Bool
  | .none => true
  | .bool _ => true
  | .int _ => true
  | .str _ => true
  | _ => false
theorem flatD_v {K : Frag} {H : Hp} {v : V} {d : D} (h : Rp K H v d) (f : flatD d = true) : flatV v = true := by
  cases h <;> first | rfl | cases f
theorem flatD_all {K : Frag} {H : Hp} : ∀ {vs : List V} {ds : List D}, RpL K H vs ds → ds.all flatD = true → vs.all flatV = true
  | _, _, .nil, _ => rfl
  | _, _, .cons h r, f => by
    simp at f ⊢
    exact ⟨flatD_v h f.1, by simpa using flatD_all r (by simpa using f.2)⟩
theorem eqV_eqv {K : Frag} {H H' : Hp} {v u : V} {d e : D} (h : Rp K H v d) (k : Rp K H' u e) (f : flatD d = true) (g : flatD e = true) : eqV v u = PyData.eqv d e := by
  cases h <;> first | (cases f; done) | (cases k <;> first | (cases g; done) | rfl)
theorem inV_any {K : Frag} {H H' : Hp} {x : V} {d : D} (h : Rp K H' x d) (f : flatD d = true) : ∀ {vs : List V} {ds : List D}, RpL K H vs ds → ds.all flatD = true → inV x vs = ds.any fun z => PyData.eqv z d
  | _, _, .nil, _ => rfl
  | _, _, .cons r rr, g => by
    simp at g
    have ih := inV_any h f rr (by simpa using g.2)
    unfold inV at ih ⊢
    rw [List.any_cons, List.any_cons, ih, eqV_eqv r h g.1 f]
def dInB (d e : D) : Option Bool := match d, e with
  | .str ⟨⟨[c]⟩⟩, .str z => some (decide (c ∈ z.cps.toList))
  | d, .list ds => if okD 60 d = true ∧ okD 60 (.list ds) = true then some (ds.any fun z => PyData.eqv z d) else none
  | d, .tuple ds => if flatD d = true ∧ ds.all flatD = true then some (ds.any fun z => PyData.eqv z d) else none
  | _, _ => none
def dIn (d e : D) : Option D := (dInB d e).map .bool
def dNotIn (d e : D) : Option D := (dInB d e).map fun b => .bool (!b)
theorem o_notIn : OpD c.K (In c N sc) (compareOp .NotIn) dNotIn := by
  refine ⟨_, fun X I => by
    have h := OpR.or (X := X) op_notIn_sign (OpR.or (op_notInD (I.u65)) op_notIn_seq)
    rw [I.K] at h
    exact h, fun B H x y d e z bk hx hy hz Q q => ?_⟩
  unfold dNotIn dInB at hz
  split at hz
  · simp at hz
    subst hz
    exact .inl ⟨_, _, hx.str, hy.str, by simpa using q _ H (Sub.refl H) (.bl _)⟩
  · split at hz
    · rename_i ho
      simp at hz
      subst hz
      obtain ⟨a1, a2⟩ := okD_shaped ho.1 (by decide)
      obtain ⟨b1, b2⟩ := okD_shaped ho.2 (by decide)
      exact .inr (.inl ⟨_, _, hx.rp.dp a2, hy.rp.dp b2, a1, b1, q _ H (Sub.refl H) (.bl _)⟩)
    · simp at hz
  · split at hz
    · rename_i ho
      simp at hz
      subst hz
      obtain ⟨a, xs, rfl, h1, r1⟩ := hy.tuple
      refine .inr (.inr ⟨a, xs, rfl, .inr h1, flatD_v hx.rp ho.1, flatD_all r1 ho.2, ?_⟩)
      rw [if_pos rfl, inV_any hx.rp ho.1 r1 ho.2]
      exact q _ H (Sub.refl H) (.bl _)
    · simp at hz
  · simp at hz
end Hz
namespace Hz
open PySem L2
def negK (m : ME) : ME := fun ρ α Q E => m ρ α (fun d α1 => ∃ i : Int, d = .int i ∧ Q (.int (-i)) α1) E
section
variable {c : C0} {N : List Str} {sc : Scope} {a b : Expr} {ma mb : ME} {g : D → D → Option D} {i : Nat} {pos p1 : Pos} {x : Str}
theorem je_neg (h : JE c N sc a ma) : JE c N sc (.UnaryOp .USub a pos) (negK ma) := by
  obtain ⟨t, h1, h2⟩ := h
  refine ⟨_, fun X W I T => pe_un un_neg (h1 X W I T), fun W B σ H ρ α S Qm Em m Q q x => h2 W B σ H ρ α S _ Em m _ (fun v d B1 H1 α1 A r m => ?_) x⟩
  obtain ⟨z, rfl, m⟩ := m
  exact ⟨z, r.inti, q _ _ B1 H1 α1 A (.int _) m⟩
structure IxD (K : Frag) (XS : Cx → Prop) (g : D → D → Option D) : Prop where
  ex : ∃ r : R2, (∀ X, XS X → IxR X r) ∧ ∀ (B : Addr → Bool) (H : Hp) (x y : V) (d e z : D), (∀ a, B a = true → ∃ o, H a = some o) → Rs K B H x d → Rs K B H y e → g d e = some z →
    ∀ Q : VK, (∀ v H', Sub H H' → Rp K (hide B H') v z → Q v H') → r x y H Q
def dIx : D → D → Option D
  | .list ds, .int i => (ixN ds.length i).bind fun j => ds[j]?
  | .tuple ds, .int i => (ixN ds.length i).bind fun j => ds[j]?
  | .str z, .int i => if z.length ≤ 100000 then (ixN z.cps.toList.length i).bind fun j => (z.cps.toList[j]?).map fun k => .str ⟨#[k]⟩ else none
  | _, _ => none
theorem o_ix : IxD c.K (In c N sc) dIx := by
  refine ⟨_, fun X I => by
    have h := IxR.or (X := X) ix_list (IxR.or ix_tup ix_str)
    rw [I.K] at h
    exact h, fun B H x y d e z bk hx hy hz Q q => ?_⟩
  unfold dIx at hz
  split at hz
  · rename_i ds k
    obtain ⟨a, xs, rfl, h1, r1⟩ := hx.list
    cases hj : ixN ds.length k with
    | none => simp [hj] at hz
    | some j =>
      simp [hj] at hz
      obtain ⟨v, g1, g2⟩ := r1.get' hz
      refine .inl ⟨a, xs, k, v, rfl, hy.int, h1, ?_, q v H (Sub.refl H) g2⟩
      unfold atI
      rw [r1.length, hj]
      exact g1
  · rename_i ds k
    obtain ⟨a, xs, rfl, h1, r1⟩ := hx.tuple
    cases hj : ixN ds.length k with
    | none => simp [hj] at hz
    | some j =>
      simp [hj] at hz
      obtain ⟨v, g1, g2⟩ := r1.get' hz
      refine .inr (.inl ⟨a, xs, k, v, rfl, hy.int, h1, ?_, q v H (Sub.refl H) g2⟩)
      unfold atI
      rw [r1.length, hj]
      exact g1
  · rename_i s k
    split at hz
    · rename_i hl
      cases hj : ixN s.cps.toList.length k with
      | none => rw [hj] at hz; cases hz
      | some j =>
        rw [hj, Option.bind_some] at hz
        cases hk : s.cps.toList[j]? with
        | none => rw [hk] at hz; cases hz
        | some w =>
          rw [hk] at hz
          cases hz
          refine .inr (.inr ⟨s, k, w, hx.str, hy.int, sz5 hl, ?_, q _ H (Sub.refl H) (.str _)⟩)
          unfold atI
          rw [hj]
          exact hk
    · cases hz
  · cases hz
theorem je_ix (ho : IxD c.K (In c N sc) g) (ha : JE c N sc a ma) (hb : JE c N sc b mb) (hs : PlainIx b := by intro _ _; rfl) : JE c N sc (.Subscript a b pos) (bop g ma mb) := by
  obtain ⟨r, h1, h2⟩ := ho.ex
  obtain ⟨ta, p1, s1⟩ := ha
  obtain ⟨tb, p2, s2⟩ := hb
  exact ⟨_, fun X W I T => pe_ix (h1 X I) (p1 X W I T) (p2 X W I T) hs, fun W => sd_bop (s1 W) (s2 W) h2⟩
end
abbrev MP := En → AH → (Option Int → AH → Prop) → QX → Prop
def SP_ (K : Frag) (W : WX) (t : TO) (m : MP) : Prop :=
  ∀ B σ H ρ α, SR K B σ H ρ α → ∀ Qm Em, m ρ α Qm Em → ∀ Q : Option Int → Hp → Prop, (∀ o B' H' α', Af K B H α B' H' α' → Qm o α' → Q o H') → SX K W B σ H α Em → t σ H Q
def JP (c : C0) (N : List Str) (sc : Scope) (e : Option Expr) (m : MP) : Prop := ∃ t : WX → TO, (∀ X W, In c N sc X → Takes X W → PO X e (t W)) ∧ ∀ W, SP_ c.K W (t W) m
def pnone : MP := fun _ α Q _ => Q none α
def psome (m : ME) : MP := fun ρ α Q E => m ρ α (fun d α1 => ∃ i : Int, d = .int i ∧ Q (some i) α1) E
def cutD (xs : List D) (lo hi : Option Int) : List D := (xs.drop (HT.sIx xs.length 0 lo)).take (HT.sIx xs.length xs.length hi - HT.sIx xs.length 0 lo)
def dCut : D → Option Int → Option Int → Option D
  | .list ds, lo, hi => some (.list (cutD ds lo hi))
  | .tuple ds, lo, hi => some (.tuple (cutD ds lo hi))
  | .str z, lo, hi => if z.length ≤ 100000 then some (.str (cutS z lo hi)) else none
  | _, _, _ => none
def cutK (ma : ME) (ml mh : MP) : ME := fun ρ α Q E => ma ρ α (fun d α1 => ml ρ α1 (fun l α2 => mh ρ α2 (fun h α3 => oq (vw α3 d) fun d' => oq (dCut d' l h) fun z => Q z α3) E) E) E
theorem RpL.cut {K : Frag} {H : Hp} {vs : List V} {ds : List D} (r : RpL K H vs ds) (lo hi : Option Int) : RpL K H (cutV vs lo hi) (cutD ds lo hi) := by
  unfold cutV cutD
  rw [r.length]
  exact (r.drop _).take _
section
variable {c : C0} {N : List Str} {sc : Scope} {a : Expr} {lo hi : Option Expr} {ma : ME} {ml mh : MP} {i : Nat} {pos p1 p2 : Pos} {x : Str} {K : Frag} {W : WX}
theorem jp_none : JP c N sc none pnone := ⟨_, fun _ _ _ _ => po_none, fun W B σ H ρ α S Qm Em m Q q x => q _ B H α (Af.refl S.bs) m⟩
theorem jp_some (h : JE c N sc a ma) : JP c N sc (some a) (psome ma) := by
  obtain ⟨t, h1, h2⟩ := h
  refine ⟨_, fun X W I T => po_some (h1 X W I T), fun W B σ H ρ α S Qm Em m Q q x => h2 W B σ H ρ α S _ Em m _ (fun v d B1 H1 α1 A r m => ?_) x⟩
  obtain ⟨z, rfl, m⟩ := m
  exact ⟨z, r.inti, q _ B1 H1 α1 A m⟩
/-- t[lo:hi], its object known -/
def rSlX (K : Frag) : V → Option Int → Option Int → Hp → VK → Prop := fun x lo hi H Q => ∃ a xs, x = .ref a ∧ SqT K H a xs ∧
  (HT.sIx xs.length 0 lo = 0 ∧ HT.sIx xs.length xs.length hi = xs.length → Q (.ref a) H) ∧ (¬ (HT.sIx xs.length 0 lo = 0 ∧ HT.sIx xs.length xs.length hi = xs.length) → ∀ p o, ExT o → H p = none → Q (.ref p) (upd H p (.frz o (.tup (cutV xs lo hi)))))
theorem sl_tupX {X : Cx} : SlR X (rSlX X.K) := by
  intro pins s σ H x v vl vu lo hi sl Q I rx hs pl pu h
  obtain ⟨a, xs, rfl, hx, q1, q2⟩ := h
  cases rx
  obtain ⟨its, r, ht, hz⟩ := I.tuple hx
  have hlen : its.toArray.size = xs.length := by rw [List.size_toArray]; exact r.length.symm
  refine ⟨"tuple", _, PyProof.Rows.slot_tuple_getitem.lookup, ht.typeIs, ?_⟩
  by_cases hw : HT.sIx xs.length 0 lo = 0 ∧ HT.sIx xs.length xs.length hi = xs.length
  · exact getItem_tuple_whole ht hs pl pu (by rw [hlen]; exact hw) ⟨.ref a, H, I, rfl, q1 hw⟩
  · refine HT.getItem_tuple_cut ht hs pl pu (by rw [hlen]; exact hw) ?_ (by rw [hlen]; exact hz)
    rw [hlen]
    exact ⟨.ref s.heap.objs.size, _, tnew I ((r.drop (HT.sIx xs.length 0 lo)).take (HT.sIx xs.length xs.length hi - HT.sIx xs.length 0 lo)) (Nat.le_trans (cutV_length xs lo hi) hz), rfl, q2 hw _ _ ⟨rfl, rfl⟩ (I.hok.fresh (Nat.le_refl _))⟩
def rCutR (K : Frag) : V → Option Int → Option Int → Hp → VK → Prop := fun x lo hi H Q => rSlL K x lo hi H Q ∨ (rSlX K x lo hi H Q ∨ rSlS x lo hi H Q)
theorem cut_read {B : Addr → Bool} {H : Hp} {x : V} {d z : D} {l h : Option Int} (bk : ∀ a, B a = true → ∃ o, H a = some o) (hx : Rs K B H x d) (hz : dCut d l h = some z) : ∀ Q : VK, (∀ v H', Sub H H' → Rp K (hide B H') v z → Q v H') → rCutR K x l h H Q := fun Q q => by
  unfold dCut at hz
  split at hz
  · cases hz
    obtain ⟨a, xs, rfl, h1, r1⟩ := hx.list
    refine .inl ⟨a, xs, rfl, h1, fun p hp => ?_⟩
    obtain ⟨s1, r2⟩ := lst_new bk hp (r1.cut l h)
    exact q _ _ s1 r2
  · rename_i ds
    cases hz
    obtain ⟨a, xs, rfl, h1, r1⟩ := hx.tuple
    refine .inr (.inl ⟨a, xs, rfl, h1, fun w => ?_, fun _ p o ho hp => ?_⟩)
    · have e : cutD ds l h = ds := by
        unfold cutD
        rw [← r1.length, w.1, w.2, List.drop_zero, Nat.sub_zero, r1.length, List.take_length]
      rw [e] at q
      refine q _ H (Sub.refl H) ?_
      cases hx with
      | vis h => exact h
    · obtain ⟨s1, r2⟩ := tup_new bk ho hp (r1.cut l h)
      exact q _ _ s1 r2
  · split at hz
    · rename_i hl
      cases hz
      exact .inr (.inr ⟨_, hx.str, sz5 hl, q _ H (Sub.refl H) (.str _)⟩)
    · cases hz
  · cases hz
theorem sl_cut {X : Cx} : SlR X (rCutR X.K) := SlR.or sl_list (SlR.or sl_tupX sl_str)
theorem sd_cut {t : TE} {u w : TO} (a2 : Sd K W t ma) (b2 : SP_ K W u ml) (c2 : SP_ K W w mh) : Sd K W (tSl (rCutR K) t u w) (cutK ma ml mh) := fun B σ H ρ α S Qm Em m Q q x => by
  refine a2 B σ H ρ α S _ Em m _ (fun v d B1 H1 α1 A1 r1 m => ?_) x
  refine b2 B1 σ H1 ρ α1 (S.step A1) _ Em m _ (fun l B2 H2 α2 A2 m => ?_) (x.after S.bs A1)
  have A12 := A1.trans S.bs A2
  refine c2 B2 σ H2 ρ α2 (S.step A12) _ Em m _ (fun h B3 H3 α3 A3 m => ?_) (x.after S.bs A12)
  obtain ⟨d', hd, z, hz, m⟩ := m
  refine cut_read A3.bs.bk (vw_rs A3.bs (r1.mono (A2.sub.trans A3.sub)) hd) hz _ fun y H4 s4 r4 => ?_
  exact q y z B3 H4 α3 ((A12.trans S.bs A3).trans S.bs (Af.of_sub A3.bs s4)) r4 m
theorem je_cut (ha : JE c N sc a ma) (hl : JP c N sc lo ml) (hh : JP c N sc hi mh) : JE c N sc (.Subscript a (.Slice lo hi none p2) pos) (cutK ma ml mh) := by
  obtain ⟨t, a1, a2⟩ := ha
  obtain ⟨u, b1, b2⟩ := hl
  obtain ⟨w, c1, c2⟩ := hh
  refine ⟨fun W => tSl (rCutR c.K) (t W) (u W) (w W), fun X W I T => ?_, fun W => sd_cut (a2 W) (b2 W) (c2 W)⟩
  have h := pe_slice (p2 := p2) (pos := pos) (sl_cut (X := X)) (a1 X W I T) (b1 X W I T) (c1 X W I T)
  rw [I.K] at h
  exact h
end
inductive RsL (K : Frag) (B : Addr → Bool) (H : Hp) : List V → List D → Prop
  | nil : RsL K B H [] []
  | cons {v : V} {vs : List V} {d : D} {ds : List D} : Rs K B H v d → RsL K B H vs ds → RsL K B H (v :: vs) (d :: ds)
theorem RpL.rs {K : Frag} {B : Addr → Bool} {H : Hp} : ∀ {vs : List V} {ds : List D}, RpL K (hide B H) vs ds → RsL K B H vs ds
  | _, _, .nil => .nil
  | _, _, .cons h r => .cons (.vis h) (RpL.rs r)
theorem RsL.one {K : Frag} {B : Addr → Bool} {H : Hp} {vs : List V} {d : D} (h : RsL K B H vs [d]) : ∃ v, vs = [v] ∧ Rs K B H v d := by
  cases h with
  | cons a b => cases b; exact ⟨_, rfl, a⟩
structure CaD (K : Frag) (XS : Cx → Prop) (fv : Value) (f : List D → Option D) : Prop where
  ex : ∃ r : List V → Hp → VK → Prop, (∀ X, XS X → CallR X fv r) ∧ ∀ (B : Addr → Bool) (H : Hp) (vs : List V) (ds : List D) (z : D), (∀ a, B a = true → ∃ o, H a = some o) → RsL K B H vs ds → f ds = some z →
    ∀ Q : VK, (∀ v H', Sub H H' → Rp K (hide B H') v z → Q v H') → r vs H Q
structure CaF (K : Frag) (XS : Cx → Prop) (fv : Value) (f : List D → Option D) : Prop where
  ex : ∃ r : List V → Hp → VK → Prop, (∀ X, XS X → CallR X fv r) ∧ ∀ (B : Addr → Bool) (H : Hp) (vs : List V) (ds : List D) (z : D), (∀ a, B a = true → ∃ o, H a = some o) → RsL K B H vs ds → f ds = some z →
    ∀ Q : VK, (∀ l H', Sub H H' → H l = none → OwnAt K (hide (ins l B) H') (H' l) z → Q (.ref l) H') → r vs H Q
def b1K (f : List D → Option D) (m : ME) : ME := fun ρ α Q E => m ρ α (fun d α1 => oq (vw α1 d) fun d' => oq (f [d']) fun z => Q z α1) E
def bnK (f : List D → Option D) (m : ML) : ME := fun ρ α Q E => m ρ α (fun ds α1 => oq (mapV α1 ds) fun es => oq (f es) fun z => Q z α1) E
section
variable {c : C0} {N : List Str} {sc : Scope} {e : Expr} {es : List Expr} {me : ME} {ml : ML} {f : List D → Option D} {pos p : Pos} {x : Str} {id T : String} {K : Frag} {W : WX} {r : List V → Hp → VK → Prop}
theorem sd_b1 {te : TE} (h : Sd K W te me) (hr : ∀ (B : Addr → Bool) (H : Hp) (vs : List V) (ds : List D) (z : D), (∀ a, B a = true → ∃ o, H a = some o) → RsL K B H vs ds → f ds = some z → ∀ Q : VK, (∀ v H', Sub H H' → Rp K (hide B H') v z → Q v H') → r vs H Q) :
    Sd K W (tCB r (tCons te tNil)) (b1K f me) := fun B σ H ρ α S Qm Em m Q q x => h B σ H ρ α S _ Em m _ (fun v d B1 H1 α1 A1 r1 m => by
  obtain ⟨d', hd, z, hz, m⟩ := m
  exact hr B1 H1 [v] [d'] _ A1.bs.bk (.cons (vw_rs A1.bs r1 hd) .nil) hz _ fun w H2 s2 r2 => q w z B1 H2 α1 (A1.trans S.bs (Af.of_sub A1.bs s2)) r2 m) x
theorem sf_b1 {te : TE} (h : Sd K W te me) (hr : ∀ (B : Addr → Bool) (H : Hp) (vs : List V) (ds : List D) (z : D), (∀ a, B a = true → ∃ o, H a = some o) → RsL K B H vs ds → f ds = some z → ∀ Q : VK, (∀ l H', Sub H H' → H l = none → OwnAt K (hide (ins l B) H') (H' l) z → Q (.ref l) H') → r vs H Q) :
    Sf K W (tCB r (tCons te tNil)) (b1K f me) := fun B σ H ρ α S Qm Em m Q q x => h B σ H ρ α S _ Em m _ (fun v d B1 H1 α1 A1 r1 m => by
  obtain ⟨d', hd, z, hz, m⟩ := m
  exact hr B1 H1 [v] [d'] _ A1.bs.bk (.cons (vw_rs A1.bs r1 hd) .nil) hz _ fun l H2 s2 hl r2 => q l z _ H2 α1 (A1.trans S.bs (Af.cell A1.bs s2 hl (.own r2))) (A1.bs.new hl) m) x
theorem je_b1 (ho : CaD c.K (In c N sc) (.builtin id) f) (hg : sc.names.lookup x = some .globalImplicit) (hm : c.mg x = none) (hv : bootBuiltins x = some (.builtin id)) (ha : JE c N sc e me) (hn : x ≠ "__name__" := by decide) (hdb : (x == ("__debug__" : Str)) = false := by decide)
    (he : ∀ env, starEach [e] env = (false, eval e env) :: starEach [] env := by intros; rfl) (hpl : ∀ env, (backTo pos (starEach [] env)).any (·.1) = false := by intros; rfl) : JE c N sc (.Call (.Name x p) [e] [] pos) (b1K f me) := by
  obtain ⟨r, h1, h2⟩ := ho.ex
  obtain ⟨t, a1, a2⟩ := ha
  exact ⟨_, fun X W I T => pe_callB (h1 X I) (I.gl hg) (by rw [I.mg]; exact hm) hv (pa_cons (a1 X W I T) pa_nil (he _)) hn hdb (he _) (hpl _), fun W => sd_b1 (a2 W) h2⟩
theorem je_t1 (ho : CaD c.K (In c N sc) (.type T) f) (hg : sc.names.lookup x = some .globalImplicit) (hm : c.mg x = none) (hv : bootBuiltins x = some (.type T)) (ha : JE c N sc e me) (hn : x ≠ "__name__" := by decide) (hdb : (x == ("__debug__" : Str)) = false := by decide)
    (he : ∀ env, starEach [e] env = (false, eval e env) :: starEach [] env := by intros; rfl) (hpl : ∀ env, (backTo pos (starEach [] env)).any (·.1) = false := by intros; rfl) : JE c N sc (.Call (.Name x p) [e] [] pos) (b1K f me) := by
  obtain ⟨r, h1, h2⟩ := ho.ex
  obtain ⟨t, a1, a2⟩ := ha
  exact ⟨_, fun X W I T => pe_callTy (h1 X I) (I.gl hg) (by rw [I.mg]; exact hm) hv (pa_cons (a1 X W I T) pa_nil (he _)) hn hdb (he _) (hpl _), fun W => sd_b1 (a2 W) h2⟩
theorem jf_t1 (ho : CaF c.K (In c N sc) (.type T) f) (hg : sc.names.lookup x = some .globalImplicit) (hm : c.mg x = none) (hv : bootBuiltins x = some (.type T)) (ha : JE c N sc e me) (hn : x ≠ "__name__" := by decide) (hdb : (x == ("__debug__" : Str)) = false := by decide)
    (he : ∀ env, starEach [e] env = (false, eval e env) :: starEach [] env := by intros; rfl) (hpl : ∀ env, (backTo pos (starEach [] env)).any (·.1) = false := by intros; rfl) : JF c N sc (.Call (.Name x p) [e] [] pos) (b1K f me) := by
  obtain ⟨r, h1, h2⟩ := ho.ex
  obtain ⟨t, a1, a2⟩ := ha
  exact ⟨_, fun X W I T => pe_callTy (h1 X I) (I.gl hg) (by rw [I.mg]; exact hm) hv (pa_cons (a1 X W I T) pa_nil (he _)) hn hdb (he _) (hpl _), fun W => sf_b1 (a2 W) h2⟩
/-- isinstance(e, T), T a built-in class -/
def isiB (T : String) : D → Option Bool
  | .none => kitB "NoneType" T
  | .bool _ => kitB "bool" T
  | .int _ => kitB "int" T
  | .str _ => kitB "str" T
  | .list _ => kitB "list" T
  | .tuple _ => kitB "tuple" T
  | _ => none
def isiK (T : String) (m : ME) : ME := fun ρ α Q E => m ρ α (fun d α1 => oq (vw α1 d) fun d' => oq (isiB T d') fun b => Q (.bool b) α1) E
theorem tag_of {K : Frag} {H : Hp} {v : V} {d : D} {b : Bool} (h : Rp K H v d) (e : isiB T d = some b) : ∃ t, TyX K H v (.type t) ∧ kitB t T = some b := by
  cases h with
  | non => exact ⟨_, .base .non, e⟩
  | bl k => exact ⟨_, .base (.bl k), e⟩
  | int k => exact ⟨_, .base (.int k), e⟩
  | str k => exact ⟨_, .base (.str k), e⟩
  | lst hs _ =>
    refine ⟨"list", ?_, e⟩
    rcases hs with (h | ⟨o, h⟩) | ⟨o, its, n, h1, h2, _⟩
    · exact .base (.lst h)
    · exact .base (.frz h)
    · exact .kList h1 h2
  | tup hs _ _ =>
    refine ⟨"tuple", ?_, e⟩
    rcases hs with (h | ⟨o, h⟩) | ⟨o, its, n, h1, h2, _⟩
    · exact .base (.tup h)
    · exact .fTuple h
    · exact .kTuple h1 h2
  | dct _ _ => cases e
  | obj _ _ => cases e
  | fdc _ _ => cases e
  | fnc => cases e
  | ref => cases e
  | exc _ _ => cases e
theorem je_isi {y : Str} {p2 : Pos} (hg : sc.names.lookup ("isinstance" : Str) = some .globalImplicit) (hm : c.mg ("isinstance" : Str) = none) (hgy : sc.names.lookup y = some .globalImplicit) (hmy : c.mg y = none) (hv : bootBuiltins y = some (.type T)) (ha : JE c N sc e me)
    (hn : y ≠ "__name__" := by decide) (hdb : (y == ("__debug__" : Str)) = false := by decide)
    (he : ∀ env, starEach [e, .Name y p2] env = (false, eval e env) :: starEach [.Name y p2] env := by intros; rfl) (hpl : ∀ env, (backTo pos (starEach [.Name y p2] env)).any (·.1) = false := by intros; rfl) :
    JE c N sc (.Call (.Name "isinstance" p) [e, .Name y p2] [] pos) (isiK T me) := by
  obtain ⟨t, a1, a2⟩ := ha
  refine ⟨fun W => tCB (rIsi c.K) (tCons (t W) (tCons (tC (.ty T)) tNil)), fun X W I TT => ?_, fun W B σ H ρ α S Qm Em m Q q x => ?_⟩
  · have h := pe_callB (x := "isinstance") (p := p) (pos := pos) (call_isi (X := X)) (I.gl hg) (by rw [I.mg]; exact hm) (by decide +kernel) (pa_cons (a1 X W I TT) (pa_cons (pe_bltn (pos := p2) (v := .ty T) (I.gl hgy) (by rw [I.mg]; exact hmy) hv rfl hn hdb) pa_nil) (he _)) (by decide) (by decide) (he _) (hpl _)
    rw [I.K] at h
    exact h
  · refine a2 W B σ H ρ α S _ Em m _ (fun v d B1 H1 α1 A1 r1 m => ?_) x
    obtain ⟨d', hd, z, hz, m⟩ := m
    obtain ⟨t, h1, h2⟩ := tag_of (vw_rs A1.bs r1 hd).rp hz
    exact ⟨v, .ty T, .type t, .type T, z, rfl, .ty T, h1, kit_ty h2, q _ _ B1 H1 α1 A1 (.bl z) m⟩
end
section
variable {c : C0} {N : List Str} {sc : Scope}
def dLen : List D → Option D
  | [.list ds] => some (.int ds.length)
  | [.tuple ds] => some (.int ds.length)
  | [.str z] => if z.length ≤ 100000 then some (.int z.length) else none
  | _ => none
theorem c_len : CaD c.K (In c N sc) (.builtin "len") dLen := by
  refine ⟨_, fun X I => by
    have h := call_len (X := X)
    rw [I.K] at h
    exact h, fun B H vs ds z bk hv hz Q q => ?_⟩
  unfold dLen at hz
  split at hz
  · cases hz
    obtain ⟨v, rfl, h⟩ := hv.one
    obtain ⟨a, xs, rfl, h1, r1⟩ := h.list
    exact ⟨_, _, rfl, .inl ⟨xs, h1, r1.length.symm⟩, q _ H (Sub.refl H) (.int _)⟩
  · cases hz
    obtain ⟨v, rfl, h⟩ := hv.one
    obtain ⟨a, xs, rfl, h1, r1⟩ := h.tuple
    exact ⟨_, _, rfl, .inr ⟨xs, h1, r1.length.symm⟩, q _ H (Sub.refl H) (.int _)⟩
  · split at hz
    · rename_i hl
      cases hz
      obtain ⟨v, rfl, h⟩ := hv.one
      rw [h.str]
      exact ⟨_, _, rfl, ⟨sz5 hl, rfl⟩, q _ H (Sub.refl H) (.int _)⟩
    · cases hz
  · cases hz
def dInt : List D → Option D
  | [.int i] => some (.int i)
  | [.bool b] => some (.int (if b then 1 else 0))
  | _ => none
theorem c_int : CaD c.K (In c N sc) (.type "int") dInt := by
  refine ⟨_, fun X I => call_int1, fun B H vs ds z bk hv hz Q q => ?_⟩
  unfold dInt at hz
  split at hz
  · cases hz
    obtain ⟨v, rfl, h⟩ := hv.one
    exact .inl ⟨_, by rw [h.int], q _ H (Sub.refl H) (.int _)⟩
  · cases hz
    obtain ⟨v, rfl, h⟩ := hv.one
    exact .inr ⟨_, by rw [h.bool], q _ H (Sub.refl H) (.int _)⟩
  · cases hz
def dAbs : List D → Option D
  | [.int i] => some (.int (if i < 0 then -i else i))
  | _ => none
def dOrd : List D → Option D
  | [.str x] => if x.length = 1 then some (.int ((x.cps.getD 0 0 : Nat) : Int)) else none
  | _ => none
theorem c_ord : CaD c.K (In c N sc) (.builtin "ord") dOrd := by
  refine ⟨_, fun X I => call_ord, fun B H vs ds z bk hv hz Q q => ?_⟩
  unfold dOrd at hz
  split at hz
  · split at hz
    · rename_i hl
      cases hz
      obtain ⟨v, rfl, h⟩ := hv.one
      exact ⟨_, by rw [h.str], hl, q _ H (Sub.refl H) (.int _)⟩
    · cases hz
  · cases hz
def dMax2 : List D → Option D
  | [.int i, .int j] => some (.int (if j > i then j else i))
  | _ => none
def dMin2 : List D → Option D
  | [.int i, .int j] => some (.int (if j < i then j else i))
  | _ => none
def toBools : List D → Option (List Bool)
  | [] => some []
  | .bool i :: r => (toBools r).map fun q => i :: q
  | _ => none
theorem toBools_of : ∀ {ds : List D} {ns : List Bool}, toBools ds = some ns → ds = ns.map PyData.bool
  | [], ns, h => by cases h; rfl
  | .bool i :: r, ns, h => by
    cases q : toBools r with
    | none => simp [toBools, q] at h
    | some l =>
      simp [toBools, q] at h
      subst h
      rw [toBools_of q]
      rfl
  | .none :: _, _, h => by cases h
  | .int _ :: _, _, h => by cases h
  | .str _ :: _, _, h => by cases h
  | .list _ :: _, _, h => by cases h
  | .tuple _ :: _, _, h => by cases h
  | .dict _ :: _, _, h => by cases h
def dAll : List D → Option D
  | [.list ds] => (toBools ds).map fun ns => .bool (ns.all id)
  | _ => none
theorem c_all (hc : c.cm = true := by rfl) : CaD c.K (In c N sc) (.builtin "all") dAll := by
  refine ⟨_, fun X I => by
    have h := cr_all (X := X) (I.calm hc)
    rw [I.K] at h
    exact h, fun B H vs ds z bk hv hz Q q => ?_⟩
  unfold dAll at hz
  split at hz
  · rename_i ds
    cases q1 : toBools ds with
    | none => simp [q1] at hz
    | some ns =>
      simp only [q1, Option.map_some] at hz
      cases hz
      obtain ⟨v, rfl, h⟩ := hv.one
      obtain ⟨a, xs, rfl, h1, r1⟩ := h.list
      rw [toBools_of q1] at r1
      rw [r1.of_bools] at h1
      exact ⟨a, ns, rfl, h1, q _ H (Sub.refl H) (.bl _)⟩
  · cases hz
def dList : List D → Option D
  | [.list ds] => some (.list ds)
  | [.tuple ds] => some (.list ds)
  | _ => none
theorem cf_list : CaF c.K (In c N sc) (.type "list") dList := by
  refine ⟨_, fun X I => by
    have h := call_list_of (X := X)
    rw [I.K] at h
    exact h, fun B H vs ds z bk hv hz Q q => ?_⟩
  unfold dList at hz
  split at hz
  · cases hz
    obtain ⟨v, rfl, h⟩ := hv.one
    obtain ⟨a, xs, rfl, h1, r1⟩ := h.list
    exact ⟨a, xs, rfl, .inl h1, fun l hl => q _ _ (Sub.new hl) hl (own_new hl r1)⟩
  · cases hz
    obtain ⟨v, rfl, h⟩ := hv.one
    obtain ⟨a, xs, rfl, h1, r1⟩ := h.tuple
    exact ⟨a, xs, rfl, .inr h1, fun l hl => q _ _ (Sub.new hl) hl (own_new hl r1)⟩
  · cases hz
def dTuple : List D → Option D
  | [.list ds] => some (.tuple ds)
  | [.tuple ds] => some (.tuple ds)
  | _ => none
def rTupX (K : Frag) : List V → Hp → VK → Prop := fun xs H Q => ∃ p ys, xs = [.ref p] ∧ ((SqL K H p ys ∧ ∀ l o, ExT o → H l = none → Q (.ref l) (upd H l (.frz o (.tup ys)))) ∨ (SqT K H p ys ∧ Q (.ref p) H))
theorem call_tupX {X : Cx} : CallR X (.type "tuple") (rTupX X.K) := by
  intro pins s σ H xs us Q I r h
  obtain ⟨p, ys, rfl, h⟩ := h
  obtain ⟨u, rfl, rx⟩ := vals1 r
  cases rx
  rcases h with ⟨hq, q⟩ | ⟨hq, q⟩
  · obtain ⟨its, r', pl, hz⟩ := I.list hq
    have hlen := r'.length
    refine call_tuple_list pl.isList (fun h' kp => ?_) (by simp only [List.size_toArray] <;> omega)
    have I1 : Inv X pins σ H { s with heap := h' } := I.kept (t' := s.toks) kp
    exact ⟨.ref h'.objs.size, _, tnew I1 r' hz, rfl, q _ _ ⟨rfl, rfl⟩ (I1.hok.fresh (Nat.le_refl _))⟩
  · obtain ⟨its, r', pl, hz⟩ := I.tuple hq
    exact call_tuple_same pl ⟨.ref p, H, I, rfl, q⟩
theorem c_tuple : CaD c.K (In c N sc) (.type "tuple") dTuple := by
  refine ⟨_, fun X I => by
    have h := call_tupX (X := X)
    rw [I.K] at h
    exact h, fun B H vs ds z bk hv hz Q q => ?_⟩
  unfold dTuple at hz
  split at hz
  · cases hz
    obtain ⟨v, rfl, h⟩ := hv.one
    obtain ⟨a, xs, rfl, h1, r1⟩ := h.list
    refine ⟨a, xs, rfl, .inl ⟨h1, fun l o ho hl => ?_⟩⟩
    obtain ⟨s1, r2⟩ := tup_new bk ho hl r1
    exact q _ _ s1 r2
  · cases hz
    obtain ⟨v, rfl, h⟩ := hv.one
    obtain ⟨a, xs, rfl, h1, r1⟩ := h.tuple
    refine ⟨a, xs, rfl, .inr ⟨h1, q _ H (Sub.refl H) ?_⟩⟩
    cases h with
    | vis h => exact h
  · cases hz
end
def metK (f : Str → List D → Option D) (mo : ME) (ma : ML) : ME := fun ρ α Q E => mo ρ α (fun o α1 => ∃ x : Str, o = .str x ∧ ma ρ α1 (fun ds α2 => oq (mapV α2 ds) fun es => oq (f x es) fun z => Q z α2) E) E
def strK (m : ME) : MI := fun ρ α Q E => m ρ α (fun d α1 => ∃ x : Str, d = .str x ∧ Q (x.cps.toList.map fun k => .str ⟨#[k]⟩) (fun _ => True) α1) E
section
variable {c : C0} {N : List Str} {sc : Scope} {e e2 tg : Expr} {elts : List Expr} {kk : Nat} {pos p tpos : Pos} {me : ME} {ma : ML} {K : Frag}
theorem ji_str (h : JE c N sc e me) : JI c N sc tg e (strK me) := by
  obtain ⟨t, h1, h2⟩ := h
  refine ⟨fun W => iStr (t W), fun X W I T => pi_str (h1 X W I T), fun W B σ H ρ α S Qm Em m R q x => h2 W B σ H ρ α S _ Em m _ (fun v d B1 H1 α1 A r m => ?_) x⟩
  obtain ⟨x, rfl, m⟩ := m
  refine ⟨x, r.stri, q _ _ _ B1 H1 α1 A (fun B' H' α' sb bk g => ⟨fun i d hi => ?_, ?_⟩) m⟩
  · rw [List.getElem?_map] at hi
    cases hk : x.cps.toList[i]? with
    | none => rw [hk] at hi; cases hi
    | some w =>
      rw [hk] at hi
      cases hi
      have hk' : x.cps[i]? = some w := by simpa using hk
      refine ⟨(Array.getElem?_eq_some_iff.mp hk').1, fun y H'' z => ?_⟩
      obtain ⟨rfl, w', hw, rfl⟩ := z
      rw [hk'] at hw
      cases hw
      exact ⟨Sub.refl _, .str _⟩
  · show x.cps.size ≤ _
    simp
end
end Hz
namespace Hz
open PySem L2
variable {c : C0} {N : List Str} {sc : Scope}
/-- a def as it stands behind the top; js: how many arguments are written somewhere, less than all -/
structure AtF (c : C0) (x qual : Str) (st : Stmt) (ps : List Str) (dvs : List V) (js : List Nat) (f : Addr) : Prop where
  ex : ∃ fd, FunD c.K x qual (defArgs st) (defBody st) (defScope st) dvs [] f fd ∧ Binds c.K fd ps [] ∧ ∀ j ∈ js, ∃ ds, Vals (dvs.drop j) ds ∧ Binds c.K fd ps ds
/-- a def's promise -/
structure Pro (c : C0) (k : Nat) (f : Addr) (ps : List Str) (dvs : List V) (js : List Nat) (fm : Fm) : Prop where
  ex : ∃ fd, FnOk c.P c.w c.K c.mg c.base (L2.CX c.P c.w) k f fd ps (fun vs H Q E => vs.length = ps.length ∧ spD c.K fm vs H Q E) ∧ PySem.W.keepIn c.K (.ref f) = true ∧ Binds c.K fd ps [] ∧ ∀ j ∈ js, ∃ ds, Vals (dvs.drop j) ds ∧ Binds c.K fd ps ds
theorem fn_okD {x qual : Str} {st : Stmt} {dvs : List V} {f : Addr} {fd : FuncData} {ps : List Str} {k : Nat} {m : MS} (F : FunD c.K x qual (defArgs st) (defBody st) (defScope st) dvs [] f fd) (S : FnScope N ps (defScope st)) (h : JB (c.at_ k) N (defScope st) (defBody st) m) (hn : ps.length ≤ N.length := by decide) :
    FnOk c.P c.w c.K c.mg c.base (L2.CX c.P c.w) (k + 1) f fd ps (fun vs H Q E => vs.length = ps.length ∧ spD c.K (runF ps.length N.length m) vs H Q E) := by
  refine F.ok S (fun vs H Q E h => h.1) (fun cdv A outer s H vs Q E hr h' => ?_)
  obtain ⟨hl, B, α, ds, Qm, Em, S0, r, ⟨_, mm⟩, q, y⟩ := h'
  obtain ⟨t, t1, t2⟩ := h
  have tk : Takes (cxOf (L2.CX c.P c.w) c.P c.w c.K c.mg c.base N qual (defScope st) f cdv A outer s H E) (fun cls d _ H => E cls d H) := takes_of rfl rfl rfl rfl
  refine ⟨t _, t1 _ _ ⟨rfl, rfl, rfl, rfl, rfl, fun _ => hr, (Nat.lt_of_le_of_lt (Nat.add_le_add_right (Nat.le_add_right _ _) 200) hr.un : _), rfl, rfl, fun _ => rfl, fun _ => rfl, passes_of rfl, fun _ => ⟨rfl, rfl⟩, fun _ _ _ h => (by cases h), fun _ _ => rfl⟩ tk, ?_⟩
  have es : L2.start N vs = vs.map some ++ List.replicate (N.length - ps.length) none := by
    unfold L2.start
    rw [hl]
  rw [es]
  refine t2 _ B _ H _ α (entry_sr (n := N.length - ps.length) S0 r) _ mm _ (Fi.none_ (fun B' H' ρ' α' a z => q .non .none B' H' α' a .non z) (fun v d B' H' α' a r z => q v d B' H' α' a r z) (fun _ _ z => z) fun _ _ z => z) fun x B' σ' ρ' α' cls d H' a _ xr z => y x B' α' cls d H' a xr z
section
variable {x qual : Str} {st : Stmt} {dvs : List V} {js : List Nat} {f : Addr} {ps : List Str} {k np : Nat} {m : MS} {fm : Fm}
theorem AtF.run (A : AtF c x qual st ps dvs js f) (S : FnScope N ps (defScope st)) (h : JB (c.at_ k) N (defScope st) (defBody st) m) (hn : ps.length ≤ N.length := by decide) : Pro c (k + 1) f ps dvs js (runF ps.length N.length m) := by
  obtain ⟨fd, F, b⟩ := A.ex
  exact ⟨fd, fn_okD F S h hn, F.kp, b⟩
theorem AtF.runP (A : AtF c x qual st ps dvs js f) (S : FnScope N ps (defScope st)) (h : JB (c.at_ k) N (defScope st) (defBody st) m) (hn : ps.length ≤ N.length := by decide) : Pro c (k + 1) f ps dvs js (runP ps.length N.length m) := by
  obtain ⟨fd, F, b⟩ := A.ex
  exact ⟨fd, (fn_okD F S h hn).imp fun vs H Q E z => ⟨z.1, spD_pure z.2⟩, F.kp, b⟩
theorem Pro.mono {j : Nat} (P : Pro c j f ps dvs js fm) (h : j ≤ k) : Pro c k f ps dvs js fm := by
  obtain ⟨fd, F, r⟩ := P.ex
  exact ⟨fd, F.mono h, r⟩
/-- all arguments are written -/
theorem Pro.fn (P : Pro c k f ps dvs js fm) (hm : c.mg x = some (.ref f)) : FnD c k x ps.length [] fm := by
  obtain ⟨fd, F, kp, b, _⟩ := P.ex
  exact ⟨f, fd, ps, [], [], F, hm, kp, b, .nil, fun _ => .nil, rfl⟩
end
def oD (C : Nat) (fs : List (D × D)) : D := .dict ((.none, .int (Int.ofNat C)) :: fs)
def lookF (f : Str) : List (D × D) → Option D
  | [] => none
  | (.str g, d) :: r => if f = g then some d else lookF f r
  | _ => none
def putD (f : Str) (d : D) : List (D × D) → List (D × D)
  | [] => [(.str f, d)]
  | (.str g, x) :: r => if g = f then (.str g, d) :: r else (.str g, x) :: putD f d r
  | q :: r => q :: putD f d r
theorem RpF.look {K : Frag} {H : Hp} {f : Str} {d : D} : ∀ {gs : List (Str × V)} {ds : List (D × D)}, RpF K H gs ds → lookF f ds = some d → ∃ v, gs.lookup f = some v ∧ Rp K H v d
  | _, _, .nil, e => by cases e
  | _, _, .cons (f := g) (v := v) (vs := vs) (d := d') (ds := ds) h r, e => by
    by_cases q : f = g
    · subst q
      have e' : some d' = some d := by
        have : lookF f ((PyData.str f, d') :: ds) = some d' := if_pos rfl
        rw [this] at e
        exact e
      cases e'
      exact ⟨v, by simp [List.lookup], h⟩
    · have e' : lookF f ds = some d := by
        have : lookF f ((PyData.str g, d') :: ds) = lookF f ds := if_neg q
        rw [this] at e
        exact e
      obtain ⟨w, h1, h2⟩ := RpF.look r e'
      refine ⟨w, ?_, h2⟩
      have : (f == g) = false := by simpa using q
      simp [List.lookup, this, h1]
theorem RpF.lookN {K : Frag} {H : Hp} {f : Str} : ∀ {gs : List (Str × V)} {ds : List (D × D)}, RpF K H gs ds → lookF f ds = none → gs.lookup f = none
  | _, _, .nil, e => rfl
  | _, _, .cons (f := g) (v := v) (vs := vs) (d := d') (ds := ds) h r, e => by
    by_cases q : f = g
    · subst q
      have : lookF f ((PyData.str f, d') :: ds) = some d' := if_pos rfl
      rw [this] at e
      cases e
    · have e' : lookF f ds = none := by
        have : lookF f ((PyData.str g, d') :: ds) = lookF f ds := if_neg q
        rw [this] at e
        exact e
      have : (f == g) = false := by simpa using q
      simp [List.lookup, this, RpF.lookN r e']
theorem RpF.length {K : Frag} {H : Hp} : ∀ {gs : List (Str × V)} {ds : List (D × D)}, RpF K H gs ds → gs.length = ds.length
  | _, _, .nil => rfl
  | _, _, .cons h r => by rw [List.length_cons, List.length_cons, RpF.length r]
theorem RpF.put {K : Frag} {H : Hp} {f : Str} {v : V} {d : D} (h : Rp K H v d) : ∀ {gs : List (Str × V)} {ds : List (D × D)}, RpF K H gs ds → RpF K H (putF f v gs) (putD f d ds)
  | _, _, .nil => .cons h .nil
  | _, _, .cons (f := g) (v := u) (vs := vs) (d := e) (ds := ds) a r => by
    show RpF K H (if g = f then (g, v) :: vs else (g, u) :: putF f v vs) (if g = f then (.str g, d) :: ds else (.str g, e) :: putD f d ds)
    by_cases q : g = f
    · rw [if_pos q, if_pos q]
      exact .cons h r
    · rw [if_neg q, if_neg q]
      exact .cons a (RpF.put h r)
theorem RpK.noNone {K : Frag} {H : Hp} : ∀ {kvs : List (Key × V)} {es : List (D × D)}, RpK K H kvs es → ∀ x ds, es = (PyData.none, x) :: ds → False
  | _, _, .nil, x, ds, e => by cases e
  | _, _, .cons (k := k) h r, x, ds, e => by
    have e1 := (List.cons.inj e).1
    have e2 : kD k = .none := congrArg Prod.fst e1
    cases k <;> cases e2
theorem obj_inj {C C' : Nat} {ds ds' : List (D × D)} (h : oD C ds = oD C' ds') : C = C' ∧ ds = ds' := by
  have e1 := List.cons.inj (PyData.dict.inj h)
  have e2 : PyData.int (Int.ofNat C) = PyData.int (Int.ofNat C') := congrArg Prod.snd e1.1
  exact ⟨Int.ofNat.inj (PyData.int.inj e2), e1.2⟩
theorem Rp.oD {K : Frag} {H : Hp} {v : V} {C : Nat} {ds : List (D × D)} (h : Rp K H v (oD C ds)) : ∃ a dx gs, v = .ref a ∧ H a = some (.ins C dx gs) ∧ RpF K H gs ds := by
  generalize e : Hz.oD C ds = z at h
  cases h with
  | dct h r => exact (r.noNone _ _ (PyData.dict.inj e).symm).elim
  | @obj a C' dx fs ds' h r =>
    obtain ⟨rfl, rfl⟩ := obj_inj (show Hz.oD C ds = Hz.oD C' ds' from e)
    exact ⟨_, _, _, rfl, h, r⟩
  | _ => cases e
theorem Rs.oD {K : Frag} {B : Addr → Bool} {H : Hp} {v : V} {C : Nat} {ds : List (D × D)} (h : Rs K B H v (oD C ds)) : ∃ a dx gs, v = .ref a ∧ H a = some (.ins C dx gs) ∧ RpF K (hide B H) gs ds := by
  generalize e : Hz.oD C ds = z at h
  cases h with
  | vis h =>
    subst e
    obtain ⟨a, dx, gs, rfl, h1, h2⟩ := h.oD
    exact ⟨a, dx, gs, rfl, (hide_some h1).2, h2⟩
  | dct h r => exact (r.noNone _ _ (PyData.dict.inj e).symm).elim
  | @obj a C' dx fs ds' h r =>
    obtain ⟨rfl, rfl⟩ := obj_inj (show Hz.oD C ds = Hz.oD C' ds' from e)
    exact ⟨_, _, _, rfl, h, r⟩
  | lst _ _ => cases e
theorem Bs.obj {K : Frag} {B : Addr → Bool} {H : Hp} {α : AH} {l : Addr} {C : Nat} {fs : List (D × D)} (S : Bs K B H α) (h : α l = some (oD C fs)) : B l = true ∧ ∃ dx gs, H l = some (.ins C dx gs) ∧ RpF K (hide B H) gs fs := by
  obtain ⟨h1, h2⟩ := S.cel l _ h
  obtain ⟨a, dx, gs, e, k1, k2⟩ := h2.rs.oD
  cases e
  exact ⟨h1, dx, gs, k1, k2⟩
/-- o.f, o of the class at C -/
def fldD (C : Nat) (f : Str) : D → Option D
  | .dict ((.none, .int k) :: fs) => if k = Int.ofNat C then lookF f fs else none
  | _ => none
def fldK (C : Nat) (f : Str) (m : ME) : ME := fun ρ α Q E => m ρ α (fun d α1 => oq (vw α1 d) fun o => oq (fldD C f o) fun z => Q z α1) E
theorem fldD_of {C : Nat} {f : Str} {o z : D} (h : fldD C f o = some z) : ∃ fs, o = oD C fs ∧ lookF f fs = some z := by
  unfold fldD at h
  split at h
  · split at h
    · rename_i hk
      subst hk
      exact ⟨_, rfl, h⟩
    · cases h
  · cases h
theorem je_fld {C : Nat} {f : Str} {e : Expr} {pos : Pos} {m : ME} (h : JE c N sc e m) (cl : Cls c.K C) (na : NoAttr c.K C f) (hb : ∀ env, attributeBase e f env (eval e env) = eval e env := by intros; rfl) : JE c N sc (.Attribute e f pos) (fldK C f m) := by
  obtain ⟨t, h1, h2⟩ := h
  refine ⟨fun W => tFld c.K (t W) f, fun X W I T => ?_, fun W B σ H ρ α S Qm Em m Q q x => h2 W B σ H ρ α S _ Em m _ (fun v d B1 H1 α1 A r m => ?_) x⟩
  · have q := pe_fld (f := f) (pos := pos) (h1 X W I T) (hb _)
    rw [I.K] at q
    exact q
  · obtain ⟨o, ho, z, hz, m⟩ := m
    obtain ⟨fs, rfl, l⟩ := fldD_of hz
    obtain ⟨a, dx, gs, rfl, k1, k2⟩ := (vw_rs A.bs r ho).oD
    obtain ⟨w, l1, rw_⟩ := k2.look l
    exact ⟨a, C, dx, gs, w, rfl, k1, cl, na, l1, q w z B1 H1 α1 A rw_ m⟩
/-- a cell that holds an instance -/
def cellO (C : Nat) (α : AH) (o : D) (Q : Addr → List (D × D) → Prop) : Prop := ∃ a fs, o = dref a ∧ α a = some (oD C fs) ∧ Q a fs
def setaS (C : Nat) (f : Str) (me mo : ME) : MS := fun ρ α D => me ρ α (fun d α1 => mo ρ α1 (fun o α2 => cellO C α2 o fun a fs => fs.length < 900 ∧ D.nx ρ (aset α2 a (oD C (putD f d fs)))) (fun x α1 => D.ex x ρ α1)) (fun x α1 => D.ex x ρ α1)
theorem js_seta {C : Nat} {f : Str} {o e : Expr} {p2 pos : Pos} {me mo : ME} (cl : Cls c.K C) (na : NoAttr c.K C f) (h : JE c N sc e me) (ho : JE c N sc o mo)
    (hs : ∀ env, swapsWith e (some (.Attribute o f p2)) pos.line env = pure false := by intros; rfl) : JS c N sc (.Assign [.Attribute o f p2] e pos) (setaS C f me mo) := by
  obtain ⟨t, h1, h2⟩ := h
  obtain ⟨u, k1, k2⟩ := ho
  refine ⟨fun W => sFld c.K (u W) (t W) f, fun X W I T => ?_, fun W B σ H ρ α S D m Dn h' x => ?_⟩
  · have q := ps_fld (f := f) (pos := pos) (pos' := p2) (k1 X W I T) (h1 X W I T) (hs _)
    rw [I.K] at q
    exact q
  · refine h2 W B σ H ρ α S _ _ m _ (fun v d B1 H1 α1 A1 r1 m => ?_) (x.sx S)
    refine k2 W B1 σ H1 ρ α1 (S.step A1) _ _ m _ (fun w o B2 H2 α2 A2 r2 m => ?_) ((x.sx S).after S.bs A1)
    obtain ⟨a, fs, rfl, e, hl, m⟩ := m
    obtain ⟨b2, dx, gs, g1, g2⟩ := A2.bs.obj e
    have hw := r2.cell
    subst hw
    refine ⟨a, C, dx, gs, rfl, g1, cl, na, by rw [g2.length]; omega, ?_⟩
    have w := Af.write (o := .ins C dx (putF f v gs)) (c := oD C (putD f d fs)) A2.bs e (.obj (g2.put (r1.mono A2.sub)))
    have A := (A1.trans S.bs A2).trans S.bs w
    exact h'.nx _ _ _ _ _ A (S.step A) m
/-- o.f op= e -/
def augaS (C : Nat) (f : Str) (g : D → D → Option D) (mo me : ME) : MS := fun ρ α D => mo ρ α (fun o α1 => cellO C α1 o fun _ fs0 => oq (lookF f fs0) fun d => me ρ α1 (fun e α2 => oq (g d e) fun z => cellO C α2 o fun a fs => fs.length < 900 ∧ D.nx ρ (aset α2 a (oD C (putD f z fs)))) (fun x α1 => D.ex x ρ α1)) (fun x α1 => D.ex x ρ α1)
theorem js_auga {op : Operator} {C : Nat} {f : Str} {o e : Expr} {p2 pos : Pos} {me mo : ME} {g : D → D → Option D} (og : OpD c.K (In c N sc) (inplaceOp op) g) (cl : Cls c.K C) (na : NoAttr c.K C f) (ho : JE c N sc o mo) (h : JE c N sc e me) : JS c N sc (.AugAssign (.Attribute o f p2) op e pos) (augaS C f g mo me) := by
  obtain ⟨r, og1, og2⟩ := og.ex
  obtain ⟨t, h1, h2⟩ := h
  obtain ⟨u, k1, k2⟩ := ho
  refine ⟨fun W => sFldAug c.K (u W) (t W) r f, fun X W I T => ?_, fun W B σ H ρ α S D m Dn h' x => ?_⟩
  · have q := ps_fldaug (f := f) (pos := pos) (tpos := p2) (k1 X W I T) (h1 X W I T) (og1 X I)
    rw [I.K] at q
    exact q
  · refine k2 W B σ H ρ α S _ _ m _ (fun w o B1 H1 α1 A1 r1 m => ?_) (x.sx S)
    obtain ⟨a, fs0, rfl, e, d, hd, m⟩ := m
    obtain ⟨b1, dx, gs, g1, g2⟩ := A1.bs.obj e
    have hw := r1.cell
    subst hw
    obtain ⟨v, l1, l2⟩ := g2.look hd
    refine ⟨a, C, dx, gs, v, rfl, g1, cl, na, l1, ?_⟩
    refine h2 W B1 σ H1 ρ α1 (S.step A1) _ _ m _ (fun y e2 B2 H2 α2 A2 r2 m => ?_) ((x.sx S).after S.bs A1)
    obtain ⟨z, hz, a', fs, ea, e3, hl, m⟩ := m
    cases dref_inj ea
    refine og2 B2 H2 v y d e2 z A2.bs.bk (.vis (l2.mono A2.sub)) (.vis r2) hz _ fun v3 H3 s3 r3 => ?_
    have A3 := (A1.trans S.bs A2).trans S.bs (Af.of_sub A2.bs s3)
    obtain ⟨b3, dx', gs', g3, g4⟩ := A3.bs.obj e3
    refine ⟨dx', gs', g3, by rw [g4.length]; omega, ?_⟩
    have w := Af.write (o := .ins C dx' (putF f v3 gs')) (c := oD C (putD f z fs)) A3.bs e3 (.obj (g4.put r3))
    have A := A3.trans S.bs w
    exact h'.nx _ _ _ _ _ A (S.step A) m
abbrev MtD (c : C0) (k C : Nat) (m : Str) (np : Nat) (ds : List D) (fm : Fm) : Prop := ∃ (f : Addr) (fd : FuncData) (ps : List Str) (dV : List Value) (dvs : List V), FnOk c.P c.w c.K c.mg c.base (L2.CX c.P c.w) k f fd ps (fun vs H Q E => vs.length = ps.length ∧ spD c.K fm vs H Q E) ∧ Meth c.K C m f ∧ Binds c.K fd ps dV ∧ Vals dvs dV ∧ (∀ H, RpL c.K H dvs ds) ∧ ps.length = np + 1 + ds.length
theorem MtD.ex {c : C0} {k C : Nat} {m : Str} {np : Nat} {ds : List D} {fm : Fm} (h : MtD c k C m np ds fm) : ∃ (f : Addr) (fd : FuncData) (ps : List Str) (dV : List Value) (dvs : List V), FnOk c.P c.w c.K c.mg c.base (L2.CX c.P c.w) k f fd ps (fun vs H Q E => vs.length = ps.length ∧ spD c.K fm vs H Q E) ∧ Meth c.K C m f ∧ Binds c.K fd ps dV ∧ Vals dvs dV ∧ (∀ H, RpL c.K H dvs ds) ∧ ps.length = np + 1 + ds.length := h
theorem Pro.mt {f : Addr} {ps : List Str} {k np C : Nat} {m : Str} {dvs : List V} {js : List Nat} {fm : Fm} (P : Pro c k f ps dvs js fm) (M : Meth c.K C m f) (hp : ps.length = np + 1 := by rfl) : MtD c k C m np [] fm := by
  obtain ⟨fd, F, kp, b, _⟩ := P.ex
  exact ⟨f, fd, ps, [], [], F, M, b, .nil, fun _ => .nil, hp⟩
theorem Pro.mtd {f : Addr} {ps : List Str} {k np C : Nat} {m : Str} {dvs : List V} {js : List Nat} {fm : Fm} (P : Pro c k f ps dvs js fm) (M : Meth c.K C m f) (j : Nat) (ds : List D) (hj : j ∈ js) (hd : ∀ H, RpL c.K H (dvs.drop j) ds) (hp : ps.length = np + 1 + ds.length := by rfl) : MtD c k C m np ds fm := by
  obtain ⟨fd, F, kp, b, b2⟩ := P.ex
  obtain ⟨dV, h1, h2⟩ := b2 j hj
  exact ⟨f, fd, ps, dV, _, F, M, h2, h1, hd, hp⟩
def noF (C : Nat) (m : Str) : D → Bool
  | .dict ((.none, .int k) :: fs) => decide (k = Int.ofNat C) && (lookF m fs).isNone
  | _ => false
theorem noF_of {C : Nat} {m : Str} {d : D} (h : noF C m d = true) : ∃ fs, d = oD C fs ∧ lookF m fs = none := by
  unfold noF at h
  split at h
  · rename_i k fs
    rw [Bool.and_eq_true] at h
    refine ⟨fs, ?_, Option.isNone_iff_eq_none.mp h.2⟩
    unfold oD
    rw [of_decide_eq_true h.1]
  · cases h
def methK (C : Nat) (m : Str) (np : Nat) (fm : Fm) (ds : List D) (mo : ME) (ma : ML) : ME := fun ρ α Q E => mo ρ α (fun o α1 => oq (vw α1 o) fun od => noF C m od = true ∧ ma ρ α1 (fun as α2 => as.length = np ∧ fm (o :: (as ++ ds)) α2 Q E) E) E
def tMethSD (C : Addr) (m : Str) (sp : Sp) (dvs : List V) (E : L2.St → XK) (ta : TE) (t : TA) : TE := fun σ H Q => ta σ H fun x H1 => ∃ a dx fs, x = .ref a ∧ H1 a = some (.ins C dx fs) ∧ fs.lookup m = none ∧
  t σ H1 fun vs H2 => sp (x :: (vs ++ dvs)) H2 Q (E σ)
theorem pe_methSD {X : Cx} {CX : CXT} {k : Nat} {f C : Addr} {fd : FuncData} {ps : List Str} {sp : Sp} {dvs : List V} {ds : List Value} {E : L2.St → XK} {m : Str} {pos apos : Pos} {e o : Expr} {es : List Expr} {ta : TE} {t : TA} {pl : Sem Bool} (he : PE X o ta) (c : Cls X.K C) (hm : Meth X.K C m f) (F : FnOk X.prog X.w X.K X.mg X.base CX k f fd ps sp) (hr : Room k X.A) (hb : Binds X.K fd ps ds) (hd : Vals dvs ds) (hx : ∀ σ, PassesAt CX X σ (E σ)) (ha : PA X (e :: es) t)
    (hst : starEach (e :: es) X.env = (false, eval e X.env) :: starEach es X.env := by rfl) (hpl : (backTo pos (starEach es X.env)).any (·.1) = false := by rfl)
    (ht : eval (.Call (.Attribute o m apos) (e :: es) [] pos) X.env = (do
      let ov ← eval o X.env
      standAt apos.atName
      let (f, first) ← holding [ov] (getMethod ov m pl)
      callWith pos f first (backTo pos (starEach (e :: es) X.env)) (backToKw pos (keywordEach [] X.env))) := by rfl) :
    PE X (.Call (.Attribute o m apos) (e :: es) [] pos) (tMethSD C m sp dvs E ta t) := by
  refine ⟨fun pins s σ H Q I h => ?_⟩
  refine PySem.W.methodCall_KW (pl := pl) (thn (he.run pins s σ H _ I h) fun u s1 ⟨x, H1, I1, rx, a, dx, fs, ex, ea, l, q⟩ => ?_) ht
  subst ex
  obtain rfl : u = Value.ref a := rx
  refine getmeth_ok I1 ea c hm l ?_
  refine PySem.W.callWith_K (first := [.ref a]) (h₀ := X.base) I.ok.mod.kin hm.kp (thn (ha.run pos pins s1 σ H1 _ I1 q) fun us s2 ⟨vs, H2, I2, r, q2⟩ => ⟨I2.kIn, ?_⟩) hst hpl
  exact run_fnSD (us := .ref a :: us) (vs := .ref a :: vs) F hr hb hd (hx σ) I2 (.cons rfl r) q2
theorem pe_methSD0 {X : Cx} {CX : CXT} {k : Nat} {f C : Addr} {fd : FuncData} {ps : List Str} {sp : Sp} {dvs : List V} {ds : List Value} {E : L2.St → XK} {m : Str} {pos apos : Pos} {o : Expr} {ta : TE} {pl : Sem Bool} (he : PE X o ta) (c : Cls X.K C) (hm : Meth X.K C m f) (F : FnOk X.prog X.w X.K X.mg X.base CX k f fd ps sp) (hr : Room k X.A) (hb : Binds X.K fd ps ds) (hd : Vals dvs ds) (hx : ∀ σ, PassesAt CX X σ (E σ))
    (ht : eval (.Call (.Attribute o m apos) [] [] pos) X.env = (do
      let ov ← eval o X.env
      standAt apos.atName
      let (f, first) ← holding [ov] (getMethod ov m pl)
      callWith pos f first (backTo pos (starEach [] X.env)) (backToKw pos (keywordEach [] X.env))) := by rfl) :
    PE X (.Call (.Attribute o m apos) [] [] pos) (tMethSD C m sp dvs E ta tNil) := by
  refine ⟨fun pins s σ H Q I h => ?_⟩
  refine PySem.W.methodCall_KW (pl := pl) (thn (he.run pins s σ H _ I h) fun u s1 ⟨x, H1, I1, rx, a, dx, fs, ex, ea, l, q⟩ => ?_) ht
  subst ex
  obtain rfl : u = Value.ref a := rx
  refine getmeth_ok I1 ea c hm l ?_
  exact PySem.W.callWith_K0 (first := [.ref a]) I1.kIn hm.kp (run_fnSD (us := [.ref a]) (vs := [.ref a]) F hr hb hd (hx σ) I1 (.cons rfl .nil) q)
theorem sd_meth {K : Frag} {W : WX} {C np n : Nat} {m : Str} {fm : Fm} {mo : ME} {ma : ML} {ta : TE} {t : TA} {dvs : List V} {ds : List D} (hd : ∀ H, RpL K H dvs ds) (hn : n = np + 1 + ds.length) (h : Sd K W ta mo) (hr : SA K W t ma) :
    Sd K W (tMethSD C m (fun vs H Q E => vs.length = n ∧ spD K fm vs H Q E) dvs (WE W) ta t) (methK C m np fm ds mo ma) := fun B σ H ρ α S Qm Em mm Q q x => by
  refine h B σ H ρ α S _ Em mm _ (fun v o B1 H1 α1 A1 r1 mm => ?_) x
  obtain ⟨od, ho, hno, mm⟩ := mm
  obtain ⟨fs, rfl, hl⟩ := noF_of hno
  obtain ⟨a, dx, gs, rfl, g1, g2⟩ := (vw_rs A1.bs r1 ho).oD
  refine ⟨a, dx, gs, rfl, g1, g2.lookN hl, ?_⟩
  refine hr B1 σ H1 ρ α1 (S.step A1) _ Em mm _ (fun vs as B2 H2 α2 A2 ra mm => ?_) (x.after S.bs A1)
  have A12 := A1.trans S.bs A2
  have el : (vs ++ dvs).length = as.length + ds.length := by rw [List.length_append, ra.length, (hd H).length]
  refine ⟨by rw [List.length_cons, el, mm.1, hn]; omega, B2, α2, o :: (as ++ ds), Qm, Em, A2.bs, .cons (r1.mono A2.sub) (ra.append (hd _)), mm.2, fun v d B3 H3 α3 A3 r3 m => q v d B3 H3 α3 (A12.trans S.bs A3) r3 m, fun y B3 α3 cls d H3 A3 r3 m => x y B3 α3 cls d H3 (A12.trans S.bs A3) r3 m⟩
theorem je_meth {C j np : Nat} {m : Str} {fm : Fm} {o e : Expr} {es : List Expr} {apos pos : Pos} {mo : ME} {ma : ML} {ds : List D} {pl : Env → Sem Bool} (cl : Cls c.K C) (M : MtD c j C m np ds fm) (hk : j ≤ c.k) (h : JE c N sc o mo) (ha : JL c N sc (e :: es) ma) (hc : c.cm = true := by rfl)
    (hst : ∀ env, starEach (e :: es) env = (false, eval e env) :: starEach es env := by intros; rfl) (hpl : ∀ env, (backTo pos (starEach es env)).any (·.1) = false := by intros; rfl)
    (ht : ∀ env, eval (.Call (.Attribute o m apos) (e :: es) [] pos) env = (do
      let ov ← eval o env
      standAt apos.atName
      let (f, first) ← holding [ov] (getMethod ov m (pl env))
      callWith pos f first (backTo pos (starEach (e :: es) env)) (backToKw pos (keywordEach [] env))) := by intros; rfl) : JE c N sc (.Call (.Attribute o m apos) (e :: es) [] pos) (methK C m np fm ds mo ma) := by
  obtain ⟨f, fd, ps, dV, dvs, F, h1, h2, h3, h4, h5⟩ := M.ex
  obtain ⟨t, p1, s1⟩ := h
  obtain ⟨u, q1, q2⟩ := ha
  refine ⟨fun W => tMethSD C m (fun vs H Q E => vs.length = ps.length ∧ spD c.K fm vs H Q E) dvs (WE W) (t W) (u W), fun X W I T => ?_, fun W => sd_meth h4 h5 (s1 W) (q2 W)⟩
  have F' : FnOk X.prog X.w X.K X.mg X.base (L2.CX X.prog X.w) j f fd ps (fun vs H Q E => vs.length = ps.length ∧ spD c.K fm vs H Q E) := by
    rw [I.P, I.w, I.K, I.mg, I.base]
    exact F
  exact pe_methSD (p1 X W I T) (by rw [I.K]; exact cl) (by rw [I.K]; exact h1) F' ((I.rm hc).mono hk) (by rw [I.K]; exact h2) h3 (fun σ => passAt T σ) (q1 X W I T) (hst _) (hpl _) (ht _)
theorem je_meth0 {C j : Nat} {m : Str} {fm : Fm} {o : Expr} {apos pos : Pos} {mo : ME} {ds : List D} {pl : Env → Sem Bool} (cl : Cls c.K C) (M : MtD c j C m 0 ds fm) (hk : j ≤ c.k) (h : JE c N sc o mo) (hc : c.cm = true := by rfl)
    (ht : ∀ env, eval (.Call (.Attribute o m apos) [] [] pos) env = (do
      let ov ← eval o env
      standAt apos.atName
      let (f, first) ← holding [ov] (getMethod ov m (pl env))
      callWith pos f first (backTo pos (starEach [] env)) (backToKw pos (keywordEach [] env))) := by intros; rfl) : JE c N sc (.Call (.Attribute o m apos) [] [] pos) (methK C m 0 fm ds mo nilK) := by
  obtain ⟨f, fd, ps, dV, dvs, F, h1, h2, h3, h4, h5⟩ := M.ex
  obtain ⟨t, p1, s1⟩ := h
  refine ⟨fun W => tMethSD C m (fun vs H Q E => vs.length = ps.length ∧ spD c.K fm vs H Q E) dvs (WE W) (t W) tNil, fun X W I T => ?_, fun W => sd_meth h4 h5 (s1 W) sa_nil⟩
  have F' : FnOk X.prog X.w X.K X.mg X.base (L2.CX X.prog X.w) j f fd ps (fun vs H Q E => vs.length = ps.length ∧ spD c.K fm vs H Q E) := by
    rw [I.P, I.w, I.K, I.mg, I.base]
    exact F
  exact pe_methSD0 (p1 X W I T) (by rw [I.K]; exact cl) (by rw [I.K]; exact h1) F' ((I.rm hc).mono hk) (by rw [I.K]; exact h2) h3 (fun σ => passAt T σ) (ht _)
abbrev MkD (c : C0) (k : Nat) (x : Str) (C np : Nat) (ds : List D) (fm : Fm) : Prop := ∃ (f : Addr) (fd : FuncData) (ps : List Str) (dV : List Value) (dvs : List V), Mk c.K C f ∧ FnOk c.P c.w c.K c.mg c.base (L2.CX c.P c.w) k f fd ps (fun vs H Q E => vs.length = ps.length ∧ spD c.K fm vs H Q E) ∧ c.mg x = some (.ref C) ∧ Binds c.K fd ps dV ∧ Vals dvs dV ∧ (∀ H, RpL c.K H dvs ds) ∧ ps.length = np + 1 + ds.length
theorem MkD.ex {c : C0} {k : Nat} {x : Str} {C np : Nat} {ds : List D} {fm : Fm} (h : MkD c k x C np ds fm) : ∃ (f : Addr) (fd : FuncData) (ps : List Str) (dV : List Value) (dvs : List V), Mk c.K C f ∧ FnOk c.P c.w c.K c.mg c.base (L2.CX c.P c.w) k f fd ps (fun vs H Q E => vs.length = ps.length ∧ spD c.K fm vs H Q E) ∧ c.mg x = some (.ref C) ∧ Binds c.K fd ps dV ∧ Vals dvs dV ∧ (∀ H, RpL c.K H dvs ds) ∧ ps.length = np + 1 + ds.length := h
theorem Pro.mk_ {f : Addr} {ps : List Str} {k np C : Nat} {x : Str} {dvs : List V} {js : List Nat} {fm : Fm} (P : Pro c k f ps dvs js fm) (M : Mk c.K C f) (hm : c.mg x = some (.ref C)) (hp : ps.length = np + 1 := by rfl) : MkD c k x C np [] fm := by
  obtain ⟨fd, F, kp, b, _⟩ := P.ex
  exact ⟨f, fd, ps, [], [], M, F, hm, b, .nil, fun _ => .nil, hp⟩
theorem Pro.mkd {f : Addr} {ps : List Str} {k np C : Nat} {x : Str} {dvs : List V} {js : List Nat} {fm : Fm} (P : Pro c k f ps dvs js fm) (M : Mk c.K C f) (hm : c.mg x = some (.ref C)) (j : Nat) (ds : List D) (hj : j ∈ js) (hd : ∀ H, RpL c.K H (dvs.drop j) ds) (hp : ps.length = np + 1 + ds.length := by rfl) : MkD c k x C np ds fm := by
  obtain ⟨fd, F, kp, b, b2⟩ := P.ex
  obtain ⟨dV, h1, h2⟩ := b2 j hj
  exact ⟨f, fd, ps, dV, _, M, F, hm, h2, h1, hd, hp⟩
def mkK (C np : Nat) (fm : Fm) (ds : List D) (ma : ML) : ME := fun ρ α Q E => ma ρ α (fun as α1 => as.length = np ∧ ∀ p, α1 p = none → fm (dref p :: (as ++ ds)) (aset α1 p (oD C [])) (fun v α2 => v = .none ∧ Q (dref p) α2) E) E
def tMakeSD (C : Addr) (sp : Sp) (dvs : List V) (E : L2.St → XK) (t : TA) : TE := fun σ H Q => t σ H fun vs H1 => ∀ x dx, H1 x = none → H1 dx = none → dx ≠ x →
  sp (.ref x :: (vs ++ dvs)) (upd (upd H1 dx (.own x)) x (.ins C dx [])) (fun v H2 => v = .non ∧ Q (.ref x) H2) (E σ)
theorem run_makeSD {X : Cx} {CX : CXT} {k : Nat} {f C : Addr} {fd : FuncData} {ps : List Str} {sp : Sp} {dvs : List V} {ds : List Value} {E : L2.St → XK} {pins : List (Addr × Obj)} {σ : L2.St} {H : Hp} {s : Shared} {Q : VK} {us : List Value} {vs : List V} (M : Mk X.K C f) (F : FnOk X.prog X.w X.K X.mg X.base CX k f fd ps sp) (hr : Room (k + 1) X.A) (hb : Binds X.K fd ps ds) (hd : Vals dvs ds)
    (hx : PassesAt CX X σ (E σ)) (I : Inv X pins σ H s) (r : Vals vs us)
    (h : ∀ x dx, H x = none → H dx = none → dx ≠ x → sp (.ref x :: (vs ++ dvs)) (upd (upd H dx (.own x)) x (.ins C dx [])) (fun v H2 => v = .non ∧ Q (.ref x) H2) (E σ)) :
    wpAny (model X.prog X.w) X.A (call (.ref C) us) (EP X pins σ Q) X.xe s := by
  have hq := h (s.heap.objs.size + 1) s.heap.objs.size (I.hok.fresh (Nat.le_succ _)) (I.hok.fresh (Nat.le_refl _)) (Nat.ne_of_lt (Nat.lt_succ_self _))
  have I2 := Inv.made (C := C) I
  have r2 : Vals (V.ref (s.heap.objs.size + 1) :: (vs ++ dvs)) (Value.ref (s.heap.objs.size + 1) :: (us ++ ds)) := .cons rfl (r.append hd)
  have hl : (Value.ref (s.heap.objs.size + 1) :: us ++ ds).length = ps.length := by
    have e := r2.length
    rw [F.len _ _ _ _ hq] at e
    exact e.symm
  refine wpAny_call (make_map (f := f) I.kIn M.makes M.init (beq_iff_eq.mp M.fn) (codeAny_mono (F.run _ X.stack _ _ ⟨Value.ref (s.heap.objs.size + 1) :: us, []⟩ (Value.ref (s.heap.objs.size + 1) :: (us ++ ds)) _ _ (E σ) (hr.make C us [])
    (I2.env0.make C us []) (hb _ (Value.ref (s.heap.objs.size + 1) :: us) I2.kIn hl) r2 hq) fun r s' hq' => ?_))
  cases r with
  | error e => exact hx pins _ _ e s' I2 hq'
  | ok fl =>
    cases fl with
    | ret u =>
      obtain ⟨v, H', I3, rv, ev, q3⟩ := I2.after hq'
      subst ev
      exact ⟨rv, ⟨V.ref (s.heap.objs.size + 1), H', I3, rfl, q3⟩⟩
    | next => exact False.elim hq'
    | brk => exact False.elim hq'
    | cont => exact False.elim hq'
theorem pe_makeSD {X : Cx} {CX : CXT} {k : Nat} {f C : Addr} {fd : FuncData} {ps : List Str} {sp : Sp} {dvs : List V} {ds : List Value} {E : L2.St → XK} {x : Str} {p pos : Pos} {e : Expr} {es : List Expr} {t : TA} (M : Mk X.K C f) (F : FnOk X.prog X.w X.K X.mg X.base CX k f fd ps sp) (hr : Room (k + 1) X.A) (hg : Gl X x) (hm : X.mg x = some (.ref C)) (hb : Binds X.K fd ps ds) (hd : Vals dvs ds) (hx : ∀ σ, PassesAt CX X σ (E σ))
    (ha : PA X (e :: es) t) (hdb : (x == ("__debug__" : Str)) = false := by decide) (he : starEach (e :: es) X.env = (false, eval e X.env) :: starEach es X.env := by rfl) (hpl : (backTo pos (starEach es X.env)).any (·.1) = false := by rfl) :
    PE X (.Call (.Name x p) (e :: es) [] pos) (tMakeSD C sp dvs E t) := by
  refine ⟨fun pins s σ H Q I h => ?_⟩
  refine wpAny_Call_Name_kw (ld_glob I hg hm ?_ hdb)
  refine PySem.W.callWith_K (h₀ := X.base) I.ok.mod.kin M.kp (thn (ha.run pos pins s σ H _ I h) fun us s1 ⟨vs, H1, I1, r, q⟩ => ⟨I1.kIn, ?_⟩) he hpl
  exact run_makeSD M F hr hb hd (hx σ) I1 r q
theorem sd_mk {K : Frag} {W : WX} {C np n : Nat} {fm : Fm} {ma : ML} {t : TA} {dvs : List V} {ds : List D} (hd : ∀ H, RpL K H dvs ds) (hn : n = np + 1 + ds.length) (hr : SA K W t ma) :
    Sd K W (tMakeSD C (fun vs H Q E => vs.length = n ∧ spD K fm vs H Q E) dvs (WE W) t) (mkK C np fm ds ma) := fun B σ H ρ α S Qm Em mm Q q x => by
  refine hr B σ H ρ α S _ Em mm _ (fun vs as B1 H1 α1 A1 ra mm => ?_) x
  intro l dx nl ndx ne
  have sb : Sub H1 (upd (upd H1 dx (.own l)) l (.ins C dx [])) := fun b o e => by
    rw [upd_ne (ne_of_none e nl), upd_ne (ne_of_none e ndx)]
    exact e
  have A2 := Af.cell (c := oD C []) A1.bs sb nl (by rw [upd_same]; exact .obj .nil)
  have A12 := A1.trans S.bs A2
  have el : (vs ++ dvs).length = as.length + ds.length := by rw [List.length_append, ra.length, (hd H).length]
  refine ⟨by rw [List.length_cons, el, mm.1, hn]; omega, _, _, dref l :: (as ++ ds), _, Em, A2.bs, .cons .ref ((ra.mono A2.sub).append (hd _)), mm.2 l (A1.bs.new nl), fun v d B3 H3 α3 A3 r3 m => ?_, fun y B3 α3 cls d H3 A3 r3 m => x y B3 α3 cls d H3 (A12.trans S.bs A3) r3 m⟩
  obtain ⟨rfl, m⟩ := m
  exact ⟨r3.nonei, q _ _ B3 H3 α3 (A12.trans S.bs A3) .ref m⟩
theorem je_mk {C j np : Nat} {x : Str} {fm : Fm} {e : Expr} {es : List Expr} {p pos : Pos} {ma : ML} {ds : List D} (M : MkD c j x C np ds fm) (hk : j + 1 ≤ c.k) (hg : sc.names.lookup x = some .globalImplicit) (ha : JL c N sc (e :: es) ma) (hc : c.cm = true := by rfl)
    (hdb : (x == ("__debug__" : Str)) = false := by decide) (he : ∀ env, starEach (e :: es) env = (false, eval e env) :: starEach es env := by intros; rfl) (hpl : ∀ env, (backTo pos (starEach es env)).any (·.1) = false := by intros; rfl) :
    JE c N sc (.Call (.Name x p) (e :: es) [] pos) (mkK C np fm ds ma) := by
  obtain ⟨f, fd, ps, dV, dvs, M, F, h1, h2, h3, h4, h5⟩ := M.ex
  obtain ⟨u, q1, q2⟩ := ha
  refine ⟨fun W => tMakeSD C (fun vs H Q E => vs.length = ps.length ∧ spD c.K fm vs H Q E) dvs (WE W) (u W), fun X W I T => ?_, fun W => sd_mk h4 h5 (q2 W)⟩
  have F' : FnOk X.prog X.w X.K X.mg X.base (L2.CX X.prog X.w) j f fd ps (fun vs H Q E => vs.length = ps.length ∧ spD c.K fm vs H Q E) := by
    rw [I.P, I.w, I.K, I.mg, I.base]
    exact F
  exact pe_makeSD (by rw [I.K]; exact M) F' ((I.rm hc).mono hk) (I.gl hg) (by rw [I.mg]; exact h1) (by rw [I.K]; exact h2) h3 (fun σ => passAt T σ) (q1 X W I T) hdb (he _) (hpl _)
def scriptD (ns : List Int) : D := .list (ns.map PyData.int)
/-- the law's end: its mirror gives True at every script -/
theorem law_fn {f : Addr} {fd : FuncData} {k : Nat} {m : Fm} {x : Str} (F : FnOk c.P c.w c.K c.mg c.base (L2.CX c.P c.w) k f fd [x] (fun vs H Q E => vs.length = [x].length ∧ spD c.K m vs H Q E)) (hm : ∀ ns : List Int, ns.length ≤ 63 → m [scriptD ns] (fun _ => none) (fun d _ => d = .bool true) (fun _ _ => False)) :
    FnOk c.P c.w c.K c.mg c.base (L2.CX c.P c.w) k f fd [x] (fun vs H Q _ => ∃ (a : Addr) (ns : List Int), vs = [.ref a] ∧ SqL c.K H a (ns.map V.int) ∧ ns.length ≤ 63 ∧ ∀ H', Q (.bl true) H') :=
  F.imp fun vs H Q E h => by
    obtain ⟨a, ns, rfl, hS, hl, q⟩ := h
    have hh : hide (fun _ => false) H = H := by
      funext b
      rfl
    refine ⟨rfl, fun _ => false, fun _ => none, [scriptD ns], _, _, ⟨fun a c h => (by cases h), fun a h => (by cases h)⟩, ?_, hm ns hl, fun v d B' H' α' A r m => ?_, fun x B' α' cls d H' A r m => m.elim⟩
    · rw [hh]
      exact .cons (.lst hS (RpL.ints ns)) .nil
    · subst m
      rw [r.booli]
      exact q H'
theorem walk_law {l : PySem.W.OpenLaw} {q : Program} {loose : List Str} {XP : (Str → Option Value) → Heap → Prop} {YP : World → Heap → Prop} {d : DefRec} {K : Params → PySem.W.Frag} {k : Nat} {x : Str} (hn : l.most = some 63) (hdf : d.params.defaults = [])
    (hr : Room k callerA) (hY : ∀ (w : World) (h : Heap), YP w h → (K w.params).In h)
    (F : ∀ (w : World) (mg : Str → Option Value) (fa : Addr) (h : Heap), (K w.params).In h → h.Ns mainGlobals mg → mg d.name = some (.ref fa) →
      ∃ fd : FuncData, (∀ (s : Shared) (u : Value), BindsTo s fd ⟨[u], []⟩ [(x, u)]) ∧ ∀ base : Heap, (K w.params).In base → base.Ns mainGlobals mg → FnOk l.prog w (K w.params) mg base (L2.CX l.prog w) k fa fd [x]
        (fun vs H Q _ => ∃ (a : Addr) (ns : List Int), vs = [.ref a] ∧ SqL (K w.params) H a (ns.map V.int) ∧ ns.length ≤ 63 ∧ ∀ H', Q (.bl true) H')) :
    PySem.W.WalkO q loose XP YP l.row.toRowW d [] (fun f vs => PySem.call f vs) :=
  L2.walk_of (n := 63) (k := k) (x := x) (CX := fun w => L2.CX l.prog w) (sp := fun w vs H Q _ => ∃ (a : Addr) (ns : List Int), vs = [.ref a] ∧ SqL (K w.params) H a (ns.map V.int) ∧ ns.length ≤ 63 ∧ ∀ H', Q (.bl true) H') hn (by decide) hdf hr hY F (fun _ _ a ns hl _ hS => ⟨a, ns, rfl, hS, hl, fun _ => rfl⟩) fun w H s e s' h => by
    obtain ⟨_, _, _, _, _, _, _, _, _, _, _, _, z⟩ := h
    exact z
end Hz
namespace Hz
open PySem L2
section
open PySem.W PySem.Calls PyProof.Rows
variable {prog : Program} {w : World} {A : Around} {E : Value → Shared → Prop} {h : Heap} {g : Array GenState} {d : Drawn} {t : Nat} {os : OsState}
variable {nm q : Str} {C N : Addr} {bs bm : List Value} {hdct : Bool} {sn : List Str} {sub : List Value} {ab : Bool} {col : Option Bool} {dd : Option Addr} {k0 k1 k2 k3 k5 : Option Value}
theorem call_mwVE {u e t0 : Addr} {rest : List Value} {Q : Value → Shared → Prop}
    (hC : h.get? C = some (excClassObj nm q C N bs bm hdct sn sub ab col dd k0 k1 k2 k3 k5 "ValueError.__new__")) (he : h.get? e = some (HandSPX.excO C t0)) (hu : h.get? u = some (kxs_mw "ValueError.__init__" e)) (hrest : rest.length ≤ sizeLine)
    (hq : ∀ h' t1, (∀ b o, b ≠ e → h.get? b = some o → h'.get? b = some o) → h'.get? e = some (HandSPX.excO C t1) → Q .none ⟨h', g, d, t, os⟩) :
    wpAny (model prog w) A (call (.ref u) rest) Q E ⟨h, g, d, t, os⟩ := by
  refine wpAny_call (codeAny_of_tree ?_)
  show wpAny _ A.in1 (callAny (.ref u) ⟨rest, []⟩) _ _ _
  simp only [callAny]
  refine wpAny_bind (wpAny_load hu ?_)
  simp only [kxs_mw, show (Value.type "method-wrapper" == Value.type "method" || Value.type "method-wrapper" == Value.type "builtin_function_or_method" || Value.type "method-wrapper" == Value.type "method-wrapper") = true by decide, if_true]
  refine W.KFB.if_so (by decide) ?_
  refine wpAny_bind (ESX.check_bound F.excBase_ValueError hC he rfl ?_)
  refine wpAny_bind (wpAny_pure (wpAny_pure ?_))
  refine ⟨Code.quiet_builtin _ (by decide +kernel), codeAny_builtin F.excBase_ValueError.initEntry ?_⟩
  rw [Around.under_plainId F.excBase_ValueError.init.plain _]
  wp_walk
  refine hq _ h.objs.size (fun b o hb ho => ?_) ?_
  · rw [Heap.get?_update_other _ _ (Ne.symm hb)]
    exact Heap.get?_push_of_some _ ho
  · rw [Heap.get?_update_self _ (Heap.get?_push_of_some _ he) rfl]
    rfl
end
/-- what the written part says of an exception class whose __init__ is cF's, at fI -/
structure ExC (K : Frag) (cF fI C : Addr) : Prop where
  o : OexC K C
  cl : ∃ cd, PySem.W.clsIn K C = some cd
  sb : PySem.W.mroIn K C (.ref cF) = some true
  su : PySem.W.ks_superIn K C cF "__init__" = some (some (.builtin "ValueError.__init__"))
  ve : PySem.W.subIn K (.ref C) (.type "ValueError") = some true
  np : PySem.W.findIn K (.ref C) "place" = some none
  ini : PySem.W.findIn K (.ref C) "__init__" = some (some (.ref fI))
  hd : PySem.W.hasDictIn K C = true
  ga : PySem.W.findIn K (.ref C) "__getattribute__" = some (some (.builtin "BaseException.__getattribute__"))
  gg : PySem.W.findIn K (.ref C) "__getattr__" = some none
  ca : PySem.W.findIn K (.ref C) "__class__" = some (some (.builtin "object.__class__"))
  cn : PySem.W.specialIn K (.builtin "object.__class__") "__get__" = some (some (.builtin "getset_descriptor.__get__"))
  ct : PySem.W.takesIn K (.builtin "object.__class__") = some true
  cm : PySem.W.mroIn K C (.type "object") = some true
/-- the base class's __init__: its statement st: super().__init__(place); self.place = place -/
structure ExI (P : Program) (K : Frag) (cF fI : Addr) (qual : Str) (st : Stmt) : Prop where
  ex : ∃ (oc doc pm ct : Value) (od an : Option Addr) (kV : Value) (osl : Array (Option Value)) (cda cc : Addr) (ccl cl : Value) (cdd cld : Option Addr) (vs : Array Value) (ccs csl : Array (Option Value)) (file : Str) (tf : Tok) (cdD : ClassData),
    K.lookup fI = some ⟨oc, od, .func (PySem.W.ksFn "__init__" qual (defArgs st) (defBody st) (defScope st) .none kV doc pm an (.ref cda) ct cc), osl⟩ ∧ PySem.W.codeIn K (.ref cda) qual = true ∧
    K.lookup cda = some ⟨ccl, cdd, .fields vs, ccs⟩ ∧ vs[2]? = some (.str file tf) ∧ ((P.main.file : Str) == file) = true ∧ K.lookup cc = some ⟨cl, cld, .cell (some (.ref cF)), csl⟩ ∧ PySem.W.clsIn K cF = some cdD
  kp : PySem.W.keepIn K (.ref fI) = true
  ty : PySem.W.typeIn K (.ref fI) = some (.type "function")
  tp : PySem.W.nsIn K cStatics "thirdparty.any" = some none
  top : (P.main.scope.names.lookup ("super" : Str)).isSome = false
/-- what it promises -/
def spX (K : Frag) (cF fI : Addr) : Sp := fun vs H Q _ => ∃ (a C : Addr) (y : V), vs = [.ref a, y] ∧ ExC K cF fI C ∧ H a = some (exo a C none) ∧ ∀ dx, H dx = none → dx ≠ a → Q .non (upd (upd H dx (exd dx [("place", y)])) a (exo a C (some dx)))
/-- the written form of that def -/
structure InitForm (st : Stmt) : Prop where
  ex : ∃ (p0 p1 p2 p3 p4 p5 q0 q1 q2 q3 : Pos) (pl : Env → Sem Bool), defBody st = [.Expr (.Call (.Attribute (.Call (.Name "super" p0) [] [] p1) "__init__" p2) [.Name "place" p3] [] p4) p5, .Assign [.Attribute (.Name "self" q0) "place" q1] (.Name "place" q2) q3] ∧
    (∀ env, eval (.Call (.Attribute (.Call (.Name "super" p0) [] [] p1) "__init__" p2) [.Name "place" p3] [] p4) env = (do
      let ov ← attributeBase (.Call (.Name "super" p0) [] [] p1) "__init__" env (eval (.Call (.Name "super" p0) [] [] p1) env)
      standAt p2.atName
      let (f, first) ← holding [ov] (getMethod ov "__init__" (pl env))
      callWith p4 f first (backTo p4 (starEach [.Name "place" p3] env)) [])) ∧
    (∀ env, swapsWith (.Call (.Attribute (.Call (.Name "super" p0) [] [] p1) "__init__" p2) [.Name "place" p3] [] p4) none p5.line env = pure false) ∧
    ∀ env, swapsWith (.Name "place" q2) (some (.Attribute (.Name "self" q0) "place" q1)) q3.line env = pure false
  sc : (defScope st).names.lookup ("super" : Str) = some .globalImplicit ∧ (defScope st).names.lookup ("__class__" : Str) = some .free ∧ (defScope st).names.lookup ("self" : Str) = some .local ∧ (defScope st).names.lookup ("place" : Str) = some .local
  kind : (defScope st).kind = .function
  co : (defScope st).isCoroutine = false
  gen : (defScope st).isGenerator = false
  cells : ∀ x ∈ (defScope st).names, x.2 ≠ .cell
  free : ∀ p ∈ (defScope st).names, p.2 = .free → p.1 = ("__class__" : Str)
  hp : ((defArgs st).posonlyargs ++ (defArgs st).args).head?.map (·.arg) = some "self"
  bd : ∀ (kV doc pm : Value) (an : Option Addr) (cda cc : Addr) (ct : Value) (qual : Str) (us : List Value), us.length = 2 → bindArgs (PySem.W.ksFn "__init__" qual (defArgs st) (defBody st) (defScope st) .none kV doc pm an (.ref cda) ct cc) ⟨us, []⟩ = pure ((["self", "place"] : List Str).zip us)
section
open PySem.W PySem.Calls PyProof.Rows
variable {P : Program} {w : World} {K : Frag} {mg : Str → Option Value} {base : Heap}
/-- the context of that def's body -/
def cxI (P : Program) (w : World) (K : Frag) (mg : Str → Option Value) (base : Heap) (env : Env) (A : Around) (outer : List Env) (s : Shared) (H : Hp) (xe : Value → Shared → Prop) : Cx where
  prog := P
  w := w
  K := K
  mg := mg
  base := base
  A := A.deeper env
  N := ["self", "place"]
  s_0 := s
  H_0 := H
  env := env
  outer := outer
  stack := env :: outer
  ex := []
  calm := true
  fn := fun _ => false
  pn := []
  xe := xe
set_option maxRecDepth 200000 in
theorem exi_ok {cF fI : Addr} {qual : Str} {st : Stmt} (T : ExI P K cF fI qual st) (S : InitForm st) (hsup : mg "super" = none) :
    ∃ fd, FnOk P w K mg base (L2.CX P w) 1 fI fd ["self", "place"] (spX K cF fI) ∧ Binds K fd ["self", "place"] [] := by
  obtain ⟨oc, doc, pm, ct, od, an, kV, osl, cda, cc, ccl, cl, cdd, cld, vs, ccs, csl, file, tf, cdD, lk, hcd, hcode, hvs, hfile, hcell, hD⟩ := T.ex
  refine ⟨_, ⟨fun vs H Q E h => ?_, fun A outer s H args us vs' Q E hr e0 hb r hsp => ?_⟩, .all fun us hl => S.bd kV doc pm an cda cc ct qual us hl⟩
  · obtain ⟨a, C, y, rfl, _⟩ := h
    rfl
  obtain ⟨a, C, y, rfl, X, ea, hq⟩ := hsp
  obtain ⟨u1, u2, rfl, ra, ry⟩ : ∃ u1 u2, us = [u1, u2] ∧ RelV (.ref a) u1 ∧ RelV y u2 := by
    cases r with
    | cons r1 r2 =>
      cases r2 with
      | cons r2 r3 =>
        cases r3
        exact ⟨_, _, rfl, r1, r2⟩
  obtain rfl : u1 = Value.ref a := ra
  have KX : K.In s.heap := e0.mod.kin.keeps fun b o e => (e0.bs b o e).1
  have lim : s.heap.NoLimit := e0.mod.nolimit.keeps fun b o e => (e0.bs b o e).1
  obtain ⟨hs, hc, hse, hpl⟩ := S.sc
  refine ks_codeAny_call_defAt (fd := ksFn "__init__" qual (defArgs st) (defBody st) (defScope st) .none kV doc pm an (.ref cda) ct cc) (body := defBody st) hr.depth (KX _ _ lk) rfl lim (codeRec_of KX hcd) rfl hb S.cells (fun x hx => ?_) (fun h₁ hns hk => ?_) S.co S.gen S.kind
  · have hx' : x ∈ [(("self" : Str), Value.ref a), (("place" : Str), u2)] := hx
    rcases List.mem_cons.mp hx' with rfl | hx'
    · exact hse
    · rcases List.mem_cons.mp hx' with rfl | hx'
      · exact hpl
      · cases hx'
  let env : Env := callEnv (ksFn "__init__" qual (defArgs st) (defBody st) (defScope st) .none kV doc pm an (.ref cda) ct cc) s.heap.objs.size fI
  let xe : Value → Shared → Prop := fun e s' => wpAny (model P w) (A.deeper env) (leaving env e) (fun _ s'' => CR (L2.CX P w) outer P w H s Q E (.error e) s'') (fun e' s'' => CR (L2.CX P w) outer P w H s Q E (.error e') s'') s'
  have hcc : base.get? cc = some ⟨cl, cld, .cell (some (.ref cF)), csl⟩ := e0.mod.kin _ _ hcell
  have I0 : L2.Inv (cxI P w K mg base env A outer s H xe) [] [some (.ref a), some y] H { s with heap := h₁, toks := s.toks + (([("self" : Str), "place"] : List Str).zip [Value.ref a, u2]).length } := by
    have one : ∀ x c, env.cells.lookup x = some c → x = "__class__" ∧ c = cc := fun x c e => by
      have e : List.lookup x [(("__class__" : Str), cc)] = some c := e
      by_cases z : x = "__class__"
      · subst z
        simp [List.lookup] at e
        exact ⟨rfl, e.symm⟩
      · have : (x == ("__class__" : Str)) = false := by simpa using z
        simp [List.lookup, this] at e
    have noA : ∀ b : Addr, b ∉ (cxI P w K mg base env A outer s H xe).ex := fun b z => absurd (show b ∈ ([] : List Addr) from z) (by simp)
    refine ⟨⟨e0.mod, S.kind, rfl, rfl, Nat.le_refl _, fun y z c h1 h2 => ?_, fun y hy => ?_, fun y c hf h => (by cases hf), fun _ => hr.hd, Around.frames_deeper e0.frames, .inr ⟨rfl, rfl⟩, fun b z => absurd z (noA b), e0.bs, e0.bsz, fun b _ _ => noA b, fun b z => absurd z (noA b), e0.funs, e0.frf⟩,
      rfl, e0.bare, Un.kept hk, ⟨_, hns, fun i x v h1 h2 h3 => ?_⟩, fun y c h => ?_, e0.hok.fresh (Nat.le_refl _), fun y c h => ?_, fun p hp => absurd (show p ∈ ([] : List (Addr × Obj)) from hp) (by simp), e0.hok.kept hk, rfl⟩
    · rw [(one y c h1).1, (one z c h2).1]
    · rcases hy with hy | hy
      · exact absurd rfl (S.cells _ (PySem.mem_of_lookup (show (defScope st).names.lookup y = some .cell from hy)))
      · have ey : y = "__class__" := S.free _ (PySem.mem_of_lookup (show (defScope st).names.lookup y = some .free from hy)) rfl
        rw [ey]
        exact ⟨cc, by show List.lookup ("__class__" : Str) [(("__class__" : Str), cc)] = some cc; simp [List.lookup]⟩
    · rcases i with _ | _ | i
      · cases h1; cases h2
        exact ⟨.ref a, rfl, .inl ⟨hse, by show List.lookup ("self" : Str) [(("place" : Str), u2), (("self" : Str), Value.ref a)] = some (.ref a); rfl⟩⟩
      · cases h1; cases h2
        exact ⟨u2, ry, .inl ⟨hpl, by show List.lookup ("place" : Str) [(("place" : Str), u2), (("self" : Str), Value.ref a)] = some u2; rfl⟩⟩
      · simp [cxI] at h1
    · obtain ⟨rfl, rfl⟩ := one y c h
      exact ⟨_, _, hk _ _ (KX _ _ hcell), rfl⟩
    · obtain ⟨rfl, rfl⟩ := one y c h
      exact (e0.bs _ _ hcc).2
  obtain ⟨p0, p1, p2, p3, p4, p5, q0, q1, q2, q3, pl, hbody, hev, hsw, hsw2⟩ := S.ex
  show _root_.PySem.wpAt (model P w) (A.deeper env) (.func (defBody st) env) (execs (defBody st) env) _ _ _
  have hx : execs (defBody st) env = execs [.Expr (.Call (.Attribute (.Call (.Name "super" p0) [] [] p1) "__init__" p2) [.Name "place" p3] [] p4) p5, .Assign [.Attribute (.Name "self" q0) "place" q1] (.Name "place" q2) q3] env := by rw [hbody]
  rw [hx]
  obtain ⟨ar, har, har2⟩ : ∃ ar, ((defArgs st).posonlyargs ++ (defArgs st).args).head? = some ar ∧ ar.arg = "self" := by
    have := S.hp
    cases z : ((defArgs st).posonlyargs ++ (defArgs st).args).head? with
    | none => rw [z] at this; cases this
    | some ar => rw [z] at this; exact ⟨ar, rfl, Option.some.inj this⟩
  obtain ⟨mb, hb1, hb2⟩ := I0.mod.blt
  have K0 := I0.kIn
  obtain ⟨oD, hD1, hD2⟩ : ∃ oD, h₁.get? cF = some oD ∧ oD.data = .cls cdD := by
    unfold clsIn at hD
    split at hD
    · rename_i c d cd' sl ho
      cases hD
      exact ⟨_, K0 _ _ ho, rfl⟩
    · cases hD
  obtain ⟨t1, hea⟩ := exo_at I0.hok ea
  obtain ⟨cd, hcd'⟩ := X.cl
  have hsu := X.su
  unfold ks_superIn at hsu
  rw [hcd', Option.bind_some] at hsu
  obtain ⟨nm, q, N, bs, bm, sn, sub, ab, col, dd, k0, k1, k2, k3, k5, hC, hbm⟩ := X.o.cls
  have haC : a ≠ C := fun z => by
    have := (e0.bs _ _ (e0.mod.kin _ _ hC)).2
    rw [← z, ea] at this
    cases this
  have hint : interactive env = false := by
    show ((defScope st).kind == .module && _) = false
    rw [S.kind]
    rfl
  refine ks_wpAt_execs_cons (ks_wpAt_Expr_any (ks_wpAt_MethodCall (pl := pl env) ?_ (hev env)) hint (hsw env))
  refine ks_wpAt_super_base (env := env) hs hc (by decide) rfl (hk _ _ (KX _ _ lk)) rfl har rfl (hk _ _ (KX _ _ hcode)) rfl hvs hfile T.top ?_
  refine ks_loadName_global S.kind hs (loadGlobal_builtin (env := env) (I0.mod.glob.keeps I0.bk) hsup (hb1.keeps I0.bk) ((hb2 _ (by decide)).trans PyProof.Rows.Boot.«super») ⟨rfl, ?_⟩)
  refine wpAny_loadName_free S.kind hc (c := cc) (by show List.lookup ("__class__" : Str) [(("__class__" : Str), cc)] = some cc; simp [List.lookup]) ⟨_, hk _ _ (KX _ _ hcell), rfl⟩ ?_
  rw [har2]
  refine wpAny_loadName_local S.kind hse hns (by show List.lookup ("self" : Str) [(("place" : Str), u2), (("self" : Str), Value.ref a)] = some (.ref a); rfl) ?_
  refine ks_wpAny_isType_cls hD1 hD2 ⟨rfl, ?_⟩
  refine ks_wpAny_call_super hD1 hD2 hea rfl (fun c z => by cases z) (looks_mroIn K0 X.sb) (fun h2 e2 kk2 => ?_)
  have I1 := I0.kept (h' := h2) (t' := s.toks + (([("self" : Str), "place"] : List Str).zip [Value.ref a, u2]).length) kk2
  have K1 := I1.kIn
  have LT : PySem.W.Looks (model P w) h2 (typeOf (.ref a)) (.ref C) := fun A Q E s k q => wpAny_typeOf_ref (k _ _ (kk2 _ _ hea)) q
  refine kxs_getMethod kxs_ValueError e2 (looks_opaque K1 T.tp) (l₀ := cd.mro) (fun A Q E s k q => wpAny_bind ((looks_clsIn K1 hcd') A _ E s k (wpAny_pure q))) rfl K1 hsu (LT.andThen (looks_subIn K1 X.ve)) haC (by decide) ?_
  have I2 := I1.kept (h' := h2.push (kxs_mw "ValueError.__init__" a)) (t' := s.toks + (([("self" : Str), "place"] : List Str).zip [Value.ref a, u2]).length + 1) (fun b o e => Heap.get?_push_of_some _ e)
  have hmw : (h2.push (kxs_mw "ValueError.__init__" a)).get? h2.objs.size = some (kxs_mw "ValueError.__init__" a) := Heap.get?_push_size _ rfl
  show wpAny (model P w) (A.deeper env) (callWith p4 (.ref h2.objs.size) [] (backTo p4 (starEach [.Name "place" p3] env)) []) _ _ _
  refine kxs_callWith (i := "ValueError.__init__") (x := a) rfl (evalArgs_plain ?_)
  show wpAny _ _ (spliced ((false, eval (.Name "place" p3) env) :: backTo p4 (starEach [] env))) _ _ _
  have hns2 := hns.keeps (h' := h2.push (kxs_mw "ValueError.__init__" a)) fun b o e => Heap.get?_push_of_some _ (kk2 b o e)
  refine Calls.spliced_cons (wpAny_Name (wpAny_loadName_local S.kind hpl hns2 (by show List.lookup ("place" : Str) [(("place" : Str), u2), (("self" : Str), Value.ref a)] = some u2; rfl) (Calls.spliced_nil ⟨hmw, ?_⟩)) (by decide))
  refine call_mwVE (I2.kIn _ _ hC) (Heap.get?_push_of_some _ (kk2 _ _ hea)) hmw (by show 1 ≤ sizeLine; decide) (fun h3 t3 kk3 he3 => ?_)
  have I3 := I2.write (t' := s.toks + (([("self" : Str), "place"] : List Str).zip [Value.ref a, u2]).length + 1) (x := a) (e := a) (o := exo a C none) (by rw [ea]; exact True.intro) (.inl rfl) kk3 ⟨_, he3⟩ (exo_ok he3)
  have eu : upd H a (exo a C none) = H := by
    funext b
    by_cases hb : b = a
    · rw [hb, upd_same, ea]
    · rw [upd_ne hb]
  rw [eu] at I3
  have ps := pss_one (ps_ost (pe_var (X := cxI P w K mg base env A outer s H xe) (i := 0) (pos := q0) rfl (.inl hse)) (pe_var (i := 1) (pos := q2) rfl (.inl hpl)) (hsw2 env) (f := "place") (p' := q1) (pos := q3))
  refine wpAt_of_wpAny (wpAny_mono (ps.run [] _ [some (.ref a), some y] H { nx := fun _ H' => Q .non H', rt := fun _ _ => False, bk := fun _ _ => False, ct := fun _ _ => False } I3 ⟨y, rfl, .ref a, rfl, a, C, rfl, X.o, X.np, .inl ⟨ea, hq⟩⟩) (fun f s' hs => ?_) fun _ _ z => z)
  cases f with
  | next =>
    obtain ⟨σ', H', J, q⟩ := hs
    exact ⟨.non, H', J.os, J.bare, J.base, J.hok, rfl, q⟩
  | ret u =>
    obtain ⟨_, _, _, _, _, q⟩ := hs
    exact q.elim
  | brk =>
    obtain ⟨_, _, _, q⟩ := hs
    exact q.elim
  | cont =>
    obtain ⟨_, _, _, q⟩ := hs
    exact q.elim
end
end Hz
namespace Hz
open PySem L2
/-- an exception class of the text, by its facts -/
abbrev ExD (c : C0) (cF fI : Addr) (x : Str) (C : Nat) : Prop := (∃ fd, FnOk c.P c.w c.K c.mg c.base (L2.CX c.P c.w) 1 fI fd ["self", "place"] (spX c.K cF fI) ∧ Binds c.K fd ["self", "place"] []) ∧ (PySem.W.typeIn c.K (.ref fI) = some (.type "function")) ∧ (ExC c.K cF fI C) ∧ (c.mg x = some (.ref C))
theorem ExD.fn {c : C0} {cF fI : Addr} {x : Str} {C : Nat} (h : ExD c cF fI x C) : ∃ fd, FnOk c.P c.w c.K c.mg c.base (L2.CX c.P c.w) 1 fI fd ["self", "place"] (spX c.K cF fI) ∧ Binds c.K fd ["self", "place"] [] := h.1
theorem ExD.ty {c : C0} {cF fI : Addr} {x : Str} {C : Nat} (h : ExD c cF fI x C) : PySem.W.typeIn c.K (.ref fI) = some (.type "function") := h.2.1
theorem ExD.e {c : C0} {cF fI : Addr} {x : Str} {C : Nat} (h : ExD c cF fI x C) : ExC c.K cF fI C := h.2.2.1
theorem ExD.mg {c : C0} {cF fI : Addr} {x : Str} {C : Nat} (h : ExD c cF fI x C) : c.mg x = some (.ref C) := h.2.2.2
def raiseS (C : Nat) (me : ME) : MS := fun ρ α D => me ρ α (fun d α1 => D.ex ⟨C, [(.str "place", d)]⟩ ρ α1) (fun x α1 => D.ex x ρ α1)
section
variable {c : C0} {N : List Str} {sc : Scope} {x : Str} {e : Expr} {p q pos : Pos} {me : ME} {cF fI : Addr} {C : Nat}
theorem js_raise (T : ExD c cF fI x C) (hk : 2 ≤ c.k) (hg : sc.names.lookup x = some .globalImplicit) (h : JE c N sc e me) (hc : c.cm = true := by rfl) (hdb : (x == ("__debug__" : Str)) = false := by decide) (he : ∀ env, starEach [e] env = (false, eval e env) :: starEach [] env := by intros; rfl) (hpl : ∀ env, (backTo q (starEach [] env)).any (·.1) = false := by intros; rfl) :
    JS c N sc (.Raise (some (.Call (.Name x p) [e] [] q)) none pos) (raiseS C me) := by
  obtain ⟨fd, F, b⟩ := T.fn
  obtain ⟨t, h1, h2⟩ := h
  refine ⟨fun W => fun _ σ H => tMkO C (spX c.K cF fI) [] (tCons (t W) tNil) σ H fun cls d H' => W cls d σ H', fun X W I TT => ?_, fun W B σ H ρ α S D m Dn h' x' => ?_⟩
  · have F' : FnOk X.prog X.w X.K X.mg X.base (L2.CX X.prog X.w) 1 fI fd ["self", "place"] (spX c.K cF fI) := by
      rw [I.P, I.w, I.K, I.mg, I.base]
      exact F
    exact ps_raise (I.calm hc) TT (pmk_oex (by rw [I.K]; exact T.e.o) (by rw [I.K]; exact T.e.ini) (by rw [I.K]; exact T.ty) F' ((I.rm hc).mono hk) (by rw [I.K]; exact b) .nil passL (I.gl hg) (by rw [I.mg]; exact T.mg) (pa_cons (h1 X W I TT) pa_nil (he _)) hdb (he _) (hpl _))
  · refine h2 W B σ H ρ α S _ _ m _ (fun v d B1 H1 α1 A1 r1 m => ⟨(show 1 ≤ 1000 by decide), fun a na => ?_⟩) (x'.sx S)
    refine ⟨a, C, v, rfl, T.e, upd_same, fun dx nd ne => ⟨rfl, dx, [("place", v)], upd_same, ?_, ?_, ?_⟩⟩
    · rw [upd_ne ne, upd_same]
    · rw [upd_ne ne] at nd
      exact nd
    · have nd' : H1 dx = none := by rw [upd_ne ne] at nd; exact nd
      have eh : upd (L2.del (upd (upd (upd H1 a (exo a C none)) dx (exd dx [("place", v)])) a (exo a C (some dx))) a) dx (.xd [("place", v)]) = upd H1 dx (.xd [("place", v)]) := by
        funext b
        by_cases hb : b = dx
        · rw [hb, upd_same, upd_same]
        · rw [upd_ne hb, upd_ne hb]
          by_cases hb2 : b = a
          · rw [hb2, L2.del_same, na]
          · rw [L2.del_ne hb2, upd_ne hb2, upd_ne hb, upd_ne hb2]
      rw [eh]
      have Ab := Af.of_sub A1.bs (Sub.new (o := .xd [("place", v)]) nd')
      have A := A1.trans S.bs Ab
      have hB : B1 dx = false := A1.bs.fresh nd'
      exact x' _ B1 σ ρ α1 (.ref C) (some dx) _ A (S.step A) ⟨rfl, dx, _, rfl, hide_of hB upd_same, .cons (r1.mono Ab.sub) .nil⟩ m
end
def tryS (exm : Nat → Option Bool) (mb ms : MS) : MS := fun ρ α D => mb ρ α { D with ex := fun x ρ' α' => oq (exm x.C) fun b => if b = true then ms ρ' α' { D with ex := fun _ _ _ => False } else D.ex x ρ' α' }
/-- the datum of a caught exception -/
def excD (a dx C : Nat) (ds : List (D × D)) : D := .dict ((.bool true, .tuple [.int (Int.ofNat a), .int (Int.ofNat dx), .int (Int.ofNat C)]) :: ds)
def tryA (i : Nat) (exm : Nat → Option Bool) (mb : MS) (ms : Nat → Nat → Nat → MS) : MS := fun ρ α D => mb ρ α { D with ex := fun x ρ' α' => oq (exm x.C) fun b => if b = true then ∀ a dx, ms a dx x.C (ρ'.set i (some (excD a dx x.C x.fs))) α' { nx := fun ρ2 α2 => D.nx (ρ2.set i none) α2, rt := D.rt, bk := fun ρ2 α2 => D.bk (ρ2.set i none) α2, ct := fun ρ2 α2 => D.ct (ρ2.set i none) α2, ex := fun _ _ _ => False } else D.ex x ρ' α' }
/-- what an except clause's class asks -/
def ExM (c : C0) (C : Nat) (exm : Nat → Option Bool) : Prop := ∀ C' b, exm C' = some b → PySem.W.exmOne c.K (.ref C') (.ref C) = some b
abbrev C0.su (c : C0) : C0 := { c with cm := false, xc := none }
abbrev C0.sx (c : C0) (a dx : Addr) (C : Nat) : C0 := { c with cm := false, xc := some (a, dx, C) }
section
variable {c : C0} {N : List Str} {sc : Scope} {x n : Str} {p np pos pos' : Pos} {C : Nat} {exm : Nat → Option Bool} {body suite : List Stmt} {b₀ : Stmt} {mb ms : MS} {i : Nat}
theorem In.tr {X : Cx} (I : In c N sc X) (hx : c.xc = none) {pn : List (Addr × Obj)} {xe : Value → Shared → Prop} (po : PassesOwn (model X.prog X.w) X.A X.env xe) : In c N sc (X.tr pn xe) :=
  ⟨I.P, I.w, I.K, I.mg, I.base, I.rm, I.un, I.N, I.sc, I.calm, I.fn, po, I.fs, fun _ _ _ h => (by rw [hx] at h; cases h), I.oc⟩
theorem In.su {X : Cx} (I : In c N sc X) (a : Addr) (pn : List (Addr × Obj)) : In c.su N sc (X.suite a pn) :=
  ⟨I.P, I.w, I.K, I.mg, I.base, fun h => (by cases h), I.un, I.N, I.sc, fun h => (by cases h), I.fn, PassesOwn.never, I.fs, fun _ _ _ h => (by cases h), I.oc⟩
theorem In.sx {X : Cx} (I : In c N sc X) (a dx : Addr) (C : Nat) {oe : Obj} (pn : List (Addr × Obj)) (hz : Zc (.ref C) (some dx) oe) (hf : ∃ vs, oe.data = .fields vs) : In (c.sx a dx C) N sc (X.suite a ((a, oe) :: pn)) :=
  ⟨I.P, I.w, I.K, I.mg, I.base, fun h => (by cases h), I.un, I.N, I.sc, fun h => (by cases h), I.fn, PassesOwn.never, I.fs, fun _ _ _ h => (by
    cases h
    exact ⟨X, oe, pn, rfl, hz, hf⟩), I.oc⟩
theorem js_try (hg : sc.names.lookup x = some .globalImplicit) (hm : c.mg x = some (.ref C)) (hex : ExM c C exm) (hb : JB c N sc body mb) (hs : JB c.su N sc (b₀ :: suite) ms) (hx : c.xc = none := by rfl) (ht : c.top = true := by rfl) (hdb : (x == ("__debug__" : Str)) = false := by decide) :
    JS c N sc (.Try body [.ExceptHandler (some (.Name x np)) none (b₀ :: suite) pos'] [] [] pos) (tryS exm mb ms) := by
  obtain ⟨t, h1, h2⟩ := hb
  obtain ⟨u, k1, k2⟩ := hs
  refine ⟨fun W Dn σ H => t (wOnly c.K (.ref C) (fun _ _ _ => u fun _ _ _ _ => False) W Dn) Dn σ H, fun X W I T => ?_, fun W B σ H ρ α S D m Dn h' x' => ?_⟩
  · have q := ps_try_only (pos := pos) (pos' := pos') (np := np) (I.fs ht).1 (I.fs ht).2 ⟨I.gl hg, hdb, .inl (by rw [I.mg]; exact hm)⟩ T (fun W' pn xe tk po => h1 _ W' (I.tr hx po) tk) (ts := fun _ _ _ => u fun _ _ _ _ => False) (fun a oe cls d pn hz hf => k1 _ _ (I.su a ((a, oe) :: pn)) takes0)
    rw [I.K] at q
    exact q
  · refine h2 _ B σ H ρ α S _ m Dn ⟨h'.nx, h'.rt, h'.bk, h'.ct⟩ fun y B' σ' ρ' α' cls d H' A S' r z => ?_
    obtain ⟨b, hb, z⟩ := z
    refine ⟨b, by rw [r.1]; exact hex _ _ hb, fun e a na => ?_, fun e => ?_⟩
    · rw [if_pos e] at z
      exact k2 _ B' σ' H' ρ' α' S' _ z Dn (let q := h'.after S.bs A; ⟨q.nx, q.rt, q.bk, q.ct⟩) fun _ _ _ _ _ _ _ _ _ _ _ z => z.elim
    · rw [if_neg (by rw [e]; decide)] at z
      exact x' y B' σ' ρ' α' cls d H' A S' r z
end
def kXf (i : Nat) (f : Str) (isX : Nat → Bool) (a dx C : Nat) : ME := fun ρ α Q E => ∃ ds d, ρ[i]? = some (some (excD a dx C ds)) ∧ isX C = true ∧ lookF f ds = some d ∧ Q d α
end Hz
namespace PySem.W
open PySem PySem.Spec PySem.Calls PyProof.Rows
end PySem.W
namespace Hz
open PySem L2
def kXi (i : Nat) (isX : Nat → Bool) (tab : Nat → Option Bool) (a dx C : Nat) : ME := fun ρ α Q E => ∃ ds b, ρ[i]? = some (some (excD a dx C ds)) ∧ isX C = true ∧ tab C = some b ∧ Q (.bool b) α
end Hz
namespace Hz
open PySem L2
variable {c : C0} {N : List Str} {sc : Scope}
def dRep : D → D → Option D
  | .list a, .int k => if k < 2 ^ 63 ∧ -(2 ^ 63) ≤ k ∧ a.length * k.toNat ≤ 100000 then some (.list (List.replicate k.toNat a).flatten) else none
  | _, _ => none
/-- the new cell is let go, but stays hidden -/
theorem Af.drop {K : Frag} {B B' : Addr → Bool} {H H' : Hp} {α α' : AH} {l : Addr} {d : D} (a : Af K B H α B' H' (aset α' l d)) (n : α' l = none) : Af K B H α B' H' α' :=
  ⟨a.sub, ⟨fun x e q => a.bs.cel x e (by rw [aset_ne (fun z => by rw [z, n] at q; cases q)]; exact q), a.bs.bk⟩, a.keep, fun x nx hx => by
    by_cases z : x = l
    · rw [z]; exact n
    · have := a.fr x nx hx
      rw [aset_ne z] at this
      exact this, a.grow⟩
def muInsert (ds as : List D) : Option (D × List D) := match as with
  | [.int i, d] => if ds.length < 100000 ∧ 0 ≤ i ∧ i < 2 ^ 63 then some (.none, ds.take i.toNat ++ [d] ++ ds.drop i.toNat) else none
  | _ => none
theorem mu_insert {K : Frag} {XS : Cx → Prop} : MuD K XS "list.insert" muInsert := ⟨_, fun X _ => mt_insert, fun B H l vs ds us as z ds' bk bl hl r ra e Q q => by
  unfold muInsert at e
  split at e
  · rename_i i d
    split at e
    · rename_i hn
      cases e
      cases ra with
      | cons r1 r2 =>
        cases r2 with
        | cons r2 r3 =>
          cases r3
          cases r1
          exact ⟨l, vs, i, _, rfl, rfl, hl, Nat.lt_of_lt_of_le (by rw [r.length]; exact hn.1) (by decide), hn.2.1, hn.2.2, q _ _ (((r.take _).append (.cons r2 .nil)).append (r.drop _)) .non⟩
    · cases e
  · cases e⟩
theorem list_extendW (l : Addr) (items : Array Value) (n : Nat) (b : Addr) (items2 : Array Value) (n2 : Nat) (dd2 : Option Addr) (sl2 : Array (Option Value)) (hc0 : ¬(!items.isEmpty && Builtin.List.listTooLong (items.size + items2.size)) = true) (hc1 : items.size ≤ sizeLine) (hs2 : items.size + items2.size ≤ sizeLine + 1) :
    Meets (Builtin.«list.extend» ⟨[.ref l, .ref b], []⟩) (fun _ R s => s.heap.get? l = some { cls := .type "list", dict := none, data := .seq items n, slots := #[] } ∧ s.heap.get? b = some { cls := .type "list", dict := dd2, data := .seq items2 n2, slots := sl2 } ∧ R (.ok (.ret Value.none)) { s with heap := s.heap.update l (Obj.mapSeq fun x => x ++ items2) }) :=
  .of_wp fun prog w A R s h => by
    obtain ⟨hp, g, d, tk, os⟩ := s; obtain ⟨hl, hb, h⟩ := h; have f1 := AutoSeq1.idx_int; have f2 := AutoSeq1.sub_tuple_tuple; have f3 := AutoSeq1.sub_list_list; have f4 := AutoSeq1.sub_tuple_list; have f5 := AutoSeq1.sub_list_tuple
    have hz' : (items ++ items2).size ≤ sizeLine + 1 := by rw [Array.size_append]; exact hs2
    wp_walk using (wpAny_updateSeq hl rfl (hz := hc1) (_hz' := hz')), AutoSeq1.wpAny_loadPart' hl, AutoSeq1.wpAny_loadPart' hb; exact ⟨_, rfl, h⟩
def rExtW (K : Frag) : V → List V → Hp → VK → Prop := fun x vs H Q => ∃ l b xs zs, x = .ref l ∧ vs = [.ref b] ∧ H l = some (.lst xs) ∧ SqL K H b zs ∧ xs.length + zs.length ≤ sizeLine ∧ Q .non (upd H l (.lst (xs ++ zs)))
theorem mt_extendW {X : Cx} : MtM X "list.extend" (rExtW X.K) := by
  intro pins s σ H x vs v us Q I rx rv h
  obtain ⟨l, b, xs, zs, rfl, rfl, hH, hB, hz, q⟩ := h
  cases rx
  obtain ⟨u, rfl, ru⟩ := rv.one
  cases ru
  obtain ⟨z, its, n, r, hl, e⟩ := I.lstM hH
  obtain ⟨its2, r2, pl2, hz2⟩ := I.list hB
  have l2 := r2.length
  obtain ⟨⟨cls2, dd2, data2, sl2⟩, ho2, hc2, n2, hd2⟩ := pl2.isList
  simp only at hc2 hd2
  subst hc2 hd2
  have hsz : its.toArray.size + its2.toArray.size ≤ sizeLine := by rw [List.size_toArray, List.size_toArray]; omega
  have hlong : ¬ (!its.toArray.isEmpty && Builtin.List.listTooLong (its.toArray.size + its2.toArray.size)) = true := by
    rw [notLongL hsz, Bool.and_false]
    exact Bool.false_ne_true
  refine call_meets PySem.F.slot_list_extend ⟨_, e, rfl⟩ PySem.F.entry_list_extend (PySem.F.args_list_extend_2 _ _)
    (list_extendW l its.toArray n b its2.toArray n2 dd2 sl2 hlong (by rw [List.size_toArray]; omega) (by omega)) ⟨e, ho2, ?_⟩
  refine ⟨.non, _, I.lset (its' := its ++ its2) hH e (by simp) (r.append r2) ?_, rfl, q⟩
  rw [List.length_append]
  omega
/-- o.extend(e), e a list -/
def extK (mo me : ME) : ME := fun ρ α Q E => mo ρ α (fun o α1 => cellL α1 o fun _ _ => me ρ α1 (fun e α2 => cellL α2 o fun a ds => ∃ es, vw α2 e = some (.list es) ∧ ds.length + es.length ≤ 100000 ∧ Q .none (aset α2 a (.list (ds ++ es)))) E) E
theorem je_ext {o e : Expr} {p2 p3 : Pos} {mo me : ME} (h1 : JE c N sc o mo) (h : JE c N sc e me)
    (hbase : ∀ env, attributeBase o "extend" env (eval o env) = eval o env := by intros; rfl)
    (hfew : ∀ env, ((backTo p3 (starEach [e] env)).all (fun x => !x.1) && (backToKw p3 (keywordEach [] env)).all (fun x => x.1.isSome) && decide (([e] : List Expr).length + ([] : List Keyword).length + (if ([] : List Keyword).isEmpty then 0 else 1) < 30)) = true := by intros; rfl)
    (hline : (p2.endLine == p3.line) = true := by rfl) (hs : ∀ env, starEach [e] env = (false, eval e env) :: starEach [] env := by intros; rfl) (hplain : ∀ env, (backTo p3 (starEach [] env)).any (·.1) = false := by intros; rfl) :
    JE c N sc (.Call (.Attribute o "extend" p2) [e] [] p3) (extK mo me) := by
  obtain ⟨t, a1, a2⟩ := h
  obtain ⟨u, b1, b2⟩ := h1
  refine ⟨fun W => tBM c.K "list" (rExtW c.K) (u W) (tCons (t W) tNil), fun X W I T => ?_, fun W B σ H ρ α S Qm Em m Q q x => ?_⟩
  · have q := pe_bm (cpos := p3) (apos := p2) PySem.F.plainAttrs_list PySem.F.slot_list_extend PySem.F.type_list_extend (mt_extendW (X := X)) (b1 X W I T) (pa_cons (a1 X W I T) pa_nil (hs _)) (hbase _) (hfew _) hline (hs _) (hplain _)
    rw [I.K] at q
    exact q
  · refine b2 W B σ H ρ α S _ Em m _ (fun v o B1 H1 α1 A1 r1 m => ?_) x
    obtain ⟨a, ds, rfl, e1, m⟩ := m
    obtain ⟨bb1, vs, g1, g2⟩ := A1.bs.list e1
    have hv := r1.cell
    subst hv
    refine ⟨.inl ⟨rfl, vs, .inl (.inl g1)⟩, ?_⟩
    refine a2 W B1 σ H1 ρ α1 (S.step A1) _ Em m _ (fun w e B2 H2 α2 A2 r2 m => ?_) (x.after S.bs A1)
    obtain ⟨a', ds', ea, e2, es, he, hl, m⟩ := m
    cases dref_inj ea
    obtain ⟨bb2, vs', g3, g4⟩ := A2.bs.list e2
    obtain ⟨b, xs, rfl, k1, k2⟩ := (vw_rs A2.bs r2 he).list
    refine ⟨a, b, vs', xs, rfl, rfl, g3, k1, Nat.le_trans (by rw [g4.length, k2.length]; exact hl) (by decide), ?_⟩
    have w := Af.write (o := .lst (vs' ++ xs)) (c := .list (ds' ++ es)) A2.bs e2 (.own ⟨_, rfl, g4.append k2⟩)
    exact q .non .none B2 _ _ ((A1.trans S.bs A2).trans S.bs w) .non m
def numsC (lo st : Int) : Nat → List D
  | 0 => []
  | n + 1 => .int lo :: numsC (lo + st) st n
theorem numsC_length : ∀ (n : Nat) (lo st : Int), (numsC lo st n).length = n
  | 0, _, _ => rfl
  | n + 1, lo, st => congrArg (· + 1) (numsC_length n (lo + st) st)
theorem numsC_get : ∀ (n : Nat) (lo st : Int) (i : Nat) (d : D), (numsC lo st n)[i]? = some d → i < n ∧ d = .int (lo + (i : Nat) * st)
  | 0, lo, st, i, d, h => by simp [numsC] at h
  | n + 1, lo, st, 0, d, h => by
    simp [numsC] at h
    exact ⟨by omega, by rw [← h]; simp⟩
  | n + 1, lo, st, i + 1, d, h => by
    have h' : (numsC (lo + st) st n)[i]? = some d := h
    obtain ⟨a, b⟩ := numsC_get n (lo + st) st i d h'
    refine ⟨by omega, ?_⟩
    rw [b]
    congr 1
    rw [show ((i + 1 : Nat) : Int) = (i : Int) + 1 from rfl, Int.add_mul, Int.one_mul]
    omega
theorem it_rangeC {B : Addr → Bool} {K : Frag} {H : Hp} {G : AH → Prop} {lo st : Int} {n : Nat} : ItOk K (Itc lo st n) G B H (numsC lo st n) := fun B' H' α' sb bk g => ⟨fun i d hi => by
  obtain ⟨a, b⟩ := numsC_get n lo st i d hi
  refine ⟨a, fun x H'' y => ?_⟩
  obtain ⟨rfl, rfl⟩ := y
  refine ⟨Sub.refl _, ?_⟩
  rw [b]
  exact .int _, by rw [numsC_length]; exact Nat.le_refl n⟩
def rangeK3 (m : ML) : MI := fun ρ α Q E => m ρ α (fun ds α1 => ∃ i j k : Int, ds = [.int i, .int j, .int k] ∧ (k ≠ 0 ∧ k.natAbs < 1073741824 ∧ Builtin.Range.small i j k = true) ∧ Q (numsC i k (Builtin.Range.rangeSize i j k).toNat) (fun _ => True) α1) E
theorem ji_range3 {a b e tg : Expr} {p pos : Pos} {ma : ML} (hg : sc.names.lookup ("range" : Str) = some .globalImplicit) (hm : c.mg ("range" : Str) = none) (h : JL c N sc [a, b, e] ma) (hs : ∀ env, starEach [a, b, e] env = (false, eval a env) :: starEach [b, e] env := by intros; rfl) (hpl : ∀ env, (backTo pos (starEach [b, e] env)).any (·.1) = false := by intros; rfl) : JI c N sc tg (.Call (.Name "range" p) [a, b, e] [] pos) (rangeK3 ma) := by
  obtain ⟨t, h1, h2⟩ := h
  refine ⟨fun W => iRng3 (t W), fun X W I T => pi_range3 (I.gl hg) (by rw [I.mg]; exact hm) (h1 X W I T) (hs _) (hpl _), fun W B σ H ρ α S Qm Em m R q x => h2 W B σ H ρ α S _ Em m _ (fun vs ds B1 H1 α1 A r m => ?_) x⟩
  obtain ⟨i, j, k, rfl, hb, m⟩ := m
  cases r with
  | cons r1 r2 =>
    cases r2 with
    | cons r2 r3 =>
      cases r3 with
      | cons r3 r4 =>
        cases r4
        cases r1
        cases r2
        cases r3
        exact ⟨i, j, k, _, rfl, ⟨hb.1, hb.2.1, hb.2.2, PyProof.Rows.rangeSize_toNat i j k⟩, q _ _ _ B1 H1 α1 A it_rangeC m⟩
abbrev HeldD (c : C0) (k : Nat) (f : Addr) (np : Nat) (fm : Fm) : Prop := ∃ (fd : FuncData) (ps : List Str), FnOk c.P c.w c.K c.mg c.base (L2.CX c.P c.w) k f fd ps (fun vs H Q E => vs.length = ps.length ∧ spD c.K fm vs H Q E) ∧ PySem.W.keepIn c.K (.ref f) = true ∧ Binds c.K fd ps [] ∧ ps.length = np
theorem HeldD.ex {c : C0} {k : Nat} {f : Addr} {np : Nat} {fm : Fm} (h : HeldD c k f np fm) : ∃ (fd : FuncData) (ps : List Str), FnOk c.P c.w c.K c.mg c.base (L2.CX c.P c.w) k f fd ps (fun vs H Q E => vs.length = ps.length ∧ spD c.K fm vs H Q E) ∧ PySem.W.keepIn c.K (.ref f) = true ∧ Binds c.K fd ps [] ∧ ps.length = np := h
end Hz
namespace Hz
open PySem L2
variable {c : C0} {N : List Str} {sc : Scope}
section
variable {e b : Expr} {es : List Expr} {me mb : ME} {pos p p1 p2 : Pos} {x : Str} {g : D → D → Option D}
theorem v_ (i : Nat) (hN : N[i]? = some x := by rfl) (hv : Vis sc x := by first | exact Or.inl rfl | exact Or.inr (Or.inl rfl) | exact Or.inr (Or.inr rfl)) (hd : (x == ("__debug__" : Str)) = false := by decide) (hcd : (x == ("__classdict__" : Str)) = false := by decide) : JE c N sc (.Name x pos) (kV i) := ce_var hN hv hd hcd
theorem g_int {i : Int} (hg : sc.names.lookup x = some .globalImplicit := by rfl) (hm : ∃ t, c.mg x = some (.int i t)) (hd : (x == ("__debug__" : Str)) = false := by decide) : JE c N sc (.Name x pos) (kC (.int i)) := by
  obtain ⟨t, h⟩ := hm
  exact ce_glob (v := .int i) hg h ⟨t, rfl⟩ (fun _ => .int i) hd
theorem g_str {i : Str} (hg : sc.names.lookup x = some .globalImplicit := by rfl) (hm : ∃ t, c.mg x = some (.str i t)) (hd : (x == ("__debug__" : Str)) = false := by decide) : JE c N sc (.Name x pos) (kC (.str i)) := by
  obtain ⟨t, h⟩ := hm
  exact ce_glob (v := .str i) hg h ⟨t, rfl⟩ (fun _ => .str i) hd
theorem set_ (i : Nat) (nd : N.Nodup) (h : JE c N sc e me) (hN : N[i]? = some x := by rfl) (hs : Sto c sc x := by first | exact Or.inl rfl | exact Or.inr ⟨rfl, rfl⟩) (hw : ∀ env, swapsWith e (some (.Name x p1)) pos.line env = pure false := by intros; rfl) : JS c N sc (.Assign [.Name x p1] e pos) (asgS me (setv i)) := js_set nd hN hs h hw
theorem tg_ (i : Nat) (nd : N.Nodup) (hN : N[i]? = some x := by rfl) (hs : Sto c sc x := by first | exact Or.inl rfl | exact Or.inr ⟨rfl, rfl⟩) : JTg c N sc (.Name x pos) [i] (setv i) := jtg_name nd hN hs
end
def dIAdd : D → D → Option D
  | .int a, .int b => some (.int (a + b))
  | .str a, .str b => if a.length + b.length ≤ 100000 then some (.str (a ++ b)) else none
  | _, _ => none
theorem o_iadd : OpD c.K (In c N sc) (inplaceOp .Add) dIAdd := by
  refine ⟨_, fun X I => OpR.or (X := X) iop_add iop_add_str, fun B H x y d e z bk hx hy hz Q q => ?_⟩
  unfold dIAdd at hz
  split at hz
  · cases hz
    exact .inl ⟨_, _, hx.int, hy.int, q _ H (Sub.refl H) (.int _)⟩
  · split at hz
    · rename_i hl
      cases hz
      exact .inr ⟨_, _, hx.str, hy.str, sz5 hl, q _ H (Sub.refl H) (.str _)⟩
    · cases hz
  · cases hz
def At (c : C0) (x : Str) (st : Stmt) (ps : List Str) (dvs : List V) (js : List Nat) : Prop := ∃ f, AtF c x x st ps dvs js f ∧ c.mg x = some (.ref f)
def MeAt (c : C0) (C : Nat) (m qual : Str) (st : Stmt) (ps : List Str) (dvs : List V) (js : List Nat) : Prop := ∃ f, AtF c m qual st ps dvs js f ∧ Meth c.K C m f
def InAt (c : C0) (C : Nat) (x qual : Str) (st : Stmt) (ps : List Str) (dvs : List V) (js : List Nat) : Prop := ∃ f, AtF c "__init__" qual st ps dvs js f ∧ Mk c.K C f ∧ c.mg x = some (.ref C)
def PrF (c : C0) (k : Nat) (x : Str) (ps : List Str) (dvs : List V) (js : List Nat) (fm : Fm) : Prop := ∃ f, Pro c k f ps dvs js fm ∧ c.mg x = some (.ref f)
def PrM (c : C0) (k C : Nat) (m : Str) (ps : List Str) (dvs : List V) (js : List Nat) (fm : Fm) : Prop := ∃ f, Pro c k f ps dvs js fm ∧ Meth c.K C m f
def PrI (c : C0) (k C : Nat) (x : Str) (ps : List Str) (dvs : List V) (js : List Nat) (fm : Fm) : Prop := ∃ f, Pro c k f ps dvs js fm ∧ Mk c.K C f ∧ c.mg x = some (.ref C)
section
variable {x m qual : Str} {st : Stmt} {ps : List Str} {dvs : List V} {js : List Nat} {k C np : Nat} {mm : MS} {fm : Fm}
theorem At.run (A : At c x st ps dvs js) (S : FnScope N ps (defScope st)) (h : JB (c.at_ k) N (defScope st) (defBody st) mm) (hn : ps.length ≤ N.length := by decide) : PrF c (k + 1) x ps dvs js (runF ps.length N.length mm) :=
  let ⟨f, a, m⟩ := A; ⟨f, a.run S h hn, m⟩
theorem At.runP (A : At c x st ps dvs js) (S : FnScope N ps (defScope st)) (h : JB (c.at_ k) N (defScope st) (defBody st) mm) (hn : ps.length ≤ N.length := by decide) : PrF c (k + 1) x ps dvs js (Hz.runP ps.length N.length mm) :=
  let ⟨f, a, m⟩ := A; ⟨f, a.runP S h hn, m⟩
theorem MeAt.run (A : MeAt c C m qual st ps dvs js) (S : FnScope N ps (defScope st)) (h : JB (c.at_ k) N (defScope st) (defBody st) mm) (hn : ps.length ≤ N.length := by decide) : PrM c (k + 1) C m ps dvs js (runF ps.length N.length mm) :=
  let ⟨f, a, m⟩ := A; ⟨f, a.run S h hn, m⟩
theorem MeAt.runP (A : MeAt c C m qual st ps dvs js) (S : FnScope N ps (defScope st)) (h : JB (c.at_ k) N (defScope st) (defBody st) mm) (hn : ps.length ≤ N.length := by decide) : PrM c (k + 1) C m ps dvs js (Hz.runP ps.length N.length mm) :=
  let ⟨f, a, m⟩ := A; ⟨f, a.runP S h hn, m⟩
theorem InAt.run (A : InAt c C x qual st ps dvs js) (S : FnScope N ps (defScope st)) (h : JB (c.at_ k) N (defScope st) (defBody st) mm) (hn : ps.length ≤ N.length := by decide) : PrI c (k + 1) C x ps dvs js (runF ps.length N.length mm) :=
  let ⟨f, a, m, q⟩ := A; ⟨f, a.run S h hn, m, q⟩
theorem PrF.fn (P : PrF c k x ps dvs js fm) : FnD c k x ps.length [] fm := let ⟨f, p, m⟩ := P; p.fn m
theorem PrM.mt (P : PrM c k C m ps dvs js fm) (hp : ps.length = np + 1 := by rfl) : MtD c k C m np [] fm := let ⟨f, p, m⟩ := P; p.mt m hp
theorem PrM.mtd (P : PrM c k C m ps dvs js fm) (j : Nat) (ds : List D) (hj : j ∈ js) (hd : ∀ H, RpL c.K H (dvs.drop j) ds) (hp : ps.length = np + 1 + ds.length := by rfl) : MtD c k C m np ds fm := let ⟨f, p, m⟩ := P; p.mtd m j ds hj hd hp
theorem PrI.mk_ (P : PrI c k C x ps dvs js fm) (hp : ps.length = np + 1 := by rfl) : MkD c k x C np [] fm := let ⟨f, p, m, q⟩ := P; p.mk_ m q hp
theorem PrI.mkd (P : PrI c k C x ps dvs js fm) (j : Nat) (ds : List D) (hj : j ∈ js) (hd : ∀ H, RpL c.K H (dvs.drop j) ds) (hp : ps.length = np + 1 + ds.length := by rfl) : MkD c k x C np ds fm := let ⟨f, p, m, q⟩ := P; p.mkd m q j ds hj hd hp
end
theorem kit_self {K : Frag} {C : Addr} : PySem.W.kitOne K (.ref C) (.ref C) = some true := if_pos (beq_self_eq_true _)
theorem kit_other {K : Frag} {C : Addr} {T : String} (h1 : PySem.W.isClsIn K C = true) (h2 : PySem.W.typeIn K (.ref C) = some (.type "type")) (h3 : PySem.W.notFirst K C (.type T) = true) : PySem.W.kitOne K (.type T) (.ref C) = some false := by
  have ne : (Value.type T == Value.ref C) = false := by
    cases z : (Value.type T == Value.ref C) with
    | false => rfl
    | true => exact nomatch (eq_of_beq z)
  unfold PySem.W.notFirst at h3
  rw [ne, Bool.false_or] at h3
  unfold PySem.W.kitOne
  rw [if_neg (by rw [ne]; exact Bool.false_ne_true)]
  show (if ((PySem.W.clsIn K C).isSome && PySem.W.typeIn K (.ref C) == some (.type "type")) = true then PySem.W.subIn K (.type T) (.ref C) else none) = some false
  rw [if_pos]
  · exact eq_of_beq h3
  · rw [h2, show (PySem.W.clsIn K C).isSome = true from h1]
    rfl
end Hz
namespace Hz
open PySem L2
variable {c : C0} {N : List Str} {sc : Scope}
/-- an own class, by its facts -/
structure ClsK (K : Frag) (mg : Str → Option Value) (x : Str) (C : Nat) : Prop where
  mg : mg x = some (.ref C)
  cl : Cls K C
  ha : PySem.W.findIn K (.ref C) "__class__" = some (some (.builtin "object.__class__"))
  hn : PySem.W.specialIn K (.builtin "object.__class__") "__get__" = some (some (.builtin "getset_descriptor.__get__"))
  htk : PySem.W.takesIn K (.builtin "object.__class__") = some true
  hm : PySem.W.mroIn K C (.type "object") = some true
  self : PySem.W.kitOne K (.ref C) (.ref C) = some true
  kNone : PySem.W.kitOne K (.type "NoneType") (.ref C) = some false
  kBool : PySem.W.kitOne K (.type "bool") (.ref C) = some false
  kInt : PySem.W.kitOne K (.type "int") (.ref C) = some false
  kStr : PySem.W.kitOne K (.type "str") (.ref C) = some false
  kList : PySem.W.kitOne K (.type "list") (.ref C) = some false
  kTuple : PySem.W.kitOne K (.type "tuple") (.ref C) = some false
  fList : PySem.W.notFirst K C (.type "list") = true
  fTuple : PySem.W.notFirst K C (.type "tuple") = true
abbrev ClsD (c : C0) (x : Str) (C : Nat) : Prop := ClsK c.K c.mg x C
def isOb (C : Nat) : D → Bool
  | .dict ((.none, .int k) :: _) => decide (k = Int.ofNat C)
  | _ => false
theorem isOb_oD {C : Nat} {d : D} (h : isOb C d = true) : ∃ fs, d = oD C fs := by
  unfold isOb at h
  split at h
  · rename_i k fs
    exact ⟨fs, by unfold oD; rw [of_decide_eq_true h]⟩
  · cases h
def isiCB (C : Nat) : D → Option Bool
  | .none => some false
  | .bool _ => some false
  | .int _ => some false
  | .str _ => some false
  | .list _ => some false
  | .tuple _ => some false
  | d => if isOb C d = true then some true else none
theorem isiC_of {C : Nat} {x : Str} (T : ClsD c x C) {B : Addr → Bool} {H : Hp} {v : V} {d : D} {b : Bool} (h : Rs c.K B H v d) (e : isiCB C d = some b) : ∃ t, TyX c.K H v t ∧ PySem.W.kitOne c.K t (.ref C) = some b := by
  by_cases ho : isOb C d = true
  · obtain ⟨fs, rfl⟩ := isOb_oD ho
    obtain ⟨a, dx, gs, rfl, h1, h2⟩ := h.oD
    have eb : b = true := by
      have : isiCB C (oD C fs) = some true := by
        unfold isiCB oD at *
        simp only []
        rw [if_pos ho]
      rw [this] at e
      cases e
      rfl
    subst eb
    exact ⟨.ref C, .base (.ins h1 T.cl T.ha T.hn T.htk T.hm), T.self⟩
  · have h := h.rp
    cases h with
    | non => cases e; exact ⟨_, .base .non, T.kNone⟩
    | bl k => cases e; exact ⟨_, .base (.bl k), T.kBool⟩
    | int k => cases e; exact ⟨_, .base (.int k), T.kInt⟩
    | str k => cases e; exact ⟨_, .base (.str k), T.kStr⟩
    | lst hs _ =>
      cases e
      refine ⟨.type "list", ?_, T.kList⟩
      rcases hs with (h | ⟨o, h⟩) | ⟨o, its, n, h1, h2, _⟩
      · exact .base (.lst h)
      · exact .base (.frz h)
      · exact .kList h1 h2
    | tup hs _ _ =>
      cases e
      refine ⟨.type "tuple", ?_, T.kTuple⟩
      rcases hs with (h | ⟨o, h⟩) | ⟨o, its, n, h1, h2, _⟩
      · exact .base (.tup h)
      · exact .fTuple h
      · exact .kTuple h1 h2
    | _ =>
      simp only [isiCB, if_neg ho] at e
      cases e
def isiCK (C : Nat) (m : ME) : ME := fun ρ α Q E => m ρ α (fun d α1 => oq (vw α1 d) fun d' => oq (isiCB C d') fun b => Q (.bool b) α1) E
theorem je_isiC {C : Nat} {y : Str} {p p2 pos : Pos} {e : Expr} {me : ME} (T : ClsD c y C) (hg : sc.names.lookup ("isinstance" : Str) = some .globalImplicit) (hm : c.mg ("isinstance" : Str) = none) (hgy : sc.names.lookup y = some .globalImplicit) (ha : JE c N sc e me)
    (hdb : (y == ("__debug__" : Str)) = false := by decide)
    (he : ∀ env, starEach [e, .Name y p2] env = (false, eval e env) :: starEach [.Name y p2] env := by intros; rfl) (hpl : ∀ env, (backTo pos (starEach [.Name y p2] env)).any (·.1) = false := by intros; rfl) :
    JE c N sc (.Call (.Name "isinstance" p) [e, .Name y p2] [] pos) (isiCK C me) := by
  obtain ⟨t, a1, a2⟩ := ha
  refine ⟨fun W => tCB (rIsi c.K) (tCons (t W) (tCons (tC (.ref C)) tNil)), fun X W I TT => ?_, fun W B σ H ρ α S Qm Em m Q q x => ?_⟩
  · have h := pe_callB (x := "isinstance") (p := p) (pos := pos) (call_isi (X := X)) (I.gl hg) (by rw [I.mg]; exact hm) (by decide +kernel) (pa_cons (a1 X W I TT) (pa_cons (pe_glob (pos := p2) (v := .ref C) (I.gl hgy) (by rw [I.mg]; exact T.mg) rfl hdb) pa_nil) (he _)) (by decide) (by decide) (he _) (hpl _)
    rw [I.K] at h
    exact h
  · refine a2 W B σ H ρ α S _ Em m _ (fun v d B1 H1 α1 A1 r1 m => ?_) x
    obtain ⟨d', hd, z, hz, m⟩ := m
    obtain ⟨t, h1, h2⟩ := isiC_of T (vw_rs A1.bs r1 hd) hz
    exact ⟨v, .ref C, t, .ref C, z, rfl, .own C, h1, h2, q _ _ B1 H1 α1 A1 (.bl z) m⟩
theorem passX0 {P : Program} {w : World} {X : Cx} : Passes (L2.CX P w) X (fun _ _ _ => False) := fun pins σ H s e s' I h => by
  obtain ⟨_, _, _, _, _, _, _, _, _, _, _, _, h⟩ := h
  exact h.elim
end Hz
namespace Hz
open PySem L2
section
variable {c : C0} {N : List Str} {sc : Scope}
def dIsT : D → D → Option D
  | .bool a, .bool b => some (.bool (decide (a = b)))
  | _, _ => none
def dIsNotT : D → D → Option D
  | .bool a, .bool b => some (.bool (!decide (a = b)))
  | _, _ => none
end
end Hz
namespace Hz
open PySem L2
def it2 (b : Bool) (A B : Prop) : Prop := (b = true → A) ∧ (b = false → B)
def tb (d : D) (R : Bool → Prop) : Prop := ∃ b, d = .bool b ∧ R b
def ti (d : D) (R : Int → Prop) : Prop := ∃ b, d = .int b ∧ R b
def ts (d : D) (R : Str → Prop) : Prop := ∃ b, d = .str b ∧ R b
def cal (np : Nat) (fm : Fm) (as : List D) (ds : List D) (α : AH) (Q : QD) (E : QX) : Prop := as.length = np ∧ fm (as ++ ds) α Q E
def pr2 (ds : List D) (R : D → D → Prop) : Prop := ∃ d e, ds = [d, e] ∧ R d e
theorem pr2_of {d e : D} {R : D → D → Prop} (h : R d e) : pr2 [d, e] R := ⟨d, e, rfl, h⟩
def lenOk (ds : List D) (P : Prop) : Prop := ds.length ≤ 100000 ∧ P
theorem lok {ds : List D} {P : Prop} (e : decide (ds.length ≤ 100000) = true) (h : P) : lenOk ds P := ⟨of_decide_eq_true e, h⟩
section
variable {A B : Prop} {b : Bool} {p : Prop} {RB : Bool → Prop}
theorem tb_b (h : RB b) : tb (.bool b) RB := ⟨b, rfl, h⟩
theorem ti_b {R : Int → Prop} {b} (h : R b) : ti (.int b) R := ⟨b, rfl, h⟩
theorem ts_b {R : Str → Prop} {b} (h : R b) : ts (.str b) R := ⟨b, rfl, h⟩
theorem it2_dec [Decidable p] (h : p → A) (k : ¬ p → B) : it2 (decide p) A B := ⟨fun e => h (of_decide_eq_true e), fun e => k (of_decide_eq_false e)⟩
theorem it2_t (h : A) : it2 true A B := ⟨fun _ => h, fun e => (nomatch e)⟩
theorem it2_f (h : B) : it2 false A B := ⟨fun e => (nomatch e), fun _ => h⟩
theorem it2_not (h : it2 b B A) : it2 (!b) A B := by
  cases b with
  | false => exact it2_t (h.2 rfl)
  | true => exact it2_f (h.1 rfl)
theorem oq_id {α : Type} {o : Option α} {Q : α → Prop} (h : oq o Q) : oq o Q := h
theorem oq_some {α : Type} {z : α} {Q : α → Prop} (h : Q z) : oq (some z) Q := ⟨z, rfl, h⟩
end
section
variable {ρ ρ' : En} {α α' : AH} {Q : QD} {QB : Bool → AH → Prop} {QL : List D → AH → Prop} {QO : Option Int → AH → Prop} {E : QX} {D' : Md} {d e : D} {i j : Nat} {ma mb md : ME} {mt mt2 : MT} {ml : ML} {m1 m2 : MS} {g g' : D → D → Option D} {f : List D → Option D} {fm : Fm} {tg : D → En → Option En} {G : AH → Prop}
def we (Q : QD) (E : QX) : Md := { nx := fun _ α' => Q .none α', rt := Q, bk := fun _ _ => False, ct := fun _ _ => False, ex := fun x _ α' => E x α' }
theorem we_nx (h : Q .none α) : (we Q E).nx ρ α := h
theorem we_rt (h : Q d α) : (we Q E).rt d α := h
theorem we_ex {y : Ex} (h : E y α) : (we Q E).ex y ρ α := h
def wn (D : Md) (n : En → AH → Prop) : Md := { D with nx := n }
def wl (D : Md) (n : En → AH → Prop) : Md := { D with nx := n, ct := n, bk := D.nx }
def wx (D : Md) (x : Ex → En → AH → Prop) : Md := { D with ex := x }
def wh (D : Md) (i : Nat) : Md := { nx := fun ρ2 α2 => D.nx (ρ2.set i none) α2, rt := D.rt, bk := fun ρ2 α2 => D.bk (ρ2.set i none) α2, ct := fun ρ2 α2 => D.ct (ρ2.set i none) α2, ex := fun _ _ _ => False }
section
variable {n : En → AH → Prop} {x : Ex → En → AH → Prop} {y : Ex}
theorem wn_nx (h : n ρ α) : (wn D' n).nx ρ α := h
theorem wn_rt (h : D'.rt d α) : (wn D' n).rt d α := h
theorem wn_bk (h : D'.bk ρ α) : (wn D' n).bk ρ α := h
theorem wn_ct (h : D'.ct ρ α) : (wn D' n).ct ρ α := h
theorem wn_ex (h : D'.ex y ρ α) : (wn D' n).ex y ρ α := h
theorem wl_nx (h : n ρ α) : (wl D' n).nx ρ α := h
theorem wl_rt (h : D'.rt d α) : (wl D' n).rt d α := h
theorem wl_bk (h : D'.nx ρ α) : (wl D' n).bk ρ α := h
theorem wl_ct (h : n ρ α) : (wl D' n).ct ρ α := h
theorem wl_ex (h : D'.ex y ρ α) : (wl D' n).ex y ρ α := h
theorem wx_nx (h : D'.nx ρ α) : (wx D' x).nx ρ α := h
theorem wx_rt (h : D'.rt d α) : (wx D' x).rt d α := h
theorem wx_bk (h : D'.bk ρ α) : (wx D' x).bk ρ α := h
theorem wx_ct (h : D'.ct ρ α) : (wx D' x).ct ρ α := h
theorem wx_ex (h : x y ρ α) : (wx D' x).ex y ρ α := h
theorem wh_nx {i : Nat} (h : D'.nx (ρ.set i none) α) : (wh D' i).nx ρ α := h
theorem wh_rt {i : Nat} (h : D'.rt d α) : (wh D' i).rt d α := h
theorem wh_bk {i : Nat} (h : D'.bk (ρ.set i none) α) : (wh D' i).bk ρ α := h
theorem wh_ct {i : Nat} (h : D'.ct (ρ.set i none) α) : (wh D' i).ct ρ α := h
end
theorem w_kC (h : Q d α) : kC d ρ α Q E := h
theorem w_kV (e : ρ[i]? = some (some d)) (h : Q d α) : kV i ρ α Q E := ⟨d, e, h⟩
theorem w_new (h : ma ρ α (fun c α1 => ∀ p, α1 p = none → Q (dref p) (aset α1 p c)) E) : newK ma ρ α Q E := h
theorem w_frz (h : ma ρ α (fun d α1 => ∃ p c, d = dref p ∧ α1 p = some c ∧ Q c (adel α1 p)) E) : frzK ma ρ α Q E := h
theorem fr_of {p : Addr} {c : D} {α1 : AH} {R : D → AH → Prop} (e : α1 p = some c) (h : R c (adel α1 p)) : ∃ p' c', dref p = dref p' ∧ α1 p' = some c' ∧ R c' (adel α1 p') := ⟨p, c, rfl, e, h⟩
theorem w_bop (h : ma ρ α (fun d α1 => mb ρ α1 (fun e α2 => oq (vw α2 d) fun d' => oq (vw α2 e) fun e' => oq (g d' e') fun z => Q z α2) E) E) : bop g ma mb ρ α Q E := h
theorem w_tst (h : ma ρ α (fun d α1 => tb d fun b => QB b α1) E) : tst ma ρ α QB E := h
theorem w_val (h : mt ρ α (fun b α1 => Q (.bool b) α1) E) : valK mt ρ α Q E := h
theorem w_not (h : mt ρ α (fun b α1 => QB (!b) α1) E) : notK mt ρ α QB E := h
theorem it2_eq {b : Bool} {A B : Prop} : it2 b A B = (if b = true then A else B) := by
  cases b
  · exact propext ⟨fun h => h.2 rfl, fun h => it2_f h⟩
  · exact propext ⟨fun h => h.1 rfl, fun h => it2_t h⟩
theorem w_and (h : mt ρ α (fun b α1 => it2 b (mt2 ρ α1 QB E) (QB false α1)) E) : andK mt mt2 ρ α QB E := by
  simp only [it2_eq] at h
  exact h
theorem w_or (h : mt ρ α (fun b α1 => it2 b (QB true α1) (mt2 ρ α1 QB E)) E) : orK mt mt2 ρ α QB E := by
  simp only [it2_eq] at h
  exact h
theorem w_andV (h : mt ρ α (fun b α1 => it2 b (mb ρ α1 Q E) (Q (.bool false) α1)) E) : andV mt mb ρ α Q E := by
  simp only [it2_eq] at h
  exact h
theorem w_orV (h : mt ρ α (fun b α1 => it2 b (Q (.bool true) α1) (mb ρ α1 Q E)) E) : orV mt mb ρ α Q E := by
  simp only [it2_eq] at h
  exact h
theorem w_ifK (h : mt ρ α (fun b α1 => it2 b (ma ρ α1 Q E) (mb ρ α1 Q E)) E) : ifK mt ma mb ρ α Q E := by
  simp only [it2_eq] at h
  exact h
theorem w_chain (h : ma ρ α (fun d α1 => mb ρ α1 (fun e α2 => oq (g d e) fun z => tb z fun b => it2 b (md ρ α2 (fun f α3 => oq (g' e f) fun z' => Q z' α3) E) (Q (.bool false) α2)) E) E) : chainK g g' ma mb md ρ α Q E := by
  simp only [it2_eq] at h
  exact h
theorem w_nil (h : QL [] α) : nilK ρ α QL E := h
theorem w_cons (h : ma ρ α (fun d α1 => ml ρ α1 (fun ds α2 => QL (d :: ds) α2) E) E) : consK ma ml ρ α QL E := h
theorem w_tup (h : ml ρ α (fun ds α1 => lenOk ds (Q (.tuple ds) α1)) E) : tupK ml ρ α Q E := h
theorem w_lst (h : ml ρ α (fun ds α1 => lenOk ds (Q (.list ds) α1)) E) : lstK ml ρ α Q E := h
theorem w_call {np : Nat} {ds : List D} (h : ml ρ α (fun as α1 => cal np fm as ds α1 Q E) E) : callN np fm ds ml ρ α Q E := h
theorem cal_of {np : Nat} {as ds : List D} (e : as.length = np) (h : fm (as ++ ds) α Q E) : cal np fm as ds α Q E := ⟨e, h⟩
theorem w_neg (h : ma ρ α (fun d α1 => ti d fun i => Q (.int (-i)) α1) E) : negK ma ρ α Q E := h
theorem w_b1 (h : ma ρ α (fun d α1 => oq (vw α1 d) fun d' => oq (f [d']) fun z => Q z α1) E) : b1K f ma ρ α Q E := h
theorem w_bn (h : ml ρ α (fun ds α1 => oq (mapV α1 ds) fun es => oq (f es) fun z => Q z α1) E) : bnK f ml ρ α Q E := h
theorem w_isi {T : String} (h : ma ρ α (fun d α1 => oq (vw α1 d) fun d' => oq (isiB T d') fun b => Q (.bool b) α1) E) : isiK T ma ρ α Q E := h
theorem w_met {f : Str → List D → Option D} (h : ma ρ α (fun o α1 => ts o fun x => ml ρ α1 (fun ds α2 => oq (mapV α2 ds) fun es => oq (f x es) fun z => Q z α2) E) E) : metK f ma ml ρ α Q E := h
theorem w_pnone (h : QO none α) : pnone ρ α QO E := h
theorem w_psome (h : ma ρ α (fun d α1 => ti d fun i => QO (some i) α1) E) : psome ma ρ α QO E := h
theorem w_cut {mlo mhi : MP} (h : ma ρ α (fun d α1 => mlo ρ α1 (fun l α2 => mhi ρ α2 (fun h α3 => oq (vw α3 d) fun d' => oq (dCut d' l h) fun z => Q z α3) E) E) E) : cutK ma mlo mhi ρ α Q E := h
theorem w_yes (h : QB true α) : yesK ρ α QB E := h
def cel (α : AH) (o : D) (Q : Addr → List D → Prop) : Prop := cellL α o Q
theorem cel_of {p : Addr} {ds : List D} {R : Addr → List D → Prop} (e : α p = some (.list ds)) (h : R p ds) : cel α (dref p) R := ⟨p, ds, rfl, e, h⟩
theorem w_mut {fu : List D → List D → Option (D × List D)} (h : ma ρ α (fun o α1 => cel α1 o fun _ _ => ml ρ α1 (fun as α2 => cel α2 o fun a ds => oq (fu ds as) fun z => Q z.1 (aset α2 a (.list z.2))) E) E) : mutK fu ma ml ρ α Q E := h
def exD (P : Option D) (R : List D → Prop) : Prop := ∃ es, P = some (.list es) ∧ R es
theorem exD_of {P : Option D} {R : List D → Prop} {es : List D} (e : P = some (.list es)) (h : R es) : exD P R := ⟨es, e, h⟩
theorem w_ext (h : ma ρ α (fun o α1 => cel α1 o fun _ _ => mb ρ α1 (fun e α2 => cel α2 o fun a ds => exD (vw α2 e) fun es => ds.length + es.length ≤ 100000 ∧ Q .none (aset α2 a (.list (ds ++ es)))) E) E) : extK ma mb ρ α Q E := h
theorem w_fld {C : Nat} {f : Str} (h : ma ρ α (fun d α1 => oq (vw α1 d) fun o => oq (fldD C f o) fun z => Q z α1) E) : fldK C f ma ρ α Q E := h
theorem w_meth {C np : Nat} {m : Str} {ds : List D} (h : ma ρ α (fun o α1 => oq (vw α1 o) fun od => noF C m od = true ∧ ml ρ α1 (fun as α2 => cal np (fun xs => fm (o :: xs)) as ds α2 Q E) E) E) : methK C m np fm ds ma ml ρ α Q E := h
theorem w_mk {C np : Nat} {ds : List D} (h : ml ρ α (fun as α1 => as.length = np ∧ ∀ p, α1 p = none → fm (dref p :: (as ++ ds)) (aset α1 p (oD C [])) (fun v α2 => v = .none ∧ Q (dref p) α2) E) E) : mkK C np fm ds ml ρ α Q E := h
section
variable {QI : List D → (AH → Prop) → AH → Prop}
def tlG (α1 : AH) (d : D) (QI : List D → (AH → Prop) → AH → Prop) : Prop := ∃ ds, vw α1 d = some (.list ds) ∧ QI ds (fun α' => vw α' d = some (.list ds)) α1
theorem tlG_l {ds : List D} (h : QI ds (fun _ => True) α) : tlG α (.list ds) QI := by
  refine ⟨ds, rfl, ?_⟩
  have e : (fun α' : AH => vw α' (.list ds) = some (.list ds)) = fun _ => True := funext fun a => propext ⟨fun _ => trivial, fun _ => rfl⟩
  rw [e]
  exact h
theorem tlG_r {p : Addr} {ds : List D} (e : α p = some (.list ds)) (h : QI ds (fun α' => vw α' (dref p) = some (.list ds)) α) : tlG α (dref p) QI := ⟨ds, e, h⟩
theorem w_list (h : ma ρ α (fun d α1 => tlG α1 d QI) E) : listK ma ρ α QI E := h
def ttG (α1 : AH) (d : D) (QI : List D → (AH → Prop) → AH → Prop) : Prop := ∃ ds, d = .tuple ds ∧ QI ds (fun _ => True) α1
theorem ttG_t {ds : List D} (h : QI ds (fun _ => True) α) : ttG α (.tuple ds) QI := ⟨ds, rfl, h⟩
theorem w_tuple (h : ma ρ α (fun d α1 => ttG α1 d QI) E) : tupleK ma ρ α QI E := h
theorem w_str (h : ma ρ α (fun d α1 => ts d fun x => QI (x.cps.toList.map fun k => .str ⟨#[k]⟩) (fun _ => True) α1) E) : strK ma ρ α QI E := h
def rg1 (ds : List D) (R : List D → Prop) : Prop := ∃ n : Int, ds = [.int n] ∧ (-(2 ^ 62) ≤ n ∧ n < 2 ^ 62) ∧ R (nums 0 n.toNat)
theorem rg1_of {n : Int} {R : List D → Prop} (e : -(2 ^ 62) ≤ n ∧ n < 2 ^ 62) (h : R (nums 0 n.toNat)) : rg1 [.int n] R := ⟨n, rfl, e, h⟩
theorem w_range1 (h : ml ρ α (fun ds α1 => rg1 ds fun xs => QI xs (fun _ => True) α1) E) : rangeK1 ml ρ α QI E := h
def rg2 (ds : List D) (R : List D → Prop) : Prop := ∃ a b : Int, ds = [.int a, .int b] ∧ (-(2 ^ 62) ≤ a ∧ a < 2 ^ 62 ∧ -(2 ^ 62) ≤ b ∧ b < 2 ^ 62) ∧ R (nums a (b - a).toNat)
theorem rg2_of {a b : Int} {R : List D → Prop} (e : -(2 ^ 62) ≤ a ∧ a < 2 ^ 62 ∧ -(2 ^ 62) ≤ b ∧ b < 2 ^ 62) (h : R (nums a (b - a).toNat)) : rg2 [.int a, .int b] R := ⟨a, b, rfl, e, h⟩
theorem w_range2 (h : ml ρ α (fun ds α1 => rg2 ds fun xs => QI xs (fun _ => True) α1) E) : rangeK2 ml ρ α QI E := h
def rg3 (ds : List D) (R : List D → Prop) : Prop := ∃ i j k : Int, ds = [.int i, .int j, .int k] ∧ (k ≠ 0 ∧ k.natAbs < 1073741824 ∧ Builtin.Range.small i j k = true) ∧ R (numsC i k (Builtin.Range.rangeSize i j k).toNat)
theorem rg3_of {i j k : Int} {R : List D → Prop} (e : k ≠ 0 ∧ k.natAbs < 1073741824 ∧ Builtin.Range.small i j k = true) (h : R (numsC i k (Builtin.Range.rangeSize i j k).toNat)) : rg3 [.int i, .int j, .int k] R := ⟨i, j, k, rfl, e, h⟩
theorem w_range3 (h : ml ρ α (fun ds α1 => rg3 ds fun xs => QI xs (fun _ => True) α1) E) : rangeK3 ml ρ α QI E := h
end
theorem oq_isiB {T : String} {b : Bool} {R : Bool → Prop} (e : isiB T d = some b) (h : R b) : oq (isiB T d) R := ⟨b, e, h⟩
theorem w_tryA {exm : Nat → Option Bool} {mb : MS} {ms : Nat → Nat → Nat → MS} (h : mb ρ α (wx D' fun x ρ' α' => oq (exm x.C) fun b => it2 b (∀ a dx, ms a dx x.C (ρ'.set i (some (excD a dx x.C x.fs))) α' (wh D' i)) (D'.ex x ρ' α'))) : tryA i exm mb ms ρ α D' := by
  simp only [it2_eq, wx, wh] at h
  exact h
theorem w_try {exm : Nat → Option Bool} {mb ms : MS} (h : mb ρ α (wx D' fun x ρ' α' => oq (exm x.C) fun b => it2 b (ms ρ' α' (wx D' fun _ _ _ => False)) (D'.ex x ρ' α'))) : tryS exm mb ms ρ α D' := by
  simp only [it2_eq, wx] at h
  exact h
theorem w_xi {isX : Nat → Bool} {tab : Nat → Option Bool} {a dx C : Nat} {b : Bool} {ds : List (D × D)} (e : ρ[i]? = some (some (excD a dx C ds))) (h1 : isX C = true) (h2 : tab C = some b) (h : Q (.bool b) α) : kXi i isX tab a dx C ρ α Q E := ⟨ds, b, e, h1, h2, h⟩
theorem w_xf {isX : Nat → Bool} {f : Str} {a dx C : Nat} {ds : List (D × D)} (e : ρ[i]? = some (some (excD a dx C ds))) (h1 : isX C = true) (h2 : lookF f ds = some d) (h : Q d α) : kXf i f isX a dx C ρ α Q E := ⟨ds, d, e, h1, h2, h⟩
theorem w_seq (h : m1 ρ α (wn D' fun ρ1 α1 => m2 ρ1 α1 D')) : seqS m1 m2 ρ α D' := h
theorem w_seqI (I : En → AH → Prop) (h2 : ∀ ρ α, I ρ α → m2 ρ α D') (h1 : ∀ X : En → AH → Prop, (∀ ρ α, I ρ α → X ρ α) → m1 ρ α (wn D' X)) : seqS m1 m2 ρ α D' := h1 _ h2
def bar (f : En → AH → Prop) : En → AH → Prop := f
theorem bar_of {f : En → AH → Prop} (h : f ρ α) : bar f ρ α := h
theorem w_seqB (h : m1 ρ α (wn D' (bar fun ρ1 α1 => m2 ρ1 α1 D'))) : seqS m1 m2 ρ α D' := h
theorem w_next (h : D'.nx ρ α) : nextS ρ α D' := h
theorem w_break (h : D'.bk ρ α) : breakS ρ α D' := h
theorem w_cont (h : D'.ct ρ α) : contS ρ α D' := h
theorem w_drop (h : ma ρ α (fun _ α1 => D'.nx ρ α1) (fun x α1 => D'.ex x ρ α1)) : dropS ma ρ α D' := h
theorem w_ret (h : ma ρ α (fun d α1 => D'.rt d α1) (fun x α1 => D'.ex x ρ α1)) : retS ma ρ α D' := h
theorem w_retN (h : D'.rt .none α) : retN ρ α D' := h
theorem w_if (h : mt ρ α (fun b α1 => it2 b (m1 ρ α1 D') (m2 ρ α1 D')) (fun x α1 => D'.ex x ρ α1)) : ifS mt m1 m2 ρ α D' := by
  simp only [it2_eq] at h
  exact h
theorem w_asg (h : ma ρ α (fun d α1 => oq (tg d ρ) fun ρ1 => D'.nx ρ1 α1) (fun x α1 => D'.ex x ρ α1)) : asgS ma tg ρ α D' := h
theorem oq_setv2 {R : En → Prop} (e : ρ.set i (some d) = ρ') (h : R ρ') : oq (setv i d ρ) R := ⟨_, rfl, by rw [e]; exact h⟩
theorem oq_tgNil {R : En → Prop} (h : R ρ) : oq (tgNil [] ρ) R := ⟨_, rfl, h⟩
theorem oq_tgCons {mh : D → En → Option En} {mr : List D → En → Option En} {ds : List D} {R : En → Prop} (h : oq (mh d ρ) fun ρ1 => oq (mr ds ρ1) R) : oq (tgCons mh mr (d :: ds) ρ) R := by
  obtain ⟨r1, e1, r2, e2, q⟩ := h
  exact ⟨r2, by show (mh d ρ).bind (mr ds) = _; simp [e1, e2], q⟩
theorem oq_tgTup {mr : List D → En → Option En} {n : Nat} {ds : List D} {R : En → Prop} (e : ds.length = n) (h : oq (mr ds ρ) R) : oq (tgTup n mr (.tuple ds) ρ) R := by
  obtain ⟨r1, e1, q⟩ := h
  exact ⟨r1, by show (if ds.length = n then mr ds ρ else none) = _; rw [if_pos e, e1], q⟩
theorem w_frzS {p : Addr} {c : D} (e : ρ[i]? = some (some (dref p))) (e2 : α p = some c) (h : m1 (ρ.set i (some c)) (adel α p) D') : frzS i m1 ρ α D' := ⟨p, c, e, e2, h⟩
theorem w_aug {d0 : D} (e0 : ρ[i]? = some (some d0)) (h : ma ρ α (fun e α1 => oq (g d0 e) fun z => D'.nx (ρ.set i (some z)) α1) (fun x α1 => D'.ex x ρ α1)) : augS g i ma ρ α D' := ⟨d0, e0, h⟩
theorem w_seti (h : ma ρ α (fun d α1 => mb ρ α1 (fun o α2 => md ρ α2 (fun k α3 => cel α3 o fun a ds => ti k fun i => oq (ixN ds.length i) fun j => D'.nx ρ (aset α3 a (.list (ds.set j d)))) (fun x α1 => D'.ex x ρ α1)) (fun x α1 => D'.ex x ρ α1)) (fun x α1 => D'.ex x ρ α1)) : setiS ma mb md ρ α D' := h
def ceo (C : Nat) (α : AH) (o : D) (Q : Addr → List (D × D) → Prop) : Prop := cellO C α o Q
theorem ceo_of {C : Nat} {p : Addr} {fs : List (D × D)} {R : Addr → List (D × D) → Prop} (e : α p = some (oD C fs)) (h : R p fs) : ceo C α (dref p) R := ⟨p, fs, rfl, e, h⟩
theorem w_seta {C : Nat} {f : Str} (h : ma ρ α (fun d α1 => mb ρ α1 (fun o α2 => ceo C α2 o fun a fs => fs.length < 900 ∧ D'.nx ρ (aset α2 a (oD C (putD f d fs)))) (fun x α1 => D'.ex x ρ α1)) (fun x α1 => D'.ex x ρ α1)) : setaS C f ma mb ρ α D' := h
theorem w_auga {C : Nat} {f : Str} (h : ma ρ α (fun o α1 => ceo C α1 o fun _ fs0 => oq (lookF f fs0) fun d => mb ρ α1 (fun e α2 => oq (g d e) fun z => ceo C α2 o fun a fs => fs.length < 900 ∧ D'.nx ρ (aset α2 a (oD C (putD f z fs)))) (fun x α1 => D'.ex x ρ α1)) (fun x α1 => D'.ex x ρ α1)) : augaS C f g ma mb ρ α D' := h
theorem w_raise {C : Nat} (h : ma ρ α (fun d α1 => D'.ex ⟨C, [(.str "place", d)]⟩ ρ α1) (fun x α1 => D'.ex x ρ α1)) : raiseS C ma ρ α D' := h
theorem w_for {mi : MI} {mb : MS} (h : mi ρ α (fun ds G α1 => forD tg mb G D' ds ρ α1) (fun x α1 => D'.ex x ρ α1)) : forS mi tg mb ρ α D' := h
theorem for_inv {mb : MS} {ds : List D} (I : List D → En → AH → Prop) (h0 : I ds ρ α) (hG : ∀ ds ρ α, I ds ρ α → G α) (h2 : ∀ ρ α, I [] ρ α → D'.nx ρ α)
    (h1 : ∀ d ds ρ α, I (d :: ds) ρ α → ∀ X : En → AH → Prop, (∀ ρ α, I ds ρ α → X ρ α) → oq (tg d ρ) fun ρ1 => mb ρ1 α (wl D' X)) : forD tg mb G D' ds ρ α := by
  induction ds generalizing ρ α with
  | nil => exact ⟨hG _ _ _ h0, h2 _ _ h0⟩
  | cons d ds ih => exact ⟨hG _ _ _ h0, h1 d ds ρ α h0 _ fun ρ α q => ih q⟩
theorem for_nums {mb : MS} {n : Nat} {lo : Int} (I : Nat → En → AH → Prop) (h0 : I 0 ρ α) (h2 : ∀ ρ α, I n ρ α → D'.nx ρ α)
    (h1 : ∀ k, k < n → ∀ ρ α, I k ρ α → ∀ X : En → AH → Prop, (∀ ρ α, I (k + 1) ρ α → X ρ α) → oq (tg (.int (lo + (k : Nat))) ρ) fun ρ1 => mb ρ1 α (wl D' X)) : forD tg mb (fun _ => True) D' (nums lo n) ρ α := by
  refine for_inv (fun r ρ α => ∃ m k : Nat, k + m = n ∧ r = nums (lo + (k : Nat)) m ∧ I k ρ α) ⟨n, 0, by omega, by simp, h0⟩ (fun _ _ _ _ => trivial) ?_ ?_
  · rintro ρ α ⟨m, k, e1, e2, i⟩
    cases m with
    | zero =>
      obtain rfl : k = n := by omega
      exact h2 _ _ i
    | succ m => simp [nums] at e2
  · rintro d ds ρ α ⟨m, k, e1, e2, i⟩ X hX
    cases m with
    | zero => simp [nums] at e2
    | succ m =>
      obtain ⟨rfl, rfl⟩ := List.cons.inj e2
      refine h1 k (by omega) _ _ i X fun ρ α i => hX _ _ ⟨m, k + 1, by omega, ?_, i⟩
      congr 1
      omega
theorem for_map {β : Type} {mb : MS} {xs : List β} {u : β → D} {ds : List D} (e : ds = xs.map u) (I : Nat → En → AH → Prop) (h0 : I 0 ρ α) (h2 : ∀ ρ α, I xs.length ρ α → D'.nx ρ α)
    (h1 : ∀ k (hk : k < xs.length), ∀ ρ α, I k ρ α → ∀ X : En → AH → Prop, (∀ ρ α, I (k + 1) ρ α → X ρ α) → oq (tg (u xs[k]) ρ) fun ρ1 => mb ρ1 α (wl D' X)) : forD tg mb (fun _ => True) D' ds ρ α := by
  subst e
  refine for_inv (fun r ρ α => ∃ k : Nat, k ≤ xs.length ∧ r = (xs.drop k).map u ∧ I k ρ α) ⟨0, by omega, by simp, h0⟩ (fun _ _ _ _ => trivial) ?_ ?_
  · rintro ρ α ⟨k, e1, e2, i⟩
    have : k = xs.length := by
      have := congrArg List.length e2
      simp at this
      omega
    subst this
    exact h2 _ _ i
  · rintro d ds ρ α ⟨k, e1, e2, i⟩ X hX
    have hk : k < xs.length := by
      have := congrArg List.length e2
      simp at this
      omega
    rw [List.drop_eq_getElem_cons hk, List.map_cons] at e2
    obtain ⟨rfl, rfl⟩ := List.cons.inj e2
    exact h1 k hk _ _ i X fun ρ α i => hX _ _ ⟨k + 1, by omega, rfl, i⟩
theorem w_par {i j : Nat} (h : ml ρ α (fun ds α1 => pr2 ds fun d e => D'.nx ((ρ.set i (some d)).set j (some e)) α1) (fun x α1 => D'.ex x ρ α1)) : parS i j ml ρ α D' := h
theorem fd_nil {mb : MS} (hG : G α) (h : D'.nx ρ α) : forD tg mb G D' [] ρ α := ⟨hG, h⟩
theorem fd_cons {mb : MS} {ds : List D} (hG : G α) (h : oq (tg d ρ) fun ρ1 => mb ρ1 α (wl D' fun ρ2 α2 => forD tg mb G D' ds ρ2 α2)) : forD tg mb G D' (d :: ds) ρ α := ⟨hG, h⟩
theorem w_while {mb : MS} (V : Nat → En → AH → Prop) (n : Nat) (h0 : V n ρ α) (h : ∀ m ρ α, V m ρ α → ∀ X : En → AH → Prop, (∀ m' ρ α, m' < m → V m' ρ α → X ρ α) → mt ρ α (fun b α1 => it2 b (mb ρ α1 (wl D' X)) (D'.nx ρ α1)) (fun x α1 => D'.ex x ρ α1)) : whileS mt mb ρ α D' := by
  refine ⟨V, ⟨n, h0⟩, fun m ρ α v => ?_⟩
  have := h m ρ α v (fun ρ2 α2 => ∃ m', m' < m ∧ V m' ρ2 α2) fun m' ρ α l v => ⟨m', l, v⟩
  simp only [it2_eq] at this
  exact this
theorem w_lc {vs : List Nat} {mi : MI} (h : mi ρ α (fun ds G α1 => lcD vs tg mt ma G ρ Q ds [] α1) E) : lcK vs mi tg mt ma ρ α Q E := h
theorem lc_inv {vs : List Nat} {ds acc : List D} (I : List D → List D → AH → Prop) (h0 : I ds acc α) (hG : ∀ ds acc α, I ds acc α → G α) (h2 : ∀ acc α, I [] acc α → Q (.list acc) α)
    (h1 : ∀ d ds acc α, I (d :: ds) acc α → ∀ X : List D → AH → Prop, (∀ acc α, I ds acc α → X acc α) → oq (tg d (wipeA ρ vs)) fun ρ1 => mt ρ1 α (fun b α1 => it2 b (ma ρ1 α1 (fun y α2 => acc.length < 100000 ∧ X (acc ++ [y]) α2) NX) (X acc α1)) NX) : lcD vs tg mt ma G ρ Q ds acc α := by
  induction ds generalizing acc α with
  | nil => exact ⟨hG _ _ _ h0, h2 _ _ h0⟩
  | cons d ds ih =>
    refine ⟨hG _ _ _ h0, ?_⟩
    have := h1 d ds acc α h0 (fun acc α => lcD vs tg mt ma G ρ Q ds acc α) fun acc α q => ih q
    simp only [it2_eq] at this
    exact this
/-- a comprehension whose test and element leave the cells alone -/
theorem lc_fm {β : Type} {vs : List Nat} (xs : List β) (u : β → D) (p : β → Bool) (g : β → D) {ds : List D} (hds : ds = xs.map u) (hl : xs.length ≤ 100000) (hG : G α)
    (h : ∀ x, x ∈ xs → oq (tg (u x) (wipeA ρ vs)) fun ρ1 => (∀ R : Bool → AH → Prop, R (p x) α → mt ρ1 α R NX) ∧ (p x = true → ∀ R : D → AH → Prop, R (g x) α → ma ρ1 α R NX)) (q : Q (.list ((xs.filter p).map g)) α) : lcD vs tg mt ma G ρ Q ds [] α := by
  refine lc_inv (fun r acc α' => α' = α ∧ ∃ as bs, xs = as ++ bs ∧ acc = (as.filter p).map g ∧ r = bs.map u) ⟨rfl, [], xs, rfl, rfl, hds⟩ (fun _ _ _ e => e.1 ▸ hG) ?_ ?_
  · rintro acc α' ⟨rfl, as, bs, e, rfl, e2⟩
    cases bs with
    | nil =>
      simp at e
      rw [← e]
      exact q
    | cons b bs => simp at e2
  · rintro d r acc α' ⟨rfl, as, bs, e, rfl, e2⟩ X hX
    cases bs with
    | nil => simp at e2
    | cons b bs =>
      simp at e2
      obtain ⟨rfl, rfl⟩ := e2
      obtain ⟨ρ2, e3, g1, g2⟩ := h b (by rw [e]; simp)
      refine ⟨ρ2, e3, g1 _ ⟨fun t => g2 t _ ⟨?_, hX _ _ ⟨rfl, as ++ [b], bs, by simp [e], by simp [t], rfl⟩⟩, fun t => hX _ _ ⟨rfl, as ++ [b], bs, by simp [e], by simp [t], rfl⟩⟩⟩
      have := congrArg List.length e
      have := List.length_filter_le p as
      simp at *
      omega
theorem lc_map {β : Type} {vs : List Nat} (xs : List β) (u : β → D) (g : β → D) {ds : List D} (hds : ds = xs.map u) (hl : xs.length ≤ 100000) (hG : G α)
    (h : ∀ x, x ∈ xs → oq (tg (u x) (wipeA ρ vs)) fun ρ1 => ∀ R : D → AH → Prop, R (g x) α → ma ρ1 α R NX) (q : Q (.list (xs.map g)) α) : lcD vs tg yesK ma G ρ Q ds [] α := by
  refine lc_fm xs u (fun _ => true) g hds hl hG (fun x hx => ?_) (by rw [List.filter_eq_self.mpr (by simp)]; exact q)
  obtain ⟨ρ1, e, k⟩ := h x hx
  exact ⟨ρ1, e, fun R r => r, fun _ R r => k R r⟩
theorem w_runF {p n : Nat} {ds : List D} (hl : ds.length = p) (h : m1 (ds.map some ++ List.replicate (n - p) none) α (we Q E)) : runF p n m1 ds α Q E := ⟨hl, h⟩
theorem w_runP {p n : Nat} {ds : List D} (hl : ds.length = p) (h : m1 (ds.map some ++ List.replicate (n - p) none) α (we (fun d α' => Q d (arst α α')) (fun x α' => E x (arst α α')))) : runP p n m1 ds α Q E := ⟨hl, h⟩
/-- it answers d, leaving the cells -/
def pu (f : Fm) (ds : List D) (d : D) : Prop := ∀ (α : AH) (Q : QD) (E : QX), Q d α → f ds α Q E
/-- it raises x, leaving the cells -/
def px (f : Fm) (ds : List D) (x : Ex) : Prop := ∀ (α : AH) (Q : QD) (E : QX), E x α → f ds α Q E
theorem pu_P {p n : Nat} {ds : List D} (hl : ds.length = p) (h : ∀ (α : AH) (R : QD) (X : QX), R d α → m1 (ds.map some ++ List.replicate (n - p) none) α (we R X)) : pu (runP p n m1) ds d := fun α Q E q =>
  w_runP hl (h α (fun d α' => Q d (arst α α')) (fun x α' => E x (arst α α')) (by rw [arst_self]; exact q))
theorem pu.go {ds : List D} (P : pu fm ds d) (h : Q d α) : fm ds α Q E := P α Q E h
theorem px.go {ds : List D} {x : Ex} (P : px fm ds x) (h : E x α) : fm ds α Q E := P α Q E h
theorem vw_i {R : D → Prop} {i : Int} (h : R (.int i)) : oq (vw α (.int i)) R := ⟨_, rfl, h⟩
theorem vw_s {R : D → Prop} {i : Str} (h : R (.str i)) : oq (vw α (.str i)) R := ⟨_, rfl, h⟩
theorem vw_b {R : D → Prop} {i : Bool} (h : R (.bool i)) : oq (vw α (.bool i)) R := ⟨_, rfl, h⟩
theorem vw_n {R : D → Prop} (h : R .none) : oq (vw α .none) R := ⟨_, rfl, h⟩
theorem vw_l {R : D → Prop} {i : List D} (h : R (.list i)) : oq (vw α (.list i)) R := ⟨_, rfl, h⟩
theorem vw_t {R : D → Prop} {i : List D} (h : R (.tuple i)) : oq (vw α (.tuple i)) R := ⟨_, rfl, h⟩
theorem vw_sc {R : D → Prop} {i : List Int} (h : R (scriptD i)) : oq (vw α (scriptD i)) R := ⟨_, rfl, h⟩
theorem vw_o {R : D → Prop} {C : Nat} {i : List (D × D)} (h : R (oD C i)) : oq (vw α (oD C i)) R := ⟨_, rfl, h⟩
theorem vw_r {R : D → Prop} {p : Addr} {c : D} (e : α p = some c) (h : R c) : oq (vw α (dref p)) R := ⟨_, e, h⟩
theorem mv_nil {R : List D → Prop} (h : R []) : oq (mapV α []) R := ⟨_, rfl, h⟩
theorem mv_cons {R : List D → Prop} {ds : List D} (h : oq (vw α d) fun z => oq (mapV α ds) fun r => R (z :: r)) : oq (mapV α (d :: ds)) R := by
  obtain ⟨z, e, r, e2, q⟩ := h
  exact ⟨_, by unfold mapV; simp [e, e2], q⟩
end
section
variable {Q : D → Prop} {d e : D} {x y z : Int} {s t : Str} {ds es : List D} {i j : Nat} {xs ys : List Int}
theorem oq_add_i {Q : D → Prop} (h : Q (.int (x + y))) : oq (dAdd (.int x) (.int y)) Q := ⟨_, rfl, h⟩
theorem oq_add_s {Q : D → Prop} (l : s.length + t.length ≤ 100000) (h : Q (.str (s ++ t))) : oq (dAdd (.str s) (.str t)) Q := ⟨_, if_pos l, h⟩
theorem oq_add_l {Q : D → Prop} (l : ds.length + es.length ≤ 100000) (h : Q (.list (ds ++ es))) : oq (dAdd (.list ds) (.list es)) Q := ⟨_, if_pos l, h⟩
theorem oq_cat {Q : D → Prop} (l : ds.length + es.length ≤ 100000) (h : Q (.list (ds ++ es))) : oq (dCat (.list ds) (.list es)) Q := ⟨_, if_pos l, h⟩
theorem oq_sub {Q : D → Prop} (h : Q (.int (x - y))) : oq (dSub (.int x) (.int y)) Q := ⟨_, rfl, h⟩
theorem oq_mul {Q : D → Prop} (l : (-(2 ^ 64) < x ∧ x < 2 ^ 64) ∨ (-(2 ^ 64) < y ∧ y < 2 ^ 64)) (h : Q (.int (x * y))) : oq (dMul (.int x) (.int y)) Q := ⟨_, if_pos l, h⟩
theorem oq_mod {Q : D → Prop} (l : 0 < y) (h : Q (.int (x % y))) : oq (dMod (.int x) (.int y)) Q := ⟨_, if_pos l, h⟩
theorem oq_div {Q : D → Prop} (l : 0 < y ∧ y < 2 ^ 80) (h : Q (.int (x / y))) : oq (dDiv (.int x) (.int y)) Q := ⟨_, if_pos l, h⟩
theorem oq_pow {Q : D → Prop} (l : 0 ≤ y ∧ y ≤ 1000000 ∧ x.natAbs < 2 ^ 64) (h : Q (.int (x ^ y.toNat))) : oq (dPow (.int x) (.int y)) Q := ⟨_, if_pos l, h⟩
theorem oq_shl {Q : D → Prop} (l : 0 ≤ y ∧ y ≤ 1000000 ∧ x.natAbs < 2 ^ 64) (h : Q (.int (x * 2 ^ y.toNat))) : oq (dShl (.int x) (.int y)) Q := ⟨_, if_pos l, h⟩
theorem oq_shr {Q : D → Prop} (l : 0 ≤ y) (h : Q (.int (x / 2 ^ y.toNat))) : oq (dShr (.int x) (.int y)) Q := ⟨_, if_pos l, h⟩
theorem oq_lt {Q : D → Prop} (h : Q (.bool (decide (x < y)))) : oq (dLt (.int x) (.int y)) Q := ⟨_, rfl, h⟩
theorem oq_le {Q : D → Prop} (h : Q (.bool (decide (x ≤ y)))) : oq (dLe (.int x) (.int y)) Q := ⟨_, rfl, h⟩
theorem oq_gt {Q : D → Prop} (h : Q (.bool (decide (y < x)))) : oq (dGt (.int x) (.int y)) Q := ⟨_, rfl, h⟩
theorem oq_ge {Q : D → Prop} (h : Q (.bool (decide (y ≤ x)))) : oq (dGe (.int x) (.int y)) Q := ⟨_, rfl, h⟩
theorem oq_eq_i {Q : D → Prop} (h : Q (.bool (decide (x = y)))) : oq (dEq (.int x) (.int y)) Q := ⟨_, rfl, h⟩
theorem oq_ne_i {Q : D → Prop} (h : Q (.bool (!decide (x = y)))) : oq (dNe (.int x) (.int y)) Q := ⟨_, rfl, h⟩
theorem oq_eq_s {Q : D → Prop} (h : Q (.bool (decide (s = t)))) : oq (dEq (.str s) (.str t)) Q := ⟨_, rfl, h⟩
theorem oq_ne_s {Q : D → Prop} (h : Q (.bool (!decide (s = t)))) : oq (dNe (.str s) (.str t)) Q := ⟨_, rfl, h⟩
theorem oq_eq_b {Q : D → Prop} {a b : Bool} (h : Q (.bool (decide (a = b)))) : oq (dEq (.bool a) (.bool b)) Q := ⟨_, by unfold dEq dEqB; cases a <;> cases b <;> rfl, h⟩
theorem oq_ne_b {Q : D → Prop} {a b : Bool} (h : Q (.bool (!decide (a = b)))) : oq (dNe (.bool a) (.bool b)) Q := ⟨_, by unfold dNe dEqB; cases a <;> cases b <;> rfl, h⟩
theorem oq_eq_d {Q : D → Prop} {b : Bool} (e1 : dEqB d e = some b) (h : Q (.bool b)) : oq (dEq d e) Q := ⟨_, by unfold dEq; rw [e1]; rfl, h⟩
theorem oq_ne_d {Q : D → Prop} {b : Bool} (e1 : dEqB d e = some b) (h : Q (.bool (!b))) : oq (dNe d e) Q := ⟨_, by unfold dNe; rw [e1]; rfl, h⟩
theorem oq_is {Q : D → Prop} (h : Q (.bool (isNoneD d))) : oq (dIs d .none) Q := ⟨_, rfl, h⟩
theorem oq_isNot {Q : D → Prop} (h : Q (.bool (!isNoneD d))) : oq (dIsNot d .none) Q := ⟨_, rfl, h⟩
theorem oq_in_s {Q : D → Prop} {k : Nat} (h : Q (.bool (decide (k ∈ t.cps.toList)))) : oq (dIn (.str ⟨#[k]⟩) (.str t)) Q := ⟨_, rfl, h⟩
theorem oq_notIn_s {Q : D → Prop} {k : Nat} (h : Q (.bool (!decide (k ∈ t.cps.toList)))) : oq (dNotIn (.str ⟨#[k]⟩) (.str t)) Q := ⟨_, rfl, h⟩
theorem ixN_in {n : Nat} {i : Int} (h0 : 0 ≤ i) (h1 : i < n) : ixN n i = some i.toNat := by unfold ixN; rw [if_pos h0, if_pos h1]
theorem oq_ix_l {Q : D → Prop} {i : Int} (h0 : 0 ≤ i) (h1 : i < ds.length) (h : ∀ z, ds[i.toNat]? = some z → Q z) : oq (dIx (.list ds) (.int i)) Q := by
  have l : i.toNat < ds.length := by omega
  refine ⟨ds[i.toNat], ?_, h _ (List.getElem?_eq_getElem l)⟩
  show (ixN ds.length i).bind _ = _
  rw [ixN_in h0 h1]
  exact List.getElem?_eq_getElem l
theorem oq_ix_s {Q : D → Prop} {i : Int} (hz : s.length ≤ 100000) (h0 : 0 ≤ i) (h1 : i < s.length) (h : ∀ k, s.cps.toList[i.toNat]? = some k → Q (.str ⟨#[k]⟩)) : oq (dIx (.str s) (.int i)) Q := by
  have l : i.toNat < s.cps.toList.length := by
    have : s.cps.toList.length = s.length := rfl
    omega
  refine ⟨_, ?_, h _ (List.getElem?_eq_getElem l)⟩
  show (if s.length ≤ 100000 then _ else _) = _
  rw [if_pos hz, show ixN s.cps.toList.length i = some i.toNat from ixN_in h0 h1]
  show (s.cps.toList[i.toNat]?).map _ = _
  rw [List.getElem?_eq_getElem l]
  rfl
theorem oq_len_l {Q : D → Prop} (h : Q (.int ds.length)) : oq (dLen [.list ds]) Q := ⟨_, rfl, h⟩
theorem oq_len_t {Q : D → Prop} (h : Q (.int ds.length)) : oq (dLen [.tuple ds]) Q := ⟨_, rfl, h⟩
theorem oq_len_s {Q : D → Prop} (l : s.length ≤ 100000) (h : Q (.int s.length)) : oq (dLen [.str s]) Q := ⟨_, if_pos l, h⟩
theorem oq_int {Q : D → Prop} (h : Q (.int x)) : oq (dInt [.int x]) Q := ⟨_, rfl, h⟩
theorem oq_abs {Q : D → Prop} (h : Q (.int (if x < 0 then -x else x))) : oq (dAbs [.int x]) Q := ⟨_, rfl, h⟩
theorem oq_ord {Q : D → Prop} {k : Nat} (h : Q (.int k)) : oq (dOrd [.str ⟨#[k]⟩]) Q := ⟨_, rfl, h⟩
theorem oq_cut_l {Q : D → Prop} {lo hi : Option Int} (h : Q (.list (cutD ds lo hi))) : oq (dCut (.list ds) lo hi) Q := ⟨_, rfl, h⟩
theorem oq_cut_t {Q : D → Prop} {lo hi : Option Int} (h : Q (.tuple (cutD ds lo hi))) : oq (dCut (.tuple ds) lo hi) Q := ⟨_, rfl, h⟩
theorem oq_cut_s {Q : D → Prop} {lo hi : Option Int} (l : s.length ≤ 100000) (h : Q (.str (cutS s lo hi))) : oq (dCut (.str s) lo hi) Q := ⟨_, if_pos l, h⟩
theorem oq_append {Q : D × List D → Prop} (l : ds.length < 100000) (h : Q (.none, ds ++ [d])) : oq (muAppend ds [d]) Q := ⟨_, if_pos l, h⟩
theorem oq_list_l {Q : D → Prop} (h : Q (.list ds)) : oq (dList [.list ds]) Q := ⟨_, rfl, h⟩
theorem oq_list_t {Q : D → Prop} (h : Q (.list ds)) : oq (dList [.tuple ds]) Q := ⟨_, rfl, h⟩
theorem oq_tuple_l {Q : D → Prop} (h : Q (.tuple ds)) : oq (dTuple [.list ds]) Q := ⟨_, rfl, h⟩
theorem oq_tuple_t {Q : D → Prop} (h : Q (.tuple ds)) : oq (dTuple [.tuple ds]) Q := ⟨_, rfl, h⟩
theorem oq_max2 {Q : D → Prop} (h : Q (.int (if y > x then y else x))) : oq (dMax2 [.int x, .int y]) Q := ⟨_, rfl, h⟩
theorem oq_min2 {Q : D → Prop} (h : Q (.int (if y < x then y else x))) : oq (dMin2 [.int x, .int y]) Q := ⟨_, rfl, h⟩
theorem toBools_map {α : Type} (f : α → Bool) : ∀ xs : List α, toBools (xs.map fun x => PyData.bool (f x)) = some (xs.map f)
  | [] => rfl
  | x :: xs => by
    show (toBools (xs.map fun x => PyData.bool (f x))).map _ = _
    rw [toBools_map f xs]
    rfl
theorem oq_all {α : Type} {f : α → Bool} {xs : List α} {Q : D → Prop} (h : Q (.bool (xs.all f))) : oq (dAll [.list (xs.map fun x => .bool (f x))]) Q := by
  refine ⟨_, ?_, h⟩
  show (toBools _).map _ = _
  rw [toBools_map]
  simp
theorem oq_ix_lk {ds : List D} {i : Int} {z : D} {Q : D → Prop} (e : ((ixN ds.length i).bind fun j => ds[j]?) = some z) (h : Q z) : oq (dIx (.list ds) (.int i)) Q := ⟨z, e, h⟩
theorem oq_ix_tk {ds : List D} {i : Int} {z : D} {Q : D → Prop} (e : ((ixN ds.length i).bind fun j => ds[j]?) = some z) (h : Q z) : oq (dIx (.tuple ds) (.int i)) Q := ⟨z, e, h⟩
theorem oq_ixN_k {n : Nat} {i : Int} {j : Nat} {Q : Nat → Prop} (e : ixN n i = some j) (h : Q j) : oq (ixN n i) Q := ⟨j, e, h⟩
theorem oq_len_sc {ns : List Int} {Q : D → Prop} (h : Q (.int ns.length)) : oq (dLen [scriptD ns]) Q := ⟨_, by unfold scriptD dLen; simp, h⟩
theorem oq_ix_sc {ns : List Int} {i : Int} {Q : D → Prop} (h0 : 0 ≤ i) (h1 : i < ns.length) (h : ∀ z, ns[i.toNat]? = some z → Q (.int z)) : oq (dIx (scriptD ns) (.int i)) Q := by
  refine oq_ix_l h0 (by simpa using h1) fun z e => ?_
  have l : i.toNat < ns.length := by omega
  rw [List.getElem?_map, List.getElem?_eq_getElem l] at e
  cases e
  exact h _ (List.getElem?_eq_getElem l)
theorem oq_rep {a : List D} {k : Int} {Q : D → Prop} (l : k < 2 ^ 63 ∧ -(2 ^ 63) ≤ k ∧ a.length * k.toNat ≤ 100000) (h : Q (.list (List.replicate k.toNat a).flatten)) : oq (dRep (.list a) (.int k)) Q := ⟨_, if_pos l, h⟩
theorem oq_insert {ds : List D} {d : D} {i : Int} {Q : D × List D → Prop} (l : ds.length < 100000 ∧ 0 ≤ i ∧ i < 2 ^ 63) (h : Q (.none, ds.take i.toNat ++ [d] ++ ds.drop i.toNat)) : oq (muInsert ds [.int i, d]) Q := ⟨_, if_pos l, h⟩
theorem okD_ints (k : Nat) : ∀ xs : List Int, (xs.map PyData.int).all (okD k) = true
  | [] => rfl
  | x :: xs => by
    rw [List.map_cons, List.all_cons, okD_ints k xs]
    cases k <;> rfl
theorem eqv_ints : ∀ xs ys : List Int, PyData.eqvAll (xs.map PyData.int) (ys.map PyData.int) = decide (xs = ys)
  | [], [] => by simp [PyData.eqvAll]
  | [], y :: ys => by simp [PyData.eqvAll]
  | x :: xs, [] => by simp [PyData.eqvAll]
  | x :: xs, y :: ys => by
    simp only [List.map_cons, PyData.eqvAll, PyData.eqv]
    rw [eqv_ints xs ys]
    by_cases h : x = y <;> simp [h]
theorem dEqB_il (xs ys : List Int) : dEqB (.list (xs.map .int)) (.list (ys.map .int)) = some (decide (xs = ys)) := by
  show (if okD 60 (.list (xs.map .int)) = true ∧ okD 60 (.list (ys.map .int)) = true then _ else _) = _
  rw [if_pos ⟨okD_ints 59 xs, okD_ints 59 ys⟩]
  simp only [PyData.eqv]
  rw [eqv_ints]
theorem dEqB_it (xs ys : List Int) : dEqB (.tuple (xs.map .int)) (.tuple (ys.map .int)) = some (decide (xs = ys)) := by
  show (if okD 60 (.tuple (xs.map .int)) = true ∧ okD 60 (.tuple (ys.map .int)) = true then _ else _) = _
  rw [if_pos ⟨okD_ints 59 xs, okD_ints 59 ys⟩]
  simp only [PyData.eqv]
  rw [eqv_ints]
theorem oq_eq_il (h : Q (.bool (decide (xs = ys)))) : oq (dEq (.list (xs.map .int)) (.list (ys.map .int))) Q := oq_eq_d (dEqB_il xs ys) h
theorem oq_ne_il (h : Q (.bool (!decide (xs = ys)))) : oq (dNe (.list (xs.map .int)) (.list (ys.map .int))) Q := oq_ne_d (dEqB_il xs ys) h
theorem oq_eq_it (h : Q (.bool (decide (xs = ys)))) : oq (dEq (.tuple (xs.map .int)) (.tuple (ys.map .int))) Q := oq_eq_d (dEqB_it xs ys) h
theorem oq_ne_it (h : Q (.bool (!decide (xs = ys)))) : oq (dNe (.tuple (xs.map .int)) (.tuple (ys.map .int))) Q := oq_ne_d (dEqB_it xs ys) h
def lexI : List Int → List Int → Bool
  | [], [] => false
  | [], _ :: _ => true
  | _ :: _, [] => false
  | x :: xs, y :: ys => if x = y then lexI xs ys else decide (x < y)
theorem lexI_eq : ∀ xs ys : List Int, PySem.W.listLt xs ys = lexI xs ys
  | [], [] => rfl
  | [], _ :: _ => rfl
  | _ :: _, [] => rfl
  | x :: xs, y :: ys => by
    show (if x = y then PySem.W.listLt xs ys else _) = (if x = y then lexI xs ys else _)
    rw [lexI_eq xs ys]
    rfl
theorem alike_ints : ∀ xs ys : List Int, PySem.W.alikeAll (xs.map PyData.int) (ys.map PyData.int) = true := fun xs ys => PySem.W.alikeAll_map xs ys
theorem okC_il (xs ys : List Int) : okC (.list (xs.map .int)) (.list (ys.map .int)) = true := by
  unfold okC
  rw [show okD 60 (.list (xs.map .int)) = true from okD_ints 59 xs, show okD 60 (.list (ys.map .int)) = true from okD_ints 59 ys]
  simp only [PySem.W.alike]
  rw [alike_ints]
  rfl
theorem okC_it (xs ys : List Int) : okC (.tuple (xs.map .int)) (.tuple (ys.map .int)) = true := by
  unfold okC
  rw [show okD 60 (.tuple (xs.map .int)) = true from okD_ints 59 xs, show okD 60 (.tuple (ys.map .int)) = true from okD_ints 59 ys]
  simp only [PySem.W.alike]
  rw [alike_ints]
  rfl
theorem lt_il (xs ys : List Int) : PySem.W.dataLt (.list (xs.map .int)) (.list (ys.map .int)) = lexI xs ys := (PySem.W.DatumOrd.lt_eq xs ys).trans (lexI_eq xs ys)
theorem lt_it (xs ys : List Int) : PySem.W.dataLt (.tuple (xs.map .int)) (.tuple (ys.map .int)) = lexI xs ys := (PySem.W.DatumOrd.lt_eq (PySem.W.Tup.mk xs) (PySem.W.Tup.mk ys)).trans (lexI_eq xs ys)
theorem oq_lt_il (h : Q (.bool (lexI xs ys))) : oq (dLt (.list (xs.map .int)) (.list (ys.map .int))) Q := by
  refine ⟨_, ?_, h⟩
  show (if okC _ _ = true then some (PyData.bool (PySem.W.dataLt _ _)) else none) = _
  rw [if_pos (okC_il xs ys), lt_il]
theorem oq_lt_it (h : Q (.bool (lexI xs ys))) : oq (dLt (.tuple (xs.map .int)) (.tuple (ys.map .int))) Q := by
  refine ⟨_, ?_, h⟩
  show (if okC _ _ = true then some (PyData.bool (PySem.W.dataLt _ _)) else none) = _
  rw [if_pos (okC_it xs ys), lt_it]
theorem nums_map : ∀ (n : Nat) (lo : Int), nums lo n = (List.range n).map fun k => .int (lo + (k : Nat))
  | 0, _ => rfl
  | n + 1, lo => by
    rw [List.range_succ_eq_map, List.map_cons, List.map_map]
    show PyData.int lo :: nums (lo + 1) n = _
    rw [nums_map n (lo + 1)]
    congr 1
    · simp
    · refine List.map_congr_left fun k _ => ?_
      show PyData.int _ = PyData.int _
      congr 1
      show lo + 1 + (k : Int) = lo + ((k : Int) + 1)
      omega
theorem oq_ix_mf {β : Type} {xs : List β} {u : β → D} {i : Int} {k : Nat} (hi : i = (k : Int)) (h : k < xs.length) (q : Q (u xs[k])) : oq (dIx (.list (xs.map u)) (.int i)) Q := by
  subst hi
  refine oq_ix_l (by omega) (by simpa using h) fun z e => ?_
  rw [Int.toNat_natCast, List.getElem?_map, List.getElem?_eq_getElem h] at e
  cases e
  exact q
theorem numsC_map : ∀ (n : Nat) (lo st : Int), numsC lo st n = (List.range n).map fun k => .int (lo + (k : Nat) * st)
  | 0, _, _ => rfl
  | n + 1, lo, st => by
    rw [List.range_succ_eq_map, List.map_cons, List.map_map]
    show PyData.int lo :: numsC (lo + st) st n = _
    rw [numsC_map n (lo + st) st]
    congr 1
    · simp
    · refine List.map_congr_left fun k _ => ?_
      show PyData.int _ = PyData.int _
      congr 1
      show lo + st + (k : Int) * st = lo + ((k : Int) + 1) * st
      rw [Int.add_mul, Int.one_mul]
      omega
theorem oq_iadd_i (h : Q (.int (x + y))) : oq (dIAdd (.int x) (.int y)) Q := ⟨_, rfl, h⟩
theorem oq_iadd_s (l : s.length + t.length ≤ 100000) (h : Q (.str (s ++ t))) : oq (dIAdd (.str s) (.str t)) Q := ⟨_, if_pos l, h⟩
theorem oq_isT {a b : Bool} (q : Q (.bool (decide (a = b)))) : oq (dIsT (.bool a) (.bool b)) Q := ⟨_, rfl, q⟩
theorem oq_isNotT {a b : Bool} (q : Q (.bool (!decide (a = b)))) : oq (dIsNotT (.bool a) (.bool b)) Q := ⟨_, rfl, q⟩
theorem nums0 (n : Nat) : nums 0 n = (List.range n).map fun k => .int (k : Int) := by
  rw [nums_map]
  refine List.map_congr_left fun k _ => ?_
  show PyData.int _ = PyData.int _
  congr 1
  omega
theorem oq_ix_m {k : Nat} (h : k < xs.length) (q : Q (.int (xs.getD k 0))) : oq (dIx (.list (xs.map .int)) (.int k)) Q := by
  refine oq_ix_l (by omega) (by simpa using h) fun z e => ?_
  rw [Int.toNat_natCast, List.getElem?_map, List.getElem?_eq_getElem h] at e
  cases e
  rwa [List.getD_eq_getElem?_getD, List.getElem?_eq_getElem h] at q
end
end Hz
namespace Hz
open PySem L2
def S (l : List Nat) : Str := ⟨l.toArray⟩
theorem S_len (l : List Nat) : (S l).length = l.length := by
  show l.toArray.size = _
  simp
theorem S_cps (l : List Nat) : (S l).cps.toList = l := by
  show l.toArray.toList = _
  simp
theorem S_self (z : Str) : S z.cps.toList = z := by
  apply congrArg Str.mk
  simp
theorem S_app (a b : List Nat) : S a ++ S b = S (a ++ b) := by
  apply congrArg Str.mk
  apply Array.toList_inj.mp
  simp [S, Str.cps_append]
theorem S_chars (l : List Nat) : ((S l).cps.toList.map fun k => PyData.str ⟨#[k]⟩) = l.map fun k => PyData.str (S [k]) := by
  rw [S_cps]
  rfl
theorem oq_ix_S {l : List Nat} {i : Int} {R : D → Prop} (hz : l.length ≤ 100000) (h0 : 0 ≤ i) (h1 : i < l.length) (h : R (.str (S [l.getD i.toNat 0]))) : oq (dIx (.str (S l)) (.int i)) R := by
  refine oq_ix_s (by rw [S_len]; exact hz) h0 (by rw [S_len]; exact h1) fun k e => ?_
  rw [S_cps] at e
  have : k = l.getD i.toNat 0 := by
    rw [List.getD_eq_getElem?_getD, e]
    rfl
  rw [this]
  exact h
def pos (c : Nat) : List Nat → Nat → List Nat
  | [], _ => []
  | x :: l, i => if x = c then i :: pos c l (i + 1) else pos c l (i + 1)
theorem oq_notIn_S {k : Nat} {l : List Nat} {R : D → Prop} (h : R (.bool (!decide (k ∈ l)))) : oq (dNotIn (.str (S [k])) (.str (S l))) R := by
  refine oq_notIn_s ?_
  rw [S_cps]
  exact h
theorem oq_len_S {l : List Nat} {R : D → Prop} (hl : l.length ≤ 100000) (h : R (.int l.length)) : oq (dLen [.str (S l)]) R := oq_len_s (by rw [S_len]; exact hl) (by rw [S_len]; exact h)
theorem oq_iadd_S {a b : List Nat} {R : D → Prop} (hl : a.length + b.length ≤ 100000) (h : R (.str (S (a ++ b)))) : oq (dIAdd (.str (S a)) (.str (S b))) R := oq_iadd_s (by rw [S_len, S_len]; exact hl) (by rw [S_app]; exact h)
end Hz
namespace Hz
open PySem L2
end Hz
namespace Hz
open PySem L2
def kEqB : D → D → Bool
  | .int a, .int b => decide (a = b)
  | .str a, .str b => decide (a = b)
  | _, _ => false
def isK : D → Bool
  | .int _ => true
  | .str _ => true
  | _ => false
def realD (ds : List (D × D)) : Bool := ds.all fun p => isK p.1
def lookP (k : D) : List (D × D) → Option D
  | [] => none
  | (j, d) :: r => if kEqB j k = true then some d else lookP k r
def putP (k d : D) (ds : List (D × D)) : List (D × D) := if (lookP k ds).isSome = true then ds.map (fun p => if kEqB p.1 k = true then (p.1, d) else p) else ds ++ [(k, d)]
def dropP (k : D) (ds : List (D × D)) : List (D × D) := ds.filter fun p => !kEqB p.1 k
theorem kEqB_kD (a b : Key) : kEqB (kD a) (kD b) = decide (a = b) := by
  cases a <;> cases b <;> simp [kD, kEqB]
theorem RpK.length {K : Frag} {H : Hp} : ∀ {kvs : List (Key × V)} {ds : List (D × D)}, RpK K H kvs ds → kvs.length = ds.length
  | _, _, .nil => rfl
  | _, _, .cons h r => by rw [List.length_cons, List.length_cons, r.length]
theorem RpK.look {K : Frag} {H : Hp} (κ : Key) : ∀ {kvs : List (Key × V)} {ds : List (D × D)}, RpK K H kvs ds → (lookP (kD κ) ds = none ∧ valV kvs κ = none) ∨ ∃ d v, lookP (kD κ) ds = some d ∧ valV kvs κ = some v ∧ Rp K H v d
  | _, _, .nil => .inl ⟨rfl, rfl⟩
  | _, _, .cons (k := k) (v := v) (d := d) h r => by
    have e : kEqB (kD k) (kD κ) = decide (k = κ) := kEqB_kD k κ
    by_cases q : k = κ
    · refine .inr ⟨d, v, ?_, valV_pos q, h⟩
      rw [lookP, e, decide_eq_true q, if_pos rfl]
    · rw [lookP, e, decide_eq_false q, if_neg (by simp), valV_neg q]
      exact r.look κ
theorem RpK.append {K : Frag} {H : Hp} : ∀ {kvs ls : List (Key × V)} {ds es : List (D × D)}, RpK K H kvs ds → RpK K H ls es → RpK K H (kvs ++ ls) (ds ++ es)
  | _, _, _, _, .nil, s => s
  | _, _, _, _, .cons h r, s => .cons h (r.append s)
theorem RpK.mapK {K : Frag} {H : Hp} {κ : Key} {w : V} {e : D} (q : Rp K H w e) : ∀ {kvs : List (Key × V)} {ds : List (D × D)}, RpK K H kvs ds → RpK K H (kvs.map fun kv => if kv.1 = κ then (kv.1, w) else kv) (ds.map fun p => if kEqB p.1 (kD κ) = true then (p.1, e) else p)
  | _, _, .nil => .nil
  | _, _, .cons (k := k) (v := v) (d := d) h r => by
    have z : kEqB (kD k) (kD κ) = decide (k = κ) := kEqB_kD k κ
    rw [List.map_cons, List.map_cons]
    simp only [z]
    by_cases c : k = κ
    · rw [if_pos c, decide_eq_true c, if_pos rfl]
      exact .cons q (r.mapK q)
    · rw [if_neg c, decide_eq_false c, if_neg (by simp)]
      exact .cons h (r.mapK q)
theorem RpK.put {K : Frag} {H : Hp} {κ : Key} {w : V} {e : D} {kvs : List (Key × V)} {ds : List (D × D)} (q : Rp K H w e) (r : RpK K H kvs ds) : RpK K H (putK kvs κ w) (putP (kD κ) e ds) := by
  unfold putK putP
  rw [valV_any]
  rcases r.look κ with ⟨h1, h2⟩ | ⟨d, v, h1, h2, _⟩
  · rw [h1, h2]
    exact r.append (.cons q .nil)
  · rw [h1, h2]
    exact r.mapK q
theorem RpK.drop {K : Frag} {H : Hp} {κ : Key} : ∀ {kvs : List (Key × V)} {ds : List (D × D)}, RpK K H kvs ds → RpK K H (dropK kvs κ) (dropP (kD κ) ds)
  | _, _, .nil => .nil
  | _, _, .cons (k := k) (v := v) (d := d) h r => by
    have z : kEqB (kD k) (kD κ) = decide (k = κ) := kEqB_kD k κ
    have ih := r.drop (κ := κ)
    unfold dropK dropP at ih ⊢
    by_cases c : k = κ
    · rw [List.filter_cons_of_neg (by simp [c]), List.filter_cons_of_neg (by show ¬ (!kEqB (kD k) (kD κ)) = true; rw [z, decide_eq_true c]; simp)]
      exact ih
    · rw [List.filter_cons_of_pos (by simp [c]), List.filter_cons_of_pos (by show (!kEqB (kD k) (kD κ)) = true; rw [z, decide_eq_false c]; rfl)]
      exact .cons h ih
theorem Bs.dict {K : Frag} {B : Addr → Bool} {H : Hp} {α : AH} {l : Addr} {ds : List (D × D)} (S : Bs K B H α) (h : α l = some (.dict ds)) (r : realD ds = true) : B l = true ∧ ∃ kvs, H l = some (.dK kvs) ∧ RpK K (hide B H) kvs ds := by
  obtain ⟨h1, h2⟩ := S.cel l _ h
  refine ⟨h1, ?_⟩
  generalize ez : PyData.dict ds = z at h2
  generalize eo : H l = o at h2
  cases h2 with
  | own h =>
    subst ez
    exact h
  | obj h =>
    injection ez with ez
    subst ez
    cases r
end Hz
namespace Hz
open PySem L2
section
variable {c : C0} {N : List Str} {sc : Scope} {o e i f tg : Expr} {p p2 p3 pos p1 : Pos} {me mo mi ma mb mk md : ME} {K : Frag} {W : WX} {x : Str}
theorem Paired.imp {α β : Type} {F G : α → β → Prop} (h : ∀ a b, F a b → G a b) : ∀ {as : List α} {bs : List β}, Paired F as bs → Paired G as bs
  | _, _, .nil => .nil
  | _, _, .cons a r => .cons (h _ _ a) (Paired.imp h r)
end
end Hz
namespace Hz
open PySem L2
section
variable {ρ : En} {α : AH} {Q : QD} {QL : List D → AH → Prop} {E : QX} {D' : Md} {ma mb md mo mk me : ME} {g : D → D → Option D} {R : List (D × D) → Prop}
theorem w_isiC {C : Nat} (h : ma ρ α (fun d α1 => oq (vw α1 d) fun d' => oq (isiCB C d') fun b => Q (.bool b) α1) E) : isiCK C ma ρ α Q E := h
end
end Hz
namespace Hz
open PySem L2
def dAnd : D → D → Option D
  | .int a, .int b => if b = 2 ^ (b + 1).toNat.log2 - 1 then some (.int (a % 2 ^ (b + 1).toNat.log2)) else none
  | _, _ => none
theorem o_and {c : C0} {N : List Str} {sc : Scope} : OpD c.K (In c N sc) (binaryOp .BitAnd) dAnd := by
  refine ⟨_, fun X I => op_andM, fun B H x y d e z bk hx hy hz Q q => ?_⟩
  unfold dAnd at hz
  split at hz
  · split at hz
    · rename_i hc
      cases hz
      have e := hy.int
      rw [hc] at e
      exact ⟨_, _, hx.int, e, q _ H (Sub.refl H) (.int _)⟩
    · cases hz
  · cases hz
theorem oq_and255 {x : Int} {R : D → Prop} (h : R (.int (x % 256))) : oq (dAnd (.int x) (.int 255)) R := ⟨_, by
  have e : ((255 : Int) + 1).toNat.log2 = 8 := by decide +kernel
  show (if (255 : Int) = 2 ^ ((255 : Int) + 1).toNat.log2 - 1 then some (PyData.int (x % 2 ^ ((255 : Int) + 1).toNat.log2)) else none) = some (PyData.int (x % 256))
  rw [e]
  rfl, h⟩
end Hz
namespace PySem
namespace HandSPX
section
variable {M : Model} {A : Around} {E : Value → Shared → Prop} {s : Shared} {Z : Obj → Prop} {base : Heap} {env : Env} {outer : List Env} {L L' e : Addr}
/-- noted elsewhere before: noted anew -/
theorem hz_look_other {Q : Unit → Shared → Prop} (zz : Steady Z) (fr : A.frames = some (env :: outer)) (ef : env.frame = some L) (ne : L' ≠ L) (held : HeldZ base (env :: outer) e Z L' s.heap)
    (goal : ∀ g, HeldZ base (env :: outer) e Z L g → s.heap.UpToSlots g → Q () { s with heap := g }) : wpAny M A (noteFrame (.ref e) env) Q E s := by
  rcases held with ⟨kb, en, fl, oe, fs, T, oT, us, ge, ze, de, f1, nT, nTe, gT, dT, f3⟩
  unfold noteFrame
  simp only [ef]
  refine wpAny_bind (wpAny_field ge de f1 ?_)
  rw [if_pos (by simp : (Value.ref T != Value.none) = true)]
  refine wpAny_bind (wpAny_field gT dT f3 ?_)
  have nr : ¬ ((rawInt L' == rawInt L) = true) := by
    intro q
    apply ne
    have q2 : ((L' : Nat) : Int) = ((L : Nat) : Int) := by simpa [rawInt] using q
    exact Int.ofNat_inj.mp q2
  rw [if_neg nr]
  refine wpAny_bind (wpAny_setField gT dT (Array.getElem?_eq_some_iff.mp f3).1 ?_)
  have oth : ∀ b, b ≠ T → (s.heap.update T (Obj.mapFields (·.setIfInBounds 3 Value.none))).get? b = s.heap.get? b := fun b nb => Heap.get?_update_other _ _ (Ne.symm nb)
  have nrec : ∀ b o, s.heap.get? b = some o → (∀ vs, o.data ≠ .fields vs) → b ≠ T := fun b o gb nf q => by
    rw [q, gT] at gb
    injection gb with gb
    subst gb
    exact nf us dT
  refine wpAny_entryZ zz fr (fl.of_keeps fun b o gb nf => ⟨o, (oth b (nrec b o gb nf)).trans gb, rfl⟩) ef ((oth e (Ne.symm nTe)).trans ge) (fun b o gb => (oth b fun q => by rw [q, nT] at gb; cases gb).trans (kb b o gb)) en de (Array.getElem?_eq_some_iff.mp f1).1 ze fun g hN => ?_
  obtain ⟨y1, y2, y3, y4⟩ := hN
  exact goal g ⟨y1, en, y2, y3⟩ fun b o gb nf => y4 b o ((oth b (nrec b o gb nf)).trans gb) nf
end
end HandSPX
end PySem
namespace L2
open PySem PySem.Spec PyProof.Rows
theorem hz_frames_less {h B G : Heap} (k : ∀ b, B.get? b = none → G.get? b = none) : ∀ {l : List Env}, h.FunFrames B l → h.FunFrames G l
  | [], _ => trivial
  | _ :: _, ⟨k1, ⟨L, o, a1, a2, a3, a4⟩, r⟩ => ⟨k1, ⟨L, o, a1, k L a2, a3, a4⟩, hz_frames_less k r⟩
/-- an exception in a block's air, its block let go: in the air of the def -/
theorem hz_comp_air {X : Cx} {pins : List (Addr × Obj)} {σ : St} {H3 : Hp} {s3 : Shared} {scope : Scope} {ce : Env} {fp : List Addr} {xe E1 : Value → Shared → Prop} {W : WX} (I3 : Inv X pins σ H3 s3) (es : X.stack = X.env :: X.outer) (ef : X.env.frame = some X.env.locals) (tk : Takes X W)
    (f3 : ∀ b ∈ fp, FpOk X pins H3 b ∧ b < s3.heap.objs.size) (cL : ce.locals = s3.heap.objs.size) (cF : ce.frame = X.env.frame) {u : Value} {s' : Shared} (x : XE ((X.blk s3 H3 scope ce fp).tr [] xe) (fun cls d _ H' => W cls d σ H') u s') :
    wpAny (model X.prog X.w) X.A (noteFrame u ce) (fun _ s'' => CompFails (model X.prog X.w) X.A X.xe ce u s'') E1 s' := by
  obtain ⟨a, B, sI, pins', σ', H', cls, d, rfl, J, nb, up, sky, na, os, ag, w⟩ := x
  have frs' : X.A.frames = some (X.env :: X.outer) := by rw [I3.ok.frames, es]
  rw [noteFrame_env _ cF]
  have J7 : Inv X pins σ H' sI := I3.call' (ch := fp) J.os J.base J.hok J.bare fun b hb => ⟨(f3 b hb).1.2.2.2.1, (f3 b hb).1.2.1, (f3 b hb).1.2.2.2.2.1, (f3 b hb).1.2.2.2.2.2⟩
  have hC : H' ce.locals = none := J.free
  obtain ⟨m, hn, _⟩ := J.loc
  have hn : sI.heap.Ns ce.locals m := hn
  have fin : ∀ g, HandSPX.HeldZ B (X.env :: X.outer) a (Zc cls d) X.env.locals g → s'.heap.UpToSlots g → CompFails (model X.prog X.w) X.A X.xe ce (.ref a) { s' with heap := g } := by
    intro g hh up1
    have up2 := up.trans up1
    have hng := up2.ns hn
    refine ⟨m, hng, fun h2 m2 hn2 hs2 => ?_⟩
    have hs2 : Heap.SameBut ce.locals g h2 := hs2
    obtain ⟨G, g1, g2⟩ := restrict B fun b => decide (b ≠ ce.locals)
    obtain ⟨F, j1, j2⟩ := restrict sI.heap fun b => decide (b ≠ ce.locals)
    have gB : ∀ b o, G.get? b = some o → b ≠ ce.locals ∧ B.get? b = some o := fun b o e => by
      by_cases q : b = ce.locals
      · rw [g2 b (by simp [q])] at e
        cases e
      · rw [g1 b (by simp [q])] at e
        exact ⟨q, e⟩
    have gN : ∀ b, B.get? b = none → G.get? b = none := fun b e => by
      cases q : G.get? b with
      | none => rfl
      | some o =>
        rw [(gB b o q).2] at e
        cases e
    obtain ⟨k1, k2, k3, oe, vs, T, oT, ts, he, hz, hd, h1, hnT, hTe, hT, hdT, h3⟩ := hh
    obtain ⟨oC, esC, epC, hoC, hdC, _⟩ := hng
    have aC : a ≠ ce.locals := fun q => by
      rw [q] at he
      rw [hoC] at he
      cases he
      rw [hdC] at hd
      cases hd
    have TC : T ≠ ce.locals := fun q => by
      rw [q] at hT
      rw [hoC] at hT
      cases hT
      rw [hdC] at hdT
      cases hdT
    have he2 : h2.get? a = some oe := (hs2.2 a aC).trans he
    have hT2 : h2.get? T = some oT := (hs2.2 T TC).trans hT
    have q1 : G.StaysIn h2 := fun b o e => (hs2.2 b (gB b o e).1).trans (k1 b o (gB b o e).2)
    have q3 : h2.FunFrames G (X.env :: X.outer) := hz_frames_less gN (Heap.FunFrames.sameBut hs2 hn2 k3)
    have q4 : HandSPX.TracedZ h2 G a (Zc cls d) (rawInt X.env.locals) := ⟨oe, vs, T, oT, ts, he2, hz, hd, h1, gN T hnT, hTe, hT2, hdT, h3⟩
    obtain ⟨f0, f1, f2, f4, f5, f6⟩ := I3.fpOk (b := ce.locals) (Nat.le_of_eq cL.symm) hC
    have JF : Inv X pins σ H' { sI with heap := F } := J7.turned (t' := sI.toks) (fun b o nbC e => (j1 b (by simp [nbC])).trans e) f0 f1 f4 f5 f6
    have upF : F.UpToSlots h2 := fun b o e nf => by
      by_cases q : b = ce.locals
      · rw [j2 b (by simp [q])] at e
        cases e
      · rw [j1 b (by simp [q])] at e
        obtain ⟨sl, e2⟩ := up2 b o e nf
        exact ⟨sl, (hs2.2 b q).trans e2⟩
    have nb2 : ∀ b o, F.get? b = some o → b ∉ frs X.stack → G.get? b = some o := fun b o e hb => by
      by_cases q : b = ce.locals
      · rw [j2 b (by simp [q])] at e
        cases e
      · rw [j1 b (by simp [q])] at e
        rw [g1 b (by simp [q])]
        exact nb b o e hb
    unfold PySem.passOn
    refine wpAny_bind (wpAny_field he2 hd h1 ?_)
    rw [if_neg (by simp : ¬ ((Value.ref T == Value.none) = true))]
    have go : wpAny (model X.prog X.w) X.A (setFlight (.ref a) ce.frame) (fun _ s4 => wpAny (model X.prog X.w) X.A (throw (.ref a) : Sem Value) (fun _ _ => False) X.xe s4) X.xe { s' with heap := h2 } := by
      rw [cF, ef]
      refine HandSPX.setFlight_anyZ (fr := some X.env.locals) q1 q3 q4 fun h4 k1' k2' k3' up4 => wpAny_throw (tk _ _ ?_)
      exact ⟨a, G, _, pins, σ, H', cls, d, rfl, JF, nb2, upF.trans up4, .inr (.inr (by rw [es]; exact ⟨k1', gN a k2, k2', k3'⟩)), na, os, ag, w⟩
    first
      | exact wpAny_bind (wpAny_pure (wpAny_bind go))
      | exact wpAny_bind go
  have sky : Sky B X.stack a (Zc cls d) ce.locals s'.heap := sky
  rw [es] at sky
  rcases sky with ⟨c1, c2, c3, oe, vs, c4, c5, c6, c7⟩ | fl | hl
  · exact HandSPX.look_newZ Zc.steady frs' c3 ef c4 c1 c2 c6 c7 c5 fin
  · exact HandSPX.looks_onZ Zc.steady frs' ef fl fin
  · refine HandSPX.hz_look_other Zc.steady frs' ef (fun q => ?_) hl fin
    have := I3.lt
    rw [← q, cL] at this
    exact Nat.lt_irrefl _ this
/-- [elt for tg in iter if ..], its block's exceptions handed on; the list is the value -/
theorem hz_pe_lc {X : Cx} {W : WX} {elt tg iter : Expr} {ifs : List Expr} {scope : Scope} {own : List (Str × Nat)} {pos : Pos} {wi : TI} {g : TG} {tt : WX → TT} {te : WX → TE}
    (tk : Takes X W) (es : X.stack = X.env :: X.outer) (ef : X.env.frame = some X.env.locals) (hc : X.calm = true) (hN : X.N.Nodup) (hi : PI X tg iter wi) (ok : BlkOk X.N X.env.scope scope own)
    (hg : ∀ (s : Shared) (H : Hp) (C : Addr) (cl : List (Str × Addr)) (fp : List Addr) (xe : Value → Shared → Prop), PassesOwn (model X.prog X.w) X.A (compEnvC scope cl C X.env) xe → PG ((X.blk s H scope (compEnvC scope cl C X.env) fp).tr [] xe) tg g)
    (ht : ∀ (s : Shared) (H : Hp) (C : Addr) (cl : List (Str × Addr)) (fp : List Addr) (xe : Value → Shared → Prop) (W' : WX), Takes ((X.blk s H scope (compEnvC scope cl C X.env) fp).tr [] xe) W' → PassesOwn (model X.prog X.w) X.A (compEnvC scope cl C X.env) xe → PTs ((X.blk s H scope (compEnvC scope cl C X.env) fp).tr [] xe) ifs (tt W'))
    (he : ∀ (s : Shared) (H : Hp) (C : Addr) (cl : List (Str × Addr)) (fp : List Addr) (xe : Value → Shared → Prop) (W' : WX), Takes ((X.blk s H scope (compEnvC scope cl C X.env) fp).tr [] xe) W' → PassesOwn (model X.prog X.w) X.A (compEnvC scope cl C X.env) xe → PE ((X.blk s H scope (compEnvC scope cl C X.env) fp).tr [] xe) elt (te W'))
    (hs : ∀ x, foldedSetIterable iter X.env x = pure x) :
    PE X (.ListComp elt [⟨tg, iter, ifs, 0⟩] scope pos) (fun σ H Q => tLc wi g (tt fun cls d _ H' => W cls d σ H') (te fun cls d _ H' => W cls d σ H') (own.map (·.2)) σ H Q) := by
  refine ⟨fun pins s σ H Q I h => ?_⟩
  rw [eval_ListComp]
  have free : ∀ y ∈ scope.names, y.2 = .free → ∃ c, X.env.cells.lookup y.1 = some c := fun y hy e => by
    rcases ok.free y hy e with k | k <;> exact I.ok.has _ (by first | exact .inl k | exact .inr k)
  refine comprehension_at (use := none) rfl hs (closure_ok free) ok.kind (fun y hy e => by rw [ok.uniq y hy, e]) (thn (hi.run pins s σ H _ I h) fun xv s1 hx => thn hx fun itv s2 h2 => ?_)
  obtain ⟨it, fp, tn, J, H2, rfl, I2, T, st2, f2, q⟩ := h2
  refine wpAny_newObj_type (newEnv_comp ?_) (Nat.zero_le _)
  obtain ⟨D, hD⟩ : ∃ D, s2.heap.objs.size = D := ⟨_, rfl⟩
  rw [hD]
  have D0 : H2 D = none := I2.hok.fresh (Nat.le_of_eq hD)
  obtain ⟨Wn, ⟨m0, w0⟩, turn⟩ := q D D0
  generalize e3 : ({ s2 with heap := s2.heap.push { cls := .type "list", data := .seq ([] : List Value).toArray } } : Shared) = s3
  have h3 : s3.heap = s2.heap.push { cls := .type "list", data := .seq ([] : List Value).toArray } := by rw [← e3]
  have I3 : Inv X pins σ (upd H2 D (.lst [])) s3 := by
    rw [← e3]
    refine I2.laid (t' := s2.toks) (fun b o z => Heap.get?_push_of_some _ z) (Nat.le_of_eq hD) ⟨Nat.zero_le _, [], 0, .nil, ?_⟩
    rw [← hD]
    exact Heap.get?_push_size _ rfl
  have below : ∀ b ∈ fp, b < s2.heap.objs.size := fun b hb => by
    obtain ⟨o, z, _⟩ := T.obj _ _ st2 b hb
    exact Heap.lt_size z
  have f3 : ∀ b ∈ fp, FpOk X pins (upd H2 D (.lst [])) b ∧ b < s3.heap.objs.size := fun b hb => by
    have lt := below b hb
    refine ⟨⟨?_, (f2 b hb).2⟩, by rw [h3, Heap.size_push]; exact Nat.lt_succ_of_lt lt⟩
    rw [upd_ne (by rw [← hD]; exact Nat.ne_of_lt lt)]
    exact (f2 b hb).1
  have st3 : tn 0 s3.heap := T.keep _ _ _ st2 fun b _ o z => by rw [h3]; exact Heap.get?_push_of_some _ z
  have I4 := block_start I3 ok hN f3
  have g' := hg s3 (upd H2 D (.lst [])) s3.heap.objs.size (cellsFrom (s3.heap.objs.size + 1) scope.names (cloFrom X.env.cells scope.names [])) fp
  have t' := ht s3 (upd H2 D (.lst [])) s3.heap.objs.size (cellsFrom (s3.heap.objs.size + 1) scope.names (cloFrom X.env.cells scope.names [])) fp
  have e' := he s3 (upd H2 D (.lst [])) s3.heap.objs.size (cellsFrom (s3.heap.objs.size + 1) scope.names (cloFrom X.env.cells scope.names [])) fp
  show codeAny _ _ (.compStart (.ListComp elt [⟨tg, iter, ifs, 0⟩] scope pos) 0 (.ref it) (.ref D) (compEnvC scope (cellsFrom (s3.heap.objs.size + 1) scope.names (cloFrom X.env.cells scope.names [])) s3.heap.objs.size X.env))
    (compEnds (model X.prog X.w) X.A X.xe none (EP X pins σ Q) (.ref D) (compEnvC scope (cellsFrom (s3.heap.objs.size + 1) scope.names (cloFrom X.env.cells scope.names [])) s3.heap.objs.size X.env)) { s3 with heap := pushCells (s3.heap.push { cls := .type "dict", data := .dict #[] }) scope.names }
  have fpN : ∀ b ∈ fp, (upd H2 D (.lst [])) b = none := fun b hb => (f3 b hb).1.1
  obtain ⟨ce, hce⟩ : ∃ ce, compEnvC scope (cellsFrom (s3.heap.objs.size + 1) scope.names (cloFrom X.env.cells scope.names [])) s3.heap.objs.size X.env = ce := ⟨_, rfl⟩
  have cL : ce.locals = s3.heap.objs.size := by rw [← hce]; rfl
  have cF : ce.frame = X.env.frame := by rw [← hce]; rfl
  rw [hce] at I4 g' t' e' ⊢
  obtain ⟨H3, hH3⟩ : ∃ H3, upd H2 D (.lst []) = H3 := ⟨_, rfl⟩
  rw [hH3] at I3 I4 g' t' e' w0 fpN f3
  generalize e4 : ({ s3 with heap := pushCells (s3.heap.push { cls := .type "dict", data := .dict #[] }) scope.names } : Shared) = s4 at I4 ⊢
  have st4 : tn 0 s4.heap := T.keep _ _ _ st3 fun b _ o z => by rw [← e4]; exact pushCells_keeps _ _ _ _ (Heap.get?_push_of_some _ z)
  -- the block's exceptions
  obtain ⟨xe, hxe⟩ : ∃ xe, notedBy (model X.prog X.w) X.A ce (fun u s' => CompFails (model X.prog X.w) X.A X.xe ce u s') = xe := ⟨_, rfl⟩
  have po : PassesOwn (model X.prog X.w) X.A ce xe := by
    rw [← hxe]
    exact PassesOwn.looking
  have tkB : Takes ((X.blk s3 H3 scope ce fp).tr [] xe) (fun cls d _ H' => W cls d σ H') := fun u s' x => by
    show xe u s'
    rw [← hxe]
    exact hz_comp_air I3 es ef tk f3 cL cF x
  have pg := g' xe po
  have pt := t' xe _ tkB po
  have pe := e' xe _ tkB po
  have stat : ∀ {σ' : St} {H' : Hp} {s' : Shared}, Inv ((X.blk s3 H3 scope ce fp).tr [] xe) [] σ' H' s' → (∀ b ∈ fp, H' b = none) → ∀ b ∈ fp, FpOk ((X.blk s3 H3 scope ce fp).tr [] xe) [] H' b := fun {σ' H' s'} J' hn b hb =>
    ⟨hn b hb, (J'.ok.exf b hb).1, J'.ok.exfs b hb, .inl hb, fun x c z => (J'.ok.exf b hb).2 x c z, fun p hp => absurd (show p ∈ ([] : List (Addr × Obj)) ++ [] from hp) (by simp)⟩
  have I4 : Inv ((X.blk s3 H3 scope ce fp).tr [] xe) [] (wipe σ (own.map (·.2))) H3 s4 := I4.toTry xe
  have loop : codeAny (model X.prog X.w) X.A (.compLoop (.ListComp elt [⟨tg, iter, ifs, 0⟩] scope pos) 0 (.ref it) (.ref D) ce) (compEnds (model X.prog X.w) X.A X.xe none (EP X pins σ Q) (.ref D) ce) s4 := by
    refine compLoop_any (fun n s' => ∃ i H', Inv ((X.blk s3 H3 scope ce fp).tr [] xe) [] (wipe σ (own.map (·.2))) H' s' ∧ tn i s'.heap ∧ (∀ b ∈ fp, H' b = none) ∧ Wn i n H') ?_ m0 ⟨0, H3, I4, st4, fpN, w0⟩
    have lift : ∀ u s', xe u s' → notedBy (model X.prog X.w) X.A ce (fun u s' => compEnds (model X.prog X.w) X.A X.xe none (EP X pins σ Q) (.ref D) ce (.error u) s') u s' := fun u s' z => by
      rw [← hxe] at z
      exact z
    rintro n s5 ⟨i, H5, I5, st5, n5, w5⟩
    rcases turn i n H5 w5 with ⟨stop, qq⟩ | ⟨go, Nx, hNx, step⟩
    · refine thnF (T.done ((X.blk s3 H3 scope ce fp).tr [] xe) rfl rfl rfl hc i [] s5 _ H5 (fun _ _ => False) I5 (stat I5 n5) st5 stop) fun r s6 ⟨hr, I6⟩ => ?_
      subst hr
      have I7 : Inv X pins σ H5 s6 := I3.call' (ch := fp) I6.os I6.base I6.hok I6.bare fun b hb => ⟨(f3 b hb).1.2.2.2.1, (f3 b hb).1.2.1, (f3 b hb).1.2.2.2.2.1, (f3 b hb).1.2.2.2.2.2⟩
      have nC : H5 ce.locals = none := I6.free
      obtain ⟨m, hn, _⟩ := I6.loc
      obtain ⟨f0, f1, _, f4, f5, f6⟩ := I3.fpOk (b := ce.locals) (Nat.le_of_eq cL.symm) nC
      exact ⟨m, hn, fun h'' sb => ⟨.ref D, H5, I7.turned (t' := s6.toks) (fun b o nb z => (sb.2 b nb).trans z) f0 f1 f4 f5 f6, rfl, qq⟩⟩
    · refine thnF (T.item ((X.blk s3 H3 scope ce fp).tr [] xe) rfl rfl rfl hc i [] s5 _ H5 (fun _ _ => False) I5 (stat I5 n5) st5 go) fun r s6 ⟨u, hr, h6⟩ => ?_
      subst hr
      refine thnF h6 fun _ s7 ⟨x, H7, I7, r7, y7, st7, n7⟩ => ?_
      have P7 := I7.pinned (stat I7 n7) (T.obj _ _ st7)
      refine wpAny_mono (pg.run _ s7 _ H7 x u _ P7 r7 (step x H7 y7)) (fun _ s8 k8 => ?_) lift
      obtain ⟨σ8, H8, I8, hw8, q8⟩ := k8
      refine wpAny_mono (pt.run _ s8 σ8 H8 _ I8 q8) (fun b s9 k9 => ?_) lift
      obtain ⟨H9, I9, q9⟩ := k9
      have fin : ∀ {s' : Shared} {H' : Hp}, Inv ((X.blk s3 H3 scope ce fp).tr [] xe) ([] ++ pinsAt fp s7.heap) σ8 H' s' → Nx H' → ∃ m, m < n ∧ ∃ i H', Inv ((X.blk s3 H3 scope ce fp).tr [] xe) [] (wipe σ (own.map (·.2))) H' s' ∧ tn i s'.heap ∧ (∀ b ∈ fp, H' b = none) ∧ Wn i m H' := fun {s' H'} J' nx => by
        obtain ⟨m', hm, w'⟩ := hNx H' nx
        have pinned : ∀ b ∈ fp, ∀ o, s7.heap.get? b = some o → s'.heap.get? b = some o ∧ H' b = none := fun b hb o z =>
          let y := J'.pin (b, o) (List.mem_append_right _ (List.mem_append_right _ (mem_pinsAt hb z)))
          ⟨y.1, y.2.1⟩
        have len : (wipe σ (own.map (·.2))).length = σ8.length := by rw [← hw8, wipe_length]
        refine ⟨m', hm, i + 1, H', (J'.unpinned (pins := [])).weak len (fun j v z => ?_), T.keep _ _ _ st7 fun b hb o z => (pinned b hb o z).1, fun b hb => ?_, w'⟩
        · rw [← hw8] at z
          exact (wipe_some z).1
        · obtain ⟨o, z, _⟩ := T.obj _ _ st7 b hb
          exact (pinned b hb o z).2
      cases b with
      | false => exact fin I9 q9
      | true =>
        refine wpAny_mono (pe.run _ s9 σ8 H9 _ I9 q9) (fun z s10 k10 => ?_) lift
        obtain ⟨yv, H10, I10, r10, acc, hD10, hz10, nx⟩ := k10
        exact app_ok (X := (X.blk s3 H3 scope ce fp).tr [] xe) I10 hD10 hz10 r10 fun s11 I11 => fin I11 nx
  exact codeAny_compStart_list loop (T.self X.A 0 _ _ _ st4 loop)
end L2
namespace Hz
open PySem L2
def lcDX (vs : List Nat) (mg : D → En → Option En) (mt : MT) (me : ME) (G : AH → Prop) (ρ : En) (Q : QD) (E : QX) : List D → List D → AH → Prop
  | [], acc, α => G α ∧ Q (.list acc) α
  | d :: ds, acc, α => G α ∧ oq (mg d (wipeA ρ vs)) fun ρ1 => mt ρ1 α (fun b α1 => if b = true then me ρ1 α1 (fun y α2 => acc.length < 100000 ∧ lcDX vs mg mt me G ρ Q E ds (acc ++ [y]) α2) E else lcDX vs mg mt me G ρ Q E ds acc α1) E
def lcXK (vs : List Nat) (mi : MI) (mg : D → En → Option En) (mt : MT) (me : ME) : ME := fun ρ α Q E => mi ρ α (fun ds G α1 => lcDX vs mg mt me G ρ Q E ds [] α1) E
section
variable {K : Frag} {W : WX} {vs js : List Nat} {mi : MI} {mg : D → En → Option En} {mt : MT} {me : ME} {wi : TI} {g : TG} {tt : WX → TT} {te : WX → TE}
theorem sf_lcX (hi : SI K W wi mi) (hg : SgT K js g mg) (hj : ∀ j, j ∈ js → j ∈ vs) (ht : ∀ W, Stt K W (tt W) mt) (he : ∀ W, Sd K W (te W) me) : Sf K W (fun σ H Q => tLc wi g (tt fun cls d _ H' => W cls d σ H') (te fun cls d _ H' => W cls d σ H') vs σ H Q) (lcXK vs mi mg mt me) := fun B σ H ρ α S Qm Em m Q q x => by
  refine hi B σ H ρ α S _ Em m _ (fun J ds G B1 H1 α1 A ok m => ?_) x
  have S1 := S.step A
  have x1 := x.after S.bs A
  intro l hl
  refine ⟨fun i n H' => ∃ B' α' vacc acc, Af K B1 H1 α1 B' H' α' ∧ B' l = true ∧ α' l = none ∧ H' l = some (.lst vacc) ∧ RpL K (hide B' H') vacc acc ∧ n = ds.length - i ∧ i ≤ ds.length ∧ lcDX vs mg mt me G ρ Qm Em (ds.drop i) acc α',
    ⟨ds.length, ins l B1, α1, [], [], Af.hid S1.bs hl, ins_self, S1.bs.new hl, upd_same, .nil, by simp, Nat.zero_le _, by simpa using m⟩, ?_⟩
  rintro i n H' ⟨B', α', vacc, acc, A', bl, nl, el, rl, rfl, hle, hf⟩
  have hG : G α' := by
    cases q : ds.drop i with
    | nil => rw [q] at hf; exact hf.1
    | cons _ _ => rw [q] at hf; exact hf.1
  obtain ⟨go, stop⟩ := ok B' H' α' A'.sub A'.bs hG
  by_cases hlt : i < ds.length
  · obtain ⟨d, hd⟩ : ∃ d, ds[i]? = some d := ⟨_, List.getElem?_eq_getElem hlt⟩
    have dr : ds.drop i = d :: ds.drop (i + 1) := by
      rw [List.drop_eq_getElem_cons hlt]
      rw [List.getElem?_eq_getElem hlt] at hd
      cases hd
      rfl
    rw [dr] at hf
    obtain ⟨_, ρ2, e2, hf⟩ := hf
    obtain ⟨g1, g2⟩ := go i d hd
    refine .inr ⟨g1, fun H2 => ∃ B2 α2 vacc acc, Af K B1 H1 α1 B2 H2 α2 ∧ B2 l = true ∧ α2 l = none ∧ H2 l = some (.lst vacc) ∧ RpL K (hide B2 H2) vacc acc ∧ lcDX vs mg mt me G ρ Qm Em (ds.drop (i + 1)) acc α2,
      fun H2 ⟨B2, α2, va, ac, k1, k2, k3, k4, k5, k6⟩ => ⟨ds.length - (i + 1), by omega, B2, α2, va, ac, k1, k2, k3, k4, k5, rfl, hlt, k6⟩, fun x H2 y => ?_⟩
    obtain ⟨sb, rx⟩ := g2 x H2 y
    have Ab := Af.of_sub A'.bs sb
    have A2 := A'.trans S1.bs Ab
    have x2 := x1.after S1.bs A2
    have Sw : SR K B' (wipe σ vs) H2 (wipeA ρ vs) α' := (S1.step A2).wipe
    refine hg B' _ H2 _ α' x d ρ2 Sw rx e2 _ fun σ3 S3 loc len => ⟨wipe_back (fun j h => (loc j h).1) hj len, ?_⟩
    have el2 : H2 l = some (.lst vacc) := sb _ _ el
    have x3 : SX K (fun cls d _ H' => W cls d σ H') B' σ3 H2 α' Em := fun y B'' α'' cls d H'' a r e => x2 y B'' α'' cls d H'' a r e
    refine ht _ B' σ3 H2 ρ2 α' S3 _ Em hf _ (fun b B3 H3 α3 A3 m => ?_) x3
    obtain ⟨b3, h3⟩ := A3.keep l bl nl
    have n3 : α3 l = none := A3.fr l nl (by rw [el2]; exact fun z => nomatch z)
    have r3 := rl.mono (hsub sb |>.trans A3.sub)
    have A13 := A2.trans S1.bs A3
    cases b with
    | false => exact ⟨B3, α3, vacc, acc, A13, b3, n3, h3.trans el2, r3, m⟩
    | true =>
      refine he _ B3 σ3 H3 ρ2 α3 (S3.step A3) _ Em m _ (fun v d4 B4 H4 α4 A4 r4 m => ?_) (x3.after S3.bs A3)
      obtain ⟨b4, h4⟩ := A4.keep l b3 n3
      have e4 : H4 l = some (.lst vacc) := h4.trans (h3.trans el2)
      have n4 : α4 l = none := A4.fr l n3 (by rw [h3, el2]; exact fun z => nomatch z)
      have A14 := A13.trans S1.bs A4
      have ra := r3.mono A4.sub
      obtain ⟨w1, w2⟩ := Af.hidW (o := .lst (vacc ++ [v])) S1.bs A14 hl b4 n4
      exact ⟨vacc, e4, by rw [ra.length]; exact Nat.lt_of_lt_of_le m.1 (by decide), B4, α4, vacc ++ [v], acc ++ [d4], w1, b4, n4, upd_same, (ra.append (.cons r4 .nil)).mono w2, m.2⟩
  · have ei : i = ds.length := by omega
    subst ei
    rw [List.drop_length] at hf
    refine .inl ⟨stop, ?_⟩
    exact q l (.list acc) B' H' α' (A.trans S.bs (A'.hidC hl bl (.own ⟨vacc, el, rl⟩))) nl hf.2
end
section
variable {c : C0} {N : List Str} {sc scope : Scope} {elt tg iter : Expr} {ifs : List Expr} {pos : Pos} {own : List (Str × Nat)} {js : List Nat} {mi : MI} {mg : D → En → Option En} {mt : MT} {me : ME}
theorem jf_lcX {oc : List Str} (nd : N.Nodup) (hi : JI c N sc tg iter mi) (ok : BlkOk N sc scope own) (hg : JTg (c.inO oc) N (relS scope sc) tg js mg) (ht : JTs (c.inO oc) N (relS scope sc) ifs mt) (he : JE (c.inO oc) N (relS scope sc) elt me)
    (hj : (js.all fun j => (own.map (·.2)).contains j) = true := by rfl) (hc : c.cm = true := by rfl) (htop : c.top = true := by rfl) (ho : (oc.all fun x => scope.names.lookup x == some .cell) = true := by rfl) (hs : ∀ env x, foldedSetIterable iter env x = pure x := by intros; rfl) : JF c N sc (.ListComp elt [⟨tg, iter, ifs, 0⟩] scope pos) (lcXK (own.map (·.2)) mi mg mt me) := by
  obtain ⟨wi, a1, a2⟩ := hi
  obtain ⟨g, b1, b2⟩ := hg
  obtain ⟨tt, c1, c2⟩ := ht
  obtain ⟨te, d1, d2⟩ := he
  refine ⟨fun W σ H Q => tLc (wi W) g (tt fun cls d _ H' => W cls d σ H') (te fun cls d _ H' => W cls d σ H') (own.map (·.2)) σ H Q, fun X W I T => ?_, fun W => sf_lcX (a2 W) b2 (fun j h => ?_) c2 d2⟩
  · exact hz_pe_lc T (I.fs htop).1 (I.fs htop).2 (I.calm hc) (by rw [I.N]; exact nd) (a1 X W I T) (by rw [I.N, I.sc]; exact ok) (fun s H C cl fp xe po => b1 _ ((I.blk ho s H C cl fp).tr rfl po)) (fun s H C cl fp xe W' tk po => c1 _ _ ((I.blk ho s H C cl fp).tr rfl po) tk) (fun s H C cl fp xe W' tk po => d1 _ _ ((I.blk ho s H C cl fp).tr rfl po) tk) (hs _)
  · have := (List.all_eq_true.mp hj) j h
    simpa using this
end
section
variable {α : AH} {ρ : En} {Q : QD} {E : QX} {mi : MI} {mt : MT} {ma : ME} {tg : D → En → Option En} {G : AH → Prop}
theorem w_lcX {vs : List Nat} (h : mi ρ α (fun ds G α1 => lcDX vs tg mt ma G ρ Q E ds [] α1) E) : lcXK vs mi tg mt ma ρ α Q E := h
theorem lc_invX {vs : List Nat} {ds acc : List D} (I : List D → List D → AH → Prop) (h0 : I ds acc α) (hG : ∀ ds acc α, I ds acc α → G α) (h2 : ∀ acc α, I [] acc α → Q (.list acc) α)
    (h1 : ∀ d ds acc α, I (d :: ds) acc α → ∀ X : List D → AH → Prop, (∀ acc α, I ds acc α → X acc α) → oq (tg d (wipeA ρ vs)) fun ρ1 => mt ρ1 α (fun b α1 => it2 b (ma ρ1 α1 (fun y α2 => acc.length < 100000 ∧ X (acc ++ [y]) α2) E) (X acc α1)) E) : lcDX vs tg mt ma G ρ Q E ds acc α := by
  induction ds generalizing acc α with
  | nil => exact ⟨hG _ _ _ h0, h2 _ _ h0⟩
  | cons d ds ih =>
    refine ⟨hG _ _ _ h0, ?_⟩
    have := h1 d ds acc α h0 (fun acc α => lcDX vs tg mt ma G ρ Q E ds acc α) fun acc α q => ih q
    simp only [it2_eq] at this
    exact this
end
end Hz
namespace L2
open PySem PySem.Spec PyProof.Rows
end L2
namespace Hz
open PySem L2
end Hz
namespace Hz
open PySem PySem.Spec PyProof.Rows L2
end Hz
namespace HzGQ
open PySem PySem.SeqAt
open AutoSeq1 (wpAny_loadPart')
open MeetsSeq MeetsSeq2 MeetsSeq3 SeqRoads2
/-- a list object of these items -/
def LsOb (h : Heap) (a : Addr) (xs : Array Value) : Prop := ∃ (k : Nat) (dd : Option Addr) (sl : Array (Option Value)), h.get? a = some ⟨.type "list", dd, .seq xs k, sl⟩
section
variable {prog : Program} {w : World} {A : Around} {R : Result → Shared → Prop} {p q : Addr} {n : Nat} {J : Nat → Shared → Prop}
def Tn (prog : Program) (w : World) (A : Around) (E : Value → Shared → Prop) (p q : Addr) (n : Nat) (J : Nat → Shared → Prop) : Prop :=
  ∀ i t, J i t → ∃ xs ys : Array Value, (LsOb t.heap p xs ∧ xs.size = n) ∧ (LsOb t.heap q ys ∧ ys.size = n) ∧ ∀ (l : i < xs.size) (m : i < ys.size), wpAny (model prog w) A.in1 (eqBool xs[i] ys[i]) (fun z t' => z = true ∧ J (i + 1) t') E t
theorem turns (T : Tn prog w A (fun e t => R (.error e) t) p q n J) (last : ∀ t, J n t → R (.ok (.ret (.bool true))) t) :
    ∀ (m i : Nat) (t : Shared), i + m = n → J i t → wpAny (model prog w) A.in1 (Builtin.«list.__eq__.loop» ⟨[.ref p, .ref q, rawInt i, rawInt 2], []⟩) (GQ.FinOf prog w A R) (fun e t' => R (.error e) t') t
  | 0, i, t, hm, ht => by
    obtain ⟨xs, ys, ⟨⟨k1, dd1, sl1, o1⟩, z1⟩, ⟨⟨k2, dd2, sl2, o2⟩, z2⟩, _⟩ := T i t ht
    have en : n = i := by omega
    have fin0 := last t (en ▸ ht)
    cases t with
    | mk hp g d tk os =>
      have no1 : xs[((i : Nat) : Int).toNat]? = none := by rw [Int.toNat_natCast]; exact Array.getElem?_eq_none (by omega)
      have no2 : ys[((i : Nat) : Int).toNat]? = none := by rw [Int.toNat_natCast]; exact Array.getElem?_eq_none (by omega)
      wp_walk using wpAny_loadPart' o1, wpAny_loadPart' o2
      rw [no1, no2]
      wp_walk using wpAny_loadPart' o1, wpAny_loadPart' o2
      have same : (xs.size == ys.size) = true := by rw [z1, z2]; exact beq_self_eq_true n
      show R (.ok (.ret (.bool (xs.size == ys.size)))) ⟨hp, g, d, tk, os⟩
      exact same ▸ fin0
  | m + 1, i, t, hm, ht => by
    obtain ⟨xs, ys, ⟨⟨k1, dd1, sl1, o1⟩, z1⟩, ⟨⟨k2, dd2, sl2, o2⟩, z2⟩, step⟩ := T i t ht
    have b1 : i < xs.size := by omega
    have b2 : i < ys.size := by omega
    have go := step b1 b2
    cases t with
    | mk hp g d tk os =>
      have at1 : xs[((i : Nat) : Int).toNat]? = some xs[i] := by rw [Int.toNat_natCast]; exact Array.getElem?_eq_getElem b1
      have at2 : ys[((i : Nat) : Int).toNat]? = some ys[i] := by rw [Int.toNat_natCast]; exact Array.getElem?_eq_getElem b2
      wp_walk using wpAny_loadPart' o1, wpAny_loadPart' o2
      rw [at1, at2]
      refine wpAny_bind (wpAny_mono go (fun z t2 k => ?_) (fun _ _ k => k))
      cases k.1
      have more := turns T last m (i + 1) t2 (by omega) k.2
      cases t2 with
      | mk hp2 g2 d2 tk2 os2 =>
        wp_walk
        refine ⟨plainId_quiet plain_eq_loop _, codeAny_builtin entry_eq_loop ?_⟩
        rw [Around.under_plainId plain_eq_loop _]
        exact more
end
/-- == of two lists whose items are found equal: True -/
theorem rc_eq {prog : Program} {w : World} {A : Around} {E : Value → Shared → Prop} {t : Shared} {p q : Addr} {n : Nat} {Q : Value → Shared → Prop} {J : Nat → Shared → Prop} (room : A.units < cLine) (T : Tn prog w A E p q n J)
    (last : ∀ t, J n t → Q (.bool true) t) (h0 : J 0 t) : wpAny (model prog w) A (richCompare .Eq (.ref p) (.ref q)) Q E t := by
  obtain ⟨xs, ys, ⟨⟨k1, dd1, sl1, o1⟩, z1⟩, ⟨⟨k2, dd2, sl2, o2⟩, z2⟩, _⟩ := T 0 t h0
  have all := turns (R := wants (fun v t' => v ≠ .notImplemented ∧ Q v t') E) T (fun t' k => ⟨(fun e => nomatch e), last t' k⟩) n 0 t (by omega) h0
  refine wpAny_richCompare_same_room (op := .Eq) ⟨_, o1, rfl⟩ ⟨_, o2, rfl⟩ F.slot_list_eq ?_ room
  refine GQ.call_here F.slot_list_eq ⟨_, o1, rfl⟩ F.entry_list_eq (F.args_list_eq_2 _ _) ?_
  cases t with
  | mk hp g d tk os =>
    have isl := AutoSeq1.sub_list_list
    have differ : ¬ (xs.size != ys.size) = true := by rw [z1, z2, bne_self_eq_false]; exact Bool.false_ne_true
    wp_walk using wpAny_loadPart' o1, wpAny_loadPart' o2
    refine ⟨plainId_quiet plain_eq_loop _, codeAny_builtin entry_eq_loop ?_⟩
    rw [Around.under_plainId plain_eq_loop _]
    exact all
end HzGQ
namespace Hz
open PySem L2
variable {c : C0} {N : List Str} {sc : Scope}
def DListQ (K : Frag) (D : Eqv) : Eqv := fun x y H => ∃ a b xs ys, x = .ref a ∧ y = .ref b ∧ SqL K H a xs ∧ SqL K H b ys ∧ Prs D xs ys H
theorem rcG_listQ {X : Cx} {n : Nat} {D : Eqv} (hD : Mon D) (h : EqG X n D) : RcG X (n + 1) (DListQ X.K D) := by
  intro A pins s σ H x y u v sb I rx ry d
  obtain ⟨a, b, xs, ys, rfl, rfl, ha, hb, p⟩ := d
  cases rx
  cases ry
  refine HzGQ.rc_eq (n := xs.length) (J := fun _ t => LoopI X pins σ H t) sb.room.units0 (fun i t k => ?_) (fun t k => ⟨rfl, k⟩) ⟨H, I, Ext.rfl'⟩
  obtain ⟨H1, I1, e1⟩ := id k
  obtain ⟨us, r1, pl1, _⟩ := I1.list (SqL.ext ha e1)
  obtain ⟨ws, r2, pl2, _⟩ := I1.list (SqL.ext hb e1)
  have ob : ∀ {a : Addr} {l : List Value}, PlainL t.heap a l.toArray → HzGQ.LsOb t.heap a l.toArray := fun pl => by
    obtain ⟨o, f1, f2, m, f3⟩ := pl.isList
    cases o with
    | mk cls dd data sl =>
      cases f2
      cases f3
      exact ⟨m, dd, sl, f1⟩
  exact ⟨us.toArray, ws.toArray, ⟨ob pl1, by rw [List.size_toArray, r1.length]⟩, ⟨ob pl2, by rw [List.size_toArray, ← r2.length, ← p.1]⟩, fun l m => turnG hD h sb p r1 r2 i l m t k⟩
theorem eqG_listQ {X : Cx} {n : Nat} {D : Eqv} (hD : Mon D) (h : EqG X n D) : EqG X (n + 1) (DListQ X.K D) := (rcG_listQ hD h).eqG fun _ _ _ d => let ⟨a, b, _, _, hx, hy, _⟩ := d; ⟨a, b, hx, hy⟩
def flD : D → Bool
  | .none => true
  | .bool _ => true
  | .int _ => true
  | .str _ => true
  | _ => false
def All2 (R : D → D → Prop) (ds es : List D) : Prop := ds.length = es.length ∧ ∀ (i : Nat) d e, ds[i]? = some d → es[i]? = some e → R d e
theorem All2.nil {R : D → D → Prop} : All2 R [] [] := ⟨rfl, fun i x y h _ => by simp at h⟩
theorem All2.cons {R : D → D → Prop} {d e : D} {ds es : List D} (h : R d e) (p : All2 R ds es) : All2 R (d :: ds) (e :: es) := by
  refine ⟨by rw [List.length_cons, List.length_cons, p.1], fun i a b h1 h2 => ?_⟩
  cases i with
  | zero =>
    simp at h1 h2
    subst h1; subst h2
    exact h
  | succ i =>
    simp at h1 h2
    exact p.2 i a b h1 h2
theorem All2.map {β : Type} {R : D → D → Prop} {f g : β → D} : ∀ {l : List β}, (∀ b ∈ l, R (f b) (g b)) → All2 R (l.map f) (l.map g)
  | [], _ => .nil
  | b :: l, h => .cons (h b (.head _)) (All2.map fun b m => h b (.tail _ m))
/-- two data seen to be equal, instances of C by their own == (fm) -/
def EqO (C : Nat) (fm : Fm) : Nat → D → D → Prop
  | 0, d, e => (flD d = true ∧ d = e) ∨ (isOb C d = true ∧ isOb C e = true ∧ fm [d, e] (fun _ => none) (fun r _ => r = .bool true) NX)
  | k + 1, d, e => EqO C fm k d e ∨ (∃ ds es, d = .list ds ∧ e = .list es ∧ All2 (EqO C fm k) ds es) ∨ (∃ ds es, d = .tuple ds ∧ e = .tuple es ∧ All2 (EqO C fm k) ds es)
def QV (K : Frag) (C : Nat) (fm : Fm) (n : Nat) : Eqv := fun x y H => ∃ (B : Addr → Bool) (d e : D), (∀ a, B a = true → ∃ o, H a = some o) ∧ EqO C fm n d e ∧ Rp K (hide B H) x d ∧ Rp K (hide B H) y e
theorem mon_qv {K : Frag} {C : Nat} {fm : Fm} {n : Nat} : Mon (QV K C fm n) := fun x y H H' e ⟨B, d, e', bk, ok, h1, h2⟩ => ⟨B, d, e', fun a z => by
  obtain ⟨o, w⟩ := bk a z
  exact ⟨o, e _ _ w⟩, ok, h1.mono (hsub e), h2.mono (hsub e)⟩
/-- instances -/
def QI (K : Frag) (C : Nat) (fm : Fm) : Eqv := fun x y H => ∃ (B : Addr → Bool) (d e : D), (∀ a, B a = true → ∃ o, H a = some o) ∧ (isOb C d = true ∧ isOb C e = true ∧ fm [d, e] (fun _ => none) (fun r _ => r = .bool true) NX) ∧ Rp K (hide B H) x d ∧ Rp K (hide B H) y e
theorem qi_ins {K : Frag} {C : Nat} {fm : Fm} {x y : V} {H : Hp} (h : QI K C fm x y H) : DIns C (fun a b H => QI K C fm (.ref a) (.ref b) H) x y H := by
  obtain ⟨B, d, e, bk, ok, h1, h2⟩ := id h
  obtain ⟨fs, rfl⟩ := isOb_oD ok.1
  obtain ⟨gs, rfl⟩ := isOb_oD ok.2.1
  obtain ⟨a, dx, us, rfl, g1, _⟩ := h1.oD
  obtain ⟨b, dy, ws, rfl, g2, _⟩ := h2.oD
  exact ⟨a, b, dx, dy, us, ws, rfl, rfl, (hide_some g1).2, (hide_some g2).2, h⟩
theorem spEq_qi {K : Frag} {C : Nat} {fm : Fm} (vs : List V) (H : Hp) (Q : VK) (E : XK) (h : spEq (fun a b H => QI K C fm (.ref a) (.ref b) H) vs H Q E) : vs.length = 2 ∧ spD K fm vs H Q E := by
  obtain ⟨a, b, rfl, ⟨B, d, e, bk, ok, h1, h2⟩, q⟩ := h
  refine ⟨rfl, B, fun _ => none, [d, e], _, NX, ⟨fun a c z => (by cases z), bk⟩, .cons h1 (.cons h2 .nil), ok.2.2, fun v z B' H' α' A r mm => ?_, fun y B' α' cls d H' A r mm => mm.elim⟩
  cases mm
  cases r with
  | bl b =>
    refine q H' fun a o z => ?_
    cases hB : B a with
    | true => rw [(A.keep a hB rfl).2]; exact z
    | false => exact (hide_some (A.sub a o (hide_of hB z))).2
theorem flat_v {K : Frag} {H : Hp} {x y : V} {d : D} (f : flD d = true) (h1 : Rp K H x d) (h2 : Rp K H y d) : flatV x = true ∧ flatV y = true ∧ eqV x y = true := by
  cases h1 with
  | non => cases h2; exact ⟨rfl, rfl, rfl⟩
  | bl b => cases h2; exact ⟨rfl, rfl, beq_self_eq_true b⟩
  | int i => cases h2; exact ⟨rfl, rfl, beq_self_eq_true i⟩
  | str s => cases h2; exact ⟨rfl, rfl, beq_self_eq_true s⟩
  | _ => cases f
theorem prs_of {K : Frag} {C : Nat} {fm : Fm} {n : Nat} {B : Addr → Bool} {H : Hp} (bk : ∀ a, B a = true → ∃ o, H a = some o) {ds es : List D} {xs ys : List V} (p : All2 (EqO C fm n) ds es) (r1 : RpL K (hide B H) xs ds) (r2 : RpL K (hide B H) ys es) : Prs (QV K C fm n) xs ys H := by
  refine ⟨by rw [r1.length, r2.length, p.1], fun i x y h1 h2 => ?_⟩
  obtain ⟨d, g1, k1⟩ := r1.get h1
  obtain ⟨e, g2, k2⟩ := r2.get h2
  exact ⟨B, d, e, bk, p.2 i d e g1 g2, k1, k2⟩
theorem eqG_qv {C j : Nat} {fm : Fm} {X : Cx} (I : In c N sc X) (M : MtD c j C "__eq__" 1 [] fm) : ∀ n, EqG X (j + n) (QV c.K C fm n)
  | 0 => by
    obtain ⟨f, fd, ps, dV, dvs, F, h1, h2, h3, h4, h5⟩ := M.ex
    have e0 : dvs = [] := by
      have := (h4 (fun _ => none)).length
      cases dvs with
      | nil => rfl
      | cons _ _ => simp at this
    subst e0
    cases h3
    have F' : FnOk X.prog X.w X.K X.mg X.base (L2.CX X.prog X.w) j f fd ps (fun vs H Q E => vs.length = 2 ∧ spD c.K fm vs H Q E) := by
      rw [I.P, I.w, I.K, I.mg, I.base]
      rw [show ps.length = 2 from h5] at F
      exact F
    have h := eqG_ins (X := X) (C := C) (E := fun _ _ _ => False) (F'.imp fun vs H Q E z => spEq_qi (C := C) vs H Q E z) (by rw [I.K]; exact h1.at_) (by rw [I.K]; exact h1.fn) (by rw [I.K]; exact h2) passX0
    refine EqG.imp (EqG.or (EqG.mono eqG_flat (Nat.zero_le j)) h) fun x y H z => ?_
    obtain ⟨B, d, e, bk, ok, r1, r2⟩ := z
    rcases ok with ⟨f, rfl⟩ | ok
    · exact .inl (flat_v f r1 r2)
    · exact .inr (qi_ins ⟨B, d, e, bk, ok, r1, r2⟩)
  | n + 1 => by
    have ih := eqG_qv I M n
    have t := eqG_tup (mon_qv (K := c.K) (C := C) (fm := fm) (n := n)) ih
    have l := eqG_listQ (mon_qv (K := c.K) (C := C) (fm := fm) (n := n)) ih
    rw [I.K] at t l
    refine EqG.imp (EqG.or (EqG.mono ih (Nat.le_succ _)) (EqG.or l t)) fun x y H z => ?_
    obtain ⟨B, d, e, bk, ok, r1, r2⟩ := z
    rcases ok with ok | ⟨ds, es, rfl, rfl, ok⟩ | ⟨ds, es, rfl, rfl, ok⟩
    · exact .inl ⟨B, d, e, bk, ok, r1, r2⟩
    · obtain ⟨a, xs, rfl, s1, k1⟩ := (Rs.vis r1).list
      obtain ⟨b, ys, rfl, s2, k2⟩ := (Rs.vis r2).list
      exact .inr (.inl ⟨a, b, xs, ys, rfl, rfl, s1, s2, prs_of bk ok k1 k2⟩)
    · obtain ⟨a, xs, rfl, s1, k1⟩ := (Rs.vis r1).tuple
      obtain ⟨b, ys, rfl, s2, k2⟩ := (Rs.vis r2).tuple
      exact .inr (.inr ⟨a, b, xs, ys, rfl, rfl, s1, s2, prs_of bk ok k1 k2⟩)
open Classical in
/-- == of two lists whose items are seen to be equal -/
noncomputable def dEqQ (C : Nat) (fm : Fm) (n : Nat) (d e : D) : Option D := if (∃ ds es, d = .list ds ∧ e = .list es ∧ All2 (EqO C fm n) ds es) then some (.bool true) else none
theorem oq_eqQ {C : Nat} {fm : Fm} {n : Nat} {ds es : List D} {R : D → Prop} (h : All2 (EqO C fm n) ds es) (q : R (.bool true)) : oq (dEqQ C fm n (.list ds) (.list es)) R := ⟨_, if_pos ⟨ds, es, rfl, rfl, h⟩, q⟩
theorem o_eqQ {C j n : Nat} {fm : Fm} (M : MtD c j C "__eq__" 1 [] fm) (hc : c.cm = true) (hk : j + n + 1 ≤ c.k) : OpD c.K (In c N sc) (compareOp .Eq) (dEqQ C fm n) := by
  refine ⟨rEqG (DListQ c.K (QV c.K C fm n)), fun X I => ?_, fun B H x y d e z bk hx hy hz Q q => ?_⟩
  · have h := rcG_listQ (mon_qv (K := c.K) (C := C) (fm := fm) (n := n)) (eqG_qv I M n)
    rw [I.K] at h
    exact op_eqG h ((I.rm hc).mono hk)
  · unfold dEqQ at hz
    split at hz
    · rename_i ok
      cases hz
      obtain ⟨ds, es, rfl, rfl, p⟩ := ok
      obtain ⟨a, xs, rfl, s1, r1⟩ := hx.list
      obtain ⟨b, ys, rfl, s2, r2⟩ := hy.list
      exact ⟨⟨a, b, xs, ys, rfl, rfl, s1, s2, prs_of bk p r1 r2⟩, fun H' e => q _ H' e (.bl true)⟩
    · cases hz
def AtN (c : C0) (y x : Str) (st : Stmt) (ps : List Str) (dvs : List V) (js : List Nat) : Prop := ∃ f, AtF c x x st ps dvs js f ∧ c.mg y = some (.ref f)
section
variable {x y : Str} {st : Stmt} {ps : List Str} {dvs : List V} {js : List Nat} {k np : Nat} {mm : MS} {fm : Fm}
theorem AtN.run (A : AtN c y x st ps dvs js) (S : FnScope N ps (defScope st)) (h : JB (c.at_ k) N (defScope st) (defBody st) mm) (hn : ps.length ≤ N.length := by decide) : PrF c (k + 1) y ps dvs js (runF ps.length N.length mm) :=
  let ⟨f, a, m⟩ := A; ⟨f, a.run S h hn, m⟩
theorem AtN.runP (A : AtN c y x st ps dvs js) (S : FnScope N ps (defScope st)) (h : JB (c.at_ k) N (defScope st) (defBody st) mm) (hn : ps.length ≤ N.length := by decide) : PrF c (k + 1) y ps dvs js (Hz.runP ps.length N.length mm) :=
  let ⟨f, a, m⟩ := A; ⟨f, a.runP S h hn, m⟩
end
end Hz
namespace K21
open PySem L2 Hz
def exm_InvalidBytes (C_Entry C_Reader C_FolderkinError C_InvalidBlock C_InvalidBytes gX : Nat) : Nat → Option Bool := fun C => if C = C_InvalidBlock then some false else if C = C_InvalidBytes then some true else none
def m_block_number (C_Entry C_Reader C_FolderkinError C_InvalidBlock C_InvalidBytes gX : Nat) : MS := seqS (asgS (kC (.int 1)) (setv 1))
  (seqS (forS (listK (kV 0)) (setv 2) (asgS (bop dAdd (bop dMul (kV 1) (kC (.int 256))) (kV 2)) (setv 1)))
  (retS (kV 1)))
def f_block_number (C_Entry C_Reader C_FolderkinError C_InvalidBlock C_InvalidBytes gX : Nat) : Fm := runP 1 3 (m_block_number C_Entry C_Reader C_FolderkinError C_InvalidBlock C_InvalidBytes gX)
def m_block_size (C_Entry C_Reader C_FolderkinError C_InvalidBlock C_InvalidBytes gX : Nat) : MS := seqS (forS (rangeK2 (consK (kC (.int 1)) (consK (bop dAdd (kC (.int 4)) (kC (.int 1))) (nilK)))) (setv 1) (ifS (tst (bop dEq (bop dShr (kV 0) (bop dMul (kC (.int 8)) (kV 1))) (kC (.int 1)))) (retS (kV 1)) (nextS)))
  (retS (kC (.int 0)))
def f_block_size (C_Entry C_Reader C_FolderkinError C_InvalidBlock C_InvalidBytes gX : Nat) : Fm := runP 1 2 (m_block_size C_Entry C_Reader C_FolderkinError C_InvalidBlock C_InvalidBytes gX)
def m_is_block (C_Entry C_Reader C_FolderkinError C_InvalidBlock C_InvalidBytes gX : Nat) : MS := retS (bop dGt (callN 1 (f_block_size C_Entry C_Reader C_FolderkinError C_InvalidBlock C_InvalidBytes gX) [] (consK (kV 0) (nilK))) (kC (.int 0)))
def f_is_block (C_Entry C_Reader C_FolderkinError C_InvalidBlock C_InvalidBytes gX : Nat) : Fm := runP 1 1 (m_is_block C_Entry C_Reader C_FolderkinError C_InvalidBlock C_InvalidBytes gX)
def m_block_bytes (C_Entry C_Reader C_FolderkinError C_InvalidBlock C_InvalidBytes gX : Nat) : MS := seqS (ifS (notK (tst (callN 1 (f_is_block C_Entry C_Reader C_FolderkinError C_InvalidBlock C_InvalidBytes gX) [] (consK (kV 0) (nilK))))) (raiseS C_InvalidBlock (kC (.int 0))) (nextS))
  (seqS (asgS (newK (lstK (nilK))) (setv 1))
  (seqS (whileS (tst (bop dGt (kV 0) (kC (.int 1)))) (seqS (dropS (mutK muInsert (kV 1) (consK (kC (.int 0)) (consK (bop dMod (kV 0) (kC (.int 256))) (nilK)))))
  (asgS (bop dDiv (kV 0) (kC (.int 256))) (setv 0))))
  (retS (frzK (kV 1)))))
def f_block_bytes (C_Entry C_Reader C_FolderkinError C_InvalidBlock C_InvalidBytes gX : Nat) : Fm := runP 1 2 (m_block_bytes C_Entry C_Reader C_FolderkinError C_InvalidBlock C_InvalidBytes gX)
def m_Entry_init (C_Entry C_Reader C_FolderkinError C_InvalidBlock C_InvalidBytes gX : Nat) : MS := seqS (setaS C_Entry "name" (kV 1) (kV 0))
  (seqS (setaS C_Entry "vector" (kV 2) (kV 0))
  (seqS (setaS C_Entry "height" (kV 3) (kV 0))
  (seqS (setaS C_Entry "maker" (kV 4) (kV 0))
  (seqS (setaS C_Entry "deleted" (kV 5) (kV 0))
  (seqS (setaS C_Entry "time" (kV 6) (kV 0))
  (setaS C_Entry "blocks" (kV 7) (kV 0)))))))
def f_Entry_init (C_Entry C_Reader C_FolderkinError C_InvalidBlock C_InvalidBytes gX : Nat) : Fm := runF 8 8 (m_Entry_init C_Entry C_Reader C_FolderkinError C_InvalidBlock C_InvalidBytes gX)
def m_Entry_fields (C_Entry C_Reader C_FolderkinError C_InvalidBlock C_InvalidBytes gX : Nat) : MS := retS (tupK (consK (fldK C_Entry "name" (kV 0)) (consK (fldK C_Entry "vector" (kV 0)) (consK (fldK C_Entry "height" (kV 0)) (consK (fldK C_Entry "maker" (kV 0)) (consK (fldK C_Entry "deleted" (kV 0)) (consK (fldK C_Entry "time" (kV 0)) (consK (fldK C_Entry "blocks" (kV 0)) (nilK)))))))))
def f_Entry_fields (C_Entry C_Reader C_FolderkinError C_InvalidBlock C_InvalidBytes gX : Nat) : Fm := runP 1 1 (m_Entry_fields C_Entry C_Reader C_FolderkinError C_InvalidBlock C_InvalidBytes gX)
def m_Entry_eq (C_Entry C_Reader C_FolderkinError C_InvalidBlock C_InvalidBytes gX : Nat) : MS := seqS (ifS (notK (tst (isiCK C_Entry (kV 1)))) (retS (kC (.bool false))) (nextS))
  (retS (bop dEq (methK C_Entry "fields" 0 (f_Entry_fields C_Entry C_Reader C_FolderkinError C_InvalidBlock C_InvalidBytes gX) [] (kV 0) nilK) (methK C_Entry "fields" 0 (f_Entry_fields C_Entry C_Reader C_FolderkinError C_InvalidBlock C_InvalidBytes gX) [] (kV 1) nilK)))
def f_Entry_eq (C_Entry C_Reader C_FolderkinError C_InvalidBlock C_InvalidBytes gX : Nat) : Fm := runP 2 2 (m_Entry_eq C_Entry C_Reader C_FolderkinError C_InvalidBlock C_InvalidBytes gX)
def m_character_of (C_Entry C_Reader C_FolderkinError C_InvalidBlock C_InvalidBytes gX : Nat) : MS := seqS (asgS (bop dSub (kV 0) (kC (.int 45))) (setv 1))
  (seqS (ifS (orK (tst (bop dLt (kV 1) (kC (.int 0)))) (orK (tst (bop dGe (kV 1) (b1K dLen (kC (.str "-./0123456789:;<=>?\x40ABCDEFGHIJKLMNOPQRSTUVWXYZ[\\]^_`abcdefghijklmnopqrstuvwxyz{|}~"))))) (tst (bop dNotIn (bop dIx (kC (.str "-./0123456789:;<=>?\x40ABCDEFGHIJKLMNOPQRSTUVWXYZ[\\]^_`abcdefghijklmnopqrstuvwxyz{|}~")) (kV 1)) (kC (.str "-./0123456789ABCDEFGHIJKLMNOPQRSTUVWXYZ_abcdefghijklmnopqrstuvwxyz~")))))) (retS (kC .none)) (nextS))
  (retS (bop dIx (kC (.str "-./0123456789:;<=>?\x40ABCDEFGHIJKLMNOPQRSTUVWXYZ[\\]^_`abcdefghijklmnopqrstuvwxyz{|}~")) (kV 1))))
def f_character_of (C_Entry C_Reader C_FolderkinError C_InvalidBlock C_InvalidBytes gX : Nat) : Fm := runP 1 2 (m_character_of C_Entry C_Reader C_FolderkinError C_InvalidBlock C_InvalidBytes gX)
def m_number_bytes_coding (C_Entry C_Reader C_FolderkinError C_InvalidBlock C_InvalidBytes gX : Nat) : MS := retS (lstK (consK (bop dShr (kV 0) (kC (.int 24))) (consK (bop dAnd (bop dShr (kV 0) (kC (.int 16))) (kC (.int 255))) (consK (bop dAnd (bop dShr (kV 0) (kC (.int 8))) (kC (.int 255))) (consK (bop dAnd (kV 0) (kC (.int 255))) (nilK))))))
def f_number_bytes_coding (C_Entry C_Reader C_FolderkinError C_InvalidBlock C_InvalidBytes gX : Nat) : Fm := runP 1 1 (m_number_bytes_coding C_Entry C_Reader C_FolderkinError C_InvalidBlock C_InvalidBytes gX)
def m_name_bytes (C_Entry C_Reader C_FolderkinError C_InvalidBlock C_InvalidBytes gX : Nat) : MS := retS (bop dAdd (lstK (consK (b1K dLen (kV 0)) (nilK))) (lcK [1] (strK (kV 0)) (setv 1) (yesK) (b1K dOrd (kV 1))))
def f_name_bytes (C_Entry C_Reader C_FolderkinError C_InvalidBlock C_InvalidBytes gX : Nat) : Fm := runP 1 2 (m_name_bytes C_Entry C_Reader C_FolderkinError C_InvalidBlock C_InvalidBytes gX)
def m_vector_bytes (C_Entry C_Reader C_FolderkinError C_InvalidBlock C_InvalidBytes gX : Nat) : MS := seqS (asgS (newK (lstK (consK (b1K dLen (kV 0)) (nilK)))) (setv 1))
  (seqS (forS (tupleK (kV 0)) (tgTup 2 (tgCons (setv 2) (tgCons (setv 3) (tgNil)))) (seqS (dropS (mutK muAppend (kV 1) (consK (kV 2) (nilK))))
  (dropS (extK (kV 1) (callN 1 (f_number_bytes_coding C_Entry C_Reader C_FolderkinError C_InvalidBlock C_InvalidBytes gX) [] (consK (kV 3) (nilK)))))))
  (retS (frzK (kV 1))))
def f_vector_bytes (C_Entry C_Reader C_FolderkinError C_InvalidBlock C_InvalidBytes gX : Nat) : Fm := runP 1 4 (m_vector_bytes C_Entry C_Reader C_FolderkinError C_InvalidBlock C_InvalidBytes gX)
def m_data_bytes (C_Entry C_Reader C_FolderkinError C_InvalidBlock C_InvalidBytes gX : Nat) : MS := retS (bop dAdd (lstK (consK (b1K dLen (kV 0)) (nilK))) (b1K dList (kV 0)))
def f_data_bytes (C_Entry C_Reader C_FolderkinError C_InvalidBlock C_InvalidBytes gX : Nat) : Fm := runP 1 1 (m_data_bytes C_Entry C_Reader C_FolderkinError C_InvalidBlock C_InvalidBytes gX)
def m_entry_bytes (C_Entry C_Reader C_FolderkinError C_InvalidBlock C_InvalidBytes gX : Nat) : MS := seqS (asgS (newK (bop dCat (bop dAdd (callN 1 (f_number_bytes_coding C_Entry C_Reader C_FolderkinError C_InvalidBlock C_InvalidBytes gX) [] (consK (kV 1) (nilK))) (callN 1 (f_name_bytes C_Entry C_Reader C_FolderkinError C_InvalidBlock C_InvalidBytes gX) [] (consK (fldK C_Entry "name" (kV 0)) (nilK)))) (callN 1 (f_vector_bytes C_Entry C_Reader C_FolderkinError C_InvalidBlock C_InvalidBytes gX) [] (consK (fldK C_Entry "vector" (kV 0)) (nilK))))) (setv 2))
  (seqS (dropS (extK (kV 2) (bop dAdd (bop dAdd (callN 1 (f_number_bytes_coding C_Entry C_Reader C_FolderkinError C_InvalidBlock C_InvalidBytes gX) [] (consK (fldK C_Entry "height" (kV 0)) (nilK))) (lstK (consK (bop dIx (fldK C_Entry "maker" (kV 0)) (kC (.int 0))) (nilK)))) (callN 1 (f_number_bytes_coding C_Entry C_Reader C_FolderkinError C_InvalidBlock C_InvalidBytes gX) [] (consK (bop dIx (fldK C_Entry "maker" (kV 0)) (kC (.int 1))) (nilK))))))
  (seqS (dropS (extK (kV 2) (bop dAdd (bop dAdd (lstK (consK (b1K dInt (fldK C_Entry "deleted" (kV 0))) (nilK))) (callN 1 (f_number_bytes_coding C_Entry C_Reader C_FolderkinError C_InvalidBlock C_InvalidBytes gX) [] (consK (fldK C_Entry "time" (kV 0)) (nilK)))) (lstK (consK (b1K dLen (fldK C_Entry "blocks" (kV 0))) (nilK))))))
  (seqS (forS (tupleK (fldK C_Entry "blocks" (kV 0))) (setv 3) (dropS (extK (kV 2) (callN 1 (f_data_bytes C_Entry C_Reader C_FolderkinError C_InvalidBlock C_InvalidBytes gX) [] (consK (callN 1 (f_block_bytes C_Entry C_Reader C_FolderkinError C_InvalidBlock C_InvalidBytes gX) [] (consK (kV 3) (nilK))) (nilK))))))
  (retS (frzK (kV 2))))))
def f_entry_bytes (C_Entry C_Reader C_FolderkinError C_InvalidBlock C_InvalidBytes gX : Nat) : Fm := runP 2 4 (m_entry_bytes C_Entry C_Reader C_FolderkinError C_InvalidBlock C_InvalidBytes gX)
def m_Reader_init (C_Entry C_Reader C_FolderkinError C_InvalidBlock C_InvalidBytes gX : Nat) : MS := seqS (setaS C_Reader "data" (kV 1) (kV 0))
  (setaS C_Reader "at" (kV 2) (kV 0))
def f_Reader_init (C_Entry C_Reader C_FolderkinError C_InvalidBlock C_InvalidBytes gX : Nat) : Fm := runF 3 3 (m_Reader_init C_Entry C_Reader C_FolderkinError C_InvalidBlock C_InvalidBytes gX)
def m_Reader_byte (C_Entry C_Reader C_FolderkinError C_InvalidBlock C_InvalidBytes gX : Nat) : MS := seqS (ifS (orK (tst (bop dGe (fldK C_Reader "at" (kV 0)) (b1K dLen (fldK C_Reader "data" (kV 0))))) (notK (tst (chainK dLe dLe (kV 1) (bop dIx (fldK C_Reader "data" (kV 0)) (fldK C_Reader "at" (kV 0))) (kV 2))))) (raiseS C_InvalidBytes (fldK C_Reader "at" (kV 0))) (nextS))
  (seqS (augaS C_Reader "at" dIAdd (kV 0) (kC (.int 1)))
  (retS (bop dIx (fldK C_Reader "data" (kV 0)) (bop dSub (fldK C_Reader "at" (kV 0)) (kC (.int 1))))))
def f_Reader_byte (C_Entry C_Reader C_FolderkinError C_InvalidBlock C_InvalidBytes gX : Nat) : Fm := runP 3 3 (m_Reader_byte C_Entry C_Reader C_FolderkinError C_InvalidBlock C_InvalidBytes gX)
def m_Reader_number (C_Entry C_Reader C_FolderkinError C_InvalidBlock C_InvalidBytes gX : Nat) : MS := seqS (asgS (methK C_Reader "byte" 0 (f_Reader_byte C_Entry C_Reader C_FolderkinError C_InvalidBlock C_InvalidBytes gX) [.int 0, .int 255] (kV 0) nilK) (setv 2))
  (seqS (asgS (bop dAdd (bop dMul (kV 2) (kC (.int 256))) (methK C_Reader "byte" 0 (f_Reader_byte C_Entry C_Reader C_FolderkinError C_InvalidBlock C_InvalidBytes gX) [.int 0, .int 255] (kV 0) nilK)) (setv 2))
  (seqS (asgS (bop dAdd (bop dMul (kV 2) (kC (.int 256))) (methK C_Reader "byte" 0 (f_Reader_byte C_Entry C_Reader C_FolderkinError C_InvalidBlock C_InvalidBytes gX) [.int 0, .int 255] (kV 0) nilK)) (setv 2))
  (retS (bop dAdd (bop dMul (kV 2) (kC (.int 256))) (methK C_Reader "byte" 1 (f_Reader_byte C_Entry C_Reader C_FolderkinError C_InvalidBlock C_InvalidBytes gX) [.int 255] (kV 0) (consK (ifK (tst (bop dEq (kV 2) (kC (.int 0)))) (kV 1) (kC (.int 0))) (nilK)))))))
def f_Reader_number (C_Entry C_Reader C_FolderkinError C_InvalidBlock C_InvalidBytes gX : Nat) : Fm := runP 2 3 (m_Reader_number C_Entry C_Reader C_FolderkinError C_InvalidBlock C_InvalidBytes gX)
def m_Reader_device (C_Entry C_Reader C_FolderkinError C_InvalidBlock C_InvalidBytes gX : Nat) : MS := retS (methK C_Reader "byte" 2 (f_Reader_byte C_Entry C_Reader C_FolderkinError C_InvalidBlock C_InvalidBytes gX) [] (kV 0) (consK (kC (.int 1)) (consK (kC (.int 9)) (nilK))))
def f_Reader_device (C_Entry C_Reader C_FolderkinError C_InvalidBlock C_InvalidBytes gX : Nat) : Fm := runP 1 1 (m_Reader_device C_Entry C_Reader C_FolderkinError C_InvalidBlock C_InvalidBytes gX)
def m_Reader_name (C_Entry C_Reader C_FolderkinError C_InvalidBlock C_InvalidBytes gX : Nat) : MS := seqS (asgS (kC (.str "")) (setv 1))
  (seqS (forS (rangeK1 (consK (methK C_Reader "byte" 2 (f_Reader_byte C_Entry C_Reader C_FolderkinError C_InvalidBlock C_InvalidBytes gX) [] (kV 0) (consK (kC (.int 1)) (consK (kC (.int 40)) (nilK)))) (nilK))) (setv 2) (seqS (asgS (callN 1 (f_character_of C_Entry C_Reader C_FolderkinError C_InvalidBlock C_InvalidBytes gX) [] (consK (methK C_Reader "byte" 0 (f_Reader_byte C_Entry C_Reader C_FolderkinError C_InvalidBlock C_InvalidBytes gX) [.int 0, .int 255] (kV 0) nilK) (nilK))) (setv 3))
  (seqS (ifS (tst (bop dIs (kV 3) (kC .none))) (raiseS C_InvalidBytes (bop dSub (fldK C_Reader "at" (kV 0)) (kC (.int 1)))) (nextS))
  (augS dIAdd 1 (kV 3)))))
  (retS (kV 1)))
def f_Reader_name (C_Entry C_Reader C_FolderkinError C_InvalidBlock C_InvalidBytes gX : Nat) : Fm := runP 1 4 (m_Reader_name C_Entry C_Reader C_FolderkinError C_InvalidBlock C_InvalidBytes gX)
def m_Reader_vector (C_Entry C_Reader C_FolderkinError C_InvalidBlock C_InvalidBytes gX : Nat) : MS := seqS (asgS (newK (lstK (nilK))) (setv 1))
  (seqS (asgS (kC (.int 0)) (setv 2))
  (seqS (forS (rangeK3 (consK (bop dSub (methK C_Reader "byte" 2 (f_Reader_byte C_Entry C_Reader C_FolderkinError C_InvalidBlock C_InvalidBytes gX) [] (kV 0) (consK (kC (.int 1)) (consK (kC (.int 9)) (nilK)))) (kC (.int 1))) (consK (negK (kC (.int 1))) (consK (negK (kC (.int 1))) (nilK))))) (setv 3) (seqS (asgS (methK C_Reader "byte" 2 (f_Reader_byte C_Entry C_Reader C_FolderkinError C_InvalidBlock C_InvalidBytes gX) [] (kV 0) (consK (bop dAdd (kV 2) (kC (.int 1))) (consK (bop dSub (kC (.int 9)) (kV 3)) (nilK)))) (setv 2))
  (dropS (mutK muAppend (kV 1) (consK (tupK (consK (kV 2) (consK (methK C_Reader "number" 1 (f_Reader_number C_Entry C_Reader C_FolderkinError C_InvalidBlock C_InvalidBytes gX) [] (kV 0) (consK (kC (.int 1)) (nilK))) (nilK)))) (nilK))))))
  (retS (b1K dTuple (kV 1)))))
def f_Reader_vector (C_Entry C_Reader C_FolderkinError C_InvalidBlock C_InvalidBytes gX : Nat) : Fm := runP 1 4 (m_Reader_vector C_Entry C_Reader C_FolderkinError C_InvalidBlock C_InvalidBytes gX)
def m_Reader_row (C_Entry C_Reader C_FolderkinError C_InvalidBlock C_InvalidBytes gX : Nat) : MS := retS (lcXK [2] (rangeK1 (consK (methK C_Reader "byte" 2 (f_Reader_byte C_Entry C_Reader C_FolderkinError C_InvalidBlock C_InvalidBytes gX) [] (kV 0) (consK (kV 1) (consK (kC (.int 4)) (nilK)))) (nilK))) (setv 2) (yesK) (methK C_Reader "byte" 0 (f_Reader_byte C_Entry C_Reader C_FolderkinError C_InvalidBlock C_InvalidBytes gX) [.int 0, .int 255] (kV 0) nilK))
def f_Reader_row (C_Entry C_Reader C_FolderkinError C_InvalidBlock C_InvalidBytes gX : Nat) : Fm := runP 2 3 (m_Reader_row C_Entry C_Reader C_FolderkinError C_InvalidBlock C_InvalidBytes gX)
def m_Reader_block (C_Entry C_Reader C_FolderkinError C_InvalidBlock C_InvalidBytes gX : Nat) : MS := retS (callN 1 (f_block_number C_Entry C_Reader C_FolderkinError C_InvalidBlock C_InvalidBytes gX) [] (consK (methK C_Reader "row" 1 (f_Reader_row C_Entry C_Reader C_FolderkinError C_InvalidBlock C_InvalidBytes gX) [] (kV 0) (consK (kV 1) (nilK))) (nilK)))
def f_Reader_block (C_Entry C_Reader C_FolderkinError C_InvalidBlock C_InvalidBytes gX : Nat) : Fm := runP 2 2 (m_Reader_block C_Entry C_Reader C_FolderkinError C_InvalidBlock C_InvalidBytes gX)
def m_Reader_entry (C_Entry C_Reader C_FolderkinError C_InvalidBlock C_InvalidBytes gX : Nat) : MS := seqS (asgS (methK C_Reader "number" 1 (f_Reader_number C_Entry C_Reader C_FolderkinError C_InvalidBlock C_InvalidBytes gX) [] (kV 0) (consK (kC (.int 1)) (nilK))) (setv 1))
  (seqS (asgS (methK C_Reader "name" 0 (f_Reader_name C_Entry C_Reader C_FolderkinError C_InvalidBlock C_InvalidBytes gX) [] (kV 0) nilK) (setv 2))
  (seqS (asgS (methK C_Reader "vector" 0 (f_Reader_vector C_Entry C_Reader C_FolderkinError C_InvalidBlock C_InvalidBytes gX) [] (kV 0) nilK) (setv 3))
  (seqS (asgS (methK C_Reader "number" 1 (f_Reader_number C_Entry C_Reader C_FolderkinError C_InvalidBlock C_InvalidBytes gX) [] (kV 0) (consK (kC (.int 1)) (nilK))) (setv 4))
  (seqS (asgS (tupK (consK (methK C_Reader "device" 0 (f_Reader_device C_Entry C_Reader C_FolderkinError C_InvalidBlock C_InvalidBytes gX) [] (kV 0) nilK) (consK (methK C_Reader "number" 1 (f_Reader_number C_Entry C_Reader C_FolderkinError C_InvalidBlock C_InvalidBytes gX) [] (kV 0) (consK (kC (.int 1)) (nilK))) (nilK)))) (setv 5))
  (seqS (asgS (bop dEq (methK C_Reader "byte" 2 (f_Reader_byte C_Entry C_Reader C_FolderkinError C_InvalidBlock C_InvalidBytes gX) [] (kV 0) (consK (kC (.int 0)) (consK (kC (.int 1)) (nilK)))) (kC (.int 1))) (setv 6))
  (seqS (asgS (methK C_Reader "number" 0 (f_Reader_number C_Entry C_Reader C_FolderkinError C_InvalidBlock C_InvalidBytes gX) [.int 0] (kV 0) nilK) (setv 7))
  (seqS (asgS (newK (lstK (nilK))) (setv 8))
  (seqS (forS (rangeK3 (consK (bop dSub (methK C_Reader "byte" 2 (f_Reader_byte C_Entry C_Reader C_FolderkinError C_InvalidBlock C_InvalidBytes gX) [] (kV 0) (consK (kC (.int 0)) (consK (ifK (tst (kV 6)) (kC (.int 0)) (kC (.int 255))) (nilK)))) (kC (.int 1))) (consK (negK (kC (.int 1))) (consK (negK (kC (.int 1))) (nilK))))) (setv 9) (dropS (mutK muAppend (kV 8) (consK (methK C_Reader "block" 1 (f_Reader_block C_Entry C_Reader C_FolderkinError C_InvalidBlock C_InvalidBytes gX) [] (kV 0) (consK (ifK (tst (bop dEq (kV 9) (kC (.int 0)))) (kC (.int 1)) (kC (.int 4))) (nilK))) (nilK)))))
  (retS (tupK (consK (frzK (mkK C_Entry 7 (f_Entry_init C_Entry C_Reader C_FolderkinError C_InvalidBlock C_InvalidBytes gX) [] (consK (kV 2) (consK (kV 3) (consK (kV 4) (consK (kV 5) (consK (kV 6) (consK (kV 7) (consK (b1K dTuple (kV 8)) (nilK)))))))))) (consK (kV 1) (nilK)))))))))))))
def f_Reader_entry (C_Entry C_Reader C_FolderkinError C_InvalidBlock C_InvalidBytes gX : Nat) : Fm := runP 1 10 (m_Reader_entry C_Entry C_Reader C_FolderkinError C_InvalidBlock C_InvalidBytes gX)
def m_number_bytes_book (C_Entry C_Reader C_FolderkinError C_InvalidBlock C_InvalidBytes gX : Nat) : MS := retS (lcK [2] (rangeK1 (consK (kV 1) (nilK))) (setv 2) (yesK) (bop dAnd (bop dShr (kV 0) (bop dMul (kC (.int 8)) (bop dSub (bop dSub (kV 1) (kC (.int 1))) (kV 2)))) (kC (.int 255))))
def f_number_bytes_book (C_Entry C_Reader C_FolderkinError C_InvalidBlock C_InvalidBytes gX : Nat) : Fm := runP 2 3 (m_number_bytes_book C_Entry C_Reader C_FolderkinError C_InvalidBlock C_InvalidBytes gX)
def m_check_of (C_Entry C_Reader C_FolderkinError C_InvalidBlock C_InvalidBytes gX : Nat) : MS := seqS (asgS (kC (.int 1)) (setv 1))
  (seqS (asgS (kC (.int 0)) (setv 2))
  (seqS (forS (listK (kV 0)) (setv 3) (seqS (asgS (bop dMod (bop dAdd (kV 1) (kV 3)) (kC (.int 251))) (setv 1))
  (asgS (bop dMod (bop dAdd (kV 2) (kV 1)) (kC (.int 251))) (setv 2))))
  (retS (lstK (consK (kV 1) (consK (kV 2) (nilK)))))))
def f_check_of (C_Entry C_Reader C_FolderkinError C_InvalidBlock C_InvalidBytes gX : Nat) : Fm := runP 1 4 (m_check_of C_Entry C_Reader C_FolderkinError C_InvalidBlock C_InvalidBytes gX)
def m_sealed (C_Entry C_Reader C_FolderkinError C_InvalidBlock C_InvalidBytes gX : Nat) : MS := seqS (asgS (bop dAdd (callN 2 (f_number_bytes_book C_Entry C_Reader C_FolderkinError C_InvalidBlock C_InvalidBytes gX) [] (consK (b1K dLen (kV 0)) (consK (kC (.int 2)) (nilK)))) (kV 0)) (setv 1))
  (retS (bop dAdd (kV 1) (callN 1 (f_check_of C_Entry C_Reader C_FolderkinError C_InvalidBlock C_InvalidBytes gX) [] (consK (kV 1) (nilK)))))
def f_sealed (C_Entry C_Reader C_FolderkinError C_InvalidBlock C_InvalidBytes gX : Nat) : Fm := runP 1 2 (m_sealed C_Entry C_Reader C_FolderkinError C_InvalidBlock C_InvalidBytes gX)
def m_record_of (C_Entry C_Reader C_FolderkinError C_InvalidBlock C_InvalidBytes gX : Nat) : MS := retS (callN 1 (f_sealed C_Entry C_Reader C_FolderkinError C_InvalidBlock C_InvalidBytes gX) [] (consK (bop dAdd (lstK (consK (kC (.int 0)) (nilK))) (callN 2 (f_entry_bytes C_Entry C_Reader C_FolderkinError C_InvalidBlock C_InvalidBytes gX) [] (consK (kV 0) (consK (kV 1) (nilK))))) (nilK)))
def f_record_of (C_Entry C_Reader C_FolderkinError C_InvalidBlock C_InvalidBytes gX : Nat) : Fm := runP 2 2 (m_record_of C_Entry C_Reader C_FolderkinError C_InvalidBlock C_InvalidBytes gX)
def m_intent_record (C_Entry C_Reader C_FolderkinError C_InvalidBlock C_InvalidBytes gX : Nat) : MS := retS (callN 1 (f_sealed C_Entry C_Reader C_FolderkinError C_InvalidBlock C_InvalidBytes gX) [] (consK (bop dAdd (lstK (consK (kC (.int 3)) (nilK))) (callN 2 (f_entry_bytes C_Entry C_Reader C_FolderkinError C_InvalidBlock C_InvalidBytes gX) [] (consK (kV 0) (consK (kV 1) (nilK))))) (nilK)))
def f_intent_record (C_Entry C_Reader C_FolderkinError C_InvalidBlock C_InvalidBytes gX : Nat) : Fm := runP 2 2 (m_intent_record C_Entry C_Reader C_FolderkinError C_InvalidBlock C_InvalidBytes gX)
def m_peer_record (C_Entry C_Reader C_FolderkinError C_InvalidBlock C_InvalidBytes gX : Nat) : MS := retS (callN 1 (f_sealed C_Entry C_Reader C_FolderkinError C_InvalidBlock C_InvalidBytes gX) [] (consK (bop dAdd (lstK (consK (kC (.int 1)) (consK (kV 0) (nilK)))) (callN 2 (f_entry_bytes C_Entry C_Reader C_FolderkinError C_InvalidBlock C_InvalidBytes gX) [] (consK (kV 1) (consK (kV 2) (nilK))))) (nilK)))
def f_peer_record (C_Entry C_Reader C_FolderkinError C_InvalidBlock C_InvalidBytes gX : Nat) : Fm := runP 3 3 (m_peer_record C_Entry C_Reader C_FolderkinError C_InvalidBlock C_InvalidBytes gX)
def m_upto_record (C_Entry C_Reader C_FolderkinError C_InvalidBlock C_InvalidBytes gX : Nat) : MS := retS (callN 1 (f_sealed C_Entry C_Reader C_FolderkinError C_InvalidBlock C_InvalidBytes gX) [] (consK (bop dAdd (lstK (consK (kC (.int 2)) (consK (kV 0) (nilK)))) (callN 2 (f_number_bytes_book C_Entry C_Reader C_FolderkinError C_InvalidBlock C_InvalidBytes gX) [] (consK (kV 1) (consK (kC (.int 4)) (nilK))))) (nilK)))
def f_upto_record (C_Entry C_Reader C_FolderkinError C_InvalidBlock C_InvalidBytes gX : Nat) : Fm := runP 2 2 (m_upto_record C_Entry C_Reader C_FolderkinError C_InvalidBlock C_InvalidBytes gX)
def m_read_body (C_Entry C_Reader C_FolderkinError C_InvalidBlock C_InvalidBytes gX : Nat) : MS := seqS (asgS (mkK C_Reader 1 (f_Reader_init C_Entry C_Reader C_FolderkinError C_InvalidBlock C_InvalidBytes gX) [.int 0] (consK (kV 0) (nilK))) (setv 1))
  (seqS (asgS (methK C_Reader "byte" 2 (f_Reader_byte C_Entry C_Reader C_FolderkinError C_InvalidBlock C_InvalidBytes gX) [] (kV 1) (consK (kC (.int 0)) (consK (kC (.int 3)) (nilK)))) (setv 2))
  (seqS (asgS (kC (.int 0)) (setv 3))
  (seqS (asgS (kC .none) (setv 4))
  (seqS (ifS (orK (tst (bop dEq (kV 2) (kC (.int 1)))) (tst (bop dEq (kV 2) (kC (.int 2))))) (asgS (methK C_Reader "device" 0 (f_Reader_device C_Entry C_Reader C_FolderkinError C_InvalidBlock C_InvalidBytes gX) [] (kV 1) nilK) (setv 3)) (nextS))
  (seqS (ifS (tst (bop dEq (kV 2) (kC (.int 2)))) (asgS (methK C_Reader "number" 0 (f_Reader_number C_Entry C_Reader C_FolderkinError C_InvalidBlock C_InvalidBytes gX) [.int 0] (kV 1) nilK) (setv 5)) (asgS (methK C_Reader "entry" 0 (f_Reader_entry C_Entry C_Reader C_FolderkinError C_InvalidBlock C_InvalidBytes gX) [] (kV 1) nilK) (tgTup 2 (tgCons (setv 4) (tgCons (setv 5) (tgNil))))))
  (seqS (ifS (tst (bop dNe (fldK C_Reader "at" (kV 1)) (b1K dLen (kV 0)))) (raiseS C_InvalidBytes (fldK C_Reader "at" (kV 1))) (nextS))
  (retS (tupK (consK (kV 2) (consK (kV 3) (consK (kV 4) (consK (kV 5) (nilK)))))))))))))
def f_read_body (C_Entry C_Reader C_FolderkinError C_InvalidBlock C_InvalidBytes gX : Nat) : Fm := runP 1 6 (m_read_body C_Entry C_Reader C_FolderkinError C_InvalidBlock C_InvalidBytes gX)
def m_read_log (C_Entry C_Reader C_FolderkinError C_InvalidBlock C_InvalidBytes gX : Nat) : MS := seqS (asgS (newK (lstK (nilK))) (setv 1))
  (seqS (asgS (kC (.int 0)) (setv 2))
  (seqS (whileS (tst (bop dLe (bop dAdd (kV 2) (kC (.int 2))) (b1K dLen (kV 0)))) (seqS (asgS (bop dAdd (bop dAdd (bop dAdd (kV 2) (kC (.int 2))) (bop dMul (bop dIx (kV 0) (kV 2)) (kC (.int 256)))) (bop dIx (kV 0) (bop dAdd (kV 2) (kC (.int 1))))) (setv 3))
  (seqS (ifS (orK (tst (bop dGt (bop dAdd (kV 3) (kC (.int 2))) (b1K dLen (kV 0)))) (tst (bop dNe (cutK (kV 0) (psome (kV 3)) (psome (bop dAdd (kV 3) (kC (.int 2))))) (callN 1 (f_check_of C_Entry C_Reader C_FolderkinError C_InvalidBlock C_InvalidBytes gX) [] (consK (cutK (kV 0) (psome (kV 2)) (psome (kV 3))) (nilK)))))) (frzS 1 (retS (tupK (consK (kV 1) (consK (kV 2) (nilK)))))) (nextS))
  (seqS (tryS (exm_InvalidBytes C_Entry C_Reader C_FolderkinError C_InvalidBlock C_InvalidBytes gX) (dropS (mutK muAppend (kV 1) (consK (callN 1 (f_read_body C_Entry C_Reader C_FolderkinError C_InvalidBlock C_InvalidBytes gX) [] (consK (cutK (kV 0) (psome (bop dAdd (kV 2) (kC (.int 2)))) (psome (kV 3))) (nilK))) (nilK)))) (frzS 1 (retS (tupK (consK (kV 1) (consK (kV 2) (nilK)))))))
  (asgS (bop dAdd (kV 3) (kC (.int 2))) (setv 2))))))
  (frzS 1 (retS (tupK (consK (kV 1) (consK (kV 2) (nilK))))))))
def f_read_log (C_Entry C_Reader C_FolderkinError C_InvalidBlock C_InvalidBytes gX : Nat) : Fm := runP 1 4 (m_read_log C_Entry C_Reader C_FolderkinError C_InvalidBlock C_InvalidBytes gX)
def m_law_draw (C_Entry C_Reader C_FolderkinError C_InvalidBlock C_InvalidBytes gX : Nat) : MS := seqS (ifS (tst (bop dEq (bop dIx (kV 0) (kC (.int 1))) (kC (.int 0)))) (seqS (asgS (kC (.int 0)) (setv 4))
  (seqS (ifS (tst (bop dGt (b1K dLen (kV 1)) (kC (.int 0)))) (asgS (bop dIx (kV 1) (bop dMod (bop dIx (kV 0) (kC (.int 0))) (b1K dLen (kV 1)))) (setv 4)) (nextS))
  (seqS (ifS (tst (bop dLt (kV 4) (kC (.int 0)))) (asgS (bop dSub (kC (.int 1)) (bop dMul (kC (.int 2)) (kV 4))) (setv 4)) (nextS))
  (seqS (asgS (bop dMod (b1K dInt (bop dMul (bop dAdd (bop dAdd (kV 4) (bop dMul (bop dIx (kV 0) (kC (.int 0))) (kC (.int 7919)))) (kC (.int 1))) (kC (.int 48271)))) (kC (.int 2147483647))) (setv 5))
  (seqS (setiS (bop dMod (b1K dInt (bop dAdd (bop dMul (kV 5) (kC (.int 69621))) (bop dMul (bop dIx (kV 0) (kC (.int 0))) (kC (.int 104729))))) (kC (.int 4294967291))) (kV 0) (kC (.int 1)))
  (seqS (ifS (andK (tst (bop dGe (kV 4) (bop dPow (kC (.int 10)) (kC (.int 18))))) (tst (bop dLt (bop dIx (kV 0) (kC (.int 0))) (b1K dLen (kV 1))))) (setiS (kV 4) (kV 0) (kC (.int 1))) (nextS))
  (setiS (bop dAdd (bop dIx (kV 0) (kC (.int 0))) (kC (.int 1))) (kV 0) (kC (.int 0))))))))) (nextS))
  (seqS (asgS (bop dMod (b1K dInt (bop dIx (kV 0) (kC (.int 1)))) (kV 2)) (setv 3))
  (seqS (setiS (bop dDiv (bop dIx (kV 0) (kC (.int 1))) (kV 2)) (kV 0) (kC (.int 1)))
  (retS (kV 3))))
def f_law_draw (C_Entry C_Reader C_FolderkinError C_InvalidBlock C_InvalidBytes gX : Nat) : Fm := runP 3 6 (m_law_draw C_Entry C_Reader C_FolderkinError C_InvalidBlock C_InvalidBytes gX)
def m_law_name (C_Entry C_Reader C_FolderkinError C_InvalidBlock C_InvalidBytes gX : Nat) : MS := retS (bop dIx (lstK (consK (kC (.str "a")) (consK (kC (.str "b")) (consK (kC (.str "a/b")) (consK (kC (.str "Z9")) (consK (kC (.str "c")) (consK (kC (.str "longer/names/are/here/abcdefghijklmnopqr")) (nilK)))))))) (callN 3 (f_law_draw C_Entry C_Reader C_FolderkinError C_InvalidBlock C_InvalidBytes gX) [] (consK (kV 0) (consK (kV 1) (consK (kC (.int 6)) (nilK))))))
def f_law_name (C_Entry C_Reader C_FolderkinError C_InvalidBlock C_InvalidBytes gX : Nat) : Fm := runP 2 2 (m_law_name C_Entry C_Reader C_FolderkinError C_InvalidBlock C_InvalidBytes gX)
def m_law_content (C_Entry C_Reader C_FolderkinError C_InvalidBlock C_InvalidBytes gX : Nat) : MS := seqS (asgS (lstK (consK (lstK (consK (kC (.int 1)) (consK (kC (.int 2)) (consK (kC (.int 3)) (consK (kC (.int 4)) (nilK)))))) (consK (lstK (consK (kC (.int 0)) (consK (kC (.int 0)) (consK (kC (.int 0)) (consK (kC (.int 0)) (nilK)))))) (consK (lstK (consK (kC (.int 255)) (consK (kC (.int 254)) (consK (kC (.int 253)) (consK (kC (.int 252)) (nilK)))))) (consK (lstK (consK (kC (.int 5)) (nilK))) (consK (lstK (consK (kC (.int 9)) (consK (kC (.int 9)) (nilK)))) (consK (lstK (consK (callN 3 (f_law_draw C_Entry C_Reader C_FolderkinError C_InvalidBlock C_InvalidBytes gX) [] (consK (kV 0) (consK (kV 1) (consK (kC (.int 256)) (nilK))))) (consK (kC (.int 7)) (consK (kC (.int 7)) (consK (kC (.int 7)) (nilK)))))) (nilK)))))))) (setv 3))
  (seqS (asgS (lstK (nilK)) (setv 4))
  (seqS (forS (rangeK1 (consK (callN 3 (f_law_draw C_Entry C_Reader C_FolderkinError C_InvalidBlock C_InvalidBytes gX) [] (consK (kV 0) (consK (kV 1) (consK (bop dAdd (kV 2) (kC (.int 1))) (nilK))))) (nilK))) (setv 5) (asgS (bop dAdd (kV 4) (bop dIx (kV 3) (callN 3 (f_law_draw C_Entry C_Reader C_FolderkinError C_InvalidBlock C_InvalidBytes gX) [] (consK (kV 0) (consK (kV 1) (consK (kC (.int 6)) (nilK))))))) (setv 4)))
  (retS (kV 4))))
def f_law_content (C_Entry C_Reader C_FolderkinError C_InvalidBlock C_InvalidBytes gX : Nat) : Fm := runP 3 6 (m_law_content C_Entry C_Reader C_FolderkinError C_InvalidBlock C_InvalidBytes gX)
def m_law_blocks (C_Entry C_Reader C_FolderkinError C_InvalidBlock C_InvalidBytes gX : Nat) : MS := seqS (asgS (newK (lstK (nilK))) (setv 1))
  (seqS (forS (rangeK3 (consK (kC (.int 0)) (consK (b1K dLen (kV 0)) (consK (kC (.int 4)) (nilK))))) (setv 2) (seqS (asgS (kC (.int 1)) (setv 3))
  (seqS (forS (listK (cutK (kV 0) (psome (kV 2)) (psome (bop dAdd (kV 2) (kC (.int 4)))))) (setv 4) (asgS (bop dAdd (bop dMul (kV 3) (kC (.int 256))) (kV 4)) (setv 3)))
  (dropS (mutK muAppend (kV 1) (consK (kV 3) (nilK)))))))
  (retS (b1K dTuple (kV 1))))
def f_law_blocks (C_Entry C_Reader C_FolderkinError C_InvalidBlock C_InvalidBytes gX : Nat) : Fm := runP 1 5 (m_law_blocks C_Entry C_Reader C_FolderkinError C_InvalidBlock C_InvalidBytes gX)
def m_law_vector (C_Entry C_Reader C_FolderkinError C_InvalidBlock C_InvalidBytes gX : Nat) : MS := seqS (asgS (newK (lstK (nilK))) (setv 2))
  (seqS (forS (rangeK2 (consK (kC (.int 1)) (consK (kC (.int 10)) (nilK)))) (setv 3) (ifS (tst (bop dEq (callN 3 (f_law_draw C_Entry C_Reader C_FolderkinError C_InvalidBlock C_InvalidBytes gX) [] (consK (kV 0) (consK (kV 1) (consK (kC (.int 3)) (nilK))))) (kC (.int 1)))) (dropS (mutK muAppend (kV 2) (consK (tupK (consK (kV 3) (consK (bop dIx (lstK (consK (kC (.int 1)) (consK (kC (.int 4294967295)) (consK (bop dAdd (kC (.int 1)) (callN 3 (f_law_draw C_Entry C_Reader C_FolderkinError C_InvalidBlock C_InvalidBytes gX) [] (consK (kV 0) (consK (kV 1) (consK (kC (.int 300)) (nilK)))))) (nilK))))) (callN 3 (f_law_draw C_Entry C_Reader C_FolderkinError C_InvalidBlock C_InvalidBytes gX) [] (consK (kV 0) (consK (kV 1) (consK (kC (.int 3)) (nilK)))))) (nilK)))) (nilK)))) (nextS)))
  (seqS (ifS (tst (bop dEq (b1K dLen (kV 2)) (kC (.int 0)))) (asgS (newK (lstK (consK (tupK (consK (bop dAdd (kC (.int 1)) (callN 3 (f_law_draw C_Entry C_Reader C_FolderkinError C_InvalidBlock C_InvalidBytes gX) [] (consK (kV 0) (consK (kV 1) (consK (kC (.int 9)) (nilK)))))) (consK (kC (.int 1)) (nilK)))) (nilK)))) (setv 2)) (nextS))
  (retS (b1K dTuple (kV 2)))))
def f_law_vector (C_Entry C_Reader C_FolderkinError C_InvalidBlock C_InvalidBytes gX : Nat) : Fm := runP 2 4 (m_law_vector C_Entry C_Reader C_FolderkinError C_InvalidBlock C_InvalidBytes gX)
def m_law_entry (C_Entry C_Reader C_FolderkinError C_InvalidBlock C_InvalidBytes gX : Nat) : MS := seqS (asgS (callN 2 (f_law_name C_Entry C_Reader C_FolderkinError C_InvalidBlock C_InvalidBytes gX) [] (consK (kV 0) (consK (kV 1) (nilK)))) (setv 2))
  (seqS (asgS (callN 2 (f_law_vector C_Entry C_Reader C_FolderkinError C_InvalidBlock C_InvalidBytes gX) [] (consK (kV 0) (consK (kV 1) (nilK)))) (setv 3))
  (seqS (asgS (bop dIx (lstK (consK (kC (.int 0)) (consK (kC (.int 4294967295)) (consK (callN 3 (f_law_draw C_Entry C_Reader C_FolderkinError C_InvalidBlock C_InvalidBytes gX) [] (consK (kV 0) (consK (kV 1) (consK (kC (.int 70000)) (nilK))))) (nilK))))) (callN 3 (f_law_draw C_Entry C_Reader C_FolderkinError C_InvalidBlock C_InvalidBytes gX) [] (consK (kV 0) (consK (kV 1) (consK (kC (.int 3)) (nilK)))))) (setv 4))
  (seqS (asgS (bop dIx (lstK (consK (kC (.int 1)) (consK (kC (.int 4294967295)) (consK (bop dAdd (kC (.int 1)) (callN 3 (f_law_draw C_Entry C_Reader C_FolderkinError C_InvalidBlock C_InvalidBytes gX) [] (consK (kV 0) (consK (kV 1) (consK (kC (.int 300)) (nilK)))))) (nilK))))) (callN 3 (f_law_draw C_Entry C_Reader C_FolderkinError C_InvalidBlock C_InvalidBytes gX) [] (consK (kV 0) (consK (kV 1) (consK (kC (.int 3)) (nilK)))))) (setv 5))
  (seqS (asgS (tupK (consK (bop dAdd (kC (.int 1)) (callN 3 (f_law_draw C_Entry C_Reader C_FolderkinError C_InvalidBlock C_InvalidBytes gX) [] (consK (kV 0) (consK (kV 1) (consK (kC (.int 9)) (nilK)))))) (consK (bop dIx (lstK (consK (kC (.int 1)) (consK (kC (.int 4294967295)) (consK (bop dAdd (kC (.int 1)) (callN 3 (f_law_draw C_Entry C_Reader C_FolderkinError C_InvalidBlock C_InvalidBytes gX) [] (consK (kV 0) (consK (kV 1) (consK (kC (.int 300)) (nilK)))))) (nilK))))) (callN 3 (f_law_draw C_Entry C_Reader C_FolderkinError C_InvalidBlock C_InvalidBytes gX) [] (consK (kV 0) (consK (kV 1) (consK (kC (.int 3)) (nilK)))))) (nilK)))) (setv 6))
  (seqS (ifS (tst (bop dEq (callN 3 (f_law_draw C_Entry C_Reader C_FolderkinError C_InvalidBlock C_InvalidBytes gX) [] (consK (kV 0) (consK (kV 1) (consK (kC (.int 4)) (nilK))))) (kC (.int 1)))) (retS (frzK (mkK C_Entry 7 (f_Entry_init C_Entry C_Reader C_FolderkinError C_InvalidBlock C_InvalidBytes gX) [] (consK (kV 2) (consK (kV 3) (consK (kV 5) (consK (kV 6) (consK (kC (.bool true)) (consK (kV 4) (consK (tupK (nilK)) (nilK))))))))))) (nextS))
  (retS (frzK (mkK C_Entry 7 (f_Entry_init C_Entry C_Reader C_FolderkinError C_InvalidBlock C_InvalidBytes gX) [] (consK (kV 2) (consK (kV 3) (consK (kV 5) (consK (kV 6) (consK (kC (.bool false)) (consK (kV 4) (consK (callN 1 (f_law_blocks C_Entry C_Reader C_FolderkinError C_InvalidBlock C_InvalidBytes gX) [] (consK (callN 3 (f_law_content C_Entry C_Reader C_FolderkinError C_InvalidBlock C_InvalidBytes gX) [] (consK (kV 0) (consK (kV 1) (consK (kC (.int 5)) (nilK))))) (nilK))) (nilK))))))))))))))))
def f_law_entry (C_Entry C_Reader C_FolderkinError C_InvalidBlock C_InvalidBytes gX : Nat) : Fm := runP 2 7 (m_law_entry C_Entry C_Reader C_FolderkinError C_InvalidBlock C_InvalidBytes gX)
def m_law_wide (C_Entry C_Reader C_FolderkinError C_InvalidBlock C_InvalidBytes gX : Nat) : MS := retS (lcK [2] (rangeK1 (consK (kV 1) (nilK))) (setv 2) (yesK) (bop dAnd (bop dShr (kV 0) (bop dMul (kC (.int 8)) (bop dSub (bop dSub (kV 1) (kC (.int 1))) (kV 2)))) (kC (.int 255))))
def f_law_wide (C_Entry C_Reader C_FolderkinError C_InvalidBlock C_InvalidBytes gX : Nat) : Fm := runP 2 3 (m_law_wide C_Entry C_Reader C_FolderkinError C_InvalidBlock C_InvalidBytes gX)
def m_law_sealed (C_Entry C_Reader C_FolderkinError C_InvalidBlock C_InvalidBytes gX : Nat) : MS := seqS (asgS (bop dAdd (callN 2 (f_law_wide C_Entry C_Reader C_FolderkinError C_InvalidBlock C_InvalidBytes gX) [] (consK (b1K dLen (kV 0)) (consK (kC (.int 2)) (nilK)))) (kV 0)) (setv 1))
  (seqS (asgS (kC (.int 1)) (setv 2))
  (seqS (asgS (kC (.int 0)) (setv 3))
  (seqS (forS (listK (kV 1)) (setv 4) (seqS (asgS (bop dMod (b1K dInt (bop dAdd (kV 2) (kV 4))) (kC (.int 251))) (setv 2))
  (asgS (bop dMod (b1K dInt (bop dAdd (kV 3) (kV 2))) (kC (.int 251))) (setv 3))))
  (retS (bop dAdd (kV 1) (lstK (consK (kV 2) (consK (kV 3) (nilK)))))))))
def f_law_sealed (C_Entry C_Reader C_FolderkinError C_InvalidBlock C_InvalidBytes gX : Nat) : Fm := runP 1 5 (m_law_sealed C_Entry C_Reader C_FolderkinError C_InvalidBlock C_InvalidBytes gX)
def m_law_entry_bytes (C_Entry C_Reader C_FolderkinError C_InvalidBlock C_InvalidBytes gX : Nat) : MS := seqS (asgS (bop dAdd (bop dAdd (bop dAdd (callN 2 (f_law_wide C_Entry C_Reader C_FolderkinError C_InvalidBlock C_InvalidBytes gX) [] (consK (kV 1) (consK (kC (.int 4)) (nilK)))) (lstK (consK (b1K dLen (fldK C_Entry "name" (kV 0))) (nilK)))) (lcK [7] (strK (fldK C_Entry "name" (kV 0))) (setv 7) (yesK) (b1K dOrd (kV 7)))) (lstK (consK (b1K dLen (fldK C_Entry "vector" (kV 0))) (nilK)))) (setv 2))
  (seqS (forS (tupleK (fldK C_Entry "vector" (kV 0))) (tgTup 2 (tgCons (setv 4) (tgCons (setv 5) (tgNil)))) (asgS (bop dAdd (bop dAdd (kV 2) (lstK (consK (kV 4) (nilK)))) (callN 2 (f_law_wide C_Entry C_Reader C_FolderkinError C_InvalidBlock C_InvalidBytes gX) [] (consK (kV 5) (consK (kC (.int 4)) (nilK))))) (setv 2)))
  (seqS (asgS (bop dAdd (bop dAdd (bop dAdd (kV 2) (callN 2 (f_law_wide C_Entry C_Reader C_FolderkinError C_InvalidBlock C_InvalidBytes gX) [] (consK (fldK C_Entry "height" (kV 0)) (consK (kC (.int 4)) (nilK))))) (lstK (consK (bop dIx (fldK C_Entry "maker" (kV 0)) (kC (.int 0))) (nilK)))) (callN 2 (f_law_wide C_Entry C_Reader C_FolderkinError C_InvalidBlock C_InvalidBytes gX) [] (consK (bop dIx (fldK C_Entry "maker" (kV 0)) (kC (.int 1))) (consK (kC (.int 4)) (nilK))))) (setv 2))
  (seqS (asgS (bop dAdd (bop dAdd (bop dAdd (kV 2) (lstK (consK (b1K dInt (fldK C_Entry "deleted" (kV 0))) (nilK)))) (callN 2 (f_law_wide C_Entry C_Reader C_FolderkinError C_InvalidBlock C_InvalidBytes gX) [] (consK (fldK C_Entry "time" (kV 0)) (consK (kC (.int 4)) (nilK))))) (lstK (consK (b1K dLen (fldK C_Entry "blocks" (kV 0))) (nilK)))) (setv 2))
  (seqS (forS (tupleK (fldK C_Entry "blocks" (kV 0))) (setv 3) (seqS (asgS (b1K dLen (lcK [8] (rangeK2 (consK (kC (.int 1)) (consK (kC (.int 5)) (nilK)))) (setv 8) (tst (bop dGt (bop dShr (kV 3) (bop dMul (kC (.int 8)) (kV 8))) (kC (.int 0)))) (kV 8))) (setv 6))
  (asgS (bop dAdd (bop dAdd (kV 2) (lstK (consK (kV 6) (nilK)))) (callN 2 (f_law_wide C_Entry C_Reader C_FolderkinError C_InvalidBlock C_InvalidBytes gX) [] (consK (kV 3) (consK (kV 6) (nilK))))) (setv 2))))
  (retS (kV 2))))))
def f_law_entry_bytes (C_Entry C_Reader C_FolderkinError C_InvalidBlock C_InvalidBytes gX : Nat) : Fm := runP 2 9 (m_law_entry_bytes C_Entry C_Reader C_FolderkinError C_InvalidBlock C_InvalidBytes gX)
def m_law_record (C_Entry C_Reader C_FolderkinError C_InvalidBlock C_InvalidBytes gX : Nat) : MS := seqS (asgS (kV 0) (tgTup 4 (tgCons (setv 1) (tgCons (setv 2) (tgCons (setv 3) (tgCons (setv 4) (tgNil)))))))
  (seqS (ifS (orK (tst (bop dEq (kV 1) (kC (.int 0)))) (tst (bop dEq (kV 1) (kC (.int 3))))) (retS (callN 1 (f_law_sealed C_Entry C_Reader C_FolderkinError C_InvalidBlock C_InvalidBytes gX) [] (consK (bop dAdd (lstK (consK (kV 1) (nilK))) (callN 2 (f_law_entry_bytes C_Entry C_Reader C_FolderkinError C_InvalidBlock C_InvalidBytes gX) [] (consK (kV 3) (consK (kV 4) (nilK))))) (nilK)))) (nextS))
  (seqS (ifS (tst (bop dEq (kV 1) (kC (.int 1)))) (retS (callN 1 (f_law_sealed C_Entry C_Reader C_FolderkinError C_InvalidBlock C_InvalidBytes gX) [] (consK (bop dAdd (lstK (consK (kC (.int 1)) (consK (kV 2) (nilK)))) (callN 2 (f_law_entry_bytes C_Entry C_Reader C_FolderkinError C_InvalidBlock C_InvalidBytes gX) [] (consK (kV 3) (consK (kV 4) (nilK))))) (nilK)))) (nextS))
  (retS (callN 1 (f_law_sealed C_Entry C_Reader C_FolderkinError C_InvalidBlock C_InvalidBytes gX) [] (consK (bop dAdd (lstK (consK (kC (.int 2)) (consK (kV 2) (nilK)))) (callN 2 (f_law_wide C_Entry C_Reader C_FolderkinError C_InvalidBlock C_InvalidBytes gX) [] (consK (kV 4) (consK (kC (.int 4)) (nilK))))) (nilK))))))
def f_law_record (C_Entry C_Reader C_FolderkinError C_InvalidBlock C_InvalidBytes gX : Nat) : Fm := runP 1 5 (m_law_record C_Entry C_Reader C_FolderkinError C_InvalidBlock C_InvalidBytes gX)
def m_law_told (C_Entry C_Reader C_FolderkinError C_InvalidBlock C_InvalidBytes gX : Nat) : MS := seqS (asgS (callN 3 (f_law_draw C_Entry C_Reader C_FolderkinError C_InvalidBlock C_InvalidBytes gX) [] (consK (kV 0) (consK (kV 1) (consK (kC (.int 4)) (nilK))))) (setv 2))
  (seqS (asgS (bop dIx (lstK (consK (kC (.int 1)) (consK (kC (.int 4294967295)) (consK (bop dAdd (kC (.int 1)) (callN 3 (f_law_draw C_Entry C_Reader C_FolderkinError C_InvalidBlock C_InvalidBytes gX) [] (consK (kV 0) (consK (kV 1) (consK (kC (.int 70000)) (nilK)))))) (nilK))))) (callN 3 (f_law_draw C_Entry C_Reader C_FolderkinError C_InvalidBlock C_InvalidBytes gX) [] (consK (kV 0) (consK (kV 1) (consK (kC (.int 3)) (nilK)))))) (setv 3))
  (seqS (ifS (orK (tst (bop dEq (kV 2) (kC (.int 0)))) (tst (bop dEq (kV 2) (kC (.int 3))))) (retS (tupK (consK (kV 2) (consK (kC (.int 0)) (consK (callN 2 (f_law_entry C_Entry C_Reader C_FolderkinError C_InvalidBlock C_InvalidBytes gX) [] (consK (kV 0) (consK (kV 1) (nilK)))) (consK (kV 3) (nilK))))))) (nextS))
  (seqS (ifS (tst (bop dEq (kV 2) (kC (.int 1)))) (retS (tupK (consK (kC (.int 1)) (consK (bop dAdd (kC (.int 1)) (callN 3 (f_law_draw C_Entry C_Reader C_FolderkinError C_InvalidBlock C_InvalidBytes gX) [] (consK (kV 0) (consK (kV 1) (consK (kC (.int 9)) (nilK)))))) (consK (callN 2 (f_law_entry C_Entry C_Reader C_FolderkinError C_InvalidBlock C_InvalidBytes gX) [] (consK (kV 0) (consK (kV 1) (nilK)))) (consK (kV 3) (nilK))))))) (nextS))
  (retS (tupK (consK (kC (.int 2)) (consK (bop dAdd (kC (.int 1)) (callN 3 (f_law_draw C_Entry C_Reader C_FolderkinError C_InvalidBlock C_InvalidBytes gX) [] (consK (kV 0) (consK (kV 1) (consK (kC (.int 9)) (nilK)))))) (consK (kC .none) (consK (bop dSub (kV 3) (kC (.int 1))) (nilK))))))))))
def f_law_told (C_Entry C_Reader C_FolderkinError C_InvalidBlock C_InvalidBytes gX : Nat) : Fm := runP 2 4 (m_law_told C_Entry C_Reader C_FolderkinError C_InvalidBlock C_InvalidBytes gX)
def m_law_made (C_Entry C_Reader C_FolderkinError C_InvalidBlock C_InvalidBytes gX : Nat) : MS := seqS (asgS (kV 0) (tgTup 4 (tgCons (setv 1) (tgCons (setv 2) (tgCons (setv 3) (tgCons (setv 4) (tgNil)))))))
  (seqS (ifS (tst (bop dEq (kV 1) (kC (.int 0)))) (retS (callN 2 (f_record_of C_Entry C_Reader C_FolderkinError C_InvalidBlock C_InvalidBytes gX) [] (consK (kV 3) (consK (kV 4) (nilK))))) (nextS))
  (seqS (ifS (tst (bop dEq (kV 1) (kC (.int 1)))) (retS (callN 3 (f_peer_record C_Entry C_Reader C_FolderkinError C_InvalidBlock C_InvalidBytes gX) [] (consK (kV 2) (consK (kV 3) (consK (kV 4) (nilK)))))) (nextS))
  (seqS (ifS (tst (bop dEq (kV 1) (kC (.int 3)))) (retS (callN 2 (f_intent_record C_Entry C_Reader C_FolderkinError C_InvalidBlock C_InvalidBytes gX) [] (consK (kV 3) (consK (kV 4) (nilK))))) (nextS))
  (retS (callN 2 (f_upto_record C_Entry C_Reader C_FolderkinError C_InvalidBlock C_InvalidBytes gX) [] (consK (kV 2) (consK (kV 4) (nilK))))))))
def f_law_made (C_Entry C_Reader C_FolderkinError C_InvalidBlock C_InvalidBytes gX : Nat) : Fm := runP 1 5 (m_law_made C_Entry C_Reader C_FolderkinError C_InvalidBlock C_InvalidBytes gX)
def m_law (C_Entry C_Reader C_FolderkinError C_InvalidBlock C_InvalidBytes gX : Nat) : MS := seqS (asgS (newK (lstK (consK (kC (.int 0)) (consK (kC (.int 0)) (nilK))))) (setv 1))
  (seqS (asgS (lstK (nilK)) (setv 2))
  (seqS (asgS (newK (lstK (consK (kC (.int 0)) (nilK)))) (setv 3))
  (seqS (asgS (newK (lstK (nilK))) (setv 4))
  (seqS (forS (rangeK1 (consK (callN 3 (f_law_draw C_Entry C_Reader C_FolderkinError C_InvalidBlock C_InvalidBytes gX) [] (consK (kV 1) (consK (kV 0) (consK (kC (.int 6)) (nilK))))) (nilK))) (setv 5) (seqS (asgS (callN 2 (f_law_told C_Entry C_Reader C_FolderkinError C_InvalidBlock C_InvalidBytes gX) [] (consK (kV 1) (consK (kV 0) (nilK)))) (setv 10))
  (seqS (asgS (callN 1 (f_law_made C_Entry C_Reader C_FolderkinError C_InvalidBlock C_InvalidBytes gX) [] (consK (kV 10) (nilK))) (setv 9))
  (seqS (ifS (orK (notK (tst (isiK "list" (kV 9)))) (tst (bop dNe (kV 9) (callN 1 (f_law_record C_Entry C_Reader C_FolderkinError C_InvalidBlock C_InvalidBytes gX) [] (consK (kV 10) (nilK)))))) (retS (kC (.bool false))) (nextS))
  (seqS (asgS (bop dAdd (kV 2) (kV 9)) (setv 2))
  (seqS (dropS (mutK muAppend (kV 3) (consK (b1K dLen (kV 2)) (nilK))))
  (dropS (mutK muAppend (kV 4) (consK (kV 10) (nilK))))))))))
  (seqS (asgS (bop dIx (lstK (consK (b1K dLen (kV 2)) (consK (callN 3 (f_law_draw C_Entry C_Reader C_FolderkinError C_InvalidBlock C_InvalidBytes gX) [] (consK (kV 1) (consK (kV 0) (consK (bop dAdd (b1K dLen (kV 2)) (kC (.int 1))) (nilK))))) (nilK)))) (callN 3 (f_law_draw C_Entry C_Reader C_FolderkinError C_InvalidBlock C_InvalidBytes gX) [] (consK (kV 1) (consK (kV 0) (consK (kC (.int 2)) (nilK)))))) (setv 6))
  (seqS (asgS (bop dSub (b1K dLen (lcK [11] (listK (kV 3)) (setv 11) (tst (bop dLe (kV 11) (kV 6))) (kV 11))) (kC (.int 1))) (setv 7))
  (seqS (asgS (cutK (kV 2) (pnone) (psome (kV 6))) (setv 8))
  (seqS (asgS (callN 1 (f_read_log C_Entry C_Reader C_FolderkinError C_InvalidBlock C_InvalidBytes gX) [] (consK (kV 8) (nilK))) (setv 9))
  (seqS (ifS (orK (notK (tst (isiK "tuple" (kV 9)))) (orK (tst (bop dNe (bop dIx (kV 9) (kC (.int 1))) (bop dIx (kV 3) (kV 7)))) (tst (bop dNe (kV 8) (cutK (kV 2) (pnone) (psome (kV 6))))))) (retS (kC (.bool false))) (nextS))
  (retS (andV (tst (bop (dEqQ C_Entry (f_Entry_eq C_Entry C_Reader C_FolderkinError C_InvalidBlock C_InvalidBytes gX) 1) (lcK [10] (listK (bop dIx (kV 9) (kC (.int 0)))) (setv 10) (yesK) (b1K dTuple (kV 10))) (cutK (kV 4) (pnone) (psome (kV 7))))) (b1K dAll (lcK [10] (listK (bop dIx (kV 9) (kC (.int 0)))) (setv 10) (yesK) (isiK "tuple" (kV 10)))))))))))))))
def f_law (C_Entry C_Reader C_FolderkinError C_InvalidBlock C_InvalidBytes gX : Nat) : Fm := runF 1 12 (m_law C_Entry C_Reader C_FolderkinError C_InvalidBlock C_InvalidBytes gX)
end K21
namespace K21
open PySem L2 Hz
def top (i : Nat) : Stmt := PySem.Challenge.pw_folderkin_k21_records_and_cut_logs.main.body.getD i (.Pass ⟨0, 0, 0, 0⟩)
def inC (s : Stmt) (j : Nat) : Stmt := match s with
  | .ClassDef (body := b) .. => b.getD j (.Pass ⟨0, 0, 0, 0⟩)
  | s => s
abbrev s_block_number : Stmt := top 7
abbrev s_block_size : Stmt := top 8
abbrev s_is_block : Stmt := top 9
abbrev s_block_bytes : Stmt := top 10
abbrev s_Entry_init : Stmt := inC (top 12) 0
abbrev s_Entry_fields : Stmt := inC (top 12) 1
abbrev s_Entry_eq : Stmt := inC (top 12) 2
abbrev s_character_of : Stmt := top 18
abbrev s_number_bytes_coding : Stmt := top 21
abbrev s_name_bytes : Stmt := top 23
abbrev s_vector_bytes : Stmt := top 24
abbrev s_data_bytes : Stmt := top 25
abbrev s_entry_bytes : Stmt := top 26
abbrev s_Reader_init : Stmt := inC (top 27) 0
abbrev s_Reader_byte : Stmt := inC (top 27) 1
abbrev s_Reader_number : Stmt := inC (top 27) 2
abbrev s_Reader_device : Stmt := inC (top 27) 3
abbrev s_Reader_name : Stmt := inC (top 27) 4
abbrev s_Reader_vector : Stmt := inC (top 27) 5
abbrev s_Reader_row : Stmt := inC (top 27) 6
abbrev s_Reader_block : Stmt := inC (top 27) 7
abbrev s_Reader_entry : Stmt := inC (top 27) 8
abbrev s_number_bytes_book : Stmt := top 33
abbrev s_check_of : Stmt := top 35
abbrev s_sealed : Stmt := top 36
abbrev s_record_of : Stmt := top 37
abbrev s_intent_record : Stmt := top 38
abbrev s_peer_record : Stmt := top 39
abbrev s_upto_record : Stmt := top 40
abbrev s_read_body : Stmt := top 41
abbrev s_read_log : Stmt := top 42
abbrev s_law_draw : Stmt := top 44
abbrev s_law_name : Stmt := top 45
abbrev s_law_content : Stmt := top 46
abbrev s_law_blocks : Stmt := top 47
abbrev s_law_vector : Stmt := top 48
abbrev s_law_entry : Stmt := top 49
abbrev s_law_wide : Stmt := top 50
abbrev s_law_sealed : Stmt := top 51
abbrev s_law_entry_bytes : Stmt := top 52
abbrev s_law_record : Stmt := top 53
abbrev s_law_told : Stmt := top 54
abbrev s_law_made : Stmt := top 55
abbrev s_law : Stmt := top 56
abbrev s_X : Stmt := inC (top 1) 0
theorem form_X : InitForm s_X := ⟨⟨_, _, _, _, _, _, _, _, _, _, _, rfl, by intros; rfl, by intros; rfl, by intros; rfl⟩, ⟨rfl, rfl, rfl, rfl⟩, rfl, rfl, rfl, by decide +kernel, by decide +kernel, rfl, fun _ _ _ _ _ _ _ _ us hl => match us, hl with | [_, _], _ => rfl⟩
theorem sc_block_number : FnScope ["data", "number", "byte"] ["data"] (defScope s_block_number) := ⟨rfl, rfl, rfl, by decide +kernel, rfl, by decide +kernel, by decide +kernel⟩
theorem sc_block_size : FnScope ["number", "size"] ["number"] (defScope s_block_size) := ⟨rfl, rfl, rfl, by decide +kernel, rfl, by decide +kernel, by decide +kernel⟩
theorem sc_is_block : FnScope ["number"] ["number"] (defScope s_is_block) := ⟨rfl, rfl, rfl, by decide +kernel, rfl, by decide +kernel, by decide +kernel⟩
theorem sc_block_bytes : FnScope ["number", "data"] ["number"] (defScope s_block_bytes) := ⟨rfl, rfl, rfl, by decide +kernel, rfl, by decide +kernel, by decide +kernel⟩
theorem sc_Entry_init : FnScope ["self", "name", "vector", "height", "maker", "deleted", "time", "blocks"] ["self", "name", "vector", "height", "maker", "deleted", "time", "blocks"] (defScope s_Entry_init) := ⟨rfl, rfl, rfl, by decide +kernel, rfl, by decide +kernel, by decide +kernel⟩
theorem sc_Entry_fields : FnScope ["self"] ["self"] (defScope s_Entry_fields) := ⟨rfl, rfl, rfl, by decide +kernel, rfl, by decide +kernel, by decide +kernel⟩
theorem sc_Entry_eq : FnScope ["self", "other"] ["self", "other"] (defScope s_Entry_eq) := ⟨rfl, rfl, rfl, by decide +kernel, rfl, by decide +kernel, by decide +kernel⟩
theorem sc_character_of : FnScope ["code", "at"] ["code"] (defScope s_character_of) := ⟨rfl, rfl, rfl, by decide +kernel, rfl, by decide +kernel, by decide +kernel⟩
theorem sc_number_bytes_coding : FnScope ["number"] ["number"] (defScope s_number_bytes_coding) := ⟨rfl, rfl, rfl, by decide +kernel, rfl, by decide +kernel, by decide +kernel⟩
theorem sc_name_bytes : FnScope ["name", "char"] ["name"] (defScope s_name_bytes) := ⟨rfl, rfl, rfl, by decide +kernel, rfl, by decide +kernel, by decide +kernel⟩
theorem sc_vector_bytes : FnScope ["vector", "data", "device", "count"] ["vector"] (defScope s_vector_bytes) := ⟨rfl, rfl, rfl, by decide +kernel, rfl, by decide +kernel, by decide +kernel⟩
theorem sc_data_bytes : FnScope ["data"] ["data"] (defScope s_data_bytes) := ⟨rfl, rfl, rfl, by decide +kernel, rfl, by decide +kernel, by decide +kernel⟩
theorem sc_entry_bytes : FnScope ["entry", "number", "data", "block"] ["entry", "number"] (defScope s_entry_bytes) := ⟨rfl, rfl, rfl, by decide +kernel, rfl, by decide +kernel, by decide +kernel⟩
theorem sc_Reader_init : FnScope ["self", "data", "at"] ["self", "data", "at"] (defScope s_Reader_init) := ⟨rfl, rfl, rfl, by decide +kernel, rfl, by decide +kernel, by decide +kernel⟩
theorem sc_Reader_byte : FnScope ["self", "least", "most"] ["self", "least", "most"] (defScope s_Reader_byte) := ⟨rfl, rfl, rfl, by decide +kernel, rfl, by decide +kernel, by decide +kernel⟩
theorem sc_Reader_number : FnScope ["self", "least", "number"] ["self", "least"] (defScope s_Reader_number) := ⟨rfl, rfl, rfl, by decide +kernel, rfl, by decide +kernel, by decide +kernel⟩
theorem sc_Reader_device : FnScope ["self"] ["self"] (defScope s_Reader_device) := ⟨rfl, rfl, rfl, by decide +kernel, rfl, by decide +kernel, by decide +kernel⟩
theorem sc_Reader_name : FnScope ["self", "name", "count", "char"] ["self"] (defScope s_Reader_name) := ⟨rfl, rfl, rfl, by decide +kernel, rfl, by decide +kernel, by decide +kernel⟩
theorem sc_Reader_vector : FnScope ["self", "pairs", "device", "rest"] ["self"] (defScope s_Reader_vector) := ⟨rfl, rfl, rfl, by decide +kernel, rfl, by decide +kernel, by decide +kernel⟩
theorem sc_Reader_row : FnScope ["self", "least", "count"] ["self", "least"] (defScope s_Reader_row) := ⟨rfl, rfl, rfl, by decide +kernel, rfl, by decide +kernel, by decide +kernel⟩
theorem sc_Reader_block : FnScope ["self", "least"] ["self", "least"] (defScope s_Reader_block) := ⟨rfl, rfl, rfl, by decide +kernel, rfl, by decide +kernel, by decide +kernel⟩
theorem sc_Reader_entry : FnScope ["self", "number", "name", "vector", "height", "maker", "deleted", "time", "blocks", "rest"] ["self"] (defScope s_Reader_entry) := ⟨rfl, rfl, rfl, by decide +kernel, rfl, by decide +kernel, by decide +kernel⟩
theorem sc_number_bytes_book : FnScope ["number", "width", "k"] ["number", "width"] (defScope s_number_bytes_book) := ⟨rfl, rfl, rfl, by decide +kernel, rfl, by decide +kernel, by decide +kernel⟩
theorem sc_check_of : FnScope ["data", "first", "second", "byte"] ["data"] (defScope s_check_of) := ⟨rfl, rfl, rfl, by decide +kernel, rfl, by decide +kernel, by decide +kernel⟩
theorem sc_sealed : FnScope ["body", "data"] ["body"] (defScope s_sealed) := ⟨rfl, rfl, rfl, by decide +kernel, rfl, by decide +kernel, by decide +kernel⟩
theorem sc_record_of : FnScope ["entry", "number"] ["entry", "number"] (defScope s_record_of) := ⟨rfl, rfl, rfl, by decide +kernel, rfl, by decide +kernel, by decide +kernel⟩
theorem sc_intent_record : FnScope ["entry", "number"] ["entry", "number"] (defScope s_intent_record) := ⟨rfl, rfl, rfl, by decide +kernel, rfl, by decide +kernel, by decide +kernel⟩
theorem sc_peer_record : FnScope ["device", "entry", "number"] ["device", "entry", "number"] (defScope s_peer_record) := ⟨rfl, rfl, rfl, by decide +kernel, rfl, by decide +kernel, by decide +kernel⟩
theorem sc_upto_record : FnScope ["device", "number"] ["device", "number"] (defScope s_upto_record) := ⟨rfl, rfl, rfl, by decide +kernel, rfl, by decide +kernel, by decide +kernel⟩
theorem sc_read_body : FnScope ["body", "reader", "kind", "device", "entry", "number"] ["body"] (defScope s_read_body) := ⟨rfl, rfl, rfl, by decide +kernel, rfl, by decide +kernel, by decide +kernel⟩
theorem sc_read_log : FnScope ["data", "found", "at", "stop"] ["data"] (defScope s_read_log) := ⟨rfl, rfl, rfl, by decide +kernel, rfl, by decide +kernel, by decide +kernel⟩
theorem sc_law_draw : FnScope ["_law_state", "_law_script", "_law_size", "_law_digit", "_law_cell", "_law_mixed"] ["_law_state", "_law_script", "_law_size"] (defScope s_law_draw) := ⟨rfl, rfl, rfl, by decide +kernel, rfl, by decide +kernel, by decide +kernel⟩
theorem sc_law_name : FnScope ["_law_state", "_law_script"] ["_law_state", "_law_script"] (defScope s_law_name) := ⟨rfl, rfl, rfl, by decide +kernel, rfl, by decide +kernel, by decide +kernel⟩
theorem sc_law_content : FnScope ["_law_state", "_law_script", "_law_most", "_law_words", "_law_content_here", "_law_k"] ["_law_state", "_law_script", "_law_most"] (defScope s_law_content) := ⟨rfl, rfl, rfl, by decide +kernel, rfl, by decide +kernel, by decide +kernel⟩
theorem sc_law_blocks : FnScope ["_law_content_here", "_law_found", "_law_k", "_law_number", "_law_byte"] ["_law_content_here"] (defScope s_law_blocks) := ⟨rfl, rfl, rfl, by decide +kernel, rfl, by decide +kernel, by decide +kernel⟩
theorem sc_law_vector : FnScope ["_law_state", "_law_script", "_law_pairs", "_law_device"] ["_law_state", "_law_script"] (defScope s_law_vector) := ⟨rfl, rfl, rfl, by decide +kernel, rfl, by decide +kernel, by decide +kernel⟩
theorem sc_law_entry : FnScope ["_law_state", "_law_script", "_law_name_here", "_law_vector_here", "_law_time", "_law_height", "_law_maker"] ["_law_state", "_law_script"] (defScope s_law_entry) := ⟨rfl, rfl, rfl, by decide +kernel, rfl, by decide +kernel, by decide +kernel⟩
theorem sc_law_wide : FnScope ["_law_number", "_law_width", "_law_k"] ["_law_number", "_law_width"] (defScope s_law_wide) := ⟨rfl, rfl, rfl, by decide +kernel, rfl, by decide +kernel, by decide +kernel⟩
theorem sc_law_sealed : FnScope ["_law_body", "_law_data", "_law_first", "_law_second", "_law_byte"] ["_law_body"] (defScope s_law_sealed) := ⟨rfl, rfl, rfl, by decide +kernel, rfl, by decide +kernel, by decide +kernel⟩
theorem sc_law_entry_bytes : FnScope ["_law_entry_here", "_law_number", "_law_data", "_law_block", "_law_device", "_law_count", "_law_size", "_law_char", "_law_k"] ["_law_entry_here", "_law_number"] (defScope s_law_entry_bytes) := ⟨rfl, rfl, rfl, by decide +kernel, rfl, by decide +kernel, by decide +kernel⟩
theorem sc_law_record : FnScope ["_law_told_here", "_law_kind", "_law_device", "_law_entry_here", "_law_number"] ["_law_told_here"] (defScope s_law_record) := ⟨rfl, rfl, rfl, by decide +kernel, rfl, by decide +kernel, by decide +kernel⟩
theorem sc_law_told : FnScope ["_law_state", "_law_script", "_law_kind", "_law_number"] ["_law_state", "_law_script"] (defScope s_law_told) := ⟨rfl, rfl, rfl, by decide +kernel, rfl, by decide +kernel, by decide +kernel⟩
theorem sc_law_made : FnScope ["_law_told_here", "_law_kind", "_law_device", "_law_entry_here", "_law_number"] ["_law_told_here"] (defScope s_law_made) := ⟨rfl, rfl, rfl, by decide +kernel, rfl, by decide +kernel, by decide +kernel⟩
theorem sc_law : FnScope ["_law_script", "_law_state", "_law_data", "_law_ends", "_law_told_here", "_law_k", "_law_stop", "_law_whole", "_law_handed", "_law_found", "_law_one", "_law_end"] ["_law_script"] (defScope s_law) := ⟨rfl, rfl, rfl, by decide +kernel, rfl, by decide +kernel, by decide +kernel⟩
structure Facts (c : C0) (C_Entry C_Reader C_FolderkinError C_InvalidBlock C_InvalidBytes gX : Nat) : Prop where
  b_all : c.mg "all" = none
  b_int : c.mg "int" = none
  b_isinstance : c.mg "isinstance" = none
  b_len : c.mg "len" = none
  b_list : c.mg "list" = none
  b_ord : c.mg "ord" = none
  b_range : c.mg "range" = none
  b_tuple : c.mg "tuple" = none
  k_INTENT : ∃ t, c.mg "INTENT" = some (.int 3 t)
  k_BLOCK : ∃ t, c.mg "BLOCK" = some (.int 4 t)
  k_PEER : ∃ t, c.mg "PEER" = some (.int 1 t)
  k_OWN : ∃ t, c.mg "OWN" = some (.int 0 t)
  k_UPTO : ∃ t, c.mg "UPTO" = some (.int 2 t)
  k_MOST_BLOCKS : ∃ t, c.mg "MOST_BLOCKS" = some (.int 255 t)
  k_MOST_DEVICE : ∃ t, c.mg "MOST_DEVICE" = some (.int 9 t)
  k_MOST_NAME : ∃ t, c.mg "MOST_NAME" = some (.int 40 t)
  k_FIRST_CODE : ∃ t, c.mg "FIRST_CODE" = some (.int 45 t)
  k_TABLE : ∃ t, c.mg "TABLE" = some (.str "-./0123456789:;<=>?\x40ABCDEFGHIJKLMNOPQRSTUVWXYZ[\\]^_`abcdefghijklmnopqrstuvwxyz{|}~" t)
  k_CHARACTERS : ∃ t, c.mg "CHARACTERS" = some (.str "-./0123456789ABCDEFGHIJKLMNOPQRSTUVWXYZ_abcdefghijklmnopqrstuvwxyz~" t)
  cl_Entry : ClsD c "Entry" C_Entry
  na_Entry_name : NoAttr c.K C_Entry "name"
  na_Entry_vector : NoAttr c.K C_Entry "vector"
  na_Entry_height : NoAttr c.K C_Entry "height"
  na_Entry_maker : NoAttr c.K C_Entry "maker"
  na_Entry_deleted : NoAttr c.K C_Entry "deleted"
  na_Entry_time : NoAttr c.K C_Entry "time"
  na_Entry_blocks : NoAttr c.K C_Entry "blocks"
  cl_Reader : ClsD c "Reader" C_Reader
  na_Reader_data : NoAttr c.K C_Reader "data"
  na_Reader_at : NoAttr c.K C_Reader "at"
  x_FolderkinError : ExD c C_FolderkinError gX "FolderkinError" C_FolderkinError
  x_InvalidBlock : ExD c C_FolderkinError gX "InvalidBlock" C_InvalidBlock
  x_InvalidBytes : ExD c C_FolderkinError gX "InvalidBytes" C_InvalidBytes
  em_InvalidBlock_InvalidBytes : PySem.W.exmOne c.K (.ref C_InvalidBlock) (.ref C_InvalidBytes) = some false
  em_InvalidBytes_InvalidBytes : PySem.W.exmOne c.K (.ref C_InvalidBytes) (.ref C_InvalidBytes) = some true
  a_block_number : At c "block_number" s_block_number ["data"] [] []
  a_block_size : At c "block_size" s_block_size ["number"] [] []
  a_is_block : At c "is_block" s_is_block ["number"] [] []
  a_block_bytes : At c "block_bytes" s_block_bytes ["number"] [] []
  a_Entry_init : InAt c C_Entry "Entry" "Entry.__init__" s_Entry_init ["self", "name", "vector", "height", "maker", "deleted", "time", "blocks"] [] []
  a_Entry_fields : MeAt c C_Entry "fields" "Entry.fields" s_Entry_fields ["self"] [] []
  a_Entry_eq : MeAt c C_Entry "__eq__" "Entry.__eq__" s_Entry_eq ["self", "other"] [] []
  a_character_of : At c "character_of" s_character_of ["code"] [] []
  a_number_bytes_coding : AtN c "number_bytes_coding" "number_bytes" s_number_bytes_coding ["number"] [] []
  a_name_bytes : At c "name_bytes" s_name_bytes ["name"] [] []
  a_vector_bytes : At c "vector_bytes" s_vector_bytes ["vector"] [] []
  a_data_bytes : At c "data_bytes" s_data_bytes ["data"] [] []
  a_entry_bytes : At c "entry_bytes" s_entry_bytes ["entry", "number"] [] []
  a_Reader_init : InAt c C_Reader "Reader" "Reader.__init__" s_Reader_init ["self", "data", "at"] [V.int 0] [0]
  a_Reader_byte : MeAt c C_Reader "byte" "Reader.byte" s_Reader_byte ["self", "least", "most"] [V.int 0, V.int 255] [0, 1]
  a_Reader_number : MeAt c C_Reader "number" "Reader.number" s_Reader_number ["self", "least"] [V.int 0] [0]
  a_Reader_device : MeAt c C_Reader "device" "Reader.device" s_Reader_device ["self"] [] []
  a_Reader_name : MeAt c C_Reader "name" "Reader.name" s_Reader_name ["self"] [] []
  a_Reader_vector : MeAt c C_Reader "vector" "Reader.vector" s_Reader_vector ["self"] [] []
  a_Reader_row : MeAt c C_Reader "row" "Reader.row" s_Reader_row ["self", "least"] [V.int 1] []
  a_Reader_block : MeAt c C_Reader "block" "Reader.block" s_Reader_block ["self", "least"] [V.int 1] []
  a_Reader_entry : MeAt c C_Reader "entry" "Reader.entry" s_Reader_entry ["self"] [] []
  a_number_bytes_book : AtN c "number_bytes_book" "number_bytes" s_number_bytes_book ["number", "width"] [] []
  a_check_of : At c "check_of" s_check_of ["data"] [] []
  a_sealed : At c "sealed" s_sealed ["body"] [] []
  a_record_of : At c "record_of" s_record_of ["entry", "number"] [] []
  a_intent_record : At c "intent_record" s_intent_record ["entry", "number"] [] []
  a_peer_record : At c "peer_record" s_peer_record ["device", "entry", "number"] [] []
  a_upto_record : At c "upto_record" s_upto_record ["device", "number"] [] []
  a_read_body : At c "read_body" s_read_body ["body"] [] []
  a_read_log : At c "read_log" s_read_log ["data"] [] []
  a_law_draw : At c "_law_draw" s_law_draw ["_law_state", "_law_script", "_law_size"] [] []
  a_law_name : At c "_law_name" s_law_name ["_law_state", "_law_script"] [] []
  a_law_content : At c "_law_content" s_law_content ["_law_state", "_law_script", "_law_most"] [] []
  a_law_blocks : At c "_law_blocks" s_law_blocks ["_law_content_here"] [] []
  a_law_vector : At c "_law_vector" s_law_vector ["_law_state", "_law_script"] [] []
  a_law_entry : At c "_law_entry" s_law_entry ["_law_state", "_law_script"] [] []
  a_law_wide : At c "_law_wide" s_law_wide ["_law_number", "_law_width"] [] []
  a_law_sealed : At c "_law_sealed" s_law_sealed ["_law_body"] [] []
  a_law_entry_bytes : At c "_law_entry_bytes" s_law_entry_bytes ["_law_entry_here", "_law_number"] [] []
  a_law_record : At c "_law_record" s_law_record ["_law_told_here"] [] []
  a_law_told : At c "_law_told" s_law_told ["_law_state", "_law_script"] [] []
  a_law_made : At c "_law_made" s_law_made ["_law_told_here"] [] []
  a_law : At c "law" s_law ["_law_script"] [] []
section
variable {c : C0} {C_Entry C_Reader C_FolderkinError C_InvalidBlock C_InvalidBytes gX : Nat}
theorem exm_InvalidBytes_ok (T : Facts c C_Entry C_Reader C_FolderkinError C_InvalidBlock C_InvalidBytes gX) : ExM c C_InvalidBytes (exm_InvalidBytes C_Entry C_Reader C_FolderkinError C_InvalidBlock C_InvalidBytes gX) := fun C b h => by
  unfold exm_InvalidBytes at h
  split at h
  · rename_i e
    subst e
    cases h
    exact T.em_InvalidBlock_InvalidBytes
  split at h
  · rename_i e
    subst e
    cases h
    exact T.em_InvalidBytes_InvalidBytes
  cases h
theorem jb_block_number (T : Facts c C_Entry C_Reader C_FolderkinError C_InvalidBlock C_InvalidBytes gX) : JB (c.at_ 0) ["data", "number", "byte"] (defScope s_block_number) (defBody s_block_number) (m_block_number C_Entry C_Reader C_FolderkinError C_InvalidBlock C_InvalidBytes gX) :=
  jb_cons (set_ 1 sc_block_number.nd (ce_int))
    (jb_cons (js_for (ji_list (v_ 0)) (tg_ 2 sc_block_number.nd) (jb_one (set_ 1 sc_block_number.nd (ce_op o_add (ce_op o_mul (v_ 1) (ce_int)) (v_ 2)))))
    (jb_one (js_ret (v_ 1))))
theorem P_block_number (T : Facts c C_Entry C_Reader C_FolderkinError C_InvalidBlock C_InvalidBytes gX) : PrF c 1 "block_number" ["data"] [] [] (f_block_number C_Entry C_Reader C_FolderkinError C_InvalidBlock C_InvalidBytes gX) := T.a_block_number.runP sc_block_number (jb_block_number T)
theorem jb_block_size (T : Facts c C_Entry C_Reader C_FolderkinError C_InvalidBlock C_InvalidBytes gX) : JB (c.at_ 0) ["number", "size"] (defScope s_block_size) (defBody s_block_size) (m_block_size C_Entry C_Reader C_FolderkinError C_InvalidBlock C_InvalidBytes gX) :=
  jb_cons (js_for (ji_range2 rfl T.b_range (jl_cons (ce_int) (jl_cons (ce_op o_add (g_int (hm := T.k_BLOCK)) (ce_int)) (jl_nil)))) (tg_ 1 sc_block_size.nd) (jb_one (js_if (jt_cmp o_eq (ce_op o_shr (v_ 0) (ce_op o_mul (ce_int) (v_ 1))) (ce_int)) (jb_one (js_ret (v_ 1))) (jb_nil))))
    (jb_one (js_ret (ce_int)))
theorem P_block_size (T : Facts c C_Entry C_Reader C_FolderkinError C_InvalidBlock C_InvalidBytes gX) : PrF c 1 "block_size" ["number"] [] [] (f_block_size C_Entry C_Reader C_FolderkinError C_InvalidBlock C_InvalidBytes gX) := T.a_block_size.runP sc_block_size (jb_block_size T)
theorem jb_is_block (T : Facts c C_Entry C_Reader C_FolderkinError C_InvalidBlock C_InvalidBytes gX) : JB (c.at_ 1) ["number"] (defScope s_is_block) (defBody s_is_block) (m_is_block C_Entry C_Reader C_FolderkinError C_InvalidBlock C_InvalidBytes gX) :=
  jb_one (js_ret (ce_cmp o_gt (je_call (P_block_size (c := c) T).fn (Nat.le_of_ble_eq_true rfl) rfl (jl_cons (v_ 0) (jl_nil))) (ce_int)))
theorem P_is_block (T : Facts c C_Entry C_Reader C_FolderkinError C_InvalidBlock C_InvalidBytes gX) : PrF c 2 "is_block" ["number"] [] [] (f_is_block C_Entry C_Reader C_FolderkinError C_InvalidBlock C_InvalidBytes gX) := T.a_is_block.runP sc_is_block (jb_is_block T)
theorem jb_block_bytes (T : Facts c C_Entry C_Reader C_FolderkinError C_InvalidBlock C_InvalidBytes gX) : JB (c.at_ 2) ["number", "data"] (defScope s_block_bytes) (defBody s_block_bytes) (m_block_bytes C_Entry C_Reader C_FolderkinError C_InvalidBlock C_InvalidBytes gX) :=
  jb_cons (js_if (jt_not (jt_val (je_call (P_is_block (c := c) T).fn (Nat.le_of_ble_eq_true rfl) rfl (jl_cons (v_ 0) (jl_nil))))) (jb_one (js_raise T.x_InvalidBlock (Nat.le_of_ble_eq_true rfl) rfl (ce_int))) (jb_nil))
    (jb_cons (set_ 1 sc_block_bytes.nd (JF.new (jf_lst (jl_nil))))
    (jb_cons (js_while (jt_cmp o_gt (v_ 0) (ce_int)) (jb_cons (js_expr (je_mut mu_insert PySem.F.slot_list_insert PySem.F.type_list_insert (v_ 1) (jl_cons (ce_int) (jl_cons (ce_op o_mod (v_ 0) (ce_int)) (jl_nil)))))
    (jb_one (set_ 0 sc_block_bytes.nd (ce_op o_div (v_ 0) (ce_int))))))
    (jb_one (js_ret (JE.frz (v_ 1))))))
theorem P_block_bytes (T : Facts c C_Entry C_Reader C_FolderkinError C_InvalidBlock C_InvalidBytes gX) : PrF c 3 "block_bytes" ["number"] [] [] (f_block_bytes C_Entry C_Reader C_FolderkinError C_InvalidBlock C_InvalidBytes gX) := T.a_block_bytes.runP sc_block_bytes (jb_block_bytes T)
theorem jb_Entry_init (T : Facts c C_Entry C_Reader C_FolderkinError C_InvalidBlock C_InvalidBytes gX) : JB (c.at_ 0) ["self", "name", "vector", "height", "maker", "deleted", "time", "blocks"] (defScope s_Entry_init) (defBody s_Entry_init) (m_Entry_init C_Entry C_Reader C_FolderkinError C_InvalidBlock C_InvalidBytes gX) :=
  jb_cons (js_seta T.cl_Entry.cl T.na_Entry_name (v_ 1) (v_ 0))
    (jb_cons (js_seta T.cl_Entry.cl T.na_Entry_vector (v_ 2) (v_ 0))
    (jb_cons (js_seta T.cl_Entry.cl T.na_Entry_height (v_ 3) (v_ 0))
    (jb_cons (js_seta T.cl_Entry.cl T.na_Entry_maker (v_ 4) (v_ 0))
    (jb_cons (js_seta T.cl_Entry.cl T.na_Entry_deleted (v_ 5) (v_ 0))
    (jb_cons (js_seta T.cl_Entry.cl T.na_Entry_time (v_ 6) (v_ 0))
    (jb_one (js_seta T.cl_Entry.cl T.na_Entry_blocks (v_ 7) (v_ 0))))))))
theorem P_Entry_init (T : Facts c C_Entry C_Reader C_FolderkinError C_InvalidBlock C_InvalidBytes gX) : PrI c 1 C_Entry "Entry" ["self", "name", "vector", "height", "maker", "deleted", "time", "blocks"] [] [] (f_Entry_init C_Entry C_Reader C_FolderkinError C_InvalidBlock C_InvalidBytes gX) := T.a_Entry_init.run sc_Entry_init (jb_Entry_init T)
theorem jb_Entry_fields (T : Facts c C_Entry C_Reader C_FolderkinError C_InvalidBlock C_InvalidBytes gX) : JB (c.at_ 0) ["self"] (defScope s_Entry_fields) (defBody s_Entry_fields) (m_Entry_fields C_Entry C_Reader C_FolderkinError C_InvalidBlock C_InvalidBytes gX) :=
  jb_one (js_ret (je_tup (jl_cons (je_fld (v_ 0) T.cl_Entry.cl T.na_Entry_name) (jl_cons (je_fld (v_ 0) T.cl_Entry.cl T.na_Entry_vector) (jl_cons (je_fld (v_ 0) T.cl_Entry.cl T.na_Entry_height) (jl_cons (je_fld (v_ 0) T.cl_Entry.cl T.na_Entry_maker) (jl_cons (je_fld (v_ 0) T.cl_Entry.cl T.na_Entry_deleted) (jl_cons (je_fld (v_ 0) T.cl_Entry.cl T.na_Entry_time) (jl_cons (je_fld (v_ 0) T.cl_Entry.cl T.na_Entry_blocks) (jl_nil))))))))))
theorem P_Entry_fields (T : Facts c C_Entry C_Reader C_FolderkinError C_InvalidBlock C_InvalidBytes gX) : PrM c 1 C_Entry "fields" ["self"] [] [] (f_Entry_fields C_Entry C_Reader C_FolderkinError C_InvalidBlock C_InvalidBytes gX) := T.a_Entry_fields.runP sc_Entry_fields (jb_Entry_fields T)
theorem jb_Entry_eq (T : Facts c C_Entry C_Reader C_FolderkinError C_InvalidBlock C_InvalidBytes gX) : JB (c.at_ 2) ["self", "other"] (defScope s_Entry_eq) (defBody s_Entry_eq) (m_Entry_eq C_Entry C_Reader C_FolderkinError C_InvalidBlock C_InvalidBytes gX) :=
  jb_cons (js_if (jt_not (jt_val (je_isiC T.cl_Entry rfl T.b_isinstance rfl (v_ 1)))) (jb_one (js_ret (ce_bl))) (jb_nil))
    (jb_one (js_ret (ce_cmp o_eq (je_meth0 T.cl_Entry.cl (P_Entry_fields (c := c) T).mt (Nat.le_of_ble_eq_true rfl) (v_ 0)) (je_meth0 T.cl_Entry.cl (P_Entry_fields (c := c) T).mt (Nat.le_of_ble_eq_true rfl) (v_ 1)))))
theorem P_Entry_eq (T : Facts c C_Entry C_Reader C_FolderkinError C_InvalidBlock C_InvalidBytes gX) : PrM c 3 C_Entry "__eq__" ["self", "other"] [] [] (f_Entry_eq C_Entry C_Reader C_FolderkinError C_InvalidBlock C_InvalidBytes gX) := T.a_Entry_eq.runP sc_Entry_eq (jb_Entry_eq T)
theorem jb_character_of (T : Facts c C_Entry C_Reader C_FolderkinError C_InvalidBlock C_InvalidBytes gX) : JB (c.at_ 0) ["code", "at"] (defScope s_character_of) (defBody s_character_of) (m_character_of C_Entry C_Reader C_FolderkinError C_InvalidBlock C_InvalidBytes gX) :=
  jb_cons (set_ 1 sc_character_of.nd (ce_op o_sub (v_ 0) (g_int (hm := T.k_FIRST_CODE))))
    (jb_cons (js_if (jt_w (jw_or (jt_cmp o_lt (v_ 1) (ce_int)) (jw_or (jt_cmp o_ge (v_ 1) (je_b1 c_len rfl T.b_len (by decide +kernel) (g_str (hm := T.k_TABLE)))) (jw_or1 (jt_cmp o_notIn (je_ix o_ix (g_str (hm := T.k_TABLE)) (v_ 1)) (g_str (hm := T.k_CHARACTERS))))))) (jb_one (js_ret (ce_non))) (jb_nil))
    (jb_one (js_ret (je_ix o_ix (g_str (hm := T.k_TABLE)) (v_ 1)))))
theorem P_character_of (T : Facts c C_Entry C_Reader C_FolderkinError C_InvalidBlock C_InvalidBytes gX) : PrF c 1 "character_of" ["code"] [] [] (f_character_of C_Entry C_Reader C_FolderkinError C_InvalidBlock C_InvalidBytes gX) := T.a_character_of.runP sc_character_of (jb_character_of T)
theorem jb_number_bytes_coding (T : Facts c C_Entry C_Reader C_FolderkinError C_InvalidBlock C_InvalidBytes gX) : JB (c.at_ 0) ["number"] (defScope s_number_bytes_coding) (defBody s_number_bytes_coding) (m_number_bytes_coding C_Entry C_Reader C_FolderkinError C_InvalidBlock C_InvalidBytes gX) :=
  jb_one (js_ret (JF.je (jf_lst (jl_cons (ce_op o_shr (v_ 0) (ce_int)) (jl_cons (ce_op o_and (ce_op o_shr (v_ 0) (ce_int)) (ce_int)) (jl_cons (ce_op o_and (ce_op o_shr (v_ 0) (ce_int)) (ce_int)) (jl_cons (ce_op o_and (v_ 0) (ce_int)) (jl_nil))))))))
theorem P_number_bytes_coding (T : Facts c C_Entry C_Reader C_FolderkinError C_InvalidBlock C_InvalidBytes gX) : PrF c 1 "number_bytes_coding" ["number"] [] [] (f_number_bytes_coding C_Entry C_Reader C_FolderkinError C_InvalidBlock C_InvalidBytes gX) := T.a_number_bytes_coding.runP sc_number_bytes_coding (jb_number_bytes_coding T)
theorem jb_name_bytes (T : Facts c C_Entry C_Reader C_FolderkinError C_InvalidBlock C_InvalidBytes gX) : JB (c.at_ 0) ["name", "char"] (defScope s_name_bytes) (defBody s_name_bytes) (m_name_bytes C_Entry C_Reader C_FolderkinError C_InvalidBlock C_InvalidBytes gX) :=
  jb_one (js_ret (ce_op o_add (JF.je (jf_lst (jl_cons (je_b1 c_len rfl T.b_len (by decide +kernel) (v_ 0)) (jl_nil)))) (JF.je (jf_lc (own := [("char", 1)]) (oc := []) sc_name_bytes.nd (ji_str (v_ 0)) (blkOk_by (by decide +kernel)) (tg_ 1 sc_name_bytes.nd) (jts_nil) (je_b1 c_ord rfl T.b_ord (by decide +kernel) (v_ 1))))))
theorem P_name_bytes (T : Facts c C_Entry C_Reader C_FolderkinError C_InvalidBlock C_InvalidBytes gX) : PrF c 1 "name_bytes" ["name"] [] [] (f_name_bytes C_Entry C_Reader C_FolderkinError C_InvalidBlock C_InvalidBytes gX) := T.a_name_bytes.runP sc_name_bytes (jb_name_bytes T)
theorem jb_vector_bytes (T : Facts c C_Entry C_Reader C_FolderkinError C_InvalidBlock C_InvalidBytes gX) : JB (c.at_ 1) ["vector", "data", "device", "count"] (defScope s_vector_bytes) (defBody s_vector_bytes) (m_vector_bytes C_Entry C_Reader C_FolderkinError C_InvalidBlock C_InvalidBytes gX) :=
  jb_cons (set_ 1 sc_vector_bytes.nd (JF.new (jf_lst (jl_cons (je_b1 c_len rfl T.b_len (by decide +kernel) (v_ 0)) (jl_nil)))))
    (jb_cons (js_for (ji_tup (v_ 0)) (jtg_tup (jtgs_cons (tg_ 2 sc_vector_bytes.nd) (jtgs_cons (tg_ 3 sc_vector_bytes.nd) (jtgs_nil)))) (jb_cons (js_expr (je_mut mu_append PySem.F.slot_list_append PySem.F.type_list_append (v_ 1) (jl_cons (v_ 2) (jl_nil))))
    (jb_one (js_expr (je_ext (v_ 1) (je_call (P_number_bytes_coding (c := c) T).fn (Nat.le_of_ble_eq_true rfl) rfl (jl_cons (v_ 3) (jl_nil))))))))
    (jb_one (js_ret (JE.frz (v_ 1)))))
theorem P_vector_bytes (T : Facts c C_Entry C_Reader C_FolderkinError C_InvalidBlock C_InvalidBytes gX) : PrF c 2 "vector_bytes" ["vector"] [] [] (f_vector_bytes C_Entry C_Reader C_FolderkinError C_InvalidBlock C_InvalidBytes gX) := T.a_vector_bytes.runP sc_vector_bytes (jb_vector_bytes T)
theorem jb_data_bytes (T : Facts c C_Entry C_Reader C_FolderkinError C_InvalidBlock C_InvalidBytes gX) : JB (c.at_ 0) ["data"] (defScope s_data_bytes) (defBody s_data_bytes) (m_data_bytes C_Entry C_Reader C_FolderkinError C_InvalidBlock C_InvalidBytes gX) :=
  jb_one (js_ret (ce_op o_add (JF.je (jf_lst (jl_cons (je_b1 c_len rfl T.b_len (by decide +kernel) (v_ 0)) (jl_nil)))) (JF.je (jf_t1 cf_list rfl T.b_list (by decide +kernel) (v_ 0)))))
theorem P_data_bytes (T : Facts c C_Entry C_Reader C_FolderkinError C_InvalidBlock C_InvalidBytes gX) : PrF c 1 "data_bytes" ["data"] [] [] (f_data_bytes C_Entry C_Reader C_FolderkinError C_InvalidBlock C_InvalidBytes gX) := T.a_data_bytes.runP sc_data_bytes (jb_data_bytes T)
theorem jb_entry_bytes (T : Facts c C_Entry C_Reader C_FolderkinError C_InvalidBlock C_InvalidBytes gX) : JB (c.at_ 3) ["entry", "number", "data", "block"] (defScope s_entry_bytes) (defBody s_entry_bytes) (m_entry_bytes C_Entry C_Reader C_FolderkinError C_InvalidBlock C_InvalidBytes gX) :=
  jb_cons (set_ 2 sc_entry_bytes.nd (JF.new (cf_op of_cat (ce_op o_add (je_call (P_number_bytes_coding (c := c) T).fn (Nat.le_of_ble_eq_true rfl) rfl (jl_cons (v_ 1) (jl_nil))) (je_call (P_name_bytes (c := c) T).fn (Nat.le_of_ble_eq_true rfl) rfl (jl_cons (je_fld (v_ 0) T.cl_Entry.cl T.na_Entry_name) (jl_nil)))) (je_call (P_vector_bytes (c := c) T).fn (Nat.le_of_ble_eq_true rfl) rfl (jl_cons (je_fld (v_ 0) T.cl_Entry.cl T.na_Entry_vector) (jl_nil))))))
    (jb_cons (js_expr (je_ext (v_ 2) (ce_op o_add (ce_op o_add (je_call (P_number_bytes_coding (c := c) T).fn (Nat.le_of_ble_eq_true rfl) rfl (jl_cons (je_fld (v_ 0) T.cl_Entry.cl T.na_Entry_height) (jl_nil))) (JF.je (jf_lst (jl_cons (je_ix o_ix (je_fld (v_ 0) T.cl_Entry.cl T.na_Entry_maker) (ce_int)) (jl_nil))))) (je_call (P_number_bytes_coding (c := c) T).fn (Nat.le_of_ble_eq_true rfl) rfl (jl_cons (je_ix o_ix (je_fld (v_ 0) T.cl_Entry.cl T.na_Entry_maker) (ce_int)) (jl_nil))))))
    (jb_cons (js_expr (je_ext (v_ 2) (ce_op o_add (ce_op o_add (JF.je (jf_lst (jl_cons (je_t1 c_int rfl T.b_int (by decide +kernel) (je_fld (v_ 0) T.cl_Entry.cl T.na_Entry_deleted)) (jl_nil)))) (je_call (P_number_bytes_coding (c := c) T).fn (Nat.le_of_ble_eq_true rfl) rfl (jl_cons (je_fld (v_ 0) T.cl_Entry.cl T.na_Entry_time) (jl_nil)))) (JF.je (jf_lst (jl_cons (je_b1 c_len rfl T.b_len (by decide +kernel) (je_fld (v_ 0) T.cl_Entry.cl T.na_Entry_blocks)) (jl_nil)))))))
    (jb_cons (js_for (ji_tup (je_fld (v_ 0) T.cl_Entry.cl T.na_Entry_blocks)) (tg_ 3 sc_entry_bytes.nd) (jb_one (js_expr (je_ext (v_ 2) (je_call (P_data_bytes (c := c) T).fn (Nat.le_of_ble_eq_true rfl) rfl (jl_cons (je_call (P_block_bytes (c := c) T).fn (Nat.le_of_ble_eq_true rfl) rfl (jl_cons (v_ 3) (jl_nil))) (jl_nil)))))))
    (jb_one (js_ret (JE.frz (v_ 2)))))))
theorem P_entry_bytes (T : Facts c C_Entry C_Reader C_FolderkinError C_InvalidBlock C_InvalidBytes gX) : PrF c 4 "entry_bytes" ["entry", "number"] [] [] (f_entry_bytes C_Entry C_Reader C_FolderkinError C_InvalidBlock C_InvalidBytes gX) := T.a_entry_bytes.runP sc_entry_bytes (jb_entry_bytes T)
theorem jb_Reader_init (T : Facts c C_Entry C_Reader C_FolderkinError C_InvalidBlock C_InvalidBytes gX) : JB (c.at_ 0) ["self", "data", "at"] (defScope s_Reader_init) (defBody s_Reader_init) (m_Reader_init C_Entry C_Reader C_FolderkinError C_InvalidBlock C_InvalidBytes gX) :=
  jb_cons (js_seta T.cl_Reader.cl T.na_Reader_data (v_ 1) (v_ 0))
    (jb_one (js_seta T.cl_Reader.cl T.na_Reader_at (v_ 2) (v_ 0)))
theorem P_Reader_init (T : Facts c C_Entry C_Reader C_FolderkinError C_InvalidBlock C_InvalidBytes gX) : PrI c 1 C_Reader "Reader" ["self", "data", "at"] [V.int 0] [0] (f_Reader_init C_Entry C_Reader C_FolderkinError C_InvalidBlock C_InvalidBytes gX) := T.a_Reader_init.run sc_Reader_init (jb_Reader_init T)
theorem jb_Reader_byte (T : Facts c C_Entry C_Reader C_FolderkinError C_InvalidBlock C_InvalidBytes gX) : JB (c.at_ 2) ["self", "least", "most"] (defScope s_Reader_byte) (defBody s_Reader_byte) (m_Reader_byte C_Entry C_Reader C_FolderkinError C_InvalidBlock C_InvalidBytes gX) :=
  jb_cons (js_if (jt_w (jw_or (jt_cmp o_ge (je_fld (v_ 0) T.cl_Reader.cl T.na_Reader_at) (je_b1 c_len rfl T.b_len (by decide +kernel) (je_fld (v_ 0) T.cl_Reader.cl T.na_Reader_data))) (jw_or1 (jt_not (jt_chain o_le o_le (v_ 1) (je_ix o_ix (je_fld (v_ 0) T.cl_Reader.cl T.na_Reader_data) (je_fld (v_ 0) T.cl_Reader.cl T.na_Reader_at)) (v_ 2)))))) (jb_one (js_raise T.x_InvalidBytes (Nat.le_of_ble_eq_true rfl) rfl (je_fld (v_ 0) T.cl_Reader.cl T.na_Reader_at))) (jb_nil))
    (jb_cons (js_auga o_iadd T.cl_Reader.cl T.na_Reader_at (v_ 0) (ce_int))
    (jb_one (js_ret (je_ix o_ix (je_fld (v_ 0) T.cl_Reader.cl T.na_Reader_data) (ce_op o_sub (je_fld (v_ 0) T.cl_Reader.cl T.na_Reader_at) (ce_int))))))
theorem P_Reader_byte (T : Facts c C_Entry C_Reader C_FolderkinError C_InvalidBlock C_InvalidBytes gX) : PrM c 3 C_Reader "byte" ["self", "least", "most"] [V.int 0, V.int 255] [0, 1] (f_Reader_byte C_Entry C_Reader C_FolderkinError C_InvalidBlock C_InvalidBytes gX) := T.a_Reader_byte.runP sc_Reader_byte (jb_Reader_byte T)
theorem jb_Reader_number (T : Facts c C_Entry C_Reader C_FolderkinError C_InvalidBlock C_InvalidBytes gX) : JB (c.at_ 3) ["self", "least", "number"] (defScope s_Reader_number) (defBody s_Reader_number) (m_Reader_number C_Entry C_Reader C_FolderkinError C_InvalidBlock C_InvalidBytes gX) :=
  jb_cons (set_ 2 sc_Reader_number.nd (je_meth0 T.cl_Reader.cl ((P_Reader_byte (c := c) T).mtd (np := 0) 0 [.int 0, .int 255] (by simp) (fun H => by repeat constructor)) (Nat.le_of_ble_eq_true rfl) (v_ 0)))
    (jb_cons (set_ 2 sc_Reader_number.nd (ce_op o_add (ce_op o_mul (v_ 2) (ce_int)) (je_meth0 T.cl_Reader.cl ((P_Reader_byte (c := c) T).mtd (np := 0) 0 [.int 0, .int 255] (by simp) (fun H => by repeat constructor)) (Nat.le_of_ble_eq_true rfl) (v_ 0))))
    (jb_cons (set_ 2 sc_Reader_number.nd (ce_op o_add (ce_op o_mul (v_ 2) (ce_int)) (je_meth0 T.cl_Reader.cl ((P_Reader_byte (c := c) T).mtd (np := 0) 0 [.int 0, .int 255] (by simp) (fun H => by repeat constructor)) (Nat.le_of_ble_eq_true rfl) (v_ 0))))
    (jb_one (js_ret (ce_op o_add (ce_op o_mul (v_ 2) (ce_int)) (je_meth T.cl_Reader.cl ((P_Reader_byte (c := c) T).mtd (np := 1) 1 [.int 255] (by simp) (fun H => by repeat constructor)) (Nat.le_of_ble_eq_true rfl) (v_ 0) (jl_cons (je_if (jt_cmp o_eq (v_ 2) (ce_int)) (v_ 1) (ce_int)) (jl_nil))))))))
theorem P_Reader_number (T : Facts c C_Entry C_Reader C_FolderkinError C_InvalidBlock C_InvalidBytes gX) : PrM c 4 C_Reader "number" ["self", "least"] [V.int 0] [0] (f_Reader_number C_Entry C_Reader C_FolderkinError C_InvalidBlock C_InvalidBytes gX) := T.a_Reader_number.runP sc_Reader_number (jb_Reader_number T)
theorem jb_Reader_device (T : Facts c C_Entry C_Reader C_FolderkinError C_InvalidBlock C_InvalidBytes gX) : JB (c.at_ 3) ["self"] (defScope s_Reader_device) (defBody s_Reader_device) (m_Reader_device C_Entry C_Reader C_FolderkinError C_InvalidBlock C_InvalidBytes gX) :=
  jb_one (js_ret (je_meth T.cl_Reader.cl (P_Reader_byte (c := c) T).mt (Nat.le_of_ble_eq_true rfl) (v_ 0) (jl_cons (ce_int) (jl_cons (g_int (hm := T.k_MOST_DEVICE)) (jl_nil)))))
theorem P_Reader_device (T : Facts c C_Entry C_Reader C_FolderkinError C_InvalidBlock C_InvalidBytes gX) : PrM c 4 C_Reader "device" ["self"] [] [] (f_Reader_device C_Entry C_Reader C_FolderkinError C_InvalidBlock C_InvalidBytes gX) := T.a_Reader_device.runP sc_Reader_device (jb_Reader_device T)
theorem jb_Reader_name (T : Facts c C_Entry C_Reader C_FolderkinError C_InvalidBlock C_InvalidBytes gX) : JB (c.at_ 3) ["self", "name", "count", "char"] (defScope s_Reader_name) (defBody s_Reader_name) (m_Reader_name C_Entry C_Reader C_FolderkinError C_InvalidBlock C_InvalidBytes gX) :=
  jb_cons (set_ 1 sc_Reader_name.nd (ce_str))
    (jb_cons (js_for (ji_range1 rfl T.b_range (jl_cons (je_meth T.cl_Reader.cl (P_Reader_byte (c := c) T).mt (Nat.le_of_ble_eq_true rfl) (v_ 0) (jl_cons (ce_int) (jl_cons (g_int (hm := T.k_MOST_NAME)) (jl_nil)))) (jl_nil))) (tg_ 2 sc_Reader_name.nd) (jb_cons (set_ 3 sc_Reader_name.nd (je_call (P_character_of (c := c) T).fn (Nat.le_of_ble_eq_true rfl) rfl (jl_cons (je_meth0 T.cl_Reader.cl ((P_Reader_byte (c := c) T).mtd (np := 0) 0 [.int 0, .int 255] (by simp) (fun H => by repeat constructor)) (Nat.le_of_ble_eq_true rfl) (v_ 0)) (jl_nil))))
    (jb_cons (js_if (jt_cmp o_is (v_ 3) (ce_non)) (jb_one (js_raise T.x_InvalidBytes (Nat.le_of_ble_eq_true rfl) rfl (ce_op o_sub (je_fld (v_ 0) T.cl_Reader.cl T.na_Reader_at) (ce_int)))) (jb_nil))
    (jb_one (js_aug (i := 1) sc_Reader_name.nd o_iadd (v_ 3))))))
    (jb_one (js_ret (v_ 1))))
theorem P_Reader_name (T : Facts c C_Entry C_Reader C_FolderkinError C_InvalidBlock C_InvalidBytes gX) : PrM c 4 C_Reader "name" ["self"] [] [] (f_Reader_name C_Entry C_Reader C_FolderkinError C_InvalidBlock C_InvalidBytes gX) := T.a_Reader_name.runP sc_Reader_name (jb_Reader_name T)
theorem jb_Reader_vector (T : Facts c C_Entry C_Reader C_FolderkinError C_InvalidBlock C_InvalidBytes gX) : JB (c.at_ 4) ["self", "pairs", "device", "rest"] (defScope s_Reader_vector) (defBody s_Reader_vector) (m_Reader_vector C_Entry C_Reader C_FolderkinError C_InvalidBlock C_InvalidBytes gX) :=
  jb_cons (set_ 1 sc_Reader_vector.nd (JF.new (jf_lst (jl_nil))))
    (jb_cons (set_ 2 sc_Reader_vector.nd (ce_int))
    (jb_cons (js_for (ji_range3 rfl T.b_range (jl_cons (ce_op o_sub (je_meth T.cl_Reader.cl (P_Reader_byte (c := c) T).mt (Nat.le_of_ble_eq_true rfl) (v_ 0) (jl_cons (ce_int) (jl_cons (g_int (hm := T.k_MOST_DEVICE)) (jl_nil)))) (ce_int)) (jl_cons (je_neg (ce_int)) (jl_cons (je_neg (ce_int)) (jl_nil))))) (tg_ 3 sc_Reader_vector.nd) (jb_cons (set_ 2 sc_Reader_vector.nd (je_meth T.cl_Reader.cl (P_Reader_byte (c := c) T).mt (Nat.le_of_ble_eq_true rfl) (v_ 0) (jl_cons (ce_op o_add (v_ 2) (ce_int)) (jl_cons (ce_op o_sub (g_int (hm := T.k_MOST_DEVICE)) (v_ 3)) (jl_nil)))))
    (jb_one (js_expr (je_mut mu_append PySem.F.slot_list_append PySem.F.type_list_append (v_ 1) (jl_cons (je_tup (jl_cons (v_ 2) (jl_cons (je_meth T.cl_Reader.cl (P_Reader_number (c := c) T).mt (Nat.le_of_ble_eq_true rfl) (v_ 0) (jl_cons (ce_int) (jl_nil))) (jl_nil)))) (jl_nil)))))))
    (jb_one (js_ret (je_t1 c_tuple rfl T.b_tuple (by decide +kernel) (v_ 1))))))
theorem P_Reader_vector (T : Facts c C_Entry C_Reader C_FolderkinError C_InvalidBlock C_InvalidBytes gX) : PrM c 5 C_Reader "vector" ["self"] [] [] (f_Reader_vector C_Entry C_Reader C_FolderkinError C_InvalidBlock C_InvalidBytes gX) := T.a_Reader_vector.runP sc_Reader_vector (jb_Reader_vector T)
theorem jb_Reader_row (T : Facts c C_Entry C_Reader C_FolderkinError C_InvalidBlock C_InvalidBytes gX) : JB (c.at_ 3) ["self", "least", "count"] (defScope s_Reader_row) (defBody s_Reader_row) (m_Reader_row C_Entry C_Reader C_FolderkinError C_InvalidBlock C_InvalidBytes gX) :=
  jb_one (js_ret (JF.je (jf_lcX (own := [("count", 2)]) (oc := []) sc_Reader_row.nd (ji_range1 rfl T.b_range (jl_cons (je_meth T.cl_Reader.cl (P_Reader_byte (c := c) T).mt (Nat.le_of_ble_eq_true rfl) (v_ 0) (jl_cons (v_ 1) (jl_cons (g_int (hm := T.k_BLOCK)) (jl_nil)))) (jl_nil))) (blkOk_by (by decide +kernel)) (tg_ 2 sc_Reader_row.nd) (jts_nil) (je_meth0 T.cl_Reader.cl ((P_Reader_byte (c := c) T).mtd (np := 0) 0 [.int 0, .int 255] (by simp) (fun H => by repeat constructor)) (Nat.le_of_ble_eq_true rfl) (v_ 0)))))
theorem P_Reader_row (T : Facts c C_Entry C_Reader C_FolderkinError C_InvalidBlock C_InvalidBytes gX) : PrM c 4 C_Reader "row" ["self", "least"] [V.int 1] [] (f_Reader_row C_Entry C_Reader C_FolderkinError C_InvalidBlock C_InvalidBytes gX) := T.a_Reader_row.runP sc_Reader_row (jb_Reader_row T)
theorem jb_Reader_block (T : Facts c C_Entry C_Reader C_FolderkinError C_InvalidBlock C_InvalidBytes gX) : JB (c.at_ 4) ["self", "least"] (defScope s_Reader_block) (defBody s_Reader_block) (m_Reader_block C_Entry C_Reader C_FolderkinError C_InvalidBlock C_InvalidBytes gX) :=
  jb_one (js_ret (je_call (P_block_number (c := c) T).fn (Nat.le_of_ble_eq_true rfl) rfl (jl_cons (je_meth T.cl_Reader.cl (P_Reader_row (c := c) T).mt (Nat.le_of_ble_eq_true rfl) (v_ 0) (jl_cons (v_ 1) (jl_nil))) (jl_nil))))
theorem P_Reader_block (T : Facts c C_Entry C_Reader C_FolderkinError C_InvalidBlock C_InvalidBytes gX) : PrM c 5 C_Reader "block" ["self", "least"] [V.int 1] [] (f_Reader_block C_Entry C_Reader C_FolderkinError C_InvalidBlock C_InvalidBytes gX) := T.a_Reader_block.runP sc_Reader_block (jb_Reader_block T)
theorem jb_Reader_entry (T : Facts c C_Entry C_Reader C_FolderkinError C_InvalidBlock C_InvalidBytes gX) : JB (c.at_ 5) ["self", "number", "name", "vector", "height", "maker", "deleted", "time", "blocks", "rest"] (defScope s_Reader_entry) (defBody s_Reader_entry) (m_Reader_entry C_Entry C_Reader C_FolderkinError C_InvalidBlock C_InvalidBytes gX) :=
  jb_cons (set_ 1 sc_Reader_entry.nd (je_meth T.cl_Reader.cl (P_Reader_number (c := c) T).mt (Nat.le_of_ble_eq_true rfl) (v_ 0) (jl_cons (ce_int) (jl_nil))))
    (jb_cons (set_ 2 sc_Reader_entry.nd (je_meth0 T.cl_Reader.cl (P_Reader_name (c := c) T).mt (Nat.le_of_ble_eq_true rfl) (v_ 0)))
    (jb_cons (set_ 3 sc_Reader_entry.nd (je_meth0 T.cl_Reader.cl (P_Reader_vector (c := c) T).mt (Nat.le_of_ble_eq_true rfl) (v_ 0)))
    (jb_cons (set_ 4 sc_Reader_entry.nd (je_meth T.cl_Reader.cl (P_Reader_number (c := c) T).mt (Nat.le_of_ble_eq_true rfl) (v_ 0) (jl_cons (ce_int) (jl_nil))))
    (jb_cons (set_ 5 sc_Reader_entry.nd (je_tup (jl_cons (je_meth0 T.cl_Reader.cl (P_Reader_device (c := c) T).mt (Nat.le_of_ble_eq_true rfl) (v_ 0)) (jl_cons (je_meth T.cl_Reader.cl (P_Reader_number (c := c) T).mt (Nat.le_of_ble_eq_true rfl) (v_ 0) (jl_cons (ce_int) (jl_nil))) (jl_nil)))))
    (jb_cons (set_ 6 sc_Reader_entry.nd (ce_cmp o_eq (je_meth T.cl_Reader.cl (P_Reader_byte (c := c) T).mt (Nat.le_of_ble_eq_true rfl) (v_ 0) (jl_cons (ce_int) (jl_cons (ce_int) (jl_nil)))) (ce_int)))
    (jb_cons (set_ 7 sc_Reader_entry.nd (je_meth0 T.cl_Reader.cl ((P_Reader_number (c := c) T).mtd (np := 0) 0 [.int 0] (by simp) (fun H => by repeat constructor)) (Nat.le_of_ble_eq_true rfl) (v_ 0)))
    (jb_cons (set_ 8 sc_Reader_entry.nd (JF.new (jf_lst (jl_nil))))
    (jb_cons (js_for (ji_range3 rfl T.b_range (jl_cons (ce_op o_sub (je_meth T.cl_Reader.cl (P_Reader_byte (c := c) T).mt (Nat.le_of_ble_eq_true rfl) (v_ 0) (jl_cons (ce_int) (jl_cons (je_if (jt_val (v_ 6)) (ce_int) (g_int (hm := T.k_MOST_BLOCKS))) (jl_nil)))) (ce_int)) (jl_cons (je_neg (ce_int)) (jl_cons (je_neg (ce_int)) (jl_nil))))) (tg_ 9 sc_Reader_entry.nd) (jb_one (js_expr (je_mut mu_append PySem.F.slot_list_append PySem.F.type_list_append (v_ 8) (jl_cons (je_meth T.cl_Reader.cl (P_Reader_block (c := c) T).mt (Nat.le_of_ble_eq_true rfl) (v_ 0) (jl_cons (je_if (jt_cmp o_eq (v_ 9) (ce_int)) (ce_int) (g_int (hm := T.k_BLOCK))) (jl_nil))) (jl_nil))))))
    (jb_one (js_ret (je_tup (jl_cons (JE.frz (je_mk (P_Entry_init (c := c) T).mk_ (Nat.le_of_ble_eq_true rfl) rfl (jl_cons (v_ 2) (jl_cons (v_ 3) (jl_cons (v_ 4) (jl_cons (v_ 5) (jl_cons (v_ 6) (jl_cons (v_ 7) (jl_cons (je_t1 c_tuple rfl T.b_tuple (by decide +kernel) (v_ 8)) (jl_nil)))))))))) (jl_cons (v_ 1) (jl_nil))))))))))))))
theorem P_Reader_entry (T : Facts c C_Entry C_Reader C_FolderkinError C_InvalidBlock C_InvalidBytes gX) : PrM c 6 C_Reader "entry" ["self"] [] [] (f_Reader_entry C_Entry C_Reader C_FolderkinError C_InvalidBlock C_InvalidBytes gX) := T.a_Reader_entry.runP sc_Reader_entry (jb_Reader_entry T)
theorem jb_number_bytes_book (T : Facts c C_Entry C_Reader C_FolderkinError C_InvalidBlock C_InvalidBytes gX) : JB (c.at_ 0) ["number", "width", "k"] (defScope s_number_bytes_book) (defBody s_number_bytes_book) (m_number_bytes_book C_Entry C_Reader C_FolderkinError C_InvalidBlock C_InvalidBytes gX) :=
  jb_one (js_ret (JF.je (jf_lc (own := [("k", 2)]) (oc := []) sc_number_bytes_book.nd (ji_range1 rfl T.b_range (jl_cons (v_ 1) (jl_nil))) (blkOk_by (by decide +kernel)) (tg_ 2 sc_number_bytes_book.nd) (jts_nil) (ce_op o_and (ce_op o_shr (v_ 0) (ce_op o_mul (ce_int) (ce_op o_sub (ce_op o_sub (v_ 1) (ce_int)) (v_ 2)))) (ce_int)))))
theorem P_number_bytes_book (T : Facts c C_Entry C_Reader C_FolderkinError C_InvalidBlock C_InvalidBytes gX) : PrF c 1 "number_bytes_book" ["number", "width"] [] [] (f_number_bytes_book C_Entry C_Reader C_FolderkinError C_InvalidBlock C_InvalidBytes gX) := T.a_number_bytes_book.runP sc_number_bytes_book (jb_number_bytes_book T)
theorem jb_check_of (T : Facts c C_Entry C_Reader C_FolderkinError C_InvalidBlock C_InvalidBytes gX) : JB (c.at_ 0) ["data", "first", "second", "byte"] (defScope s_check_of) (defBody s_check_of) (m_check_of C_Entry C_Reader C_FolderkinError C_InvalidBlock C_InvalidBytes gX) :=
  jb_cons (set_ 1 sc_check_of.nd (ce_int))
    (jb_cons (set_ 2 sc_check_of.nd (ce_int))
    (jb_cons (js_for (ji_list (v_ 0)) (tg_ 3 sc_check_of.nd) (jb_cons (set_ 1 sc_check_of.nd (ce_op o_mod (ce_op o_add (v_ 1) (v_ 3)) (ce_int)))
    (jb_one (set_ 2 sc_check_of.nd (ce_op o_mod (ce_op o_add (v_ 2) (v_ 1)) (ce_int))))))
    (jb_one (js_ret (JF.je (jf_lst (jl_cons (v_ 1) (jl_cons (v_ 2) (jl_nil)))))))))
theorem P_check_of (T : Facts c C_Entry C_Reader C_FolderkinError C_InvalidBlock C_InvalidBytes gX) : PrF c 1 "check_of" ["data"] [] [] (f_check_of C_Entry C_Reader C_FolderkinError C_InvalidBlock C_InvalidBytes gX) := T.a_check_of.runP sc_check_of (jb_check_of T)
theorem jb_sealed (T : Facts c C_Entry C_Reader C_FolderkinError C_InvalidBlock C_InvalidBytes gX) : JB (c.at_ 1) ["body", "data"] (defScope s_sealed) (defBody s_sealed) (m_sealed C_Entry C_Reader C_FolderkinError C_InvalidBlock C_InvalidBytes gX) :=
  jb_cons (set_ 1 sc_sealed.nd (ce_op o_add (je_call (P_number_bytes_book (c := c) T).fn (Nat.le_of_ble_eq_true rfl) rfl (jl_cons (je_b1 c_len rfl T.b_len (by decide +kernel) (v_ 0)) (jl_cons (ce_int) (jl_nil)))) (v_ 0)))
    (jb_one (js_ret (ce_op o_add (v_ 1) (je_call (P_check_of (c := c) T).fn (Nat.le_of_ble_eq_true rfl) rfl (jl_cons (v_ 1) (jl_nil))))))
theorem P_sealed (T : Facts c C_Entry C_Reader C_FolderkinError C_InvalidBlock C_InvalidBytes gX) : PrF c 2 "sealed" ["body"] [] [] (f_sealed C_Entry C_Reader C_FolderkinError C_InvalidBlock C_InvalidBytes gX) := T.a_sealed.runP sc_sealed (jb_sealed T)
theorem jb_record_of (T : Facts c C_Entry C_Reader C_FolderkinError C_InvalidBlock C_InvalidBytes gX) : JB (c.at_ 4) ["entry", "number"] (defScope s_record_of) (defBody s_record_of) (m_record_of C_Entry C_Reader C_FolderkinError C_InvalidBlock C_InvalidBytes gX) :=
  jb_one (js_ret (je_call (P_sealed (c := c) T).fn (Nat.le_of_ble_eq_true rfl) rfl (jl_cons (ce_op o_add (JF.je (jf_lst (jl_cons (g_int (hm := T.k_OWN)) (jl_nil)))) (je_call (P_entry_bytes (c := c) T).fn (Nat.le_of_ble_eq_true rfl) rfl (jl_cons (v_ 0) (jl_cons (v_ 1) (jl_nil))))) (jl_nil))))
theorem P_record_of (T : Facts c C_Entry C_Reader C_FolderkinError C_InvalidBlock C_InvalidBytes gX) : PrF c 5 "record_of" ["entry", "number"] [] [] (f_record_of C_Entry C_Reader C_FolderkinError C_InvalidBlock C_InvalidBytes gX) := T.a_record_of.runP sc_record_of (jb_record_of T)
theorem jb_intent_record (T : Facts c C_Entry C_Reader C_FolderkinError C_InvalidBlock C_InvalidBytes gX) : JB (c.at_ 4) ["entry", "number"] (defScope s_intent_record) (defBody s_intent_record) (m_intent_record C_Entry C_Reader C_FolderkinError C_InvalidBlock C_InvalidBytes gX) :=
  jb_one (js_ret (je_call (P_sealed (c := c) T).fn (Nat.le_of_ble_eq_true rfl) rfl (jl_cons (ce_op o_add (JF.je (jf_lst (jl_cons (g_int (hm := T.k_INTENT)) (jl_nil)))) (je_call (P_entry_bytes (c := c) T).fn (Nat.le_of_ble_eq_true rfl) rfl (jl_cons (v_ 0) (jl_cons (v_ 1) (jl_nil))))) (jl_nil))))
theorem P_intent_record (T : Facts c C_Entry C_Reader C_FolderkinError C_InvalidBlock C_InvalidBytes gX) : PrF c 5 "intent_record" ["entry", "number"] [] [] (f_intent_record C_Entry C_Reader C_FolderkinError C_InvalidBlock C_InvalidBytes gX) := T.a_intent_record.runP sc_intent_record (jb_intent_record T)
theorem jb_peer_record (T : Facts c C_Entry C_Reader C_FolderkinError C_InvalidBlock C_InvalidBytes gX) : JB (c.at_ 4) ["device", "entry", "number"] (defScope s_peer_record) (defBody s_peer_record) (m_peer_record C_Entry C_Reader C_FolderkinError C_InvalidBlock C_InvalidBytes gX) :=
  jb_one (js_ret (je_call (P_sealed (c := c) T).fn (Nat.le_of_ble_eq_true rfl) rfl (jl_cons (ce_op o_add (JF.je (jf_lst (jl_cons (g_int (hm := T.k_PEER)) (jl_cons (v_ 0) (jl_nil))))) (je_call (P_entry_bytes (c := c) T).fn (Nat.le_of_ble_eq_true rfl) rfl (jl_cons (v_ 1) (jl_cons (v_ 2) (jl_nil))))) (jl_nil))))
theorem P_peer_record (T : Facts c C_Entry C_Reader C_FolderkinError C_InvalidBlock C_InvalidBytes gX) : PrF c 5 "peer_record" ["device", "entry", "number"] [] [] (f_peer_record C_Entry C_Reader C_FolderkinError C_InvalidBlock C_InvalidBytes gX) := T.a_peer_record.runP sc_peer_record (jb_peer_record T)
theorem jb_upto_record (T : Facts c C_Entry C_Reader C_FolderkinError C_InvalidBlock C_InvalidBytes gX) : JB (c.at_ 2) ["device", "number"] (defScope s_upto_record) (defBody s_upto_record) (m_upto_record C_Entry C_Reader C_FolderkinError C_InvalidBlock C_InvalidBytes gX) :=
  jb_one (js_ret (je_call (P_sealed (c := c) T).fn (Nat.le_of_ble_eq_true rfl) rfl (jl_cons (ce_op o_add (JF.je (jf_lst (jl_cons (g_int (hm := T.k_UPTO)) (jl_cons (v_ 0) (jl_nil))))) (je_call (P_number_bytes_book (c := c) T).fn (Nat.le_of_ble_eq_true rfl) rfl (jl_cons (v_ 1) (jl_cons (ce_int) (jl_nil))))) (jl_nil))))
theorem P_upto_record (T : Facts c C_Entry C_Reader C_FolderkinError C_InvalidBlock C_InvalidBytes gX) : PrF c 3 "upto_record" ["device", "number"] [] [] (f_upto_record C_Entry C_Reader C_FolderkinError C_InvalidBlock C_InvalidBytes gX) := T.a_upto_record.runP sc_upto_record (jb_upto_record T)
theorem jb_read_body (T : Facts c C_Entry C_Reader C_FolderkinError C_InvalidBlock C_InvalidBytes gX) : JB (c.at_ 6) ["body", "reader", "kind", "device", "entry", "number"] (defScope s_read_body) (defBody s_read_body) (m_read_body C_Entry C_Reader C_FolderkinError C_InvalidBlock C_InvalidBytes gX) :=
  jb_cons (set_ 1 sc_read_body.nd (je_mk ((P_Reader_init (c := c) T).mkd (np := 1) 0 [.int 0] (by simp) (fun H => by repeat constructor)) (Nat.le_of_ble_eq_true rfl) rfl (jl_cons (v_ 0) (jl_nil))))
    (jb_cons (set_ 2 sc_read_body.nd (je_meth T.cl_Reader.cl (P_Reader_byte (c := c) T).mt (Nat.le_of_ble_eq_true rfl) (v_ 1) (jl_cons (g_int (hm := T.k_OWN)) (jl_cons (g_int (hm := T.k_INTENT)) (jl_nil)))))
    (jb_cons (set_ 3 sc_read_body.nd (ce_int))
    (jb_cons (set_ 4 sc_read_body.nd (ce_non))
    (jb_cons (js_if (jt_w (jw_or (jt_cmp o_eq (v_ 2) (g_int (hm := T.k_PEER))) (jw_or1 (jt_cmp o_eq (v_ 2) (g_int (hm := T.k_UPTO)))))) (jb_one (set_ 3 sc_read_body.nd (je_meth0 T.cl_Reader.cl (P_Reader_device (c := c) T).mt (Nat.le_of_ble_eq_true rfl) (v_ 1)))) (jb_nil))
    (jb_cons (js_if (jt_cmp o_eq (v_ 2) (g_int (hm := T.k_UPTO))) (jb_one (set_ 5 sc_read_body.nd (je_meth0 T.cl_Reader.cl ((P_Reader_number (c := c) T).mtd (np := 0) 0 [.int 0] (by simp) (fun H => by repeat constructor)) (Nat.le_of_ble_eq_true rfl) (v_ 1)))) (jb_one (js_asg (je_meth0 T.cl_Reader.cl (P_Reader_entry (c := c) T).mt (Nat.le_of_ble_eq_true rfl) (v_ 1)) (jtg_tup (jtgs_cons (tg_ 4 sc_read_body.nd) (jtgs_cons (tg_ 5 sc_read_body.nd) (jtgs_nil)))))))
    (jb_cons (js_if (jt_cmp o_ne (je_fld (v_ 1) T.cl_Reader.cl T.na_Reader_at) (je_b1 c_len rfl T.b_len (by decide +kernel) (v_ 0))) (jb_one (js_raise T.x_InvalidBytes (Nat.le_of_ble_eq_true rfl) rfl (je_fld (v_ 1) T.cl_Reader.cl T.na_Reader_at))) (jb_nil))
    (jb_one (js_ret (je_tup (jl_cons (v_ 2) (jl_cons (v_ 3) (jl_cons (v_ 4) (jl_cons (v_ 5) (jl_nil))))))))))))))
theorem P_read_body (T : Facts c C_Entry C_Reader C_FolderkinError C_InvalidBlock C_InvalidBytes gX) : PrF c 7 "read_body" ["body"] [] [] (f_read_body C_Entry C_Reader C_FolderkinError C_InvalidBlock C_InvalidBytes gX) := T.a_read_body.runP sc_read_body (jb_read_body T)
theorem jb_read_log (T : Facts c C_Entry C_Reader C_FolderkinError C_InvalidBlock C_InvalidBytes gX) : JB (c.at_ 7) ["data", "found", "at", "stop"] (defScope s_read_log) (defBody s_read_log) (m_read_log C_Entry C_Reader C_FolderkinError C_InvalidBlock C_InvalidBytes gX) :=
  jb_cons (set_ 1 sc_read_log.nd (JF.new (jf_lst (jl_nil))))
    (jb_cons (set_ 2 sc_read_log.nd (ce_int))
    (jb_cons (js_while (jt_cmp o_le (ce_op o_add (v_ 2) (ce_int)) (je_b1 c_len rfl T.b_len (by decide +kernel) (v_ 0))) (jb_cons (set_ 3 sc_read_log.nd (ce_op o_add (ce_op o_add (ce_op o_add (v_ 2) (ce_int)) (ce_op o_mul (je_ix o_ix (v_ 0) (v_ 2)) (ce_int))) (je_ix o_ix (v_ 0) (ce_op o_add (v_ 2) (ce_int)))))
    (jb_cons (js_if (jt_w (jw_or (jt_cmp o_gt (ce_op o_add (v_ 3) (ce_int)) (je_b1 c_len rfl T.b_len (by decide +kernel) (v_ 0))) (jw_or1 (jt_cmp o_ne (je_cut (v_ 0) (jp_some (v_ 3)) (jp_some (ce_op o_add (v_ 3) (ce_int)))) (je_call (P_check_of (c := c) T).fn (Nat.le_of_ble_eq_true rfl) rfl (jl_cons (je_cut (v_ 0) (jp_some (v_ 2)) (jp_some (v_ 3))) (jl_nil))))))) (jb_frz (i := 1) (jb_one (js_ret (je_tup (jl_cons (v_ 1) (jl_cons (v_ 2) (jl_nil))))))) (jb_nil))
    (jb_cons (js_try rfl T.x_InvalidBytes.mg (exm_InvalidBytes_ok (c := c) T) (jb_one (js_expr (je_mut mu_append PySem.F.slot_list_append PySem.F.type_list_append (v_ 1) (jl_cons (je_call (P_read_body (c := c) T).fn (Nat.le_of_ble_eq_true rfl) rfl (jl_cons (je_cut (v_ 0) (jp_some (ce_op o_add (v_ 2) (ce_int))) (jp_some (v_ 3))) (jl_nil))) (jl_nil))))) (jb_frz (i := 1) (jb_one (js_ret (je_tup (jl_cons (v_ 1) (jl_cons (v_ 2) (jl_nil))))))))
    (jb_one (set_ 2 sc_read_log.nd (ce_op o_add (v_ 3) (ce_int))))))))
    (jb_frz (i := 1) (jb_one (js_ret (je_tup (jl_cons (v_ 1) (jl_cons (v_ 2) (jl_nil)))))))))
theorem P_read_log (T : Facts c C_Entry C_Reader C_FolderkinError C_InvalidBlock C_InvalidBytes gX) : PrF c 8 "read_log" ["data"] [] [] (f_read_log C_Entry C_Reader C_FolderkinError C_InvalidBlock C_InvalidBytes gX) := T.a_read_log.runP sc_read_log (jb_read_log T)
theorem jb_law_draw (T : Facts c C_Entry C_Reader C_FolderkinError C_InvalidBlock C_InvalidBytes gX) : JB (c.at_ 0) ["_law_state", "_law_script", "_law_size", "_law_digit", "_law_cell", "_law_mixed"] (defScope s_law_draw) (defBody s_law_draw) (m_law_draw C_Entry C_Reader C_FolderkinError C_InvalidBlock C_InvalidBytes gX) :=
  jb_cons (js_if (jt_cmp o_eq (je_ix o_ix (v_ 0) (ce_int)) (ce_int)) (jb_cons (set_ 4 sc_law_draw.nd (ce_int))
    (jb_cons (js_if (jt_cmp o_gt (je_b1 c_len rfl T.b_len (by decide +kernel) (v_ 1)) (ce_int)) (jb_one (set_ 4 sc_law_draw.nd (je_ix o_ix (v_ 1) (ce_op o_mod (je_ix o_ix (v_ 0) (ce_int)) (je_b1 c_len rfl T.b_len (by decide +kernel) (v_ 1)))))) (jb_nil))
    (jb_cons (js_if (jt_cmp o_lt (v_ 4) (ce_int)) (jb_one (set_ 4 sc_law_draw.nd (ce_op o_sub (ce_int) (ce_op o_mul (ce_int) (v_ 4))))) (jb_nil))
    (jb_cons (set_ 5 sc_law_draw.nd (ce_op o_mod (je_t1 c_int rfl T.b_int (by decide +kernel) (ce_op o_mul (ce_op o_add (ce_op o_add (v_ 4) (ce_op o_mul (je_ix o_ix (v_ 0) (ce_int)) (ce_int))) (ce_int)) (ce_int))) (ce_int)))
    (jb_cons (js_seti (ce_op o_mod (je_t1 c_int rfl T.b_int (by decide +kernel) (ce_op o_add (ce_op o_mul (v_ 5) (ce_int)) (ce_op o_mul (je_ix o_ix (v_ 0) (ce_int)) (ce_int)))) (ce_int)) (v_ 0) (ce_int))
    (jb_cons (js_if (jt_w (jw_and (jt_cmp o_ge (v_ 4) (ce_op o_pow (ce_int) (ce_int))) (jw_and1 (jt_cmp o_lt (je_ix o_ix (v_ 0) (ce_int)) (je_b1 c_len rfl T.b_len (by decide +kernel) (v_ 1)))))) (jb_one (js_seti (v_ 4) (v_ 0) (ce_int))) (jb_nil))
    (jb_one (js_seti (ce_op o_add (je_ix o_ix (v_ 0) (ce_int)) (ce_int)) (v_ 0) (ce_int))))))))) (jb_nil))
    (jb_cons (set_ 3 sc_law_draw.nd (ce_op o_mod (je_t1 c_int rfl T.b_int (by decide +kernel) (je_ix o_ix (v_ 0) (ce_int))) (v_ 2)))
    (jb_cons (js_seti (ce_op o_div (je_ix o_ix (v_ 0) (ce_int)) (v_ 2)) (v_ 0) (ce_int))
    (jb_one (js_ret (v_ 3)))))
theorem P_law_draw (T : Facts c C_Entry C_Reader C_FolderkinError C_InvalidBlock C_InvalidBytes gX) : PrF c 1 "_law_draw" ["_law_state", "_law_script", "_law_size"] [] [] (f_law_draw C_Entry C_Reader C_FolderkinError C_InvalidBlock C_InvalidBytes gX) := T.a_law_draw.runP sc_law_draw (jb_law_draw T)
theorem jb_law_name (T : Facts c C_Entry C_Reader C_FolderkinError C_InvalidBlock C_InvalidBytes gX) : JB (c.at_ 1) ["_law_state", "_law_script"] (defScope s_law_name) (defBody s_law_name) (m_law_name C_Entry C_Reader C_FolderkinError C_InvalidBlock C_InvalidBytes gX) :=
  jb_one (js_ret (je_ix o_ix (JF.je (jf_lst (jl_cons (ce_str) (jl_cons (ce_str) (jl_cons (ce_str) (jl_cons (ce_str) (jl_cons (ce_str) (jl_cons (ce_str) (jl_nil))))))))) (je_call (P_law_draw (c := c) T).fn (Nat.le_of_ble_eq_true rfl) rfl (jl_cons (v_ 0) (jl_cons (v_ 1) (jl_cons (ce_int) (jl_nil)))))))
theorem P_law_name (T : Facts c C_Entry C_Reader C_FolderkinError C_InvalidBlock C_InvalidBytes gX) : PrF c 2 "_law_name" ["_law_state", "_law_script"] [] [] (f_law_name C_Entry C_Reader C_FolderkinError C_InvalidBlock C_InvalidBytes gX) := T.a_law_name.runP sc_law_name (jb_law_name T)
theorem jb_law_content (T : Facts c C_Entry C_Reader C_FolderkinError C_InvalidBlock C_InvalidBytes gX) : JB (c.at_ 1) ["_law_state", "_law_script", "_law_most", "_law_words", "_law_content_here", "_law_k"] (defScope s_law_content) (defBody s_law_content) (m_law_content C_Entry C_Reader C_FolderkinError C_InvalidBlock C_InvalidBytes gX) :=
  jb_cons (set_ 3 sc_law_content.nd (JF.je (jf_lst (jl_cons (JF.je (jf_lst (jl_cons (ce_int) (jl_cons (ce_int) (jl_cons (ce_int) (jl_cons (ce_int) (jl_nil))))))) (jl_cons (JF.je (jf_lst (jl_cons (ce_int) (jl_cons (ce_int) (jl_cons (ce_int) (jl_cons (ce_int) (jl_nil))))))) (jl_cons (JF.je (jf_lst (jl_cons (ce_int) (jl_cons (ce_int) (jl_cons (ce_int) (jl_cons (ce_int) (jl_nil))))))) (jl_cons (JF.je (jf_lst (jl_cons (ce_int) (jl_nil)))) (jl_cons (JF.je (jf_lst (jl_cons (ce_int) (jl_cons (ce_int) (jl_nil))))) (jl_cons (JF.je (jf_lst (jl_cons (je_call (P_law_draw (c := c) T).fn (Nat.le_of_ble_eq_true rfl) rfl (jl_cons (v_ 0) (jl_cons (v_ 1) (jl_cons (ce_int) (jl_nil))))) (jl_cons (ce_int) (jl_cons (ce_int) (jl_cons (ce_int) (jl_nil))))))) (jl_nil))))))))))
    (jb_cons (set_ 4 sc_law_content.nd (JF.je (jf_lst (jl_nil))))
    (jb_cons (js_for (ji_range1 rfl T.b_range (jl_cons (je_call (P_law_draw (c := c) T).fn (Nat.le_of_ble_eq_true rfl) rfl (jl_cons (v_ 0) (jl_cons (v_ 1) (jl_cons (ce_op o_add (v_ 2) (ce_int)) (jl_nil))))) (jl_nil))) (tg_ 5 sc_law_content.nd) (jb_one (set_ 4 sc_law_content.nd (ce_op o_add (v_ 4) (je_ix o_ix (v_ 3) (je_call (P_law_draw (c := c) T).fn (Nat.le_of_ble_eq_true rfl) rfl (jl_cons (v_ 0) (jl_cons (v_ 1) (jl_cons (ce_int) (jl_nil))))))))))
    (jb_one (js_ret (v_ 4)))))
theorem P_law_content (T : Facts c C_Entry C_Reader C_FolderkinError C_InvalidBlock C_InvalidBytes gX) : PrF c 2 "_law_content" ["_law_state", "_law_script", "_law_most"] [] [] (f_law_content C_Entry C_Reader C_FolderkinError C_InvalidBlock C_InvalidBytes gX) := T.a_law_content.runP sc_law_content (jb_law_content T)
theorem jb_law_blocks (T : Facts c C_Entry C_Reader C_FolderkinError C_InvalidBlock C_InvalidBytes gX) : JB (c.at_ 0) ["_law_content_here", "_law_found", "_law_k", "_law_number", "_law_byte"] (defScope s_law_blocks) (defBody s_law_blocks) (m_law_blocks C_Entry C_Reader C_FolderkinError C_InvalidBlock C_InvalidBytes gX) :=
  jb_cons (set_ 1 sc_law_blocks.nd (JF.new (jf_lst (jl_nil))))
    (jb_cons (js_for (ji_range3 rfl T.b_range (jl_cons (ce_int) (jl_cons (je_b1 c_len rfl T.b_len (by decide +kernel) (v_ 0)) (jl_cons (ce_int) (jl_nil))))) (tg_ 2 sc_law_blocks.nd) (jb_cons (set_ 3 sc_law_blocks.nd (ce_int))
    (jb_cons (js_for (ji_list (je_cut (v_ 0) (jp_some (v_ 2)) (jp_some (ce_op o_add (v_ 2) (ce_int))))) (tg_ 4 sc_law_blocks.nd) (jb_one (set_ 3 sc_law_blocks.nd (ce_op o_add (ce_op o_mul (v_ 3) (ce_int)) (v_ 4)))))
    (jb_one (js_expr (je_mut mu_append PySem.F.slot_list_append PySem.F.type_list_append (v_ 1) (jl_cons (v_ 3) (jl_nil))))))))
    (jb_one (js_ret (je_t1 c_tuple rfl T.b_tuple (by decide +kernel) (v_ 1)))))
theorem P_law_blocks (T : Facts c C_Entry C_Reader C_FolderkinError C_InvalidBlock C_InvalidBytes gX) : PrF c 1 "_law_blocks" ["_law_content_here"] [] [] (f_law_blocks C_Entry C_Reader C_FolderkinError C_InvalidBlock C_InvalidBytes gX) := T.a_law_blocks.runP sc_law_blocks (jb_law_blocks T)
theorem jb_law_vector (T : Facts c C_Entry C_Reader C_FolderkinError C_InvalidBlock C_InvalidBytes gX) : JB (c.at_ 1) ["_law_state", "_law_script", "_law_pairs", "_law_device"] (defScope s_law_vector) (defBody s_law_vector) (m_law_vector C_Entry C_Reader C_FolderkinError C_InvalidBlock C_InvalidBytes gX) :=
  jb_cons (set_ 2 sc_law_vector.nd (JF.new (jf_lst (jl_nil))))
    (jb_cons (js_for (ji_range2 rfl T.b_range (jl_cons (ce_int) (jl_cons (ce_int) (jl_nil)))) (tg_ 3 sc_law_vector.nd) (jb_one (js_if (jt_cmp o_eq (je_call (P_law_draw (c := c) T).fn (Nat.le_of_ble_eq_true rfl) rfl (jl_cons (v_ 0) (jl_cons (v_ 1) (jl_cons (ce_int) (jl_nil))))) (ce_int)) (jb_one (js_expr (je_mut mu_append PySem.F.slot_list_append PySem.F.type_list_append (v_ 2) (jl_cons (je_tup (jl_cons (v_ 3) (jl_cons (je_ix o_ix (JF.je (jf_lst (jl_cons (ce_int) (jl_cons (ce_int) (jl_cons (ce_op o_add (ce_int) (je_call (P_law_draw (c := c) T).fn (Nat.le_of_ble_eq_true rfl) rfl (jl_cons (v_ 0) (jl_cons (v_ 1) (jl_cons (ce_int) (jl_nil)))))) (jl_nil)))))) (je_call (P_law_draw (c := c) T).fn (Nat.le_of_ble_eq_true rfl) rfl (jl_cons (v_ 0) (jl_cons (v_ 1) (jl_cons (ce_int) (jl_nil)))))) (jl_nil)))) (jl_nil))))) (jb_nil))))
    (jb_cons (js_if (jt_cmp o_eq (je_b1 c_len rfl T.b_len (by decide +kernel) (v_ 2)) (ce_int)) (jb_one (set_ 2 sc_law_vector.nd (JF.new (jf_lst (jl_cons (je_tup (jl_cons (ce_op o_add (ce_int) (je_call (P_law_draw (c := c) T).fn (Nat.le_of_ble_eq_true rfl) rfl (jl_cons (v_ 0) (jl_cons (v_ 1) (jl_cons (ce_int) (jl_nil)))))) (jl_cons (ce_int) (jl_nil)))) (jl_nil)))))) (jb_nil))
    (jb_one (js_ret (je_t1 c_tuple rfl T.b_tuple (by decide +kernel) (v_ 2))))))
theorem P_law_vector (T : Facts c C_Entry C_Reader C_FolderkinError C_InvalidBlock C_InvalidBytes gX) : PrF c 2 "_law_vector" ["_law_state", "_law_script"] [] [] (f_law_vector C_Entry C_Reader C_FolderkinError C_InvalidBlock C_InvalidBytes gX) := T.a_law_vector.runP sc_law_vector (jb_law_vector T)
theorem jb_law_entry (T : Facts c C_Entry C_Reader C_FolderkinError C_InvalidBlock C_InvalidBytes gX) : JB (c.at_ 2) ["_law_state", "_law_script", "_law_name_here", "_law_vector_here", "_law_time", "_law_height", "_law_maker"] (defScope s_law_entry) (defBody s_law_entry) (m_law_entry C_Entry C_Reader C_FolderkinError C_InvalidBlock C_InvalidBytes gX) :=
  jb_cons (set_ 2 sc_law_entry.nd (je_call (P_law_name (c := c) T).fn (Nat.le_of_ble_eq_true rfl) rfl (jl_cons (v_ 0) (jl_cons (v_ 1) (jl_nil)))))
    (jb_cons (set_ 3 sc_law_entry.nd (je_call (P_law_vector (c := c) T).fn (Nat.le_of_ble_eq_true rfl) rfl (jl_cons (v_ 0) (jl_cons (v_ 1) (jl_nil)))))
    (jb_cons (set_ 4 sc_law_entry.nd (je_ix o_ix (JF.je (jf_lst (jl_cons (ce_int) (jl_cons (ce_int) (jl_cons (je_call (P_law_draw (c := c) T).fn (Nat.le_of_ble_eq_true rfl) rfl (jl_cons (v_ 0) (jl_cons (v_ 1) (jl_cons (ce_int) (jl_nil))))) (jl_nil)))))) (je_call (P_law_draw (c := c) T).fn (Nat.le_of_ble_eq_true rfl) rfl (jl_cons (v_ 0) (jl_cons (v_ 1) (jl_cons (ce_int) (jl_nil)))))))
    (jb_cons (set_ 5 sc_law_entry.nd (je_ix o_ix (JF.je (jf_lst (jl_cons (ce_int) (jl_cons (ce_int) (jl_cons (ce_op o_add (ce_int) (je_call (P_law_draw (c := c) T).fn (Nat.le_of_ble_eq_true rfl) rfl (jl_cons (v_ 0) (jl_cons (v_ 1) (jl_cons (ce_int) (jl_nil)))))) (jl_nil)))))) (je_call (P_law_draw (c := c) T).fn (Nat.le_of_ble_eq_true rfl) rfl (jl_cons (v_ 0) (jl_cons (v_ 1) (jl_cons (ce_int) (jl_nil)))))))
    (jb_cons (set_ 6 sc_law_entry.nd (je_tup (jl_cons (ce_op o_add (ce_int) (je_call (P_law_draw (c := c) T).fn (Nat.le_of_ble_eq_true rfl) rfl (jl_cons (v_ 0) (jl_cons (v_ 1) (jl_cons (ce_int) (jl_nil)))))) (jl_cons (je_ix o_ix (JF.je (jf_lst (jl_cons (ce_int) (jl_cons (ce_int) (jl_cons (ce_op o_add (ce_int) (je_call (P_law_draw (c := c) T).fn (Nat.le_of_ble_eq_true rfl) rfl (jl_cons (v_ 0) (jl_cons (v_ 1) (jl_cons (ce_int) (jl_nil)))))) (jl_nil)))))) (je_call (P_law_draw (c := c) T).fn (Nat.le_of_ble_eq_true rfl) rfl (jl_cons (v_ 0) (jl_cons (v_ 1) (jl_cons (ce_int) (jl_nil)))))) (jl_nil)))))
    (jb_cons (js_if (jt_cmp o_eq (je_call (P_law_draw (c := c) T).fn (Nat.le_of_ble_eq_true rfl) rfl (jl_cons (v_ 0) (jl_cons (v_ 1) (jl_cons (ce_int) (jl_nil))))) (ce_int)) (jb_one (js_ret (JE.frz (je_mk (P_Entry_init (c := c) T).mk_ (Nat.le_of_ble_eq_true rfl) rfl (jl_cons (v_ 2) (jl_cons (v_ 3) (jl_cons (v_ 5) (jl_cons (v_ 6) (jl_cons (ce_bl) (jl_cons (v_ 4) (jl_cons (je_tup (jl_nil)) (jl_nil)))))))))))) (jb_nil))
    (jb_one (js_ret (JE.frz (je_mk (P_Entry_init (c := c) T).mk_ (Nat.le_of_ble_eq_true rfl) rfl (jl_cons (v_ 2) (jl_cons (v_ 3) (jl_cons (v_ 5) (jl_cons (v_ 6) (jl_cons (ce_bl) (jl_cons (v_ 4) (jl_cons (je_call (P_law_blocks (c := c) T).fn (Nat.le_of_ble_eq_true rfl) rfl (jl_cons (je_call (P_law_content (c := c) T).fn (Nat.le_of_ble_eq_true rfl) rfl (jl_cons (v_ 0) (jl_cons (v_ 1) (jl_cons (ce_int) (jl_nil))))) (jl_nil))) (jl_nil)))))))))))))))))
theorem P_law_entry (T : Facts c C_Entry C_Reader C_FolderkinError C_InvalidBlock C_InvalidBytes gX) : PrF c 3 "_law_entry" ["_law_state", "_law_script"] [] [] (f_law_entry C_Entry C_Reader C_FolderkinError C_InvalidBlock C_InvalidBytes gX) := T.a_law_entry.runP sc_law_entry (jb_law_entry T)
theorem jb_law_wide (T : Facts c C_Entry C_Reader C_FolderkinError C_InvalidBlock C_InvalidBytes gX) : JB (c.at_ 0) ["_law_number", "_law_width", "_law_k"] (defScope s_law_wide) (defBody s_law_wide) (m_law_wide C_Entry C_Reader C_FolderkinError C_InvalidBlock C_InvalidBytes gX) :=
  jb_one (js_ret (JF.je (jf_lc (own := [("_law_k", 2)]) (oc := []) sc_law_wide.nd (ji_range1 rfl T.b_range (jl_cons (v_ 1) (jl_nil))) (blkOk_by (by decide +kernel)) (tg_ 2 sc_law_wide.nd) (jts_nil) (ce_op o_and (ce_op o_shr (v_ 0) (ce_op o_mul (ce_int) (ce_op o_sub (ce_op o_sub (v_ 1) (ce_int)) (v_ 2)))) (ce_int)))))
theorem P_law_wide (T : Facts c C_Entry C_Reader C_FolderkinError C_InvalidBlock C_InvalidBytes gX) : PrF c 1 "_law_wide" ["_law_number", "_law_width"] [] [] (f_law_wide C_Entry C_Reader C_FolderkinError C_InvalidBlock C_InvalidBytes gX) := T.a_law_wide.runP sc_law_wide (jb_law_wide T)
theorem jb_law_sealed (T : Facts c C_Entry C_Reader C_FolderkinError C_InvalidBlock C_InvalidBytes gX) : JB (c.at_ 1) ["_law_body", "_law_data", "_law_first", "_law_second", "_law_byte"] (defScope s_law_sealed) (defBody s_law_sealed) (m_law_sealed C_Entry C_Reader C_FolderkinError C_InvalidBlock C_InvalidBytes gX) :=
  jb_cons (set_ 1 sc_law_sealed.nd (ce_op o_add (je_call (P_law_wide (c := c) T).fn (Nat.le_of_ble_eq_true rfl) rfl (jl_cons (je_b1 c_len rfl T.b_len (by decide +kernel) (v_ 0)) (jl_cons (ce_int) (jl_nil)))) (v_ 0)))
    (jb_cons (set_ 2 sc_law_sealed.nd (ce_int))
    (jb_cons (set_ 3 sc_law_sealed.nd (ce_int))
    (jb_cons (js_for (ji_list (v_ 1)) (tg_ 4 sc_law_sealed.nd) (jb_cons (set_ 2 sc_law_sealed.nd (ce_op o_mod (je_t1 c_int rfl T.b_int (by decide +kernel) (ce_op o_add (v_ 2) (v_ 4))) (ce_int)))
    (jb_one (set_ 3 sc_law_sealed.nd (ce_op o_mod (je_t1 c_int rfl T.b_int (by decide +kernel) (ce_op o_add (v_ 3) (v_ 2))) (ce_int))))))
    (jb_one (js_ret (ce_op o_add (v_ 1) (JF.je (jf_lst (jl_cons (v_ 2) (jl_cons (v_ 3) (jl_nil)))))))))))
theorem P_law_sealed (T : Facts c C_Entry C_Reader C_FolderkinError C_InvalidBlock C_InvalidBytes gX) : PrF c 2 "_law_sealed" ["_law_body"] [] [] (f_law_sealed C_Entry C_Reader C_FolderkinError C_InvalidBlock C_InvalidBytes gX) := T.a_law_sealed.runP sc_law_sealed (jb_law_sealed T)
theorem jb_law_entry_bytes (T : Facts c C_Entry C_Reader C_FolderkinError C_InvalidBlock C_InvalidBytes gX) : JB (c.at_ 1) ["_law_entry_here", "_law_number", "_law_data", "_law_block", "_law_device", "_law_count", "_law_size", "_law_char", "_law_k"] (defScope s_law_entry_bytes) (defBody s_law_entry_bytes) (m_law_entry_bytes C_Entry C_Reader C_FolderkinError C_InvalidBlock C_InvalidBytes gX) :=
  jb_cons (set_ 2 sc_law_entry_bytes.nd (ce_op o_add (ce_op o_add (ce_op o_add (je_call (P_law_wide (c := c) T).fn (Nat.le_of_ble_eq_true rfl) rfl (jl_cons (v_ 1) (jl_cons (ce_int) (jl_nil)))) (JF.je (jf_lst (jl_cons (je_b1 c_len rfl T.b_len (by decide +kernel) (je_fld (v_ 0) T.cl_Entry.cl T.na_Entry_name)) (jl_nil))))) (JF.je (jf_lc (own := [("_law_char", 7)]) (oc := []) sc_law_entry_bytes.nd (ji_str (je_fld (v_ 0) T.cl_Entry.cl T.na_Entry_name)) (blkOk_by (by decide +kernel)) (tg_ 7 sc_law_entry_bytes.nd) (jts_nil) (je_b1 c_ord rfl T.b_ord (by decide +kernel) (v_ 7))))) (JF.je (jf_lst (jl_cons (je_b1 c_len rfl T.b_len (by decide +kernel) (je_fld (v_ 0) T.cl_Entry.cl T.na_Entry_vector)) (jl_nil))))))
    (jb_cons (js_for (ji_tup (je_fld (v_ 0) T.cl_Entry.cl T.na_Entry_vector)) (jtg_tup (jtgs_cons (tg_ 4 sc_law_entry_bytes.nd) (jtgs_cons (tg_ 5 sc_law_entry_bytes.nd) (jtgs_nil)))) (jb_one (set_ 2 sc_law_entry_bytes.nd (ce_op o_add (ce_op o_add (v_ 2) (JF.je (jf_lst (jl_cons (v_ 4) (jl_nil))))) (je_call (P_law_wide (c := c) T).fn (Nat.le_of_ble_eq_true rfl) rfl (jl_cons (v_ 5) (jl_cons (ce_int) (jl_nil))))))))
    (jb_cons (set_ 2 sc_law_entry_bytes.nd (ce_op o_add (ce_op o_add (ce_op o_add (v_ 2) (je_call (P_law_wide (c := c) T).fn (Nat.le_of_ble_eq_true rfl) rfl (jl_cons (je_fld (v_ 0) T.cl_Entry.cl T.na_Entry_height) (jl_cons (ce_int) (jl_nil))))) (JF.je (jf_lst (jl_cons (je_ix o_ix (je_fld (v_ 0) T.cl_Entry.cl T.na_Entry_maker) (ce_int)) (jl_nil))))) (je_call (P_law_wide (c := c) T).fn (Nat.le_of_ble_eq_true rfl) rfl (jl_cons (je_ix o_ix (je_fld (v_ 0) T.cl_Entry.cl T.na_Entry_maker) (ce_int)) (jl_cons (ce_int) (jl_nil))))))
    (jb_cons (set_ 2 sc_law_entry_bytes.nd (ce_op o_add (ce_op o_add (ce_op o_add (v_ 2) (JF.je (jf_lst (jl_cons (je_t1 c_int rfl T.b_int (by decide +kernel) (je_fld (v_ 0) T.cl_Entry.cl T.na_Entry_deleted)) (jl_nil))))) (je_call (P_law_wide (c := c) T).fn (Nat.le_of_ble_eq_true rfl) rfl (jl_cons (je_fld (v_ 0) T.cl_Entry.cl T.na_Entry_time) (jl_cons (ce_int) (jl_nil))))) (JF.je (jf_lst (jl_cons (je_b1 c_len rfl T.b_len (by decide +kernel) (je_fld (v_ 0) T.cl_Entry.cl T.na_Entry_blocks)) (jl_nil))))))
    (jb_cons (js_for (ji_tup (je_fld (v_ 0) T.cl_Entry.cl T.na_Entry_blocks)) (tg_ 3 sc_law_entry_bytes.nd) (jb_cons (set_ 6 sc_law_entry_bytes.nd (je_b1 c_len rfl T.b_len (by decide +kernel) (JF.je (jf_lc (own := [("_law_k", 8)]) (oc := []) sc_law_entry_bytes.nd (ji_range2 rfl T.b_range (jl_cons (ce_int) (jl_cons (ce_int) (jl_nil)))) (blkOk_by (by decide +kernel)) (tg_ 8 sc_law_entry_bytes.nd) (jts_one (jt_cmp o_gt (ce_op o_shr (v_ 3) (ce_op o_mul (ce_int) (v_ 8))) (ce_int))) (v_ 8)))))
    (jb_one (set_ 2 sc_law_entry_bytes.nd (ce_op o_add (ce_op o_add (v_ 2) (JF.je (jf_lst (jl_cons (v_ 6) (jl_nil))))) (je_call (P_law_wide (c := c) T).fn (Nat.le_of_ble_eq_true rfl) rfl (jl_cons (v_ 3) (jl_cons (v_ 6) (jl_nil)))))))))
    (jb_one (js_ret (v_ 2)))))))
theorem P_law_entry_bytes (T : Facts c C_Entry C_Reader C_FolderkinError C_InvalidBlock C_InvalidBytes gX) : PrF c 2 "_law_entry_bytes" ["_law_entry_here", "_law_number"] [] [] (f_law_entry_bytes C_Entry C_Reader C_FolderkinError C_InvalidBlock C_InvalidBytes gX) := T.a_law_entry_bytes.runP sc_law_entry_bytes (jb_law_entry_bytes T)
theorem jb_law_record (T : Facts c C_Entry C_Reader C_FolderkinError C_InvalidBlock C_InvalidBytes gX) : JB (c.at_ 2) ["_law_told_here", "_law_kind", "_law_device", "_law_entry_here", "_law_number"] (defScope s_law_record) (defBody s_law_record) (m_law_record C_Entry C_Reader C_FolderkinError C_InvalidBlock C_InvalidBytes gX) :=
  jb_cons (js_asg (v_ 0) (jtg_tup (jtgs_cons (tg_ 1 sc_law_record.nd) (jtgs_cons (tg_ 2 sc_law_record.nd) (jtgs_cons (tg_ 3 sc_law_record.nd) (jtgs_cons (tg_ 4 sc_law_record.nd) (jtgs_nil)))))))
    (jb_cons (js_if (jt_w (jw_or (jt_cmp o_eq (v_ 1) (ce_int)) (jw_or1 (jt_cmp o_eq (v_ 1) (ce_int))))) (jb_one (js_ret (je_call (P_law_sealed (c := c) T).fn (Nat.le_of_ble_eq_true rfl) rfl (jl_cons (ce_op o_add (JF.je (jf_lst (jl_cons (v_ 1) (jl_nil)))) (je_call (P_law_entry_bytes (c := c) T).fn (Nat.le_of_ble_eq_true rfl) rfl (jl_cons (v_ 3) (jl_cons (v_ 4) (jl_nil))))) (jl_nil))))) (jb_nil))
    (jb_cons (js_if (jt_cmp o_eq (v_ 1) (ce_int)) (jb_one (js_ret (je_call (P_law_sealed (c := c) T).fn (Nat.le_of_ble_eq_true rfl) rfl (jl_cons (ce_op o_add (JF.je (jf_lst (jl_cons (ce_int) (jl_cons (v_ 2) (jl_nil))))) (je_call (P_law_entry_bytes (c := c) T).fn (Nat.le_of_ble_eq_true rfl) rfl (jl_cons (v_ 3) (jl_cons (v_ 4) (jl_nil))))) (jl_nil))))) (jb_nil))
    (jb_one (js_ret (je_call (P_law_sealed (c := c) T).fn (Nat.le_of_ble_eq_true rfl) rfl (jl_cons (ce_op o_add (JF.je (jf_lst (jl_cons (ce_int) (jl_cons (v_ 2) (jl_nil))))) (je_call (P_law_wide (c := c) T).fn (Nat.le_of_ble_eq_true rfl) rfl (jl_cons (v_ 4) (jl_cons (ce_int) (jl_nil))))) (jl_nil)))))))
theorem P_law_record (T : Facts c C_Entry C_Reader C_FolderkinError C_InvalidBlock C_InvalidBytes gX) : PrF c 3 "_law_record" ["_law_told_here"] [] [] (f_law_record C_Entry C_Reader C_FolderkinError C_InvalidBlock C_InvalidBytes gX) := T.a_law_record.runP sc_law_record (jb_law_record T)
theorem jb_law_told (T : Facts c C_Entry C_Reader C_FolderkinError C_InvalidBlock C_InvalidBytes gX) : JB (c.at_ 3) ["_law_state", "_law_script", "_law_kind", "_law_number"] (defScope s_law_told) (defBody s_law_told) (m_law_told C_Entry C_Reader C_FolderkinError C_InvalidBlock C_InvalidBytes gX) :=
  jb_cons (set_ 2 sc_law_told.nd (je_call (P_law_draw (c := c) T).fn (Nat.le_of_ble_eq_true rfl) rfl (jl_cons (v_ 0) (jl_cons (v_ 1) (jl_cons (ce_int) (jl_nil))))))
    (jb_cons (set_ 3 sc_law_told.nd (je_ix o_ix (JF.je (jf_lst (jl_cons (ce_int) (jl_cons (ce_int) (jl_cons (ce_op o_add (ce_int) (je_call (P_law_draw (c := c) T).fn (Nat.le_of_ble_eq_true rfl) rfl (jl_cons (v_ 0) (jl_cons (v_ 1) (jl_cons (ce_int) (jl_nil)))))) (jl_nil)))))) (je_call (P_law_draw (c := c) T).fn (Nat.le_of_ble_eq_true rfl) rfl (jl_cons (v_ 0) (jl_cons (v_ 1) (jl_cons (ce_int) (jl_nil)))))))
    (jb_cons (js_if (jt_w (jw_or (jt_cmp o_eq (v_ 2) (ce_int)) (jw_or1 (jt_cmp o_eq (v_ 2) (ce_int))))) (jb_one (js_ret (je_tup (jl_cons (v_ 2) (jl_cons (ce_int) (jl_cons (je_call (P_law_entry (c := c) T).fn (Nat.le_of_ble_eq_true rfl) rfl (jl_cons (v_ 0) (jl_cons (v_ 1) (jl_nil)))) (jl_cons (v_ 3) (jl_nil)))))))) (jb_nil))
    (jb_cons (js_if (jt_cmp o_eq (v_ 2) (ce_int)) (jb_one (js_ret (je_tup (jl_cons (ce_int) (jl_cons (ce_op o_add (ce_int) (je_call (P_law_draw (c := c) T).fn (Nat.le_of_ble_eq_true rfl) rfl (jl_cons (v_ 0) (jl_cons (v_ 1) (jl_cons (ce_int) (jl_nil)))))) (jl_cons (je_call (P_law_entry (c := c) T).fn (Nat.le_of_ble_eq_true rfl) rfl (jl_cons (v_ 0) (jl_cons (v_ 1) (jl_nil)))) (jl_cons (v_ 3) (jl_nil)))))))) (jb_nil))
    (jb_one (js_ret (je_tup (jl_cons (ce_int) (jl_cons (ce_op o_add (ce_int) (je_call (P_law_draw (c := c) T).fn (Nat.le_of_ble_eq_true rfl) rfl (jl_cons (v_ 0) (jl_cons (v_ 1) (jl_cons (ce_int) (jl_nil)))))) (jl_cons (ce_non) (jl_cons (ce_op o_sub (v_ 3) (ce_int)) (jl_nil)))))))))))
theorem P_law_told (T : Facts c C_Entry C_Reader C_FolderkinError C_InvalidBlock C_InvalidBytes gX) : PrF c 4 "_law_told" ["_law_state", "_law_script"] [] [] (f_law_told C_Entry C_Reader C_FolderkinError C_InvalidBlock C_InvalidBytes gX) := T.a_law_told.runP sc_law_told (jb_law_told T)
theorem jb_law_made (T : Facts c C_Entry C_Reader C_FolderkinError C_InvalidBlock C_InvalidBytes gX) : JB (c.at_ 5) ["_law_told_here", "_law_kind", "_law_device", "_law_entry_here", "_law_number"] (defScope s_law_made) (defBody s_law_made) (m_law_made C_Entry C_Reader C_FolderkinError C_InvalidBlock C_InvalidBytes gX) :=
  jb_cons (js_asg (v_ 0) (jtg_tup (jtgs_cons (tg_ 1 sc_law_made.nd) (jtgs_cons (tg_ 2 sc_law_made.nd) (jtgs_cons (tg_ 3 sc_law_made.nd) (jtgs_cons (tg_ 4 sc_law_made.nd) (jtgs_nil)))))))
    (jb_cons (js_if (jt_cmp o_eq (v_ 1) (ce_int)) (jb_one (js_ret (je_call (P_record_of (c := c) T).fn (Nat.le_of_ble_eq_true rfl) rfl (jl_cons (v_ 3) (jl_cons (v_ 4) (jl_nil)))))) (jb_nil))
    (jb_cons (js_if (jt_cmp o_eq (v_ 1) (ce_int)) (jb_one (js_ret (je_call (P_peer_record (c := c) T).fn (Nat.le_of_ble_eq_true rfl) rfl (jl_cons (v_ 2) (jl_cons (v_ 3) (jl_cons (v_ 4) (jl_nil))))))) (jb_nil))
    (jb_cons (js_if (jt_cmp o_eq (v_ 1) (ce_int)) (jb_one (js_ret (je_call (P_intent_record (c := c) T).fn (Nat.le_of_ble_eq_true rfl) rfl (jl_cons (v_ 3) (jl_cons (v_ 4) (jl_nil)))))) (jb_nil))
    (jb_one (js_ret (je_call (P_upto_record (c := c) T).fn (Nat.le_of_ble_eq_true rfl) rfl (jl_cons (v_ 2) (jl_cons (v_ 4) (jl_nil)))))))))
theorem P_law_made (T : Facts c C_Entry C_Reader C_FolderkinError C_InvalidBlock C_InvalidBytes gX) : PrF c 6 "_law_made" ["_law_told_here"] [] [] (f_law_made C_Entry C_Reader C_FolderkinError C_InvalidBlock C_InvalidBytes gX) := T.a_law_made.runP sc_law_made (jb_law_made T)
theorem jb_law (T : Facts c C_Entry C_Reader C_FolderkinError C_InvalidBlock C_InvalidBytes gX) : JB (c.at_ 8) ["_law_script", "_law_state", "_law_data", "_law_ends", "_law_told_here", "_law_k", "_law_stop", "_law_whole", "_law_handed", "_law_found", "_law_one", "_law_end"] (defScope s_law) (defBody s_law) (m_law C_Entry C_Reader C_FolderkinError C_InvalidBlock C_InvalidBytes gX) :=
  jb_cons (set_ 1 sc_law.nd (JF.new (jf_lst (jl_cons (ce_int) (jl_cons (ce_int) (jl_nil))))))
    (jb_cons (set_ 2 sc_law.nd (JF.je (jf_lst (jl_nil))))
    (jb_cons (set_ 3 sc_law.nd (JF.new (jf_lst (jl_cons (ce_int) (jl_nil)))))
    (jb_cons (set_ 4 sc_law.nd (JF.new (jf_lst (jl_nil))))
    (jb_cons (js_for (ji_range1 rfl T.b_range (jl_cons (je_call (P_law_draw (c := c) T).fn (Nat.le_of_ble_eq_true rfl) rfl (jl_cons (v_ 1) (jl_cons (v_ 0) (jl_cons (ce_int) (jl_nil))))) (jl_nil))) (tg_ 5 sc_law.nd) (jb_cons (set_ 10 sc_law.nd (je_call (P_law_told (c := c) T).fn (Nat.le_of_ble_eq_true rfl) rfl (jl_cons (v_ 1) (jl_cons (v_ 0) (jl_nil)))))
    (jb_cons (set_ 9 sc_law.nd (je_call (P_law_made (c := c) T).fn (Nat.le_of_ble_eq_true rfl) rfl (jl_cons (v_ 10) (jl_nil))))
    (jb_cons (js_if (jt_w (jw_or (jt_not (jt_val (je_isi (T := "list") rfl T.b_isinstance rfl T.b_list (by decide +kernel) (v_ 9)))) (jw_or1 (jt_cmp o_ne (v_ 9) (je_call (P_law_record (c := c) T).fn (Nat.le_of_ble_eq_true rfl) rfl (jl_cons (v_ 10) (jl_nil))))))) (jb_one (js_ret (ce_bl))) (jb_nil))
    (jb_cons (set_ 2 sc_law.nd (ce_op o_add (v_ 2) (v_ 9)))
    (jb_cons (js_expr (je_mut mu_append PySem.F.slot_list_append PySem.F.type_list_append (v_ 3) (jl_cons (je_b1 c_len rfl T.b_len (by decide +kernel) (v_ 2)) (jl_nil))))
    (jb_one (js_expr (je_mut mu_append PySem.F.slot_list_append PySem.F.type_list_append (v_ 4) (jl_cons (v_ 10) (jl_nil)))))))))))
    (jb_cons (set_ 6 sc_law.nd (je_ix o_ix (JF.je (jf_lst (jl_cons (je_b1 c_len rfl T.b_len (by decide +kernel) (v_ 2)) (jl_cons (je_call (P_law_draw (c := c) T).fn (Nat.le_of_ble_eq_true rfl) rfl (jl_cons (v_ 1) (jl_cons (v_ 0) (jl_cons (ce_op o_add (je_b1 c_len rfl T.b_len (by decide +kernel) (v_ 2)) (ce_int)) (jl_nil))))) (jl_nil))))) (je_call (P_law_draw (c := c) T).fn (Nat.le_of_ble_eq_true rfl) rfl (jl_cons (v_ 1) (jl_cons (v_ 0) (jl_cons (ce_int) (jl_nil)))))))
    (jb_cons (set_ 7 sc_law.nd (ce_op o_sub (je_b1 c_len rfl T.b_len (by decide +kernel) (JF.je (jf_lc (own := [("_law_end", 11)]) (oc := []) sc_law.nd (ji_list (v_ 3)) (blkOk_by (by decide +kernel)) (tg_ 11 sc_law.nd) (jts_one (jt_cmp o_le (v_ 11) (v_ 6))) (v_ 11)))) (ce_int)))
    (jb_cons (set_ 8 sc_law.nd (je_cut (v_ 2) (jp_none) (jp_some (v_ 6))))
    (jb_cons (set_ 9 sc_law.nd (je_call (P_read_log (c := c) T).fn (Nat.le_of_ble_eq_true rfl) rfl (jl_cons (v_ 8) (jl_nil))))
    (jb_cons (js_if (jt_w (jw_or (jt_not (jt_val (je_isi (T := "tuple") rfl T.b_isinstance rfl T.b_tuple (by decide +kernel) (v_ 9)))) (jw_or (jt_cmp o_ne (je_ix o_ix (v_ 9) (ce_int)) (je_ix o_ix (v_ 3) (v_ 7))) (jw_or1 (jt_cmp o_ne (v_ 8) (je_cut (v_ 2) (jp_none) (jp_some (v_ 6)))))))) (jb_one (js_ret (ce_bl))) (jb_nil))
    (jb_one (js_ret (je_and (ce_cmp (o_eqQ (n := 1) (P_Entry_eq (c := c) T).mt rfl (Nat.le_of_ble_eq_true rfl)) (JF.je (jf_lc (own := [("_law_one", 10)]) (oc := []) sc_law.nd (ji_list (je_ix o_ix (v_ 9) (ce_int))) (blkOk_by (by decide +kernel)) (tg_ 10 sc_law.nd) (jts_nil) (je_t1 c_tuple rfl T.b_tuple (by decide +kernel) (v_ 10)))) (je_cut (v_ 4) (jp_none) (jp_some (v_ 7)))) (je_one (je_b1 c_all rfl T.b_all (by decide +kernel) (JF.je (jf_lc (own := [("_law_one", 10)]) (oc := []) sc_law.nd (ji_list (je_ix o_ix (v_ 9) (ce_int))) (blkOk_by (by decide +kernel)) (tg_ 10 sc_law.nd) (jts_nil) (je_isi (T := "tuple") rfl T.b_isinstance rfl T.b_tuple (by decide +kernel) (v_ 10))))))))))))))))))
end
theorem all_mk {l : PySem.W.OpenLaw} {w : World} {K : PySem.W.Frag} {h : Heap} {mg : Str → Option Value} {fa C_Entry C_Reader C_FolderkinError C_InvalidBlock C_InvalidBytes f0 f1 f2 f3 f4 f5 f6 f7 f8 f9 f10 f11 f12 f13 dT13 f14 dT14 f15 dT15 f16 f17 f18 f19 dT19 f20 dT20 f21 f22 f23 f24 f25 f26 f27 f28 f29 f30 f31 f32 f33 f34 f35 f36 f37 f38 f39 f40 f41 f42 f43 gX cdaX ccX : Addr} (X : K.In h) (G : h.Ns mainGlobals mg) (hfa : mg "law" = some (.ref fa))
    {od0 an0 od1 an1 od2 an2 od3 an3 od4 an4 od5 an5 od6 an6 od7 an7 od8 an8 od9 an9 od10 an10 od11 an11 od12 an12 od13 an13 dd13 od14 an14 dd14 od15 an15 dd15 od16 an16 od17 an17 od18 an18 od19 an19 dd19 od20 an20 dd20 od21 an21 od22 an22 od23 an23 od24 an24 od25 an25 od26 an26 od27 an27 od28 an28 od29 an29 od30 an30 od31 an31 od32 an32 od33 an33 od34 an34 od35 an35 od36 an36 od37 an37 od38 an38 od39 an39 od40 an40 od41 an41 od42 an42 od43 an43 odX anX cddX cldX : Option Addr} {sl0 sl1 sl2 sl3 sl4 sl5 sl6 sl7 sl8 sl9 sl10 sl11 sl12 sl13 ds13 sl14 ds14 sl15 ds15 sl16 sl17 sl18 sl19 ds19 sl20 ds20 sl21 sl22 sl23 sl24 sl25 sl26 sl27 sl28 sl29 sl30 sl31 sl32 sl33 sl34 sl35 sl36 sl37 sl38 sl39 sl40 sl41 sl42 sl43 oslX ccsX cslX : Array (Option Value)} {oc0 kV0 dc0 pm0 cd0 ct0 oc1 kV1 dc1 pm1 cd1 ct1 oc2 kV2 dc2 pm2 cd2 ct2 oc3 kV3 dc3 pm3 cd3 ct3 oc4 kV4 dc4 pm4 cd4 ct4 oc5 kV5 dc5 pm5 cd5 ct5 oc6 kV6 dc6 pm6 cd6 ct6 oc7 kV7 dc7 pm7 cd7 ct7 oc8 kV8 dc8 pm8 cd8 ct8 oc9 kV9 dc9 pm9 cd9 ct9 oc10 kV10 dc10 pm10 cd10 ct10 oc11 kV11 dc11 pm11 cd11 ct11 oc12 kV12 dc12 pm12 cd12 ct12 oc13 kV13 dc13 pm13 cd13 ct13 oc14 kV14 dc14 pm14 cd14 ct14 oc15 kV15 dc15 pm15 cd15 ct15 oc16 kV16 dc16 pm16 cd16 ct16 oc17 kV17 dc17 pm17 cd17 ct17 oc18 kV18 dc18 pm18 cd18 ct18 oc19 kV19 dc19 pm19 cd19 ct19 oc20 kV20 dc20 pm20 cd20 ct20 oc21 kV21 dc21 pm21 cd21 ct21 oc22 kV22 dc22 pm22 cd22 ct22 oc23 kV23 dc23 pm23 cd23 ct23 oc24 kV24 dc24 pm24 cd24 ct24 oc25 kV25 dc25 pm25 cd25 ct25 oc26 kV26 dc26 pm26 cd26 ct26 oc27 kV27 dc27 pm27 cd27 ct27 oc28 kV28 dc28 pm28 cd28 ct28 oc29 kV29 dc29 pm29 cd29 ct29 oc30 kV30 dc30 pm30 cd30 ct30 oc31 kV31 dc31 pm31 cd31 ct31 oc32 kV32 dc32 pm32 cd32 ct32 oc33 kV33 dc33 pm33 cd33 ct33 oc34 kV34 dc34 pm34 cd34 ct34 oc35 kV35 dc35 pm35 cd35 ct35 oc36 kV36 dc36 pm36 cd36 ct36 oc37 kV37 dc37 pm37 cd37 ct37 oc38 kV38 dc38 pm38 cd38 ct38 oc39 kV39 dc39 pm39 cd39 ct39 oc40 kV40 dc40 pm40 cd40 ct40 oc41 kV41 dc41 pm41 cd41 ct41 oc42 kV42 dc42 pm42 cd42 ct42 oc43 kV43 dc43 pm43 cd43 ct43 ocX dcX pmX ctX kVX cclX clX : Value} {td13_0 td14_0 td14_1 td15_0 td19_0 td20_0 tfX t_INTENT t_BLOCK t_PEER t_OWN t_UPTO t_MOST_BLOCKS t_MOST_DEVICE t_MOST_NAME t_FIRST_CODE t_TABLE t_CHARACTERS : Tok} {dn13 dn14 dn15 dn19 dn20 : Nat} {fileX : Str} {vsX : Array Value} {nm_FolderkinError q_FolderkinError : Str} {N_FolderkinError : Addr} {bs_FolderkinError bm_FolderkinError sub_FolderkinError : List Value} {sn_FolderkinError : List Str} {ab_FolderkinError : Bool} {col_FolderkinError : Option Bool} {dd_FolderkinError : Option Addr} {k0_FolderkinError k1_FolderkinError k2_FolderkinError k3_FolderkinError k5_FolderkinError : Option Value} {nm_InvalidBlock q_InvalidBlock : Str} {N_InvalidBlock : Addr} {bs_InvalidBlock bm_InvalidBlock sub_InvalidBlock : List Value} {sn_InvalidBlock : List Str} {ab_InvalidBlock : Bool} {col_InvalidBlock : Option Bool} {dd_InvalidBlock : Option Addr} {k0_InvalidBlock k1_InvalidBlock k2_InvalidBlock k3_InvalidBlock k5_InvalidBlock : Option Value} {nm_InvalidBytes q_InvalidBytes : Str} {N_InvalidBytes : Addr} {bs_InvalidBytes bm_InvalidBytes sub_InvalidBytes : List Value} {sn_InvalidBytes : List Str} {ab_InvalidBytes : Bool} {col_InvalidBytes : Option Bool} {dd_InvalidBytes : Option Addr} {k0_InvalidBytes k1_InvalidBytes k2_InvalidBytes k3_InvalidBytes k5_InvalidBytes : Option Value}
    (aC_Entry : PySem.W.nsIn K mainGlobals "Entry" = some (some (.ref C_Entry)))
    (aC_Reader : PySem.W.nsIn K mainGlobals "Reader" = some (some (.ref C_Reader)))
    (aC_FolderkinError : PySem.W.nsIn K mainGlobals "FolderkinError" = some (some (.ref C_FolderkinError)))
    (aC_InvalidBlock : PySem.W.nsIn K mainGlobals "InvalidBlock" = some (some (.ref C_InvalidBlock)))
    (aC_InvalidBytes : PySem.W.nsIn K mainGlobals "InvalidBytes" = some (some (.ref C_InvalidBytes)))
    (a0 : PySem.W.nsIn K mainGlobals "block_number" = some (some (.ref f0)))
    (l0 : K.lookup f0 = some ⟨oc0, od0, .func (PySem.W.fnOf "block_number" "block_number" (defArgs s_block_number) (defBody s_block_number) (defScope s_block_number) .none kV0 dc0 pm0 an0 cd0 ct0), sl0⟩)
    (c0 : PySem.W.codeIn K cd0 "block_number" = true)
    (k0 : PySem.W.keepIn K (.ref f0) = true)
    (a1 : PySem.W.nsIn K mainGlobals "block_size" = some (some (.ref f1)))
    (l1 : K.lookup f1 = some ⟨oc1, od1, .func (PySem.W.fnOf "block_size" "block_size" (defArgs s_block_size) (defBody s_block_size) (defScope s_block_size) .none kV1 dc1 pm1 an1 cd1 ct1), sl1⟩)
    (c1 : PySem.W.codeIn K cd1 "block_size" = true)
    (k1 : PySem.W.keepIn K (.ref f1) = true)
    (a2 : PySem.W.nsIn K mainGlobals "is_block" = some (some (.ref f2)))
    (l2 : K.lookup f2 = some ⟨oc2, od2, .func (PySem.W.fnOf "is_block" "is_block" (defArgs s_is_block) (defBody s_is_block) (defScope s_is_block) .none kV2 dc2 pm2 an2 cd2 ct2), sl2⟩)
    (c2 : PySem.W.codeIn K cd2 "is_block" = true)
    (k2 : PySem.W.keepIn K (.ref f2) = true)
    (a3 : PySem.W.nsIn K mainGlobals "block_bytes" = some (some (.ref f3)))
    (l3 : K.lookup f3 = some ⟨oc3, od3, .func (PySem.W.fnOf "block_bytes" "block_bytes" (defArgs s_block_bytes) (defBody s_block_bytes) (defScope s_block_bytes) .none kV3 dc3 pm3 an3 cd3 ct3), sl3⟩)
    (c3 : PySem.W.codeIn K cd3 "block_bytes" = true)
    (k3 : PySem.W.keepIn K (.ref f3) = true)
    (a4 : PySem.W.findIn K (.ref C_Entry) "__init__" = some (some (.ref f4)))
    (i4 : PySem.W.isFn K (.ref f4) = true)
    (l4 : K.lookup f4 = some ⟨oc4, od4, .func (PySem.W.fnOf "__init__" "Entry.__init__" (defArgs s_Entry_init) (defBody s_Entry_init) (defScope s_Entry_init) .none kV4 dc4 pm4 an4 cd4 ct4), sl4⟩)
    (c4 : PySem.W.codeIn K cd4 "Entry.__init__" = true)
    (k4 : PySem.W.keepIn K (.ref f4) = true)
    (a5 : PySem.W.findIn K (.ref C_Entry) "fields" = some (some (.ref f5)))
    (i5 : PySem.W.isFn K (.ref f5) = true)
    (l5 : K.lookup f5 = some ⟨oc5, od5, .func (PySem.W.fnOf "fields" "Entry.fields" (defArgs s_Entry_fields) (defBody s_Entry_fields) (defScope s_Entry_fields) .none kV5 dc5 pm5 an5 cd5 ct5), sl5⟩)
    (c5 : PySem.W.codeIn K cd5 "Entry.fields" = true)
    (k5 : PySem.W.keepIn K (.ref f5) = true)
    (a6 : PySem.W.findIn K (.ref C_Entry) "__eq__" = some (some (.ref f6)))
    (i6 : PySem.W.isFn K (.ref f6) = true)
    (l6 : K.lookup f6 = some ⟨oc6, od6, .func (PySem.W.fnOf "__eq__" "Entry.__eq__" (defArgs s_Entry_eq) (defBody s_Entry_eq) (defScope s_Entry_eq) .none kV6 dc6 pm6 an6 cd6 ct6), sl6⟩)
    (c6 : PySem.W.codeIn K cd6 "Entry.__eq__" = true)
    (k6 : PySem.W.keepIn K (.ref f6) = true)
    (a7 : PySem.W.nsIn K mainGlobals "character_of" = some (some (.ref f7)))
    (l7 : K.lookup f7 = some ⟨oc7, od7, .func (PySem.W.fnOf "character_of" "character_of" (defArgs s_character_of) (defBody s_character_of) (defScope s_character_of) .none kV7 dc7 pm7 an7 cd7 ct7), sl7⟩)
    (c7 : PySem.W.codeIn K cd7 "character_of" = true)
    (k7 : PySem.W.keepIn K (.ref f7) = true)
    (a8 : PySem.W.nsIn K mainGlobals "number_bytes_coding" = some (some (.ref f8)))
    (l8 : K.lookup f8 = some ⟨oc8, od8, .func (PySem.W.fnOf "number_bytes" "number_bytes" (defArgs s_number_bytes_coding) (defBody s_number_bytes_coding) (defScope s_number_bytes_coding) .none kV8 dc8 pm8 an8 cd8 ct8), sl8⟩)
    (c8 : PySem.W.codeIn K cd8 "number_bytes" = true)
    (k8 : PySem.W.keepIn K (.ref f8) = true)
    (a9 : PySem.W.nsIn K mainGlobals "name_bytes" = some (some (.ref f9)))
    (l9 : K.lookup f9 = some ⟨oc9, od9, .func (PySem.W.fnOf "name_bytes" "name_bytes" (defArgs s_name_bytes) (defBody s_name_bytes) (defScope s_name_bytes) .none kV9 dc9 pm9 an9 cd9 ct9), sl9⟩)
    (c9 : PySem.W.codeIn K cd9 "name_bytes" = true)
    (k9 : PySem.W.keepIn K (.ref f9) = true)
    (a10 : PySem.W.nsIn K mainGlobals "vector_bytes" = some (some (.ref f10)))
    (l10 : K.lookup f10 = some ⟨oc10, od10, .func (PySem.W.fnOf "vector_bytes" "vector_bytes" (defArgs s_vector_bytes) (defBody s_vector_bytes) (defScope s_vector_bytes) .none kV10 dc10 pm10 an10 cd10 ct10), sl10⟩)
    (c10 : PySem.W.codeIn K cd10 "vector_bytes" = true)
    (k10 : PySem.W.keepIn K (.ref f10) = true)
    (a11 : PySem.W.nsIn K mainGlobals "data_bytes" = some (some (.ref f11)))
    (l11 : K.lookup f11 = some ⟨oc11, od11, .func (PySem.W.fnOf "data_bytes" "data_bytes" (defArgs s_data_bytes) (defBody s_data_bytes) (defScope s_data_bytes) .none kV11 dc11 pm11 an11 cd11 ct11), sl11⟩)
    (c11 : PySem.W.codeIn K cd11 "data_bytes" = true)
    (k11 : PySem.W.keepIn K (.ref f11) = true)
    (a12 : PySem.W.nsIn K mainGlobals "entry_bytes" = some (some (.ref f12)))
    (l12 : K.lookup f12 = some ⟨oc12, od12, .func (PySem.W.fnOf "entry_bytes" "entry_bytes" (defArgs s_entry_bytes) (defBody s_entry_bytes) (defScope s_entry_bytes) .none kV12 dc12 pm12 an12 cd12 ct12), sl12⟩)
    (c12 : PySem.W.codeIn K cd12 "entry_bytes" = true)
    (k12 : PySem.W.keepIn K (.ref f12) = true)
    (a13 : PySem.W.findIn K (.ref C_Reader) "__init__" = some (some (.ref f13)))
    (i13 : PySem.W.isFn K (.ref f13) = true)
    (l13 : K.lookup f13 = some ⟨oc13, od13, .func (PySem.W.fnOf "__init__" "Reader.__init__" (defArgs s_Reader_init) (defBody s_Reader_init) (defScope s_Reader_init) (.ref dT13) kV13 dc13 pm13 an13 cd13 ct13), sl13⟩)
    (c13 : PySem.W.codeIn K cd13 "Reader.__init__" = true)
    (k13 : PySem.W.keepIn K (.ref f13) = true)
    (t13 : K.lookup dT13 = some ⟨.type "tuple", dd13, .seq #[.int 0 td13_0] dn13, ds13⟩)
    (a14 : PySem.W.findIn K (.ref C_Reader) "byte" = some (some (.ref f14)))
    (i14 : PySem.W.isFn K (.ref f14) = true)
    (l14 : K.lookup f14 = some ⟨oc14, od14, .func (PySem.W.fnOf "byte" "Reader.byte" (defArgs s_Reader_byte) (defBody s_Reader_byte) (defScope s_Reader_byte) (.ref dT14) kV14 dc14 pm14 an14 cd14 ct14), sl14⟩)
    (c14 : PySem.W.codeIn K cd14 "Reader.byte" = true)
    (k14 : PySem.W.keepIn K (.ref f14) = true)
    (t14 : K.lookup dT14 = some ⟨.type "tuple", dd14, .seq #[.int 0 td14_0, .int 255 td14_1] dn14, ds14⟩)
    (a15 : PySem.W.findIn K (.ref C_Reader) "number" = some (some (.ref f15)))
    (i15 : PySem.W.isFn K (.ref f15) = true)
    (l15 : K.lookup f15 = some ⟨oc15, od15, .func (PySem.W.fnOf "number" "Reader.number" (defArgs s_Reader_number) (defBody s_Reader_number) (defScope s_Reader_number) (.ref dT15) kV15 dc15 pm15 an15 cd15 ct15), sl15⟩)
    (c15 : PySem.W.codeIn K cd15 "Reader.number" = true)
    (k15 : PySem.W.keepIn K (.ref f15) = true)
    (t15 : K.lookup dT15 = some ⟨.type "tuple", dd15, .seq #[.int 0 td15_0] dn15, ds15⟩)
    (a16 : PySem.W.findIn K (.ref C_Reader) "device" = some (some (.ref f16)))
    (i16 : PySem.W.isFn K (.ref f16) = true)
    (l16 : K.lookup f16 = some ⟨oc16, od16, .func (PySem.W.fnOf "device" "Reader.device" (defArgs s_Reader_device) (defBody s_Reader_device) (defScope s_Reader_device) .none kV16 dc16 pm16 an16 cd16 ct16), sl16⟩)
    (c16 : PySem.W.codeIn K cd16 "Reader.device" = true)
    (k16 : PySem.W.keepIn K (.ref f16) = true)
    (a17 : PySem.W.findIn K (.ref C_Reader) "name" = some (some (.ref f17)))
    (i17 : PySem.W.isFn K (.ref f17) = true)
    (l17 : K.lookup f17 = some ⟨oc17, od17, .func (PySem.W.fnOf "name" "Reader.name" (defArgs s_Reader_name) (defBody s_Reader_name) (defScope s_Reader_name) .none kV17 dc17 pm17 an17 cd17 ct17), sl17⟩)
    (c17 : PySem.W.codeIn K cd17 "Reader.name" = true)
    (k17 : PySem.W.keepIn K (.ref f17) = true)
    (a18 : PySem.W.findIn K (.ref C_Reader) "vector" = some (some (.ref f18)))
    (i18 : PySem.W.isFn K (.ref f18) = true)
    (l18 : K.lookup f18 = some ⟨oc18, od18, .func (PySem.W.fnOf "vector" "Reader.vector" (defArgs s_Reader_vector) (defBody s_Reader_vector) (defScope s_Reader_vector) .none kV18 dc18 pm18 an18 cd18 ct18), sl18⟩)
    (c18 : PySem.W.codeIn K cd18 "Reader.vector" = true)
    (k18 : PySem.W.keepIn K (.ref f18) = true)
    (a19 : PySem.W.findIn K (.ref C_Reader) "row" = some (some (.ref f19)))
    (i19 : PySem.W.isFn K (.ref f19) = true)
    (l19 : K.lookup f19 = some ⟨oc19, od19, .func (PySem.W.fnOf "row" "Reader.row" (defArgs s_Reader_row) (defBody s_Reader_row) (defScope s_Reader_row) (.ref dT19) kV19 dc19 pm19 an19 cd19 ct19), sl19⟩)
    (c19 : PySem.W.codeIn K cd19 "Reader.row" = true)
    (k19 : PySem.W.keepIn K (.ref f19) = true)
    (t19 : K.lookup dT19 = some ⟨.type "tuple", dd19, .seq #[.int 1 td19_0] dn19, ds19⟩)
    (a20 : PySem.W.findIn K (.ref C_Reader) "block" = some (some (.ref f20)))
    (i20 : PySem.W.isFn K (.ref f20) = true)
    (l20 : K.lookup f20 = some ⟨oc20, od20, .func (PySem.W.fnOf "block" "Reader.block" (defArgs s_Reader_block) (defBody s_Reader_block) (defScope s_Reader_block) (.ref dT20) kV20 dc20 pm20 an20 cd20 ct20), sl20⟩)
    (c20 : PySem.W.codeIn K cd20 "Reader.block" = true)
    (k20 : PySem.W.keepIn K (.ref f20) = true)
    (t20 : K.lookup dT20 = some ⟨.type "tuple", dd20, .seq #[.int 1 td20_0] dn20, ds20⟩)
    (a21 : PySem.W.findIn K (.ref C_Reader) "entry" = some (some (.ref f21)))
    (i21 : PySem.W.isFn K (.ref f21) = true)
    (l21 : K.lookup f21 = some ⟨oc21, od21, .func (PySem.W.fnOf "entry" "Reader.entry" (defArgs s_Reader_entry) (defBody s_Reader_entry) (defScope s_Reader_entry) .none kV21 dc21 pm21 an21 cd21 ct21), sl21⟩)
    (c21 : PySem.W.codeIn K cd21 "Reader.entry" = true)
    (k21 : PySem.W.keepIn K (.ref f21) = true)
    (a22 : PySem.W.nsIn K mainGlobals "number_bytes_book" = some (some (.ref f22)))
    (l22 : K.lookup f22 = some ⟨oc22, od22, .func (PySem.W.fnOf "number_bytes" "number_bytes" (defArgs s_number_bytes_book) (defBody s_number_bytes_book) (defScope s_number_bytes_book) .none kV22 dc22 pm22 an22 cd22 ct22), sl22⟩)
    (c22 : PySem.W.codeIn K cd22 "number_bytes" = true)
    (k22 : PySem.W.keepIn K (.ref f22) = true)
    (a23 : PySem.W.nsIn K mainGlobals "check_of" = some (some (.ref f23)))
    (l23 : K.lookup f23 = some ⟨oc23, od23, .func (PySem.W.fnOf "check_of" "check_of" (defArgs s_check_of) (defBody s_check_of) (defScope s_check_of) .none kV23 dc23 pm23 an23 cd23 ct23), sl23⟩)
    (c23 : PySem.W.codeIn K cd23 "check_of" = true)
    (k23 : PySem.W.keepIn K (.ref f23) = true)
    (a24 : PySem.W.nsIn K mainGlobals "sealed" = some (some (.ref f24)))
    (l24 : K.lookup f24 = some ⟨oc24, od24, .func (PySem.W.fnOf "sealed" "sealed" (defArgs s_sealed) (defBody s_sealed) (defScope s_sealed) .none kV24 dc24 pm24 an24 cd24 ct24), sl24⟩)
    (c24 : PySem.W.codeIn K cd24 "sealed" = true)
    (k24 : PySem.W.keepIn K (.ref f24) = true)
    (a25 : PySem.W.nsIn K mainGlobals "record_of" = some (some (.ref f25)))
    (l25 : K.lookup f25 = some ⟨oc25, od25, .func (PySem.W.fnOf "record_of" "record_of" (defArgs s_record_of) (defBody s_record_of) (defScope s_record_of) .none kV25 dc25 pm25 an25 cd25 ct25), sl25⟩)
    (c25 : PySem.W.codeIn K cd25 "record_of" = true)
    (k25 : PySem.W.keepIn K (.ref f25) = true)
    (a26 : PySem.W.nsIn K mainGlobals "intent_record" = some (some (.ref f26)))
    (l26 : K.lookup f26 = some ⟨oc26, od26, .func (PySem.W.fnOf "intent_record" "intent_record" (defArgs s_intent_record) (defBody s_intent_record) (defScope s_intent_record) .none kV26 dc26 pm26 an26 cd26 ct26), sl26⟩)
    (c26 : PySem.W.codeIn K cd26 "intent_record" = true)
    (k26 : PySem.W.keepIn K (.ref f26) = true)
    (a27 : PySem.W.nsIn K mainGlobals "peer_record" = some (some (.ref f27)))
    (l27 : K.lookup f27 = some ⟨oc27, od27, .func (PySem.W.fnOf "peer_record" "peer_record" (defArgs s_peer_record) (defBody s_peer_record) (defScope s_peer_record) .none kV27 dc27 pm27 an27 cd27 ct27), sl27⟩)
    (c27 : PySem.W.codeIn K cd27 "peer_record" = true)
    (k27 : PySem.W.keepIn K (.ref f27) = true)
    (a28 : PySem.W.nsIn K mainGlobals "upto_record" = some (some (.ref f28)))
    (l28 : K.lookup f28 = some ⟨oc28, od28, .func (PySem.W.fnOf "upto_record" "upto_record" (defArgs s_upto_record) (defBody s_upto_record) (defScope s_upto_record) .none kV28 dc28 pm28 an28 cd28 ct28), sl28⟩)
    (c28 : PySem.W.codeIn K cd28 "upto_record" = true)
    (k28 : PySem.W.keepIn K (.ref f28) = true)
    (a29 : PySem.W.nsIn K mainGlobals "read_body" = some (some (.ref f29)))
    (l29 : K.lookup f29 = some ⟨oc29, od29, .func (PySem.W.fnOf "read_body" "read_body" (defArgs s_read_body) (defBody s_read_body) (defScope s_read_body) .none kV29 dc29 pm29 an29 cd29 ct29), sl29⟩)
    (c29 : PySem.W.codeIn K cd29 "read_body" = true)
    (k29 : PySem.W.keepIn K (.ref f29) = true)
    (a30 : PySem.W.nsIn K mainGlobals "read_log" = some (some (.ref f30)))
    (l30 : K.lookup f30 = some ⟨oc30, od30, .func (PySem.W.fnOf "read_log" "read_log" (defArgs s_read_log) (defBody s_read_log) (defScope s_read_log) .none kV30 dc30 pm30 an30 cd30 ct30), sl30⟩)
    (c30 : PySem.W.codeIn K cd30 "read_log" = true)
    (k30 : PySem.W.keepIn K (.ref f30) = true)
    (a31 : PySem.W.nsIn K mainGlobals "_law_draw" = some (some (.ref f31)))
    (l31 : K.lookup f31 = some ⟨oc31, od31, .func (PySem.W.fnOf "_law_draw" "_law_draw" (defArgs s_law_draw) (defBody s_law_draw) (defScope s_law_draw) .none kV31 dc31 pm31 an31 cd31 ct31), sl31⟩)
    (c31 : PySem.W.codeIn K cd31 "_law_draw" = true)
    (k31 : PySem.W.keepIn K (.ref f31) = true)
    (a32 : PySem.W.nsIn K mainGlobals "_law_name" = some (some (.ref f32)))
    (l32 : K.lookup f32 = some ⟨oc32, od32, .func (PySem.W.fnOf "_law_name" "_law_name" (defArgs s_law_name) (defBody s_law_name) (defScope s_law_name) .none kV32 dc32 pm32 an32 cd32 ct32), sl32⟩)
    (c32 : PySem.W.codeIn K cd32 "_law_name" = true)
    (k32 : PySem.W.keepIn K (.ref f32) = true)
    (a33 : PySem.W.nsIn K mainGlobals "_law_content" = some (some (.ref f33)))
    (l33 : K.lookup f33 = some ⟨oc33, od33, .func (PySem.W.fnOf "_law_content" "_law_content" (defArgs s_law_content) (defBody s_law_content) (defScope s_law_content) .none kV33 dc33 pm33 an33 cd33 ct33), sl33⟩)
    (c33 : PySem.W.codeIn K cd33 "_law_content" = true)
    (k33 : PySem.W.keepIn K (.ref f33) = true)
    (a34 : PySem.W.nsIn K mainGlobals "_law_blocks" = some (some (.ref f34)))
    (l34 : K.lookup f34 = some ⟨oc34, od34, .func (PySem.W.fnOf "_law_blocks" "_law_blocks" (defArgs s_law_blocks) (defBody s_law_blocks) (defScope s_law_blocks) .none kV34 dc34 pm34 an34 cd34 ct34), sl34⟩)
    (c34 : PySem.W.codeIn K cd34 "_law_blocks" = true)
    (k34 : PySem.W.keepIn K (.ref f34) = true)
    (a35 : PySem.W.nsIn K mainGlobals "_law_vector" = some (some (.ref f35)))
    (l35 : K.lookup f35 = some ⟨oc35, od35, .func (PySem.W.fnOf "_law_vector" "_law_vector" (defArgs s_law_vector) (defBody s_law_vector) (defScope s_law_vector) .none kV35 dc35 pm35 an35 cd35 ct35), sl35⟩)
    (c35 : PySem.W.codeIn K cd35 "_law_vector" = true)
    (k35 : PySem.W.keepIn K (.ref f35) = true)
    (a36 : PySem.W.nsIn K mainGlobals "_law_entry" = some (some (.ref f36)))
    (l36 : K.lookup f36 = some ⟨oc36, od36, .func (PySem.W.fnOf "_law_entry" "_law_entry" (defArgs s_law_entry) (defBody s_law_entry) (defScope s_law_entry) .none kV36 dc36 pm36 an36 cd36 ct36), sl36⟩)
    (c36 : PySem.W.codeIn K cd36 "_law_entry" = true)
    (k36 : PySem.W.keepIn K (.ref f36) = true)
    (a37 : PySem.W.nsIn K mainGlobals "_law_wide" = some (some (.ref f37)))
    (l37 : K.lookup f37 = some ⟨oc37, od37, .func (PySem.W.fnOf "_law_wide" "_law_wide" (defArgs s_law_wide) (defBody s_law_wide) (defScope s_law_wide) .none kV37 dc37 pm37 an37 cd37 ct37), sl37⟩)
    (c37 : PySem.W.codeIn K cd37 "_law_wide" = true)
    (k37 : PySem.W.keepIn K (.ref f37) = true)
    (a38 : PySem.W.nsIn K mainGlobals "_law_sealed" = some (some (.ref f38)))
    (l38 : K.lookup f38 = some ⟨oc38, od38, .func (PySem.W.fnOf "_law_sealed" "_law_sealed" (defArgs s_law_sealed) (defBody s_law_sealed) (defScope s_law_sealed) .none kV38 dc38 pm38 an38 cd38 ct38), sl38⟩)
    (c38 : PySem.W.codeIn K cd38 "_law_sealed" = true)
    (k38 : PySem.W.keepIn K (.ref f38) = true)
    (a39 : PySem.W.nsIn K mainGlobals "_law_entry_bytes" = some (some (.ref f39)))
    (l39 : K.lookup f39 = some ⟨oc39, od39, .func (PySem.W.fnOf "_law_entry_bytes" "_law_entry_bytes" (defArgs s_law_entry_bytes) (defBody s_law_entry_bytes) (defScope s_law_entry_bytes) .none kV39 dc39 pm39 an39 cd39 ct39), sl39⟩)
    (c39 : PySem.W.codeIn K cd39 "_law_entry_bytes" = true)
    (k39 : PySem.W.keepIn K (.ref f39) = true)
    (a40 : PySem.W.nsIn K mainGlobals "_law_record" = some (some (.ref f40)))
    (l40 : K.lookup f40 = some ⟨oc40, od40, .func (PySem.W.fnOf "_law_record" "_law_record" (defArgs s_law_record) (defBody s_law_record) (defScope s_law_record) .none kV40 dc40 pm40 an40 cd40 ct40), sl40⟩)
    (c40 : PySem.W.codeIn K cd40 "_law_record" = true)
    (k40 : PySem.W.keepIn K (.ref f40) = true)
    (a41 : PySem.W.nsIn K mainGlobals "_law_told" = some (some (.ref f41)))
    (l41 : K.lookup f41 = some ⟨oc41, od41, .func (PySem.W.fnOf "_law_told" "_law_told" (defArgs s_law_told) (defBody s_law_told) (defScope s_law_told) .none kV41 dc41 pm41 an41 cd41 ct41), sl41⟩)
    (c41 : PySem.W.codeIn K cd41 "_law_told" = true)
    (k41 : PySem.W.keepIn K (.ref f41) = true)
    (a42 : PySem.W.nsIn K mainGlobals "_law_made" = some (some (.ref f42)))
    (l42 : K.lookup f42 = some ⟨oc42, od42, .func (PySem.W.fnOf "_law_made" "_law_made" (defArgs s_law_made) (defBody s_law_made) (defScope s_law_made) .none kV42 dc42 pm42 an42 cd42 ct42), sl42⟩)
    (c42 : PySem.W.codeIn K cd42 "_law_made" = true)
    (k42 : PySem.W.keepIn K (.ref f42) = true)
    (a43 : PySem.W.nsIn K mainGlobals "law" = some (some (.ref f43)))
    (l43 : K.lookup f43 = some ⟨oc43, od43, .func (PySem.W.fnOf "law" "law" (defArgs s_law) (defBody s_law) (defScope s_law) .none kV43 dc43 pm43 an43 cd43 ct43), sl43⟩)
    (c43 : PySem.W.codeIn K cd43 "law" = true)
    (k43 : PySem.W.keepIn K (.ref f43) = true)
    (pg_Entry : PySem.W.plainGet K C_Entry Str.empty = true)
    (hd_Entry : PySem.W.hasDictIn K C_Entry = true)
    (po_Entry : PySem.W.plainOver K C_Entry = true)
    (sa_Entry : PySem.W.findIn K (.ref C_Entry) "__setattr__" = some (some (.builtin "object.__setattr__")))
    (mk_Entry : PySem.W.makesIn K C_Entry = true)
    (kc_Entry : PySem.W.keepIn K (.ref C_Entry) = true)
    (cha_Entry : PySem.W.findIn K (.ref C_Entry) "__class__" = some (some (.builtin "object.__class__")))
    (chn_Entry : PySem.W.specialIn K (.builtin "object.__class__") "__get__" = some (some (.builtin "getset_descriptor.__get__")))
    (cht_Entry : PySem.W.takesIn K (.builtin "object.__class__") = some true)
    (chm_Entry : PySem.W.mroIn K C_Entry (.type "object") = some true)
    (cic_Entry : PySem.W.isClsIn K C_Entry = true)
    (cty_Entry : PySem.W.typeIn K (.ref C_Entry) = some (.type "type"))
    (nNoneType_Entry : PySem.W.notFirst K C_Entry (.type "NoneType") = true)
    (nbool_Entry : PySem.W.notFirst K C_Entry (.type "bool") = true)
    (nint_Entry : PySem.W.notFirst K C_Entry (.type "int") = true)
    (nstr_Entry : PySem.W.notFirst K C_Entry (.type "str") = true)
    (nlist_Entry : PySem.W.notFirst K C_Entry (.type "list") = true)
    (ntuple_Entry : PySem.W.notFirst K C_Entry (.type "tuple") = true)
    (na_name_Entry : PySem.W.findIn K (.ref C_Entry) "name" = some none)
    (na_vector_Entry : PySem.W.findIn K (.ref C_Entry) "vector" = some none)
    (na_height_Entry : PySem.W.findIn K (.ref C_Entry) "height" = some none)
    (na_maker_Entry : PySem.W.findIn K (.ref C_Entry) "maker" = some none)
    (na_deleted_Entry : PySem.W.findIn K (.ref C_Entry) "deleted" = some none)
    (na_time_Entry : PySem.W.findIn K (.ref C_Entry) "time" = some none)
    (na_blocks_Entry : PySem.W.findIn K (.ref C_Entry) "blocks" = some none)
    (pg_Reader : PySem.W.plainGet K C_Reader Str.empty = true)
    (hd_Reader : PySem.W.hasDictIn K C_Reader = true)
    (po_Reader : PySem.W.plainOver K C_Reader = true)
    (sa_Reader : PySem.W.findIn K (.ref C_Reader) "__setattr__" = some (some (.builtin "object.__setattr__")))
    (mk_Reader : PySem.W.makesIn K C_Reader = true)
    (kc_Reader : PySem.W.keepIn K (.ref C_Reader) = true)
    (cha_Reader : PySem.W.findIn K (.ref C_Reader) "__class__" = some (some (.builtin "object.__class__")))
    (chn_Reader : PySem.W.specialIn K (.builtin "object.__class__") "__get__" = some (some (.builtin "getset_descriptor.__get__")))
    (cht_Reader : PySem.W.takesIn K (.builtin "object.__class__") = some true)
    (chm_Reader : PySem.W.mroIn K C_Reader (.type "object") = some true)
    (cic_Reader : PySem.W.isClsIn K C_Reader = true)
    (cty_Reader : PySem.W.typeIn K (.ref C_Reader) = some (.type "type"))
    (nNoneType_Reader : PySem.W.notFirst K C_Reader (.type "NoneType") = true)
    (nbool_Reader : PySem.W.notFirst K C_Reader (.type "bool") = true)
    (nint_Reader : PySem.W.notFirst K C_Reader (.type "int") = true)
    (nstr_Reader : PySem.W.notFirst K C_Reader (.type "str") = true)
    (nlist_Reader : PySem.W.notFirst K C_Reader (.type "list") = true)
    (ntuple_Reader : PySem.W.notFirst K C_Reader (.type "tuple") = true)
    (na_data_Reader : PySem.W.findIn K (.ref C_Reader) "data" = some none)
    (na_at_Reader : PySem.W.findIn K (.ref C_Reader) "at" = some none)
    (lX : K.lookup gX = some ⟨ocX, odX, .func (PySem.W.ksFn "__init__" "FolderkinError.__init__" (defArgs s_X) (defBody s_X) (defScope s_X) .none kVX dcX pmX anX (.ref cdaX) ctX ccX), oslX⟩)
    (cX : PySem.W.codeIn K (.ref cdaX) "FolderkinError.__init__" = true)
    (oX : K.lookup cdaX = some ⟨cclX, cddX, .fields vsX, ccsX⟩)
    (vX : vsX[2]? = some (.str fileX tfX))
    (fX : ((l.prog.main.file : Str) == fileX) = true)
    (ceX : K.lookup ccX = some ⟨clX, cldX, .cell (some (.ref C_FolderkinError)), cslX⟩)
    (dX : PySem.W.isClsIn K C_FolderkinError = true)
    (kX : PySem.W.keepIn K (.ref gX) = true)
    (tX : PySem.W.typeIn K (.ref gX) = some (.type "function"))
    (tpX : PySem.W.nsIn K cStatics "thirdparty.any" = some none)
    (topX : (l.prog.main.scope.names.lookup ("super" : Str)).isSome = false)
    (suX : PySem.W.nsIn K mainGlobals "super" = some none)
    (e0_FolderkinError : K.lookup C_FolderkinError = some (PySem.excClassObj nm_FolderkinError q_FolderkinError C_FolderkinError N_FolderkinError bs_FolderkinError bm_FolderkinError true sn_FolderkinError sub_FolderkinError ab_FolderkinError col_FolderkinError dd_FolderkinError k0_FolderkinError k1_FolderkinError k2_FolderkinError k3_FolderkinError k5_FolderkinError "ValueError.__new__"))
    (ez_FolderkinError : PySem.HandSPX.refsVE bm_FolderkinError = true)
    (e1_FolderkinError : PySem.W.findIn K (.ref C_FolderkinError) "__setattr__" = some (some (.builtin "object.__setattr__")))
    (e2_FolderkinError : PySem.W.subIn K (.ref C_FolderkinError) (.type "BaseException") = some true)
    (e3_FolderkinError : PySem.W.typeIn K (.ref C_FolderkinError) = some (.type "type"))
    (e4_FolderkinError : PySem.W.keepIn K (.ref C_FolderkinError) = true)
    (e5_FolderkinError : PySem.W.isClsIn K C_FolderkinError = true)
    (e6_FolderkinError : PySem.W.mroIn K C_FolderkinError (.ref C_FolderkinError) = some true)
    (e7_FolderkinError : PySem.W.ks_superIn K C_FolderkinError C_FolderkinError "__init__" = some (some (.builtin "ValueError.__init__")))
    (e8_FolderkinError : PySem.W.subIn K (.ref C_FolderkinError) (.type "ValueError") = some true)
    (e9_FolderkinError : PySem.W.findIn K (.ref C_FolderkinError) "place" = some none)
    (ea_FolderkinError : PySem.W.findIn K (.ref C_FolderkinError) "__init__" = some (some (.ref gX)))
    (eb_FolderkinError : PySem.W.hasDictIn K C_FolderkinError = true)
    (ec_FolderkinError : PySem.W.findIn K (.ref C_FolderkinError) "__getattribute__" = some (some (.builtin "BaseException.__getattribute__")))
    (ed_FolderkinError : PySem.W.findIn K (.ref C_FolderkinError) "__getattr__" = some none)
    (ee_FolderkinError : PySem.W.findIn K (.ref C_FolderkinError) "__class__" = some (some (.builtin "object.__class__")))
    (ef_FolderkinError : PySem.W.specialIn K (.builtin "object.__class__") "__get__" = some (some (.builtin "getset_descriptor.__get__")))
    (eg_FolderkinError : PySem.W.takesIn K (.builtin "object.__class__") = some true)
    (eh_FolderkinError : PySem.W.mroIn K C_FolderkinError (.type "object") = some true)
    (e0_InvalidBlock : K.lookup C_InvalidBlock = some (PySem.excClassObj nm_InvalidBlock q_InvalidBlock C_InvalidBlock N_InvalidBlock bs_InvalidBlock bm_InvalidBlock true sn_InvalidBlock sub_InvalidBlock ab_InvalidBlock col_InvalidBlock dd_InvalidBlock k0_InvalidBlock k1_InvalidBlock k2_InvalidBlock k3_InvalidBlock k5_InvalidBlock "ValueError.__new__"))
    (ez_InvalidBlock : PySem.HandSPX.refsVE bm_InvalidBlock = true)
    (e1_InvalidBlock : PySem.W.findIn K (.ref C_InvalidBlock) "__setattr__" = some (some (.builtin "object.__setattr__")))
    (e2_InvalidBlock : PySem.W.subIn K (.ref C_InvalidBlock) (.type "BaseException") = some true)
    (e3_InvalidBlock : PySem.W.typeIn K (.ref C_InvalidBlock) = some (.type "type"))
    (e4_InvalidBlock : PySem.W.keepIn K (.ref C_InvalidBlock) = true)
    (e5_InvalidBlock : PySem.W.isClsIn K C_InvalidBlock = true)
    (e6_InvalidBlock : PySem.W.mroIn K C_InvalidBlock (.ref C_FolderkinError) = some true)
    (e7_InvalidBlock : PySem.W.ks_superIn K C_InvalidBlock C_FolderkinError "__init__" = some (some (.builtin "ValueError.__init__")))
    (e8_InvalidBlock : PySem.W.subIn K (.ref C_InvalidBlock) (.type "ValueError") = some true)
    (e9_InvalidBlock : PySem.W.findIn K (.ref C_InvalidBlock) "place" = some none)
    (ea_InvalidBlock : PySem.W.findIn K (.ref C_InvalidBlock) "__init__" = some (some (.ref gX)))
    (eb_InvalidBlock : PySem.W.hasDictIn K C_InvalidBlock = true)
    (ec_InvalidBlock : PySem.W.findIn K (.ref C_InvalidBlock) "__getattribute__" = some (some (.builtin "BaseException.__getattribute__")))
    (ed_InvalidBlock : PySem.W.findIn K (.ref C_InvalidBlock) "__getattr__" = some none)
    (ee_InvalidBlock : PySem.W.findIn K (.ref C_InvalidBlock) "__class__" = some (some (.builtin "object.__class__")))
    (ef_InvalidBlock : PySem.W.specialIn K (.builtin "object.__class__") "__get__" = some (some (.builtin "getset_descriptor.__get__")))
    (eg_InvalidBlock : PySem.W.takesIn K (.builtin "object.__class__") = some true)
    (eh_InvalidBlock : PySem.W.mroIn K C_InvalidBlock (.type "object") = some true)
    (e0_InvalidBytes : K.lookup C_InvalidBytes = some (PySem.excClassObj nm_InvalidBytes q_InvalidBytes C_InvalidBytes N_InvalidBytes bs_InvalidBytes bm_InvalidBytes true sn_InvalidBytes sub_InvalidBytes ab_InvalidBytes col_InvalidBytes dd_InvalidBytes k0_InvalidBytes k1_InvalidBytes k2_InvalidBytes k3_InvalidBytes k5_InvalidBytes "ValueError.__new__"))
    (ez_InvalidBytes : PySem.HandSPX.refsVE bm_InvalidBytes = true)
    (e1_InvalidBytes : PySem.W.findIn K (.ref C_InvalidBytes) "__setattr__" = some (some (.builtin "object.__setattr__")))
    (e2_InvalidBytes : PySem.W.subIn K (.ref C_InvalidBytes) (.type "BaseException") = some true)
    (e3_InvalidBytes : PySem.W.typeIn K (.ref C_InvalidBytes) = some (.type "type"))
    (e4_InvalidBytes : PySem.W.keepIn K (.ref C_InvalidBytes) = true)
    (e5_InvalidBytes : PySem.W.isClsIn K C_InvalidBytes = true)
    (e6_InvalidBytes : PySem.W.mroIn K C_InvalidBytes (.ref C_FolderkinError) = some true)
    (e7_InvalidBytes : PySem.W.ks_superIn K C_InvalidBytes C_FolderkinError "__init__" = some (some (.builtin "ValueError.__init__")))
    (e8_InvalidBytes : PySem.W.subIn K (.ref C_InvalidBytes) (.type "ValueError") = some true)
    (e9_InvalidBytes : PySem.W.findIn K (.ref C_InvalidBytes) "place" = some none)
    (ea_InvalidBytes : PySem.W.findIn K (.ref C_InvalidBytes) "__init__" = some (some (.ref gX)))
    (eb_InvalidBytes : PySem.W.hasDictIn K C_InvalidBytes = true)
    (ec_InvalidBytes : PySem.W.findIn K (.ref C_InvalidBytes) "__getattribute__" = some (some (.builtin "BaseException.__getattribute__")))
    (ed_InvalidBytes : PySem.W.findIn K (.ref C_InvalidBytes) "__getattr__" = some none)
    (ee_InvalidBytes : PySem.W.findIn K (.ref C_InvalidBytes) "__class__" = some (some (.builtin "object.__class__")))
    (ef_InvalidBytes : PySem.W.specialIn K (.builtin "object.__class__") "__get__" = some (some (.builtin "getset_descriptor.__get__")))
    (eg_InvalidBytes : PySem.W.takesIn K (.builtin "object.__class__") = some true)
    (eh_InvalidBytes : PySem.W.mroIn K C_InvalidBytes (.type "object") = some true)
    (es_InvalidBlock_InvalidBytes : PySem.W.subIn K (.ref C_InvalidBlock) (.ref C_InvalidBytes) = some false)
    (es_InvalidBytes_InvalidBytes : PySem.W.subIn K (.ref C_InvalidBytes) (.ref C_InvalidBytes) = some true)
    (z_all : PySem.W.nsIn K mainGlobals "all" = some none)
    (z_int : PySem.W.nsIn K mainGlobals "int" = some none)
    (z_isinstance : PySem.W.nsIn K mainGlobals "isinstance" = some none)
    (z_len : PySem.W.nsIn K mainGlobals "len" = some none)
    (z_list : PySem.W.nsIn K mainGlobals "list" = some none)
    (z_ord : PySem.W.nsIn K mainGlobals "ord" = some none)
    (z_range : PySem.W.nsIn K mainGlobals "range" = some none)
    (z_tuple : PySem.W.nsIn K mainGlobals "tuple" = some none)
    (y_INTENT : PySem.W.nsIn K mainGlobals "INTENT" = some (some (.int 3 t_INTENT)))
    (y_BLOCK : PySem.W.nsIn K mainGlobals "BLOCK" = some (some (.int 4 t_BLOCK)))
    (y_PEER : PySem.W.nsIn K mainGlobals "PEER" = some (some (.int 1 t_PEER)))
    (y_OWN : PySem.W.nsIn K mainGlobals "OWN" = some (some (.int 0 t_OWN)))
    (y_UPTO : PySem.W.nsIn K mainGlobals "UPTO" = some (some (.int 2 t_UPTO)))
    (y_MOST_BLOCKS : PySem.W.nsIn K mainGlobals "MOST_BLOCKS" = some (some (.int 255 t_MOST_BLOCKS)))
    (y_MOST_DEVICE : PySem.W.nsIn K mainGlobals "MOST_DEVICE" = some (some (.int 9 t_MOST_DEVICE)))
    (y_MOST_NAME : PySem.W.nsIn K mainGlobals "MOST_NAME" = some (some (.int 40 t_MOST_NAME)))
    (y_FIRST_CODE : PySem.W.nsIn K mainGlobals "FIRST_CODE" = some (some (.int 45 t_FIRST_CODE)))
    (y_TABLE : PySem.W.nsIn K mainGlobals "TABLE" = some (some (.str "-./0123456789:;<=>?\x40ABCDEFGHIJKLMNOPQRSTUVWXYZ[\\]^_`abcdefghijklmnopqrstuvwxyz{|}~" t_TABLE)))
    (y_CHARACTERS : PySem.W.nsIn K mainGlobals "CHARACTERS" = some (some (.str "-./0123456789ABCDEFGHIJKLMNOPQRSTUVWXYZ_abcdefghijklmnopqrstuvwxyz~" t_CHARACTERS)))
    (hm : ∀ (C_Entry C_Reader C_FolderkinError C_InvalidBlock C_InvalidBytes gX : Nat) (nx_InvalidBlock_InvalidBytes : C_InvalidBlock ≠ C_InvalidBytes) (ns : List Int), ns.length ≤ 63 → (f_law C_Entry C_Reader C_FolderkinError C_InvalidBlock C_InvalidBytes gX) [scriptD ns] (fun _ => none) (fun d _ => d = .bool true) (fun _ _ => False)) :
    ∃ fd : FuncData, (∀ (s : Shared) (v : Value), BindsTo s fd ⟨[v], []⟩ [("_law_script", v)]) ∧ ∀ base : Heap, K.In base → base.Ns mainGlobals mg → FnOk l.prog w K mg base (L2.CX l.prog w) 9 fa fd ["_law_script"] (fun vs H Q _ => ∃ (a : Addr) (ns : List Int), vs = [.ref a] ∧ SqL K H a (ns.map V.int) ∧ ns.length ≤ 63 ∧ ∀ H', Q (.bl true) H') := by
  have e := Value.ref.inj (Option.some.inj ((PySem.W.mg_of X G a43).symm.trans hfa))
  subst e
  have F0 : FunD K "block_number" "block_number" (defArgs s_block_number) (defBody s_block_number) (defScope s_block_number) [] [] f0 _ := ⟨⟨_, _, _, _, _, _, _, _, _, _, rfl, l0, c0, .inl ⟨rfl, rfl⟩, .inl rfl⟩, k0⟩
  have A0 : ∀ (base : Heap), AtF ⟨l.prog, w, K, mg, base, 0, true, true, none, []⟩ "block_number" "block_number" s_block_number ["data"] [] [] f0 := fun base => ⟨_, F0, F0.bindsN fun _ _ _ _ _ _ us hl => match us, hl with | [_], _ => rfl, fun j hj => by cases hj⟩
  have F1 : FunD K "block_size" "block_size" (defArgs s_block_size) (defBody s_block_size) (defScope s_block_size) [] [] f1 _ := ⟨⟨_, _, _, _, _, _, _, _, _, _, rfl, l1, c1, .inl ⟨rfl, rfl⟩, .inl rfl⟩, k1⟩
  have A1 : ∀ (base : Heap), AtF ⟨l.prog, w, K, mg, base, 0, true, true, none, []⟩ "block_size" "block_size" s_block_size ["number"] [] [] f1 := fun base => ⟨_, F1, F1.bindsN fun _ _ _ _ _ _ us hl => match us, hl with | [_], _ => rfl, fun j hj => by cases hj⟩
  have F2 : FunD K "is_block" "is_block" (defArgs s_is_block) (defBody s_is_block) (defScope s_is_block) [] [] f2 _ := ⟨⟨_, _, _, _, _, _, _, _, _, _, rfl, l2, c2, .inl ⟨rfl, rfl⟩, .inl rfl⟩, k2⟩
  have A2 : ∀ (base : Heap), AtF ⟨l.prog, w, K, mg, base, 0, true, true, none, []⟩ "is_block" "is_block" s_is_block ["number"] [] [] f2 := fun base => ⟨_, F2, F2.bindsN fun _ _ _ _ _ _ us hl => match us, hl with | [_], _ => rfl, fun j hj => by cases hj⟩
  have F3 : FunD K "block_bytes" "block_bytes" (defArgs s_block_bytes) (defBody s_block_bytes) (defScope s_block_bytes) [] [] f3 _ := ⟨⟨_, _, _, _, _, _, _, _, _, _, rfl, l3, c3, .inl ⟨rfl, rfl⟩, .inl rfl⟩, k3⟩
  have A3 : ∀ (base : Heap), AtF ⟨l.prog, w, K, mg, base, 0, true, true, none, []⟩ "block_bytes" "block_bytes" s_block_bytes ["number"] [] [] f3 := fun base => ⟨_, F3, F3.bindsN fun _ _ _ _ _ _ us hl => match us, hl with | [_], _ => rfl, fun j hj => by cases hj⟩
  have F4 : FunD K "__init__" "Entry.__init__" (defArgs s_Entry_init) (defBody s_Entry_init) (defScope s_Entry_init) [] [] f4 _ := ⟨⟨_, _, _, _, _, _, _, _, _, _, rfl, l4, c4, .inl ⟨rfl, rfl⟩, .inl rfl⟩, k4⟩
  have A4 : ∀ (base : Heap), AtF ⟨l.prog, w, K, mg, base, 0, true, true, none, []⟩ "__init__" "Entry.__init__" s_Entry_init ["self", "name", "vector", "height", "maker", "deleted", "time", "blocks"] [] [] f4 := fun base => ⟨_, F4, F4.bindsN fun _ _ _ _ _ _ us hl => match us, hl with | [_, _, _, _, _, _, _, _], _ => rfl, fun j hj => by cases hj⟩
  have F5 : FunD K "fields" "Entry.fields" (defArgs s_Entry_fields) (defBody s_Entry_fields) (defScope s_Entry_fields) [] [] f5 _ := ⟨⟨_, _, _, _, _, _, _, _, _, _, rfl, l5, c5, .inl ⟨rfl, rfl⟩, .inl rfl⟩, k5⟩
  have A5 : ∀ (base : Heap), AtF ⟨l.prog, w, K, mg, base, 0, true, true, none, []⟩ "fields" "Entry.fields" s_Entry_fields ["self"] [] [] f5 := fun base => ⟨_, F5, F5.bindsN fun _ _ _ _ _ _ us hl => match us, hl with | [_], _ => rfl, fun j hj => by cases hj⟩
  have F6 : FunD K "__eq__" "Entry.__eq__" (defArgs s_Entry_eq) (defBody s_Entry_eq) (defScope s_Entry_eq) [] [] f6 _ := ⟨⟨_, _, _, _, _, _, _, _, _, _, rfl, l6, c6, .inl ⟨rfl, rfl⟩, .inl rfl⟩, k6⟩
  have A6 : ∀ (base : Heap), AtF ⟨l.prog, w, K, mg, base, 0, true, true, none, []⟩ "__eq__" "Entry.__eq__" s_Entry_eq ["self", "other"] [] [] f6 := fun base => ⟨_, F6, F6.bindsN fun _ _ _ _ _ _ us hl => match us, hl with | [_, _], _ => rfl, fun j hj => by cases hj⟩
  have F7 : FunD K "character_of" "character_of" (defArgs s_character_of) (defBody s_character_of) (defScope s_character_of) [] [] f7 _ := ⟨⟨_, _, _, _, _, _, _, _, _, _, rfl, l7, c7, .inl ⟨rfl, rfl⟩, .inl rfl⟩, k7⟩
  have A7 : ∀ (base : Heap), AtF ⟨l.prog, w, K, mg, base, 0, true, true, none, []⟩ "character_of" "character_of" s_character_of ["code"] [] [] f7 := fun base => ⟨_, F7, F7.bindsN fun _ _ _ _ _ _ us hl => match us, hl with | [_], _ => rfl, fun j hj => by cases hj⟩
  have F8 : FunD K "number_bytes" "number_bytes" (defArgs s_number_bytes_coding) (defBody s_number_bytes_coding) (defScope s_number_bytes_coding) [] [] f8 _ := ⟨⟨_, _, _, _, _, _, _, _, _, _, rfl, l8, c8, .inl ⟨rfl, rfl⟩, .inl rfl⟩, k8⟩
  have A8 : ∀ (base : Heap), AtF ⟨l.prog, w, K, mg, base, 0, true, true, none, []⟩ "number_bytes" "number_bytes" s_number_bytes_coding ["number"] [] [] f8 := fun base => ⟨_, F8, F8.bindsN fun _ _ _ _ _ _ us hl => match us, hl with | [_], _ => rfl, fun j hj => by cases hj⟩
  have F9 : FunD K "name_bytes" "name_bytes" (defArgs s_name_bytes) (defBody s_name_bytes) (defScope s_name_bytes) [] [] f9 _ := ⟨⟨_, _, _, _, _, _, _, _, _, _, rfl, l9, c9, .inl ⟨rfl, rfl⟩, .inl rfl⟩, k9⟩
  have A9 : ∀ (base : Heap), AtF ⟨l.prog, w, K, mg, base, 0, true, true, none, []⟩ "name_bytes" "name_bytes" s_name_bytes ["name"] [] [] f9 := fun base => ⟨_, F9, F9.bindsN fun _ _ _ _ _ _ us hl => match us, hl with | [_], _ => rfl, fun j hj => by cases hj⟩
  have F10 : FunD K "vector_bytes" "vector_bytes" (defArgs s_vector_bytes) (defBody s_vector_bytes) (defScope s_vector_bytes) [] [] f10 _ := ⟨⟨_, _, _, _, _, _, _, _, _, _, rfl, l10, c10, .inl ⟨rfl, rfl⟩, .inl rfl⟩, k10⟩
  have A10 : ∀ (base : Heap), AtF ⟨l.prog, w, K, mg, base, 0, true, true, none, []⟩ "vector_bytes" "vector_bytes" s_vector_bytes ["vector"] [] [] f10 := fun base => ⟨_, F10, F10.bindsN fun _ _ _ _ _ _ us hl => match us, hl with | [_], _ => rfl, fun j hj => by cases hj⟩
  have F11 : FunD K "data_bytes" "data_bytes" (defArgs s_data_bytes) (defBody s_data_bytes) (defScope s_data_bytes) [] [] f11 _ := ⟨⟨_, _, _, _, _, _, _, _, _, _, rfl, l11, c11, .inl ⟨rfl, rfl⟩, .inl rfl⟩, k11⟩
  have A11 : ∀ (base : Heap), AtF ⟨l.prog, w, K, mg, base, 0, true, true, none, []⟩ "data_bytes" "data_bytes" s_data_bytes ["data"] [] [] f11 := fun base => ⟨_, F11, F11.bindsN fun _ _ _ _ _ _ us hl => match us, hl with | [_], _ => rfl, fun j hj => by cases hj⟩
  have F12 : FunD K "entry_bytes" "entry_bytes" (defArgs s_entry_bytes) (defBody s_entry_bytes) (defScope s_entry_bytes) [] [] f12 _ := ⟨⟨_, _, _, _, _, _, _, _, _, _, rfl, l12, c12, .inl ⟨rfl, rfl⟩, .inl rfl⟩, k12⟩
  have A12 : ∀ (base : Heap), AtF ⟨l.prog, w, K, mg, base, 0, true, true, none, []⟩ "entry_bytes" "entry_bytes" s_entry_bytes ["entry", "number"] [] [] f12 := fun base => ⟨_, F12, F12.bindsN fun _ _ _ _ _ _ us hl => match us, hl with | [_, _], _ => rfl, fun j hj => by cases hj⟩
  have F13 : FunD K "__init__" "Reader.__init__" (defArgs s_Reader_init) (defBody s_Reader_init) (defScope s_Reader_init) [V.int 0] [] f13 (PySem.W.fnOf "__init__" "Reader.__init__" (defArgs s_Reader_init) (defBody s_Reader_init) (defScope s_Reader_init) (.ref dT13) kV13 dc13 pm13 an13 cd13 ct13) := ⟨⟨_, _, _, _, _, _, _, _, _, _, rfl, l13, c13, .inr ⟨by simp, _, _, [.int 0 td13_0], _, rfl, t13, rfl, by repeat (first | exact .nil | refine .cons ?_ ?_ | exact rfl | exact ⟨_, rfl⟩)⟩, .inl rfl⟩, k13⟩
  have b13 : Binds K (PySem.W.fnOf "__init__" "Reader.__init__" (defArgs s_Reader_init) (defBody s_Reader_init) (defScope s_Reader_init) (.ref dT13) kV13 dc13 pm13 an13 cd13 ct13) ["self", "data", "at"] [] := by
    obtain ⟨ds, r, b⟩ := F13.binds1 (ps := ["self", "data", "at"]) 3 1 (by simp) rfl fun T kV doc pm an cdv ct us its h1 h2 => match us, its, h1, h2 with | [_, _, _], [_], _, _ => ⟨_, rfl, rfl⟩
    cases r
    exact b
  have A13 : ∀ (base : Heap), AtF ⟨l.prog, w, K, mg, base, 0, true, true, none, []⟩ "__init__" "Reader.__init__" s_Reader_init ["self", "data", "at"] [V.int 0] [0] f13 := fun base => ⟨_, F13, b13, fun j hj => by
    rcases List.mem_cons.mp hj with rfl | hj
    · exact F13.binds1 (ps := ["self", "data", "at"]) 2 0 (by simp) rfl fun T kV doc pm an cdv ct us its h1 h2 => match us, its, h1, h2 with | [_, _], [_], _, _ => ⟨_, rfl, rfl⟩
    cases hj⟩
  have F14 : FunD K "byte" "Reader.byte" (defArgs s_Reader_byte) (defBody s_Reader_byte) (defScope s_Reader_byte) [V.int 0, V.int 255] [] f14 (PySem.W.fnOf "byte" "Reader.byte" (defArgs s_Reader_byte) (defBody s_Reader_byte) (defScope s_Reader_byte) (.ref dT14) kV14 dc14 pm14 an14 cd14 ct14) := ⟨⟨_, _, _, _, _, _, _, _, _, _, rfl, l14, c14, .inr ⟨by simp, _, _, [.int 0 td14_0, .int 255 td14_1], _, rfl, t14, rfl, by repeat (first | exact .nil | refine .cons ?_ ?_ | exact rfl | exact ⟨_, rfl⟩)⟩, .inl rfl⟩, k14⟩
  have b14 : Binds K (PySem.W.fnOf "byte" "Reader.byte" (defArgs s_Reader_byte) (defBody s_Reader_byte) (defScope s_Reader_byte) (.ref dT14) kV14 dc14 pm14 an14 cd14 ct14) ["self", "least", "most"] [] := by
    obtain ⟨ds, r, b⟩ := F14.binds1 (ps := ["self", "least", "most"]) 3 2 (by simp) rfl fun T kV doc pm an cdv ct us its h1 h2 => match us, its, h1, h2 with | [_, _, _], [_, _], _, _ => ⟨_, rfl, rfl⟩
    cases r
    exact b
  have A14 : ∀ (base : Heap), AtF ⟨l.prog, w, K, mg, base, 0, true, true, none, []⟩ "byte" "Reader.byte" s_Reader_byte ["self", "least", "most"] [V.int 0, V.int 255] [0, 1] f14 := fun base => ⟨_, F14, b14, fun j hj => by
    rcases List.mem_cons.mp hj with rfl | hj
    · exact F14.binds1 (ps := ["self", "least", "most"]) 1 0 (by simp) rfl fun T kV doc pm an cdv ct us its h1 h2 => match us, its, h1, h2 with | [_], [_, _], _, _ => ⟨_, rfl, rfl⟩
    rcases List.mem_cons.mp hj with rfl | hj
    · exact F14.binds1 (ps := ["self", "least", "most"]) 2 1 (by simp) rfl fun T kV doc pm an cdv ct us its h1 h2 => match us, its, h1, h2 with | [_, _], [_, _], _, _ => ⟨_, rfl, rfl⟩
    cases hj⟩
  have F15 : FunD K "number" "Reader.number" (defArgs s_Reader_number) (defBody s_Reader_number) (defScope s_Reader_number) [V.int 0] [] f15 (PySem.W.fnOf "number" "Reader.number" (defArgs s_Reader_number) (defBody s_Reader_number) (defScope s_Reader_number) (.ref dT15) kV15 dc15 pm15 an15 cd15 ct15) := ⟨⟨_, _, _, _, _, _, _, _, _, _, rfl, l15, c15, .inr ⟨by simp, _, _, [.int 0 td15_0], _, rfl, t15, rfl, by repeat (first | exact .nil | refine .cons ?_ ?_ | exact rfl | exact ⟨_, rfl⟩)⟩, .inl rfl⟩, k15⟩
  have b15 : Binds K (PySem.W.fnOf "number" "Reader.number" (defArgs s_Reader_number) (defBody s_Reader_number) (defScope s_Reader_number) (.ref dT15) kV15 dc15 pm15 an15 cd15 ct15) ["self", "least"] [] := by
    obtain ⟨ds, r, b⟩ := F15.binds1 (ps := ["self", "least"]) 2 1 (by simp) rfl fun T kV doc pm an cdv ct us its h1 h2 => match us, its, h1, h2 with | [_, _], [_], _, _ => ⟨_, rfl, rfl⟩
    cases r
    exact b
  have A15 : ∀ (base : Heap), AtF ⟨l.prog, w, K, mg, base, 0, true, true, none, []⟩ "number" "Reader.number" s_Reader_number ["self", "least"] [V.int 0] [0] f15 := fun base => ⟨_, F15, b15, fun j hj => by
    rcases List.mem_cons.mp hj with rfl | hj
    · exact F15.binds1 (ps := ["self", "least"]) 1 0 (by simp) rfl fun T kV doc pm an cdv ct us its h1 h2 => match us, its, h1, h2 with | [_], [_], _, _ => ⟨_, rfl, rfl⟩
    cases hj⟩
  have F16 : FunD K "device" "Reader.device" (defArgs s_Reader_device) (defBody s_Reader_device) (defScope s_Reader_device) [] [] f16 _ := ⟨⟨_, _, _, _, _, _, _, _, _, _, rfl, l16, c16, .inl ⟨rfl, rfl⟩, .inl rfl⟩, k16⟩
  have A16 : ∀ (base : Heap), AtF ⟨l.prog, w, K, mg, base, 0, true, true, none, []⟩ "device" "Reader.device" s_Reader_device ["self"] [] [] f16 := fun base => ⟨_, F16, F16.bindsN fun _ _ _ _ _ _ us hl => match us, hl with | [_], _ => rfl, fun j hj => by cases hj⟩
  have F17 : FunD K "name" "Reader.name" (defArgs s_Reader_name) (defBody s_Reader_name) (defScope s_Reader_name) [] [] f17 _ := ⟨⟨_, _, _, _, _, _, _, _, _, _, rfl, l17, c17, .inl ⟨rfl, rfl⟩, .inl rfl⟩, k17⟩
  have A17 : ∀ (base : Heap), AtF ⟨l.prog, w, K, mg, base, 0, true, true, none, []⟩ "name" "Reader.name" s_Reader_name ["self"] [] [] f17 := fun base => ⟨_, F17, F17.bindsN fun _ _ _ _ _ _ us hl => match us, hl with | [_], _ => rfl, fun j hj => by cases hj⟩
  have F18 : FunD K "vector" "Reader.vector" (defArgs s_Reader_vector) (defBody s_Reader_vector) (defScope s_Reader_vector) [] [] f18 _ := ⟨⟨_, _, _, _, _, _, _, _, _, _, rfl, l18, c18, .inl ⟨rfl, rfl⟩, .inl rfl⟩, k18⟩
  have A18 : ∀ (base : Heap), AtF ⟨l.prog, w, K, mg, base, 0, true, true, none, []⟩ "vector" "Reader.vector" s_Reader_vector ["self"] [] [] f18 := fun base => ⟨_, F18, F18.bindsN fun _ _ _ _ _ _ us hl => match us, hl with | [_], _ => rfl, fun j hj => by cases hj⟩
  have F19 : FunD K "row" "Reader.row" (defArgs s_Reader_row) (defBody s_Reader_row) (defScope s_Reader_row) [V.int 1] [] f19 (PySem.W.fnOf "row" "Reader.row" (defArgs s_Reader_row) (defBody s_Reader_row) (defScope s_Reader_row) (.ref dT19) kV19 dc19 pm19 an19 cd19 ct19) := ⟨⟨_, _, _, _, _, _, _, _, _, _, rfl, l19, c19, .inr ⟨by simp, _, _, [.int 1 td19_0], _, rfl, t19, rfl, by repeat (first | exact .nil | refine .cons ?_ ?_ | exact rfl | exact ⟨_, rfl⟩)⟩, .inl rfl⟩, k19⟩
  have b19 : Binds K (PySem.W.fnOf "row" "Reader.row" (defArgs s_Reader_row) (defBody s_Reader_row) (defScope s_Reader_row) (.ref dT19) kV19 dc19 pm19 an19 cd19 ct19) ["self", "least"] [] := by
    obtain ⟨ds, r, b⟩ := F19.binds1 (ps := ["self", "least"]) 2 1 (by simp) rfl fun T kV doc pm an cdv ct us its h1 h2 => match us, its, h1, h2 with | [_, _], [_], _, _ => ⟨_, rfl, rfl⟩
    cases r
    exact b
  have A19 : ∀ (base : Heap), AtF ⟨l.prog, w, K, mg, base, 0, true, true, none, []⟩ "row" "Reader.row" s_Reader_row ["self", "least"] [V.int 1] [] f19 := fun base => ⟨_, F19, b19, fun j hj => by
    cases hj⟩
  have F20 : FunD K "block" "Reader.block" (defArgs s_Reader_block) (defBody s_Reader_block) (defScope s_Reader_block) [V.int 1] [] f20 (PySem.W.fnOf "block" "Reader.block" (defArgs s_Reader_block) (defBody s_Reader_block) (defScope s_Reader_block) (.ref dT20) kV20 dc20 pm20 an20 cd20 ct20) := ⟨⟨_, _, _, _, _, _, _, _, _, _, rfl, l20, c20, .inr ⟨by simp, _, _, [.int 1 td20_0], _, rfl, t20, rfl, by repeat (first | exact .nil | refine .cons ?_ ?_ | exact rfl | exact ⟨_, rfl⟩)⟩, .inl rfl⟩, k20⟩
  have b20 : Binds K (PySem.W.fnOf "block" "Reader.block" (defArgs s_Reader_block) (defBody s_Reader_block) (defScope s_Reader_block) (.ref dT20) kV20 dc20 pm20 an20 cd20 ct20) ["self", "least"] [] := by
    obtain ⟨ds, r, b⟩ := F20.binds1 (ps := ["self", "least"]) 2 1 (by simp) rfl fun T kV doc pm an cdv ct us its h1 h2 => match us, its, h1, h2 with | [_, _], [_], _, _ => ⟨_, rfl, rfl⟩
    cases r
    exact b
  have A20 : ∀ (base : Heap), AtF ⟨l.prog, w, K, mg, base, 0, true, true, none, []⟩ "block" "Reader.block" s_Reader_block ["self", "least"] [V.int 1] [] f20 := fun base => ⟨_, F20, b20, fun j hj => by
    cases hj⟩
  have F21 : FunD K "entry" "Reader.entry" (defArgs s_Reader_entry) (defBody s_Reader_entry) (defScope s_Reader_entry) [] [] f21 _ := ⟨⟨_, _, _, _, _, _, _, _, _, _, rfl, l21, c21, .inl ⟨rfl, rfl⟩, .inl rfl⟩, k21⟩
  have A21 : ∀ (base : Heap), AtF ⟨l.prog, w, K, mg, base, 0, true, true, none, []⟩ "entry" "Reader.entry" s_Reader_entry ["self"] [] [] f21 := fun base => ⟨_, F21, F21.bindsN fun _ _ _ _ _ _ us hl => match us, hl with | [_], _ => rfl, fun j hj => by cases hj⟩
  have F22 : FunD K "number_bytes" "number_bytes" (defArgs s_number_bytes_book) (defBody s_number_bytes_book) (defScope s_number_bytes_book) [] [] f22 _ := ⟨⟨_, _, _, _, _, _, _, _, _, _, rfl, l22, c22, .inl ⟨rfl, rfl⟩, .inl rfl⟩, k22⟩
  have A22 : ∀ (base : Heap), AtF ⟨l.prog, w, K, mg, base, 0, true, true, none, []⟩ "number_bytes" "number_bytes" s_number_bytes_book ["number", "width"] [] [] f22 := fun base => ⟨_, F22, F22.bindsN fun _ _ _ _ _ _ us hl => match us, hl with | [_, _], _ => rfl, fun j hj => by cases hj⟩
  have F23 : FunD K "check_of" "check_of" (defArgs s_check_of) (defBody s_check_of) (defScope s_check_of) [] [] f23 _ := ⟨⟨_, _, _, _, _, _, _, _, _, _, rfl, l23, c23, .inl ⟨rfl, rfl⟩, .inl rfl⟩, k23⟩
  have A23 : ∀ (base : Heap), AtF ⟨l.prog, w, K, mg, base, 0, true, true, none, []⟩ "check_of" "check_of" s_check_of ["data"] [] [] f23 := fun base => ⟨_, F23, F23.bindsN fun _ _ _ _ _ _ us hl => match us, hl with | [_], _ => rfl, fun j hj => by cases hj⟩
  have F24 : FunD K "sealed" "sealed" (defArgs s_sealed) (defBody s_sealed) (defScope s_sealed) [] [] f24 _ := ⟨⟨_, _, _, _, _, _, _, _, _, _, rfl, l24, c24, .inl ⟨rfl, rfl⟩, .inl rfl⟩, k24⟩
  have A24 : ∀ (base : Heap), AtF ⟨l.prog, w, K, mg, base, 0, true, true, none, []⟩ "sealed" "sealed" s_sealed ["body"] [] [] f24 := fun base => ⟨_, F24, F24.bindsN fun _ _ _ _ _ _ us hl => match us, hl with | [_], _ => rfl, fun j hj => by cases hj⟩
  have F25 : FunD K "record_of" "record_of" (defArgs s_record_of) (defBody s_record_of) (defScope s_record_of) [] [] f25 _ := ⟨⟨_, _, _, _, _, _, _, _, _, _, rfl, l25, c25, .inl ⟨rfl, rfl⟩, .inl rfl⟩, k25⟩
  have A25 : ∀ (base : Heap), AtF ⟨l.prog, w, K, mg, base, 0, true, true, none, []⟩ "record_of" "record_of" s_record_of ["entry", "number"] [] [] f25 := fun base => ⟨_, F25, F25.bindsN fun _ _ _ _ _ _ us hl => match us, hl with | [_, _], _ => rfl, fun j hj => by cases hj⟩
  have F26 : FunD K "intent_record" "intent_record" (defArgs s_intent_record) (defBody s_intent_record) (defScope s_intent_record) [] [] f26 _ := ⟨⟨_, _, _, _, _, _, _, _, _, _, rfl, l26, c26, .inl ⟨rfl, rfl⟩, .inl rfl⟩, k26⟩
  have A26 : ∀ (base : Heap), AtF ⟨l.prog, w, K, mg, base, 0, true, true, none, []⟩ "intent_record" "intent_record" s_intent_record ["entry", "number"] [] [] f26 := fun base => ⟨_, F26, F26.bindsN fun _ _ _ _ _ _ us hl => match us, hl with | [_, _], _ => rfl, fun j hj => by cases hj⟩
  have F27 : FunD K "peer_record" "peer_record" (defArgs s_peer_record) (defBody s_peer_record) (defScope s_peer_record) [] [] f27 _ := ⟨⟨_, _, _, _, _, _, _, _, _, _, rfl, l27, c27, .inl ⟨rfl, rfl⟩, .inl rfl⟩, k27⟩
  have A27 : ∀ (base : Heap), AtF ⟨l.prog, w, K, mg, base, 0, true, true, none, []⟩ "peer_record" "peer_record" s_peer_record ["device", "entry", "number"] [] [] f27 := fun base => ⟨_, F27, F27.bindsN fun _ _ _ _ _ _ us hl => match us, hl with | [_, _, _], _ => rfl, fun j hj => by cases hj⟩
  have F28 : FunD K "upto_record" "upto_record" (defArgs s_upto_record) (defBody s_upto_record) (defScope s_upto_record) [] [] f28 _ := ⟨⟨_, _, _, _, _, _, _, _, _, _, rfl, l28, c28, .inl ⟨rfl, rfl⟩, .inl rfl⟩, k28⟩
  have A28 : ∀ (base : Heap), AtF ⟨l.prog, w, K, mg, base, 0, true, true, none, []⟩ "upto_record" "upto_record" s_upto_record ["device", "number"] [] [] f28 := fun base => ⟨_, F28, F28.bindsN fun _ _ _ _ _ _ us hl => match us, hl with | [_, _], _ => rfl, fun j hj => by cases hj⟩
  have F29 : FunD K "read_body" "read_body" (defArgs s_read_body) (defBody s_read_body) (defScope s_read_body) [] [] f29 _ := ⟨⟨_, _, _, _, _, _, _, _, _, _, rfl, l29, c29, .inl ⟨rfl, rfl⟩, .inl rfl⟩, k29⟩
  have A29 : ∀ (base : Heap), AtF ⟨l.prog, w, K, mg, base, 0, true, true, none, []⟩ "read_body" "read_body" s_read_body ["body"] [] [] f29 := fun base => ⟨_, F29, F29.bindsN fun _ _ _ _ _ _ us hl => match us, hl with | [_], _ => rfl, fun j hj => by cases hj⟩
  have F30 : FunD K "read_log" "read_log" (defArgs s_read_log) (defBody s_read_log) (defScope s_read_log) [] [] f30 _ := ⟨⟨_, _, _, _, _, _, _, _, _, _, rfl, l30, c30, .inl ⟨rfl, rfl⟩, .inl rfl⟩, k30⟩
  have A30 : ∀ (base : Heap), AtF ⟨l.prog, w, K, mg, base, 0, true, true, none, []⟩ "read_log" "read_log" s_read_log ["data"] [] [] f30 := fun base => ⟨_, F30, F30.bindsN fun _ _ _ _ _ _ us hl => match us, hl with | [_], _ => rfl, fun j hj => by cases hj⟩
  have F31 : FunD K "_law_draw" "_law_draw" (defArgs s_law_draw) (defBody s_law_draw) (defScope s_law_draw) [] [] f31 _ := ⟨⟨_, _, _, _, _, _, _, _, _, _, rfl, l31, c31, .inl ⟨rfl, rfl⟩, .inl rfl⟩, k31⟩
  have A31 : ∀ (base : Heap), AtF ⟨l.prog, w, K, mg, base, 0, true, true, none, []⟩ "_law_draw" "_law_draw" s_law_draw ["_law_state", "_law_script", "_law_size"] [] [] f31 := fun base => ⟨_, F31, F31.bindsN fun _ _ _ _ _ _ us hl => match us, hl with | [_, _, _], _ => rfl, fun j hj => by cases hj⟩
  have F32 : FunD K "_law_name" "_law_name" (defArgs s_law_name) (defBody s_law_name) (defScope s_law_name) [] [] f32 _ := ⟨⟨_, _, _, _, _, _, _, _, _, _, rfl, l32, c32, .inl ⟨rfl, rfl⟩, .inl rfl⟩, k32⟩
  have A32 : ∀ (base : Heap), AtF ⟨l.prog, w, K, mg, base, 0, true, true, none, []⟩ "_law_name" "_law_name" s_law_name ["_law_state", "_law_script"] [] [] f32 := fun base => ⟨_, F32, F32.bindsN fun _ _ _ _ _ _ us hl => match us, hl with | [_, _], _ => rfl, fun j hj => by cases hj⟩
  have F33 : FunD K "_law_content" "_law_content" (defArgs s_law_content) (defBody s_law_content) (defScope s_law_content) [] [] f33 _ := ⟨⟨_, _, _, _, _, _, _, _, _, _, rfl, l33, c33, .inl ⟨rfl, rfl⟩, .inl rfl⟩, k33⟩
  have A33 : ∀ (base : Heap), AtF ⟨l.prog, w, K, mg, base, 0, true, true, none, []⟩ "_law_content" "_law_content" s_law_content ["_law_state", "_law_script", "_law_most"] [] [] f33 := fun base => ⟨_, F33, F33.bindsN fun _ _ _ _ _ _ us hl => match us, hl with | [_, _, _], _ => rfl, fun j hj => by cases hj⟩
  have F34 : FunD K "_law_blocks" "_law_blocks" (defArgs s_law_blocks) (defBody s_law_blocks) (defScope s_law_blocks) [] [] f34 _ := ⟨⟨_, _, _, _, _, _, _, _, _, _, rfl, l34, c34, .inl ⟨rfl, rfl⟩, .inl rfl⟩, k34⟩
  have A34 : ∀ (base : Heap), AtF ⟨l.prog, w, K, mg, base, 0, true, true, none, []⟩ "_law_blocks" "_law_blocks" s_law_blocks ["_law_content_here"] [] [] f34 := fun base => ⟨_, F34, F34.bindsN fun _ _ _ _ _ _ us hl => match us, hl with | [_], _ => rfl, fun j hj => by cases hj⟩
  have F35 : FunD K "_law_vector" "_law_vector" (defArgs s_law_vector) (defBody s_law_vector) (defScope s_law_vector) [] [] f35 _ := ⟨⟨_, _, _, _, _, _, _, _, _, _, rfl, l35, c35, .inl ⟨rfl, rfl⟩, .inl rfl⟩, k35⟩
  have A35 : ∀ (base : Heap), AtF ⟨l.prog, w, K, mg, base, 0, true, true, none, []⟩ "_law_vector" "_law_vector" s_law_vector ["_law_state", "_law_script"] [] [] f35 := fun base => ⟨_, F35, F35.bindsN fun _ _ _ _ _ _ us hl => match us, hl with | [_, _], _ => rfl, fun j hj => by cases hj⟩
  have F36 : FunD K "_law_entry" "_law_entry" (defArgs s_law_entry) (defBody s_law_entry) (defScope s_law_entry) [] [] f36 _ := ⟨⟨_, _, _, _, _, _, _, _, _, _, rfl, l36, c36, .inl ⟨rfl, rfl⟩, .inl rfl⟩, k36⟩
  have A36 : ∀ (base : Heap), AtF ⟨l.prog, w, K, mg, base, 0, true, true, none, []⟩ "_law_entry" "_law_entry" s_law_entry ["_law_state", "_law_script"] [] [] f36 := fun base => ⟨_, F36, F36.bindsN fun _ _ _ _ _ _ us hl => match us, hl with | [_, _], _ => rfl, fun j hj => by cases hj⟩
  have F37 : FunD K "_law_wide" "_law_wide" (defArgs s_law_wide) (defBody s_law_wide) (defScope s_law_wide) [] [] f37 _ := ⟨⟨_, _, _, _, _, _, _, _, _, _, rfl, l37, c37, .inl ⟨rfl, rfl⟩, .inl rfl⟩, k37⟩
  have A37 : ∀ (base : Heap), AtF ⟨l.prog, w, K, mg, base, 0, true, true, none, []⟩ "_law_wide" "_law_wide" s_law_wide ["_law_number", "_law_width"] [] [] f37 := fun base => ⟨_, F37, F37.bindsN fun _ _ _ _ _ _ us hl => match us, hl with | [_, _], _ => rfl, fun j hj => by cases hj⟩
  have F38 : FunD K "_law_sealed" "_law_sealed" (defArgs s_law_sealed) (defBody s_law_sealed) (defScope s_law_sealed) [] [] f38 _ := ⟨⟨_, _, _, _, _, _, _, _, _, _, rfl, l38, c38, .inl ⟨rfl, rfl⟩, .inl rfl⟩, k38⟩
  have A38 : ∀ (base : Heap), AtF ⟨l.prog, w, K, mg, base, 0, true, true, none, []⟩ "_law_sealed" "_law_sealed" s_law_sealed ["_law_body"] [] [] f38 := fun base => ⟨_, F38, F38.bindsN fun _ _ _ _ _ _ us hl => match us, hl with | [_], _ => rfl, fun j hj => by cases hj⟩
  have F39 : FunD K "_law_entry_bytes" "_law_entry_bytes" (defArgs s_law_entry_bytes) (defBody s_law_entry_bytes) (defScope s_law_entry_bytes) [] [] f39 _ := ⟨⟨_, _, _, _, _, _, _, _, _, _, rfl, l39, c39, .inl ⟨rfl, rfl⟩, .inl rfl⟩, k39⟩
  have A39 : ∀ (base : Heap), AtF ⟨l.prog, w, K, mg, base, 0, true, true, none, []⟩ "_law_entry_bytes" "_law_entry_bytes" s_law_entry_bytes ["_law_entry_here", "_law_number"] [] [] f39 := fun base => ⟨_, F39, F39.bindsN fun _ _ _ _ _ _ us hl => match us, hl with | [_, _], _ => rfl, fun j hj => by cases hj⟩
  have F40 : FunD K "_law_record" "_law_record" (defArgs s_law_record) (defBody s_law_record) (defScope s_law_record) [] [] f40 _ := ⟨⟨_, _, _, _, _, _, _, _, _, _, rfl, l40, c40, .inl ⟨rfl, rfl⟩, .inl rfl⟩, k40⟩
  have A40 : ∀ (base : Heap), AtF ⟨l.prog, w, K, mg, base, 0, true, true, none, []⟩ "_law_record" "_law_record" s_law_record ["_law_told_here"] [] [] f40 := fun base => ⟨_, F40, F40.bindsN fun _ _ _ _ _ _ us hl => match us, hl with | [_], _ => rfl, fun j hj => by cases hj⟩
  have F41 : FunD K "_law_told" "_law_told" (defArgs s_law_told) (defBody s_law_told) (defScope s_law_told) [] [] f41 _ := ⟨⟨_, _, _, _, _, _, _, _, _, _, rfl, l41, c41, .inl ⟨rfl, rfl⟩, .inl rfl⟩, k41⟩
  have A41 : ∀ (base : Heap), AtF ⟨l.prog, w, K, mg, base, 0, true, true, none, []⟩ "_law_told" "_law_told" s_law_told ["_law_state", "_law_script"] [] [] f41 := fun base => ⟨_, F41, F41.bindsN fun _ _ _ _ _ _ us hl => match us, hl with | [_, _], _ => rfl, fun j hj => by cases hj⟩
  have F42 : FunD K "_law_made" "_law_made" (defArgs s_law_made) (defBody s_law_made) (defScope s_law_made) [] [] f42 _ := ⟨⟨_, _, _, _, _, _, _, _, _, _, rfl, l42, c42, .inl ⟨rfl, rfl⟩, .inl rfl⟩, k42⟩
  have A42 : ∀ (base : Heap), AtF ⟨l.prog, w, K, mg, base, 0, true, true, none, []⟩ "_law_made" "_law_made" s_law_made ["_law_told_here"] [] [] f42 := fun base => ⟨_, F42, F42.bindsN fun _ _ _ _ _ _ us hl => match us, hl with | [_], _ => rfl, fun j hj => by cases hj⟩
  have F43 : FunD K "law" "law" (defArgs s_law) (defBody s_law) (defScope s_law) [] [] f43 _ := ⟨⟨_, _, _, _, _, _, _, _, _, _, rfl, l43, c43, .inl ⟨rfl, rfl⟩, .inl rfl⟩, k43⟩
  have A43 : ∀ (base : Heap), AtF ⟨l.prog, w, K, mg, base, 0, true, true, none, []⟩ "law" "law" s_law ["_law_script"] [] [] f43 := fun base => ⟨_, F43, F43.bindsN fun _ _ _ _ _ _ us hl => match us, hl with | [_], _ => rfl, fun j hj => by cases hj⟩
  have TX : ExI l.prog K C_FolderkinError gX "FolderkinError.__init__" s_X := ⟨by
    obtain ⟨cd, hcd⟩ := Option.isSome_iff_exists.mp dX
    exact ⟨_, _, _, _, _, _, _, _, _, _, _, _, _, _, _, _, _, _, _, cd, lX, cX, oX, vX, fX, ceX, hcd⟩, kX, tX, tpX, topX⟩
  have E_FolderkinError : ExC K C_FolderkinError gX C_FolderkinError := ⟨⟨⟨_, _, _, _, _, _, _, _, _, _, _, _, _, _, _, e0_FolderkinError, ez_FolderkinError⟩, e1_FolderkinError, e2_FolderkinError, e3_FolderkinError, e4_FolderkinError⟩, Option.isSome_iff_exists.mp e5_FolderkinError, e6_FolderkinError, e7_FolderkinError, e8_FolderkinError, e9_FolderkinError, ea_FolderkinError, eb_FolderkinError, ec_FolderkinError, ed_FolderkinError, ee_FolderkinError, ef_FolderkinError, eg_FolderkinError, eh_FolderkinError⟩
  have E_InvalidBlock : ExC K C_FolderkinError gX C_InvalidBlock := ⟨⟨⟨_, _, _, _, _, _, _, _, _, _, _, _, _, _, _, e0_InvalidBlock, ez_InvalidBlock⟩, e1_InvalidBlock, e2_InvalidBlock, e3_InvalidBlock, e4_InvalidBlock⟩, Option.isSome_iff_exists.mp e5_InvalidBlock, e6_InvalidBlock, e7_InvalidBlock, e8_InvalidBlock, e9_InvalidBlock, ea_InvalidBlock, eb_InvalidBlock, ec_InvalidBlock, ed_InvalidBlock, ee_InvalidBlock, ef_InvalidBlock, eg_InvalidBlock, eh_InvalidBlock⟩
  have E_InvalidBytes : ExC K C_FolderkinError gX C_InvalidBytes := ⟨⟨⟨_, _, _, _, _, _, _, _, _, _, _, _, _, _, _, e0_InvalidBytes, ez_InvalidBytes⟩, e1_InvalidBytes, e2_InvalidBytes, e3_InvalidBytes, e4_InvalidBytes⟩, Option.isSome_iff_exists.mp e5_InvalidBytes, e6_InvalidBytes, e7_InvalidBytes, e8_InvalidBytes, e9_InvalidBytes, ea_InvalidBytes, eb_InvalidBytes, ec_InvalidBytes, ed_InvalidBytes, ee_InvalidBytes, ef_InvalidBytes, eg_InvalidBytes, eh_InvalidBytes⟩
  have T : ∀ base : Heap, Facts ⟨l.prog, w, K, mg, base, 0, true, true, none, []⟩ C_Entry C_Reader C_FolderkinError C_InvalidBlock C_InvalidBytes gX := fun base => ⟨PySem.W.mg_none_of X G z_all, PySem.W.mg_none_of X G z_int, PySem.W.mg_none_of X G z_isinstance, PySem.W.mg_none_of X G z_len, PySem.W.mg_none_of X G z_list, PySem.W.mg_none_of X G z_ord, PySem.W.mg_none_of X G z_range, PySem.W.mg_none_of X G z_tuple, ⟨_, PySem.W.mg_of X G y_INTENT⟩, ⟨_, PySem.W.mg_of X G y_BLOCK⟩, ⟨_, PySem.W.mg_of X G y_PEER⟩, ⟨_, PySem.W.mg_of X G y_OWN⟩, ⟨_, PySem.W.mg_of X G y_UPTO⟩, ⟨_, PySem.W.mg_of X G y_MOST_BLOCKS⟩, ⟨_, PySem.W.mg_of X G y_MOST_DEVICE⟩, ⟨_, PySem.W.mg_of X G y_MOST_NAME⟩, ⟨_, PySem.W.mg_of X G y_FIRST_CODE⟩, ⟨_, PySem.W.mg_of X G y_TABLE⟩, ⟨_, PySem.W.mg_of X G y_CHARACTERS⟩, ⟨PySem.W.mg_of X G aC_Entry, ⟨pg_Entry, hd_Entry, po_Entry, sa_Entry⟩, cha_Entry, chn_Entry, cht_Entry, chm_Entry, kit_self, kit_other cic_Entry cty_Entry nNoneType_Entry, kit_other cic_Entry cty_Entry nbool_Entry, kit_other cic_Entry cty_Entry nint_Entry, kit_other cic_Entry cty_Entry nstr_Entry, kit_other cic_Entry cty_Entry nlist_Entry, kit_other cic_Entry cty_Entry ntuple_Entry, nlist_Entry, ntuple_Entry⟩, na_name_Entry, na_vector_Entry, na_height_Entry, na_maker_Entry, na_deleted_Entry, na_time_Entry, na_blocks_Entry, ⟨PySem.W.mg_of X G aC_Reader, ⟨pg_Reader, hd_Reader, po_Reader, sa_Reader⟩, cha_Reader, chn_Reader, cht_Reader, chm_Reader, kit_self, kit_other cic_Reader cty_Reader nNoneType_Reader, kit_other cic_Reader cty_Reader nbool_Reader, kit_other cic_Reader cty_Reader nint_Reader, kit_other cic_Reader cty_Reader nstr_Reader, kit_other cic_Reader cty_Reader nlist_Reader, kit_other cic_Reader cty_Reader ntuple_Reader, nlist_Reader, ntuple_Reader⟩, na_data_Reader, na_at_Reader, ⟨exi_ok TX form_X (PySem.W.mg_none_of X G suX), tX, E_FolderkinError, PySem.W.mg_of X G aC_FolderkinError⟩, ⟨exi_ok TX form_X (PySem.W.mg_none_of X G suX), tX, E_InvalidBlock, PySem.W.mg_of X G aC_InvalidBlock⟩, ⟨exi_ok TX form_X (PySem.W.mg_none_of X G suX), tX, E_InvalidBytes, PySem.W.mg_of X G aC_InvalidBytes⟩, PySem.W.exm_ref e2_InvalidBytes eb_InvalidBytes e3_InvalidBytes es_InvalidBlock_InvalidBytes, PySem.W.exm_ref e2_InvalidBytes eb_InvalidBytes e3_InvalidBytes es_InvalidBytes_InvalidBytes, ⟨_, A0 base, PySem.W.mg_of X G a0⟩, ⟨_, A1 base, PySem.W.mg_of X G a1⟩, ⟨_, A2 base, PySem.W.mg_of X G a2⟩, ⟨_, A3 base, PySem.W.mg_of X G a3⟩, ⟨_, A4 base, ⟨mk_Entry, a4, i4, kc_Entry⟩, PySem.W.mg_of X G aC_Entry⟩, ⟨_, A5 base, ⟨a5, i5, k5⟩⟩, ⟨_, A6 base, ⟨a6, i6, k6⟩⟩, ⟨_, A7 base, PySem.W.mg_of X G a7⟩, ⟨_, A8 base, PySem.W.mg_of X G a8⟩, ⟨_, A9 base, PySem.W.mg_of X G a9⟩, ⟨_, A10 base, PySem.W.mg_of X G a10⟩, ⟨_, A11 base, PySem.W.mg_of X G a11⟩, ⟨_, A12 base, PySem.W.mg_of X G a12⟩, ⟨_, A13 base, ⟨mk_Reader, a13, i13, kc_Reader⟩, PySem.W.mg_of X G aC_Reader⟩, ⟨_, A14 base, ⟨a14, i14, k14⟩⟩, ⟨_, A15 base, ⟨a15, i15, k15⟩⟩, ⟨_, A16 base, ⟨a16, i16, k16⟩⟩, ⟨_, A17 base, ⟨a17, i17, k17⟩⟩, ⟨_, A18 base, ⟨a18, i18, k18⟩⟩, ⟨_, A19 base, ⟨a19, i19, k19⟩⟩, ⟨_, A20 base, ⟨a20, i20, k20⟩⟩, ⟨_, A21 base, ⟨a21, i21, k21⟩⟩, ⟨_, A22 base, PySem.W.mg_of X G a22⟩, ⟨_, A23 base, PySem.W.mg_of X G a23⟩, ⟨_, A24 base, PySem.W.mg_of X G a24⟩, ⟨_, A25 base, PySem.W.mg_of X G a25⟩, ⟨_, A26 base, PySem.W.mg_of X G a26⟩, ⟨_, A27 base, PySem.W.mg_of X G a27⟩, ⟨_, A28 base, PySem.W.mg_of X G a28⟩, ⟨_, A29 base, PySem.W.mg_of X G a29⟩, ⟨_, A30 base, PySem.W.mg_of X G a30⟩, ⟨_, A31 base, PySem.W.mg_of X G a31⟩, ⟨_, A32 base, PySem.W.mg_of X G a32⟩, ⟨_, A33 base, PySem.W.mg_of X G a33⟩, ⟨_, A34 base, PySem.W.mg_of X G a34⟩, ⟨_, A35 base, PySem.W.mg_of X G a35⟩, ⟨_, A36 base, PySem.W.mg_of X G a36⟩, ⟨_, A37 base, PySem.W.mg_of X G a37⟩, ⟨_, A38 base, PySem.W.mg_of X G a38⟩, ⟨_, A39 base, PySem.W.mg_of X G a39⟩, ⟨_, A40 base, PySem.W.mg_of X G a40⟩, ⟨_, A41 base, PySem.W.mg_of X G a41⟩, ⟨_, A42 base, PySem.W.mg_of X G a42⟩, ⟨_, A43 base, PySem.W.mg_of X G a43⟩⟩
  refine ⟨_, fun s v => F43.bindsA (ps := ["_law_script"]) (fun _ _ _ _ _ _ us hl => match us, hl with | [_], _ => rfl) s [v] rfl, fun base _ _ => ?_⟩
  have nx_InvalidBlock_InvalidBytes : C_InvalidBlock ≠ C_InvalidBytes := fun e => by
    have h1 := (T base).em_InvalidBlock_InvalidBytes
    have h2 := (T base).em_InvalidBytes_InvalidBytes
    rw [e] at h1
    exact Bool.noConfusion (Option.some.inj (h1.symm.trans h2))
  exact law_fn (c := ⟨l.prog, w, K, mg, base, 0, true, true, none, []⟩) (fn_okD (c := ⟨l.prog, w, K, mg, base, 0, true, true, none, []⟩) (F43) sc_law (jb_law (T base))) (hm C_Entry C_Reader C_FolderkinError C_InvalidBlock C_InvalidBytes gX nx_InvalidBlock_InvalidBytes)
end K21
namespace K21
open PySem L2 Hz
local macro_rules | `(tactic| array_mem_dec) => `(tactic| (first | ((with_reducible apply w_xf); exact rfl; exact decide_eq_true rfl; exact rfl) | ((with_reducible apply w_frzS); exact rfl; (first | assumption | exact aset_same); (try simp only [List.set])) | ((with_reducible apply rg1_of); (first | omega | decide)) | ((with_reducible apply rg2_of); (first | omega | decide)) | ((with_reducible apply lok); exact rfl) | ((with_reducible refine it2_dec ?_ ?_) <;> intro)))
local macro_rules | `(tactic| array_mem_dec) => `(tactic| (first | ((with_reducible apply oq_setv2); (simp only [List.set, wipeA]; exact rfl)) | ((with_reducible apply cal_of); exact rfl; (try simp only [List.cons_append, List.nil_append, List.append_nil])) | ((with_reducible apply w_aug); exact rfl) | ((with_reducible apply cel_of); (first | assumption | exact aset_same)) | ((with_reducible apply ceo_of); (first | assumption | exact aset_same)) | ((with_reducible apply tlG_r); (first | assumption | exact aset_same)) | ((with_reducible apply fr_of); (first | assumption | exact aset_same)) | ((with_reducible apply fd_cons); exact trivial) | ((with_reducible apply fd_nil); exact trivial) | ((with_reducible apply oq_isiB (b := true)); exact rfl) | ((with_reducible apply oq_isiB (b := false)); exact rfl) | ((with_reducible apply w_xi); exact rfl; exact decide_eq_true rfl; exact if_pos rfl)))
local macro_rules | `(tactic| array_mem_dec) => `(tactic| (with_reducible first | refine pr2_of ?_))
local macro_rules | `(tactic| array_mem_dec) => `(tactic| (with_reducible first | refine tb_b ?_ | refine ti_b ?_ | refine ts_b ?_ | refine we_nx ?_ | refine we_rt ?_ | refine we_ex ?_ | refine wn_nx ?_ | refine wn_rt ?_ | refine wn_bk ?_ | refine wn_ct ?_ | refine wn_ex ?_ | refine wl_nx ?_ | refine wl_rt ?_ | refine wl_bk ?_ | refine wl_ct ?_ | refine wl_ex ?_ | refine wx_nx ?_ | refine wx_rt ?_ | refine wx_bk ?_ | refine wx_ct ?_ | refine wx_ex ?_ | refine wh_nx ?_ | refine wh_rt ?_ | refine wh_bk ?_ | refine wh_ct ?_ | refine it2_t ?_ | refine it2_f ?_ | refine it2_not ?_ | refine tlG_l ?_ | refine ttG_t ?_))
local macro_rules | `(tactic| array_mem_dec) => `(tactic| ((with_reducible refine oq_id ?_); (first | (with_reducible first | refine vw_i ?_ | refine vw_s ?_ | refine vw_b ?_ | refine vw_n ?_ | refine vw_l ?_ | refine vw_t ?_ | refine vw_sc ?_ | refine vw_o ?_ | refine mv_nil ?_ | refine mv_cons ?_ | refine oq_tgNil ?_ | refine oq_tgCons ?_ | refine oq_add_i ?_ | refine oq_sub ?_ | refine oq_lt ?_ | refine oq_le ?_ | refine oq_gt ?_ | refine oq_ge ?_ | refine oq_eq_i ?_ | refine oq_ne_i ?_ | refine oq_eq_s ?_ | refine oq_ne_s ?_ | refine oq_eq_b ?_ | refine oq_ne_b ?_ | refine oq_is ?_ | refine oq_isNot ?_ | refine oq_in_s ?_ | refine oq_notIn_s ?_ | refine oq_len_l ?_ | refine oq_len_t ?_ | refine oq_int ?_ | refine oq_abs ?_ | refine oq_ord ?_ | refine oq_cut_l ?_ | refine oq_cut_t ?_ | refine oq_list_l ?_ | refine oq_list_t ?_ | refine oq_tuple_l ?_ | refine oq_tuple_t ?_ | refine oq_max2 ?_ | refine oq_min2 ?_ | refine oq_some ?_ | refine oq_len_sc ?_ | refine oq_eq_il ?_ | refine oq_ne_il ?_ | refine oq_eq_it ?_ | refine oq_ne_it ?_ | refine oq_lt_il ?_ | refine oq_lt_it ?_ | refine oq_iadd_i ?_ | refine oq_isT ?_ | refine oq_isNotT ?_) | (first | ((with_reducible apply oq_tgTup); exact rfl) | ((with_reducible apply oq_ix_lk); exact rfl) | ((with_reducible apply oq_ix_tk); exact rfl) | ((with_reducible apply vw_r); (first | assumption | exact aset_same)) | ((with_reducible apply oq_ixN_k); exact rfl; (try simp only [List.set, Int.reduceToNat])) | ((with_reducible apply oq_mod); (first | omega | decide)) | ((with_reducible apply oq_div); (first | omega | decide)) | ((with_reducible apply oq_mul); (first | omega | decide)) | ((with_reducible apply oq_pow); (first | omega | decide)) | ((with_reducible apply oq_shl); (first | omega | decide)) | ((with_reducible apply oq_shr); (first | omega | decide)) | ((with_reducible apply oq_add_s); (first | omega | decide))) | (first | ((with_reducible apply oq_len_s); (first | omega | decide)) | ((with_reducible apply oq_cut_s); (first | omega | decide)) | ((with_reducible apply oq_append); (first | omega | decide)) | ((with_reducible apply oq_insert); (first | omega | decide)) | ((with_reducible apply oq_rep); (first | omega | decide)) | ((with_reducible apply oq_cat); (first | omega | decide))))))
local macro_rules | `(tactic| array_mem_dec) => `(tactic| (with_reducible first | refine w_list ?_ | refine w_tuple ?_ | refine w_str ?_ | refine w_range1 ?_ | refine w_range2 ?_ | refine w_range3 ?_ | refine w_next ?_ | refine w_break ?_ | refine w_cont ?_ | refine w_drop ?_ | refine w_ret ?_ | refine w_retN ?_ | refine w_if ?_ | refine w_asg ?_ | refine w_raise ?_ | refine w_fld ?_ | refine w_seta ?_ | refine w_auga ?_ | refine w_seti ?_ | refine w_mut ?_ | refine w_frz ?_ | refine w_new ?_ | refine w_ext ?_ | refine w_for ?_ | refine w_lc ?_ | refine w_tryA ?_ | refine w_try ?_ | refine w_par ?_))
local macro_rules | `(tactic| array_mem_dec) => `(tactic| (first | ((with_reducible apply w_kV); exact rfl) | (with_reducible first | refine w_kC ?_ | refine w_bop ?_ | refine w_tst ?_ | refine w_val ?_ | refine w_and ?_ | refine w_or ?_ | refine w_not ?_ | refine w_andV ?_ | refine w_orV ?_ | refine w_chain ?_ | refine w_ifK ?_ | refine w_nil ?_ | refine w_cons ?_ | refine w_tup ?_ | refine w_lst ?_ | refine w_call ?_ | refine w_neg ?_ | refine w_b1 ?_ | refine w_bn ?_ | refine w_isi ?_ | refine w_met ?_ | refine w_pnone ?_ | refine w_psome ?_ | refine w_cut ?_ | refine w_yes ?_)))
local macro_rules | `(tactic| array_get_dec) => `(tactic| (with_reducible refine w_seqB ?_))
local macro_rules | `(tactic| array_get_dec) => `(tactic| array_mem_dec)
local macro_rules | `(tactic| decreasing_trivial_pre_omega) => `(tactic| (with_reducible refine w_seq ?_))
local macro_rules | `(tactic| decreasing_trivial_pre_omega) => `(tactic| array_mem_dec)
local macro_rules | `(tactic| sizeOf_list_dec) => `(tactic| (try simp only [List.set, Int.reduceToNat, List.map_cons, List.map_nil, Nat.reduceSub, List.reduceReplicate, List.cons_append, List.nil_append, wipeA, aset_aset, List.getElem?_cons_zero, List.getElem?_cons_succ]))
abbrev Rd (β : Type) := Except Nat (β × List Int)
def bn {β γ : Type} (x : Rd β) (f : β → List Int → Rd γ) : Rd γ := match x with
  | .error e => .error e
  | .ok (v, r) => f v r
def rB (lo hi : Int) : List Int → Rd Int
  | [] => .error 0
  | x :: r => if lo ≤ x ∧ x ≤ hi then .ok (x, r) else .error (r.length + 1)
def rN (lo : Int) (l : List Int) : Rd Int :=
  bn (rB 0 255 l) fun a l => bn (rB 0 255 l) fun b l => bn (rB 0 255 l) fun c l => bn (rB (if (a * 256 + b) * 256 + c = 0 then lo else 0) 255 l) fun d l => .ok (((a * 256 + b) * 256 + c) * 256 + d, l)
theorem rB_pos {lo hi x : Int} {r : List Int} (h : lo ≤ x ∧ x ≤ hi) : rB lo hi (x :: r) = .ok (x, r) := if_pos h
theorem rB_neg {lo hi x : Int} {r : List Int} (h : ¬ (lo ≤ x ∧ x ≤ hi)) : rB lo hi (x :: r) = .error (r.length + 1) := if_neg h
theorem rB_ok {lo hi x : Int} {l l' : List Int} (h : rB lo hi l = .ok (x, l')) : l = x :: l' ∧ lo ≤ x ∧ x ≤ hi := by
  cases l with
  | nil => cases h
  | cons y r =>
    by_cases q : lo ≤ y ∧ y ≤ hi
    · rw [rB_pos q] at h
      cases h
      exact ⟨rfl, q⟩
    · rw [rB_neg q] at h
      cases h
def rdO (CR : Nat) (ds : List Int) (a : Nat) : D := oD CR [(.str "data", .list (ds.map .int)), (.str "at", .int a)]
def RdAt (CR : Nat) (r : Addr) (ds l : List Int) (α : AH) : Prop := ∃ a : Nat, α r = some (rdO CR ds a) ∧ a ≤ ds.length ∧ l = ds.drop a
def But (p : Addr) (α α' : AH) : Prop := ∀ a, a ≠ p → α' a = α a
variable {CE CR CF CB CI gX : Nat} {α : AH} {Q : QD} {E : QX}
theorem But.refl {p : Addr} : But p α α := fun _ _ => rfl
theorem But.trans {p : Addr} {α1 α2 : AH} (h : But p α α1) (k : But p α1 α2) : But p α α2 := fun a n => (k a n).trans (h a n)
theorem but_set {p : Addr} {d : D} : But p α (aset α p d) := fun a ha => aset_ne ha
theorem arst_but {p : Addr} {α' : AH} (h : (α p).isSome = true) (B : But p α α') : arst α α' = α' := by
  funext a
  unfold arst
  by_cases e : a = p
  · subst e
    rw [if_pos h]
  · rw [B a e]
    cases q : α a with
    | none => rfl
    | some c => rfl
theorem RdAt.isS {r : Addr} {ds l : List Int} (h : RdAt CR r ds l α) : (α r).isSome = true := by
  obtain ⟨a, h, _⟩ := h
  rw [h]
  rfl
theorem fl_d {ds : List Int} {a : Nat} {R : D → Prop} (h : R (.list (ds.map .int))) : oq (fldD CR "data" (rdO CR ds a)) R := ⟨_, by
  show (if Int.ofNat CR = Int.ofNat CR then _ else _) = _
  rw [if_pos rfl]
  rfl, h⟩
theorem fl_a {ds : List Int} {a : Nat} {R : D → Prop} (h : R (.int a)) : oq (fldD CR "at" (rdO CR ds a)) R := ⟨_, by
  show (if Int.ofNat CR = Int.ofNat CR then _ else _) = _
  rw [if_pos rfl]
  rfl, h⟩
theorem vw_rd {r : Addr} {ds : List Int} {a : Nat} (S : α r = some (rdO CR ds a)) {R : D → Prop} (h : R (rdO CR ds a)) : oq (vw α (dref r)) R := ⟨_, S, h⟩
local macro_rules | `(tactic| array_mem_dec) => `(tactic| (first | ((with_reducible apply vw_rd); assumption)))
local macro_rules | `(tactic| array_mem_dec) => `(tactic| (with_reducible first | refine fl_d ?_ | refine fl_a ?_))
theorem meth_rd {r : Addr} {ds l : List Int} {ρ : En} {i np : Nat} {m : Str} {fm : Fm} {xs : List D} {ml : ML} (S : RdAt CR r ds l α) (hm : ∀ x y : D, lookF m [(.str "data", x), (.str "at", y)] = none) (e : ρ[i]? = some (some (dref r))) (h : ml ρ α (fun as α2 => cal np (fun xs => fm (dref r :: xs)) as xs α2 Q E) E) : methK CR m np fm xs (Hz.kV i) ml ρ α Q E := by
  obtain ⟨a, S, _⟩ := S
  refine w_meth (w_kV e ⟨_, S, ?_, h⟩)
  show (decide (Int.ofNat CR = Int.ofNat CR) && (lookF m _).isNone) = true
  rw [decide_eq_true rfl, hm]
  rfl
theorem byte_go {r : Addr} {ds l : List Int} {lo hi : Int} (S : RdAt CR r ds l α) (ok : ∀ x l' α', rB lo hi l = .ok (x, l') → RdAt CR r ds l' α' → But r α α' → Q (.int x) α')
    (er : ∀ e α', rB lo hi l = .error e → But r α α' → E ⟨CI, [(.str "place", .int ((ds.length - e : Nat) : Int))]⟩ α') : f_Reader_byte CE CR CF CB CI gX [dref r, .int lo, .int hi] α Q E := by
  obtain ⟨a, S, ha, rfl⟩ := S
  unfold f_Reader_byte m_Reader_byte
  refine w_runP rfl ?_
  sizeOf_list_dec
  (repeat' array_get_dec)
  · rename_i hlen
    rw [List.length_map] at hlen
    rw [arst_self]
    have ea : a = ds.length := by omega
    have := er 0 α (by rw [ea, List.drop_length]; rfl) But.refl
    rw [Nat.sub_zero, ← ea] at this
    exact this
  · rename_i hlen
    rw [List.length_map] at hlen
    have hk : a < ds.length := by omega
    have hdr : ds.drop a = ds.getD a 0 :: ds.drop (a + 1) := by
      rw [List.drop_eq_getElem_cons hk, List.getD_eq_getElem?_getD, List.getElem?_eq_getElem hk]
      rfl
    have hrl : (ds.drop (a + 1)).length + 1 = ds.length - a := by
      rw [List.length_drop]
      omega
    rw [hdr] at ok er
    have hx := oq_ix_m (xs := ds) (k := a) (Q := fun z => z = .int (ds.getD a 0)) hk rfl
    refine oq_ix_m hk ?_
    generalize ds.getD a 0 = x at *
    have bad : ¬ (lo ≤ x ∧ x ≤ hi) → E ⟨CI, [(.str "place", .int (a : Nat))]⟩ α := fun hn => by
      have := er _ α (rB_neg hn) But.refl
      rw [hrl, show ds.length - (ds.length - a) = a by omega] at this
      exact this
    (repeat' array_get_dec)
    · try refine bar_of ?_
      sizeOf_list_dec
      (repeat' array_get_dec)
      refine ⟨_, rfl, ?_⟩
      (repeat' array_get_dec)
      refine ⟨by show (2 : Nat) < 900; decide, ?_⟩
      (repeat' array_get_dec)
      rename_i h1 h2
      rw [show putD "at" (.int ((a : Int) + 1)) [(.str "data", .list (ds.map .int)), (.str "at", .int (a : Int))] = [(.str "data", .list (ds.map .int)), (.str "at", .int ((a + 1 : Nat) : Int))] from rfl]
      have hS : (aset α r (rdO CR ds (a + 1))) r = some (rdO CR ds (a + 1)) := aset_same
      rw [show oD CR [(.str "data", .list (ds.map .int)), (.str "at", .int ((a + 1 : Nat) : Int))] = rdO CR ds (a + 1) from rfl]
      try refine bar_of ?_
      sizeOf_list_dec
      (repeat' array_get_dec)
      rw [show (((a + 1 : Nat) : Int) - 1) = (a : Int) by omega]
      obtain ⟨z, ez, hz⟩ := hx
      subst hz
      refine ⟨_, ez, ?_⟩
      (repeat' array_get_dec)
      rw [arst_but (by rw [S]; rfl) but_set]
      exact ok x _ _ (rB_pos ⟨h1, h2⟩) ⟨a + 1, aset_same, by omega, rfl⟩ but_set
    · rename_i h1 h2
      rw [arst_self]
      exact bad fun h => h2 h.2
    · rename_i h1
      rw [arst_self]
      exact bad fun h => h1 h.1
end K21
namespace K21
open PySem L2 Hz
local macro_rules | `(tactic| array_mem_dec) => `(tactic| (first | ((with_reducible apply w_xf); exact rfl; exact decide_eq_true rfl; exact rfl) | ((with_reducible apply w_frzS); exact rfl; (first | assumption | exact aset_same); (try simp only [List.set])) | ((with_reducible apply rg1_of); (first | omega | decide)) | ((with_reducible apply rg2_of); (first | omega | decide)) | ((with_reducible apply lok); exact rfl) | ((with_reducible refine it2_dec ?_ ?_) <;> intro)))
local macro_rules | `(tactic| array_mem_dec) => `(tactic| (first | ((with_reducible apply oq_setv2); (simp only [List.set, wipeA]; exact rfl)) | ((with_reducible apply cal_of); exact rfl; (try simp only [List.cons_append, List.nil_append, List.append_nil])) | ((with_reducible apply w_aug); exact rfl) | ((with_reducible apply cel_of); (first | assumption | exact aset_same)) | ((with_reducible apply ceo_of); (first | assumption | exact aset_same)) | ((with_reducible apply tlG_r); (first | assumption | exact aset_same)) | ((with_reducible apply fr_of); (first | assumption | exact aset_same)) | ((with_reducible apply fd_cons); exact trivial) | ((with_reducible apply fd_nil); exact trivial) | ((with_reducible apply oq_isiB (b := true)); exact rfl) | ((with_reducible apply oq_isiB (b := false)); exact rfl) | ((with_reducible apply w_xi); exact rfl; exact decide_eq_true rfl; exact if_pos rfl)))
local macro_rules | `(tactic| array_mem_dec) => `(tactic| (with_reducible first | refine pr2_of ?_ | refine fl_d ?_ | refine fl_a ?_))
local macro_rules | `(tactic| array_mem_dec) => `(tactic| (with_reducible first | refine tb_b ?_ | refine ti_b ?_ | refine ts_b ?_ | refine we_nx ?_ | refine we_rt ?_ | refine we_ex ?_ | refine wn_nx ?_ | refine wn_rt ?_ | refine wn_bk ?_ | refine wn_ct ?_ | refine wn_ex ?_ | refine wl_nx ?_ | refine wl_rt ?_ | refine wl_bk ?_ | refine wl_ct ?_ | refine wl_ex ?_ | refine wx_nx ?_ | refine wx_rt ?_ | refine wx_bk ?_ | refine wx_ct ?_ | refine wx_ex ?_ | refine wh_nx ?_ | refine wh_rt ?_ | refine wh_bk ?_ | refine wh_ct ?_ | refine it2_t ?_ | refine it2_f ?_ | refine it2_not ?_ | refine tlG_l ?_ | refine ttG_t ?_))
local macro_rules | `(tactic| array_mem_dec) => `(tactic| ((with_reducible refine oq_id ?_); (first | (with_reducible first | refine vw_i ?_ | refine vw_s ?_ | refine vw_b ?_ | refine vw_n ?_ | refine vw_l ?_ | refine vw_t ?_ | refine vw_sc ?_ | refine vw_o ?_ | refine mv_nil ?_ | refine mv_cons ?_ | refine oq_tgNil ?_ | refine oq_tgCons ?_ | refine oq_add_i ?_ | refine oq_sub ?_ | refine oq_lt ?_ | refine oq_le ?_ | refine oq_gt ?_ | refine oq_ge ?_ | refine oq_eq_i ?_ | refine oq_ne_i ?_ | refine oq_eq_s ?_ | refine oq_ne_s ?_ | refine oq_eq_b ?_ | refine oq_ne_b ?_ | refine oq_is ?_ | refine oq_isNot ?_ | refine oq_in_s ?_ | refine oq_notIn_s ?_ | refine oq_len_l ?_ | refine oq_len_t ?_ | refine oq_int ?_ | refine oq_abs ?_ | refine oq_ord ?_ | refine oq_cut_l ?_ | refine oq_cut_t ?_ | refine oq_list_l ?_ | refine oq_list_t ?_ | refine oq_tuple_l ?_ | refine oq_tuple_t ?_ | refine oq_max2 ?_ | refine oq_min2 ?_ | refine oq_some ?_ | refine oq_len_sc ?_ | refine oq_eq_il ?_ | refine oq_ne_il ?_ | refine oq_eq_it ?_ | refine oq_ne_it ?_ | refine oq_lt_il ?_ | refine oq_lt_it ?_ | refine oq_iadd_i ?_ | refine oq_isT ?_ | refine oq_isNotT ?_) | (first | ((with_reducible apply vw_rd); assumption) | ((with_reducible apply oq_tgTup); exact rfl) | ((with_reducible apply oq_ix_lk); exact rfl) | ((with_reducible apply oq_ix_tk); exact rfl) | ((with_reducible apply vw_r); (first | assumption | exact aset_same)) | ((with_reducible apply oq_ixN_k); exact rfl; (try simp only [List.set, Int.reduceToNat])) | ((with_reducible apply oq_mod); (first | omega | decide)) | ((with_reducible apply oq_div); (first | omega | decide)) | ((with_reducible apply oq_mul); (first | omega | decide)) | ((with_reducible apply oq_pow); (first | omega | decide)) | ((with_reducible apply oq_shl); (first | omega | decide)) | ((with_reducible apply oq_shr); (first | omega | decide))) | (first | ((with_reducible apply oq_add_s); (first | omega | decide)) | ((with_reducible apply oq_len_s); (first | omega | decide)) | ((with_reducible apply oq_cut_s); (first | omega | decide)) | ((with_reducible apply oq_append); (first | omega | decide)) | ((with_reducible apply oq_insert); (first | omega | decide)) | ((with_reducible apply oq_rep); (first | omega | decide)) | ((with_reducible apply oq_cat); (first | omega | decide))))))
local macro_rules | `(tactic| array_mem_dec) => `(tactic| (with_reducible first | refine w_list ?_ | refine w_tuple ?_ | refine w_str ?_ | refine w_range1 ?_ | refine w_range2 ?_ | refine w_range3 ?_ | refine w_next ?_ | refine w_break ?_ | refine w_cont ?_ | refine w_drop ?_ | refine w_ret ?_ | refine w_retN ?_ | refine w_if ?_ | refine w_asg ?_ | refine w_raise ?_ | refine w_fld ?_ | refine w_seta ?_ | refine w_auga ?_ | refine w_seti ?_ | refine w_mut ?_ | refine w_frz ?_ | refine w_new ?_ | refine w_ext ?_ | refine w_for ?_ | refine w_lc ?_ | refine w_tryA ?_ | refine w_try ?_ | refine w_par ?_))
local macro_rules | `(tactic| array_mem_dec) => `(tactic| (first | ((with_reducible apply w_kV); exact rfl) | (with_reducible first | refine w_kC ?_ | refine w_bop ?_ | refine w_tst ?_ | refine w_val ?_ | refine w_and ?_ | refine w_or ?_ | refine w_not ?_ | refine w_andV ?_ | refine w_orV ?_ | refine w_chain ?_ | refine w_ifK ?_ | refine w_nil ?_ | refine w_cons ?_ | refine w_tup ?_ | refine w_lst ?_ | refine w_call ?_ | refine w_neg ?_ | refine w_b1 ?_ | refine w_bn ?_ | refine w_isi ?_ | refine w_met ?_ | refine w_pnone ?_ | refine w_psome ?_ | refine w_cut ?_ | refine w_yes ?_)))
local macro_rules | `(tactic| array_get_dec) => `(tactic| (with_reducible refine w_seqB ?_))
local macro_rules | `(tactic| array_get_dec) => `(tactic| array_mem_dec)
local macro_rules | `(tactic| decreasing_trivial_pre_omega) => `(tactic| (with_reducible refine w_seq ?_))
local macro_rules | `(tactic| decreasing_trivial_pre_omega) => `(tactic| array_mem_dec)
local macro_rules | `(tactic| sizeOf_list_dec) => `(tactic| (try simp only [List.set, Int.reduceToNat, List.map_cons, List.map_nil, Nat.reduceSub, List.reduceReplicate, List.cons_append, List.nil_append, wipeA, aset_aset, List.getElem?_cons_zero, List.getElem?_cons_succ]))
variable {CE CR CF CB CI gX : Nat} {α : AH} {Q : QD} {E : QX}
abbrev bx (CI : Nat) (n : Nat) : Ex := ⟨CI, [(.str "place", .int (n : Int))]⟩
theorem num_go {r : Addr} {ds l : List Int} {lo : Int} (S : RdAt CR r ds l α) (ok : ∀ n l' α', rN lo l = .ok (n, l') → RdAt CR r ds l' α' → But r α α' → Q (.int n) α')
    (er : ∀ e α', rN lo l = .error e → But r α α' → E (bx CI (ds.length - e)) α') : f_Reader_number CE CR CF CB CI gX [dref r, .int lo] α Q E := by
  unfold f_Reader_number m_Reader_number
  refine w_runP rfl ?_
  sizeOf_list_dec
  (repeat' array_get_dec)
  refine meth_rd S (fun _ _ => rfl) rfl ?_
  (repeat' array_get_dec)
  refine byte_go S (fun a l1 α1 h1 S1 B1 => ?_) (fun e α1 h1 B1 => ?_)
  rotate_left
  · (repeat' array_get_dec)
    rw [arst_but S.isS B1]
    exact er e _ (by rw [rN, h1]; rfl) B1
  sizeOf_list_dec
  (repeat' array_get_dec)
  try refine bar_of ?_
  sizeOf_list_dec
  (repeat' array_get_dec)
  refine meth_rd S1 (fun _ _ => rfl) rfl ?_
  (repeat' array_get_dec)
  refine byte_go S1 (fun b l2 α2 h2 S2 B2 => ?_) (fun e α2 h2 B2 => ?_)
  rotate_left
  · (repeat' array_get_dec)
    rw [arst_but S.isS (B1.trans B2)]
    exact er e _ (by rw [rN, h1]; show bn (rB 0 255 l1) _ = _; rw [h2]; rfl) (B1.trans B2)
  sizeOf_list_dec
  (repeat' array_get_dec)
  try refine bar_of ?_
  sizeOf_list_dec
  (repeat' array_get_dec)
  refine meth_rd S2 (fun _ _ => rfl) rfl ?_
  (repeat' array_get_dec)
  refine byte_go S2 (fun c l3 α3 h3 S3 B3 => ?_) (fun e α3 h3 B3 => ?_)
  rotate_left
  · (repeat' array_get_dec)
    have B := (B1.trans B2).trans B3
    rw [arst_but S.isS B]
    exact er e _ (by rw [rN, h1]; show bn (rB 0 255 l1) _ = _; rw [h2]; show bn (rB 0 255 l2) _ = _; rw [h3]; rfl) B
  sizeOf_list_dec
  (repeat' array_get_dec)
  try refine bar_of ?_
  sizeOf_list_dec
  (repeat' array_get_dec)
  refine meth_rd S3 (fun _ _ => rfl) rfl ?_
  have B := (B1.trans B2).trans B3
  have key : ∀ lo', lo' = (if (a * 256 + b) * 256 + c = 0 then lo else 0) → rN lo l = bn (rB lo' 255 l3) fun d l => .ok (((a * 256 + b) * 256 + c) * 256 + d, l) := fun lo' e => by
    rw [rN, h1]
    show bn (rB 0 255 l1) _ = _
    rw [h2]
    show bn (rB 0 255 l2) _ = _
    rw [h3, e]
    rfl
  (repeat' array_get_dec)
  · rename_i hz
    have key := key lo (by rw [if_pos hz])
    refine byte_go S3 (fun d l4 α4 h4 S4 B4 => ?_) (fun e α4 h4 B4 => ?_)
    · (repeat' array_get_dec)
      rw [arst_but S.isS (B.trans B4)]
      exact ok _ l4 _ (by rw [key, h4]; rfl) S4 (B.trans B4)
    · (repeat' array_get_dec)
      rw [arst_but S.isS (B.trans B4)]
      exact er e _ (by rw [key, h4]; rfl) (B.trans B4)
  · rename_i hz
    have key := key 0 (by rw [if_neg hz])
    refine byte_go S3 (fun d l4 α4 h4 S4 B4 => ?_) (fun e α4 h4 B4 => ?_)
    · (repeat' array_get_dec)
      rw [arst_but S.isS (B.trans B4)]
      exact ok _ l4 _ (by rw [key, h4]; rfl) S4 (B.trans B4)
    · (repeat' array_get_dec)
      rw [arst_but S.isS (B.trans B4)]
      exact er e _ (by rw [key, h4]; rfl) (B.trans B4)
theorem dev_go {r : Addr} {ds l : List Int} (S : RdAt CR r ds l α) (ok : ∀ n l' α', rB 1 9 l = .ok (n, l') → RdAt CR r ds l' α' → But r α α' → Q (.int n) α')
    (er : ∀ e α', rB 1 9 l = .error e → But r α α' → E (bx CI (ds.length - e)) α') : f_Reader_device CE CR CF CB CI gX [dref r] α Q E := by
  unfold f_Reader_device m_Reader_device
  refine w_runP rfl ?_
  sizeOf_list_dec
  (repeat' array_get_dec)
  refine meth_rd S (fun _ _ => rfl) rfl ?_
  (repeat' array_get_dec)
  refine byte_go S (fun a l1 α1 h1 S1 B1 => ?_) (fun e α1 h1 B1 => ?_)
  · (repeat' array_get_dec)
    rw [arst_but S.isS B1]
    exact ok a _ _ h1 S1 B1
  · (repeat' array_get_dec)
    rw [arst_but S.isS B1]
    exact er e _ h1 B1
end K21
namespace K21
open PySem L2 Hz
local macro_rules | `(tactic| array_mem_dec) => `(tactic| (first | ((with_reducible apply w_xf); exact rfl; exact decide_eq_true rfl; exact rfl) | ((with_reducible apply w_frzS); exact rfl; (first | assumption | exact aset_same); (try simp only [List.set])) | ((with_reducible apply rg1_of); (first | omega | decide)) | ((with_reducible apply rg2_of); (first | omega | decide)) | ((with_reducible apply lok); exact rfl) | ((with_reducible refine it2_dec ?_ ?_) <;> intro)))
local macro_rules | `(tactic| array_mem_dec) => `(tactic| (first | ((with_reducible apply oq_setv2); (simp only [List.set, wipeA]; exact rfl)) | ((with_reducible apply cal_of); exact rfl; (try simp only [List.cons_append, List.nil_append, List.append_nil])) | ((with_reducible apply w_aug); exact rfl) | ((with_reducible apply cel_of); (first | assumption | exact aset_same)) | ((with_reducible apply ceo_of); (first | assumption | exact aset_same)) | ((with_reducible apply tlG_r); (first | assumption | exact aset_same)) | ((with_reducible apply fr_of); (first | assumption | exact aset_same)) | ((with_reducible apply fd_cons); exact trivial) | ((with_reducible apply fd_nil); exact trivial) | ((with_reducible apply oq_isiB (b := true)); exact rfl) | ((with_reducible apply oq_isiB (b := false)); exact rfl) | ((with_reducible apply w_xi); exact rfl; exact decide_eq_true rfl; exact if_pos rfl)))
local macro_rules | `(tactic| array_mem_dec) => `(tactic| (with_reducible first | refine pr2_of ?_ | refine fl_d ?_ | refine fl_a ?_))
local macro_rules | `(tactic| array_mem_dec) => `(tactic| (with_reducible first | refine tb_b ?_ | refine ti_b ?_ | refine ts_b ?_ | refine we_nx ?_ | refine we_rt ?_ | refine we_ex ?_ | refine wn_nx ?_ | refine wn_rt ?_ | refine wn_bk ?_ | refine wn_ct ?_ | refine wn_ex ?_ | refine wl_nx ?_ | refine wl_rt ?_ | refine wl_bk ?_ | refine wl_ct ?_ | refine wl_ex ?_ | refine wx_nx ?_ | refine wx_rt ?_ | refine wx_bk ?_ | refine wx_ct ?_ | refine wx_ex ?_ | refine wh_nx ?_ | refine wh_rt ?_ | refine wh_bk ?_ | refine wh_ct ?_ | refine it2_t ?_ | refine it2_f ?_ | refine it2_not ?_ | refine tlG_l ?_ | refine ttG_t ?_))
local macro_rules | `(tactic| array_mem_dec) => `(tactic| ((with_reducible refine oq_id ?_); (first | (with_reducible first | refine vw_i ?_ | refine vw_s ?_ | refine vw_b ?_ | refine vw_n ?_ | refine vw_l ?_ | refine vw_t ?_ | refine vw_sc ?_ | refine vw_o ?_ | refine mv_nil ?_ | refine mv_cons ?_ | refine oq_tgNil ?_ | refine oq_tgCons ?_ | refine oq_add_i ?_ | refine oq_sub ?_ | refine oq_lt ?_ | refine oq_le ?_ | refine oq_gt ?_ | refine oq_ge ?_ | refine oq_eq_i ?_ | refine oq_ne_i ?_ | refine oq_eq_s ?_ | refine oq_ne_s ?_ | refine oq_eq_b ?_ | refine oq_ne_b ?_ | refine oq_is ?_ | refine oq_isNot ?_ | refine oq_in_s ?_ | refine oq_notIn_s ?_ | refine oq_len_l ?_ | refine oq_len_t ?_ | refine oq_int ?_ | refine oq_abs ?_ | refine oq_ord ?_ | refine oq_cut_l ?_ | refine oq_cut_t ?_ | refine oq_list_l ?_ | refine oq_list_t ?_ | refine oq_tuple_l ?_ | refine oq_tuple_t ?_ | refine oq_max2 ?_ | refine oq_min2 ?_ | refine oq_some ?_ | refine oq_len_sc ?_ | refine oq_eq_il ?_ | refine oq_ne_il ?_ | refine oq_eq_it ?_ | refine oq_ne_it ?_ | refine oq_lt_il ?_ | refine oq_lt_it ?_ | refine oq_iadd_i ?_ | refine oq_isT ?_ | refine oq_isNotT ?_) | (first | ((with_reducible apply vw_rd); assumption) | ((with_reducible apply oq_tgTup); exact rfl) | ((with_reducible apply oq_ix_lk); exact rfl) | ((with_reducible apply oq_ix_tk); exact rfl) | ((with_reducible apply vw_r); (first | assumption | exact aset_same)) | ((with_reducible apply oq_ixN_k); exact rfl; (try simp only [List.set, Int.reduceToNat])) | ((with_reducible apply oq_mod); (first | omega | decide)) | ((with_reducible apply oq_div); (first | omega | decide)) | ((with_reducible apply oq_mul); (first | omega | decide)) | ((with_reducible apply oq_pow); (first | omega | decide)) | ((with_reducible apply oq_shl); (first | omega | decide)) | ((with_reducible apply oq_shr); (first | omega | decide))) | (first | ((with_reducible apply oq_add_s); (first | omega | decide)) | ((with_reducible apply oq_len_s); (first | omega | decide)) | ((with_reducible apply oq_cut_s); (first | omega | decide)) | ((with_reducible apply oq_append); (first | omega | decide)) | ((with_reducible apply oq_insert); (first | omega | decide)) | ((with_reducible apply oq_rep); (first | omega | decide)) | ((with_reducible apply oq_cat); (first | omega | decide))))))
local macro_rules | `(tactic| array_mem_dec) => `(tactic| (with_reducible first | refine w_list ?_ | refine w_tuple ?_ | refine w_str ?_ | refine w_range1 ?_ | refine w_range2 ?_ | refine w_range3 ?_ | refine w_next ?_ | refine w_break ?_ | refine w_cont ?_ | refine w_drop ?_ | refine w_ret ?_ | refine w_retN ?_ | refine w_if ?_ | refine w_asg ?_ | refine w_raise ?_ | refine w_fld ?_ | refine w_seta ?_ | refine w_auga ?_ | refine w_seti ?_ | refine w_mut ?_ | refine w_frz ?_ | refine w_new ?_ | refine w_ext ?_ | refine w_for ?_ | refine w_lc ?_ | refine w_tryA ?_ | refine w_try ?_ | refine w_par ?_))
local macro_rules | `(tactic| array_mem_dec) => `(tactic| (first | ((with_reducible apply w_kV); exact rfl) | (with_reducible first | refine w_kC ?_ | refine w_bop ?_ | refine w_tst ?_ | refine w_val ?_ | refine w_and ?_ | refine w_or ?_ | refine w_not ?_ | refine w_andV ?_ | refine w_orV ?_ | refine w_chain ?_ | refine w_ifK ?_ | refine w_nil ?_ | refine w_cons ?_ | refine w_tup ?_ | refine w_lst ?_ | refine w_call ?_ | refine w_neg ?_ | refine w_b1 ?_ | refine w_bn ?_ | refine w_isi ?_ | refine w_met ?_ | refine w_pnone ?_ | refine w_psome ?_ | refine w_cut ?_ | refine w_yes ?_)))
local macro_rules | `(tactic| array_get_dec) => `(tactic| (with_reducible refine w_seqB ?_))
local macro_rules | `(tactic| array_get_dec) => `(tactic| array_mem_dec)
local macro_rules | `(tactic| decreasing_trivial_pre_omega) => `(tactic| (with_reducible refine w_seq ?_))
local macro_rules | `(tactic| decreasing_trivial_pre_omega) => `(tactic| array_mem_dec)
local macro_rules | `(tactic| sizeOf_list_dec) => `(tactic| (try simp only [List.set, Int.reduceToNat, List.map_cons, List.map_nil, Nat.reduceSub, List.reduceReplicate, List.cons_append, List.nil_append, wipeA, aset_aset, List.getElem?_cons_zero, List.getElem?_cons_succ]))
variable {CE CR CF CB CI gX : Nat} {α : AH} {Q : QD} {E : QX}
def CHS : List Nat := ((PySem.Str.ofString "-./0123456789ABCDEFGHIJKLMNOPQRSTUVWXYZ_abcdefghijklmnopqrstuvwxyz~").cps.toList)
def TBS : List Nat := ((PySem.Str.ofString "-./0123456789:;<=>?\x40ABCDEFGHIJKLMNOPQRSTUVWXYZ[\\]^_`abcdefghijklmnopqrstuvwxyz{|}~").cps.toList)
theorem chs_eq : PySem.Str.ofString "-./0123456789ABCDEFGHIJKLMNOPQRSTUVWXYZ_abcdefghijklmnopqrstuvwxyz~" = S CHS := (S_self _).symm
theorem tbs_eq : PySem.Str.ofString "-./0123456789:;<=>?\x40ABCDEFGHIJKLMNOPQRSTUVWXYZ[\\]^_`abcdefghijklmnopqrstuvwxyz{|}~" = S TBS := (S_self _).symm
theorem chs_lt : ∀ k ∈ CHS, 45 ≤ k ∧ k ≤ 126 := by decide +kernel
theorem tbs_is : TBS = (List.range 82).map (45 + ·) := by decide +kernel
def chO (c : Int) : Option Nat := if 45 ≤ c ∧ c ≤ 126 ∧ c.toNat ∈ CHS then some c.toNat else none
def coD (c : Int) : D := match chO c with
  | none => .none
  | some k => .str (S [k])
theorem co_go {c : Int} (h : Q (coD c) α) : f_character_of CE CR CF CB CI gX [.int c] α Q E := by
  refine (?_ : pu _ _ _) α Q E h
  unfold f_character_of m_character_of
  refine pu_P rfl fun α R X hR => ?_
  rw [chs_eq, tbs_eq]
  have no : ¬ (45 ≤ c ∧ c ≤ 126 ∧ c.toNat ∈ CHS) → R .none α := fun hn => by
    unfold coD chO at hR
    rw [if_neg hn] at hR
    exact hR
  have hl : TBS.length = 82 := by decide +kernel
  sizeOf_list_dec
  (repeat' array_get_dec)
  try refine bar_of ?_
  sizeOf_list_dec
  (repeat' array_get_dec)
  · exact no (by omega)
  · rename_i h1 h2
    rw [S_len, hl] at h2
    exact no (by omega)
  · rename_i h1 h2
    rw [S_len, hl] at h2
    · refine oq_ix_S (by rw [hl]; decide) (by omega) (by rw [hl]; omega) ?_
      have hg : TBS.getD (c - 45).toNat 0 = c.toNat := by
        rw [tbs_is, List.getD_eq_getElem?_getD, List.getElem?_map, List.getElem?_range (by omega)]
        show 45 + (c - 45).toNat = c.toNat
        omega
      rw [hg]
      (repeat' array_get_dec)
      refine oq_notIn_S ?_
      by_cases hm : c.toNat ∈ CHS
      · rw [decide_eq_true hm]
        (repeat' array_get_dec)
        try refine bar_of ?_
        sizeOf_list_dec
        (repeat' array_get_dec)
        refine oq_ix_S (by rw [hl]; decide) (by omega) (by rw [hl]; omega) ?_
        rw [hg]
        (repeat' array_get_dec)
        unfold coD chO at hR
        rw [if_pos ⟨by omega, by omega, hm⟩] at hR
        exact hR
      · rw [decide_eq_false hm]
        (repeat' array_get_dec)
        exact no fun h => hm h.2.2
def pre {β : Type} (a : List β) (x : Rd (List β)) : Rd (List β) := bn x fun r l => .ok (a ++ r, l)
theorem pre_ok {β : Type} {a r : List β} {l : List Int} : pre a (.ok (r, l)) = .ok (a ++ r, l) := rfl
theorem pre_pre {β : Type} {a b : List β} {x : Rd (List β)} : pre a (pre b x) = pre (a ++ b) x := by
  cases x with
  | error e => rfl
  | ok y =>
    obtain ⟨r, l⟩ := y
    rw [pre_ok, pre_ok, pre_ok, List.append_assoc]
theorem pre_nil {β : Type} {x : Rd (List β)} : pre [] x = x := by
  cases x with
  | error e => rfl
  | ok y => rfl
/-- signs -/
def rC : Nat → List Int → Rd (List Nat)
  | 0, l => .ok ([], l)
  | k + 1, l => bn (rB 0 255 l) fun c l' => match chO c with
    | none => .error l.length
    | some z => pre [z] (rC k l')
def rNm (l : List Int) : Rd (List Nat) := bn (rB 1 40 l) fun n l => rC n.toNat l
def rV : Nat → Int → List Int → Rd (List (Int × Int))
  | 0, _, l => .ok ([], l)
  | k + 1, d, l => bn (rB (d + 1) (9 - k) l) fun d' l => bn (rN 1 l) fun n l => pre [(d', n)] (rV k d' l)
def rVec (l : List Int) : Rd (List (Int × Int)) := bn (rB 1 9 l) fun n l => rV n.toNat 0 l
def rBs : Nat → List Int → Rd (List Int)
  | 0, l => .ok ([], l)
  | k + 1, l => bn (rB 0 255 l) fun x l => pre [x] (rBs k l)
def rR (lo : Int) (l : List Int) : Rd (List Int) := bn (rB lo 4 l) fun n l => rBs n.toNat l
def val (b : Int) : Int → List Int → Int
  | a, [] => a
  | a, d :: ds => val b (a * b + d) ds
def rBk (lo : Int) (l : List Int) : Rd Int := bn (rR lo l) fun p l => .ok (val 256 1 p, l)
def rBl : Nat → List Int → Rd (List Int)
  | 0, l => .ok ([], l)
  | k + 1, l => bn (rBk (if k = 0 then 1 else 4) l) fun b l => pre [b] (rBl k l)
theorem name_go {r : Addr} {ds l : List Int} (S0 : RdAt CR r ds l α) (ok : ∀ n l' α', rNm l = .ok (n, l') → n.length ≤ 40 → RdAt CR r ds l' α' → But r α α' → Q (.str (S n)) α')
    (er : ∀ e α', rNm l = .error e → But r α α' → E (bx CI (ds.length - e)) α') : f_Reader_name CE CR CF CB CI gX [dref r] α Q E := by
  unfold f_Reader_name m_Reader_name
  refine w_runP rfl ?_
  sizeOf_list_dec
  (repeat' array_get_dec)
  try refine bar_of ?_
  sizeOf_list_dec
  (repeat' array_get_dec)
  refine meth_rd S0 (fun _ _ => rfl) rfl ?_
  (repeat' array_get_dec)
  refine byte_go S0 (fun n l1 α1 h1 S1 B1 => ?_) (fun e α1 h1 B1 => ?_)
  rotate_left
  · (repeat' array_get_dec)
    rw [arst_but S0.isS B1]
    exact er e _ (by rw [rNm, h1]; rfl) B1
  have hn := (rB_ok h1).2
  have key : rNm l = rC n.toNat l1 := by rw [rNm, h1]; rfl
  (repeat' array_get_dec)
  rw [show PySem.Str.ofString "" = S [] from rfl]
  refine for_nums (fun k ρ α' => ∃ (acc : List Nat) (l' : List Int) (x2 x3 : Option D), k ≤ n.toNat ∧ acc.length = k ∧ rC n.toNat l1 = pre acc (rC (n.toNat - k) l') ∧ ρ = [some (dref r), some (.str (S acc)), x2, x3] ∧ RdAt CR r ds l' α' ∧ But r α α') ⟨[], l1, none, none, Nat.zero_le _, rfl, by rw [pre_nil, Nat.sub_zero], rfl, S1, B1⟩ ?_ ?_
  · rintro ρ α' ⟨acc, l', x2, x3, _, ha, hr, rfl, S', B'⟩
    (repeat' array_get_dec)
    try refine bar_of ?_
    sizeOf_list_dec
    (repeat' array_get_dec)
    rw [arst_but S0.isS B']
    rw [Nat.sub_self] at hr
    exact ok acc l' _ (by rw [key, hr]; show pre acc (.ok ([], l')) = _; rw [pre_ok, List.append_nil]) (by omega) S' B'
  · rintro k hk ρ α' ⟨acc, l', x2, x3, _, ha, hr, rfl, S', B'⟩ X hX
    rw [show n.toNat - k = (n.toNat - (k + 1)) + 1 by omega, rC] at hr
    sizeOf_list_dec
    (repeat' array_get_dec)
    refine meth_rd S' (fun _ _ => rfl) rfl ?_
    (repeat' array_get_dec)
    refine byte_go S' (fun c l2 α2 h2 S2 B2 => ?_) (fun e α2 h2 B2 => ?_)
    rotate_left
    · (repeat' array_get_dec)
      rw [arst_but S0.isS (B'.trans B2)]
      exact er e _ (by rw [key, hr, h2]; rfl) (B'.trans B2)
    rw [h2] at hr
    (repeat' array_get_dec)
    refine co_go ?_
    (repeat' array_get_dec)
    try refine bar_of ?_
    sizeOf_list_dec
    (repeat' array_get_dec)
    have hr : rC n.toNat l1 = pre acc (match chO c with
      | none => .error l'.length
      | some z => pre [z] (rC (n.toNat - (k + 1)) l2)) := hr
    unfold coD
    cases hc : chO c with
    | none =>
      rw [hc] at hr
      obtain ⟨a, ha1, ha2, ha3⟩ := S2
      (repeat' array_get_dec)
      rw [show isNoneD PyData.none = true from rfl]
      (repeat' array_get_dec)
      rw [arst_but S0.isS (B'.trans B2)]
      have hl := congrArg List.length (rB_ok h2).1
      obtain ⟨a', _, _, ha'⟩ := S'
      have := er l'.length α2 (by rw [key, hr]; rfl) (B'.trans B2)
      rw [ha3, List.length_cons, List.length_drop] at hl
      rw [ha', List.length_drop] at hl
      rw [ha', List.length_drop, show ds.length - (ds.length - a') = a - 1 by omega] at this
      rw [show ((a : Int) - 1) = ((a - 1 : Nat) : Int) by omega]
      exact this
    | some z =>
      rw [hc] at hr
      (repeat' array_get_dec)
      rw [show isNoneD (.str (S [z])) = false from rfl]
      (repeat' array_get_dec)
      try refine bar_of ?_
      sizeOf_list_dec
      (repeat' array_get_dec)
      refine oq_iadd_S (by simp only [List.length_cons, List.length_nil]; omega) ?_
      (repeat' array_get_dec)
      refine hX _ _ ⟨acc ++ [z], l2, _, _, by omega, by rw [List.length_append]; simp only [List.length_cons, List.length_nil]; omega, by rw [hr, pre_pre], rfl, S2, B'.trans B2⟩
end K21
namespace K21
open PySem L2 Hz
local macro_rules | `(tactic| array_mem_dec) => `(tactic| (first | ((with_reducible apply w_xf); exact rfl; exact decide_eq_true rfl; exact rfl) | ((with_reducible apply w_frzS); exact rfl; (first | assumption | exact aset_same); (try simp only [List.set])) | ((with_reducible apply rg1_of); (first | omega | decide)) | ((with_reducible apply rg2_of); (first | omega | decide)) | ((with_reducible apply lok); exact rfl) | ((with_reducible refine it2_dec ?_ ?_) <;> intro)))
local macro_rules | `(tactic| array_mem_dec) => `(tactic| (first | ((with_reducible apply oq_setv2); (simp only [List.set, wipeA]; exact rfl)) | ((with_reducible apply cal_of); exact rfl; (try simp only [List.cons_append, List.nil_append, List.append_nil])) | ((with_reducible apply w_aug); exact rfl) | ((with_reducible apply cel_of); (first | assumption | exact aset_same)) | ((with_reducible apply ceo_of); (first | assumption | exact aset_same)) | ((with_reducible apply tlG_r); (first | assumption | exact aset_same)) | ((with_reducible apply fr_of); (first | assumption | exact aset_same)) | ((with_reducible apply fd_cons); exact trivial) | ((with_reducible apply fd_nil); exact trivial) | ((with_reducible apply oq_isiB (b := true)); exact rfl) | ((with_reducible apply oq_isiB (b := false)); exact rfl) | ((with_reducible apply w_xi); exact rfl; exact decide_eq_true rfl; exact if_pos rfl)))
local macro_rules | `(tactic| array_mem_dec) => `(tactic| (with_reducible first | refine pr2_of ?_ | refine fl_d ?_ | refine fl_a ?_ | refine w_lcX ?_))
local macro_rules | `(tactic| array_mem_dec) => `(tactic| (with_reducible first | refine tb_b ?_ | refine ti_b ?_ | refine ts_b ?_ | refine we_nx ?_ | refine we_rt ?_ | refine we_ex ?_ | refine wn_nx ?_ | refine wn_rt ?_ | refine wn_bk ?_ | refine wn_ct ?_ | refine wn_ex ?_ | refine wl_nx ?_ | refine wl_rt ?_ | refine wl_bk ?_ | refine wl_ct ?_ | refine wl_ex ?_ | refine wx_nx ?_ | refine wx_rt ?_ | refine wx_bk ?_ | refine wx_ct ?_ | refine wx_ex ?_ | refine wh_nx ?_ | refine wh_rt ?_ | refine wh_bk ?_ | refine wh_ct ?_ | refine it2_t ?_ | refine it2_f ?_ | refine it2_not ?_ | refine tlG_l ?_ | refine ttG_t ?_))
local macro_rules | `(tactic| array_mem_dec) => `(tactic| ((with_reducible refine oq_id ?_); (first | (with_reducible first | refine vw_i ?_ | refine vw_s ?_ | refine vw_b ?_ | refine vw_n ?_ | refine vw_l ?_ | refine vw_t ?_ | refine vw_sc ?_ | refine vw_o ?_ | refine mv_nil ?_ | refine mv_cons ?_ | refine oq_tgNil ?_ | refine oq_tgCons ?_ | refine oq_add_i ?_ | refine oq_sub ?_ | refine oq_lt ?_ | refine oq_le ?_ | refine oq_gt ?_ | refine oq_ge ?_ | refine oq_eq_i ?_ | refine oq_ne_i ?_ | refine oq_eq_s ?_ | refine oq_ne_s ?_ | refine oq_eq_b ?_ | refine oq_ne_b ?_ | refine oq_is ?_ | refine oq_isNot ?_ | refine oq_in_s ?_ | refine oq_notIn_s ?_ | refine oq_len_l ?_ | refine oq_len_t ?_ | refine oq_int ?_ | refine oq_abs ?_ | refine oq_ord ?_ | refine oq_cut_l ?_ | refine oq_cut_t ?_ | refine oq_list_l ?_ | refine oq_list_t ?_ | refine oq_tuple_l ?_ | refine oq_tuple_t ?_ | refine oq_max2 ?_ | refine oq_min2 ?_ | refine oq_some ?_ | refine oq_len_sc ?_ | refine oq_eq_il ?_ | refine oq_ne_il ?_ | refine oq_eq_it ?_ | refine oq_ne_it ?_ | refine oq_lt_il ?_ | refine oq_lt_it ?_ | refine oq_iadd_i ?_ | refine oq_isT ?_ | refine oq_isNotT ?_) | (first | ((with_reducible apply vw_rd); assumption) | ((with_reducible apply oq_tgTup); exact rfl) | ((with_reducible apply oq_ix_lk); exact rfl) | ((with_reducible apply oq_ix_tk); exact rfl) | ((with_reducible apply vw_r); (first | assumption | exact aset_same)) | ((with_reducible apply oq_ixN_k); exact rfl; (try simp only [List.set, Int.reduceToNat])) | ((with_reducible apply oq_mod); (first | omega | decide)) | ((with_reducible apply oq_div); (first | omega | decide)) | ((with_reducible apply oq_mul); (first | omega | decide)) | ((with_reducible apply oq_pow); (first | omega | decide)) | ((with_reducible apply oq_shl); (first | omega | decide)) | ((with_reducible apply oq_shr); (first | omega | decide))) | (first | ((with_reducible apply oq_add_s); (first | omega | decide)) | ((with_reducible apply oq_len_s); (first | omega | decide)) | ((with_reducible apply oq_cut_s); (first | omega | decide)) | ((with_reducible apply oq_append); (first | omega | decide)) | ((with_reducible apply oq_insert); (first | omega | decide)) | ((with_reducible apply oq_rep); (first | omega | decide)) | ((with_reducible apply oq_cat); (first | omega | decide))))))
local macro_rules | `(tactic| array_mem_dec) => `(tactic| (with_reducible first | refine w_list ?_ | refine w_tuple ?_ | refine w_str ?_ | refine w_range1 ?_ | refine w_range2 ?_ | refine w_range3 ?_ | refine w_next ?_ | refine w_break ?_ | refine w_cont ?_ | refine w_drop ?_ | refine w_ret ?_ | refine w_retN ?_ | refine w_if ?_ | refine w_asg ?_ | refine w_raise ?_ | refine w_fld ?_ | refine w_seta ?_ | refine w_auga ?_ | refine w_seti ?_ | refine w_mut ?_ | refine w_frz ?_ | refine w_new ?_ | refine w_ext ?_ | refine w_for ?_ | refine w_lc ?_ | refine w_tryA ?_ | refine w_try ?_ | refine w_par ?_))
local macro_rules | `(tactic| array_mem_dec) => `(tactic| (first | ((with_reducible apply w_kV); exact rfl) | (with_reducible first | refine w_kC ?_ | refine w_bop ?_ | refine w_tst ?_ | refine w_val ?_ | refine w_and ?_ | refine w_or ?_ | refine w_not ?_ | refine w_andV ?_ | refine w_orV ?_ | refine w_chain ?_ | refine w_ifK ?_ | refine w_nil ?_ | refine w_cons ?_ | refine w_tup ?_ | refine w_lst ?_ | refine w_call ?_ | refine w_neg ?_ | refine w_b1 ?_ | refine w_bn ?_ | refine w_isi ?_ | refine w_met ?_ | refine w_pnone ?_ | refine w_psome ?_ | refine w_cut ?_ | refine w_yes ?_)))
local macro_rules | `(tactic| array_get_dec) => `(tactic| (with_reducible refine w_seqB ?_))
local macro_rules | `(tactic| array_get_dec) => `(tactic| array_mem_dec)
local macro_rules | `(tactic| decreasing_trivial_pre_omega) => `(tactic| (with_reducible refine w_seq ?_))
local macro_rules | `(tactic| decreasing_trivial_pre_omega) => `(tactic| array_mem_dec)
local macro_rules | `(tactic| sizeOf_list_dec) => `(tactic| (try simp only [List.set, Int.reduceToNat, List.map_cons, List.map_nil, Nat.reduceSub, List.reduceReplicate, List.cons_append, List.nil_append, wipeA, aset_aset, List.getElem?_cons_zero, List.getElem?_cons_succ]))
variable {CE CR CF CB CI gX : Nat} {α : AH} {Q : QD} {E : QX}
theorem RdAt.cong {r : Addr} {ds l : List Int} {α' : AH} (h : RdAt CR r ds l α) (e : α' r = α r) : RdAt CR r ds l α' := by
  obtain ⟨a, h1, h2⟩ := h
  exact ⟨a, e.trans h1, h2⟩
theorem arst_at {r : Addr} {α' : AH} (h : (α r).isSome = true) : (arst α α') r = α' r := by
  unfold arst
  rw [if_pos h]
/-- beside the reader only new cells -/
theorem arst_two {r p : Addr} {α' : AH} (hp : α p = none) (h : ∀ a, a ≠ r → a ≠ p → α' a = α a) : But r α (arst α α') := fun a ha => by
  unfold arst
  by_cases e : a = p
  · subst e
    rw [if_neg (by rw [hp]; simp)]
    rw [hp]
  · rw [h a ha e]
    cases q : α a with
    | none => rfl
    | some c => rfl
theorem down : ∀ n : Nat, n < 256 → (-1 : Int) ≠ 0 ∧ (-1 : Int).natAbs < 1073741824 ∧ Builtin.Range.small ((n : Int) - 1) (-1) (-1) = true := by
  have h : ∀ n : Nat, n < 256 → Builtin.Range.small ((n : Int) - 1) (-1) (-1) = true := by decide +kernel
  exact fun n hn => ⟨by decide, by decide, h n hn⟩
theorem down_n : ∀ n : Nat, n < 256 → (Builtin.Range.rangeSize ((n : Int) - 1) (-1) (-1)).toNat = n := by decide +kernel
def vD (x : Int × Int) : D := .tuple [.int x.1, .int x.2]
theorem vec_go {r : Addr} {ds l : List Int} (S0 : RdAt CR r ds l α) (ok : ∀ v l' α', rVec l = .ok (v, l') → v.length ≤ 9 → RdAt CR r ds l' α' → But r α α' → Q (.tuple (v.map vD)) α')
    (er : ∀ e α', rVec l = .error e → But r α α' → E (bx CI (ds.length - e)) α') : f_Reader_vector CE CR CF CB CI gX [dref r] α Q E := by
  unfold f_Reader_vector m_Reader_vector
  refine w_runP rfl ?_
  sizeOf_list_dec
  (repeat' array_get_dec)
  intro p hp
  have hpr : r ≠ p := fun e => by
    have := S0.isS
    rw [e, hp] at this
    cases this
  (repeat' array_get_dec)
  try refine bar_of ?_
  sizeOf_list_dec
  (repeat' array_get_dec)
  try refine bar_of ?_
  sizeOf_list_dec
  (repeat' array_get_dec)
  have S1 : RdAt CR r ds l (aset α p (.list [])) := S0.cong (aset_ne hpr)
  refine meth_rd S1 (fun _ _ => rfl) rfl ?_
  (repeat' array_get_dec)
  refine byte_go S1 (fun n l1 α1 h1 S2 B2 => ?_) (fun e α1 h1 B2 => ?_)
  rotate_left
  · (repeat' array_get_dec)
    exact er e _ (by rw [rVec, h1]; rfl) (arst_two hp fun a ha hb => (B2 a ha).trans (aset_ne hb))
  have hn := (rB_ok h1).2
  obtain ⟨m, rfl⟩ := Int.eq_ofNat_of_zero_le (show 0 ≤ n by omega)
  have hm : m < 256 := by omega
  have key : rVec l = rV m 0 l1 := by rw [rVec, h1]; rfl
  (repeat' array_get_dec)
  refine rg3_of (down m hm) ?_
  rw [down_n m hm, numsC_map]
  refine for_map (xs := List.range m) (u := fun k => .int ((m : Int) - 1 + (k : Nat) * -1)) rfl (fun k ρ α' => ∃ (acc : List (Int × Int)) (dv : Int) (l' : List Int) (x3 : Option D), acc.length = k ∧ rV m 0 l1 = pre acc (rV (m - k) dv l') ∧ ρ = [some (dref r), some (dref p), some (.int dv), x3] ∧ RdAt CR r ds l' α' ∧ α' p = some (.list (acc.map vD)) ∧ ∀ a, a ≠ r → a ≠ p → α' a = α a) ⟨[], 0, l1, none, rfl, by rw [pre_nil]; rfl, rfl, S2, (B2 p (Ne.symm hpr)).trans aset_same, fun a ha hb => (B2 a ha).trans (aset_ne hb)⟩ ?_ ?_
  · rintro ρ α' ⟨acc, dv, l', x3, ha, hr, rfl, S', hc, B'⟩
    rw [List.length_range] at ha hr
    (repeat' array_get_dec)
    try refine bar_of ?_
    sizeOf_list_dec
    (repeat' array_get_dec)
    refine ok acc l' _ (by rw [key, hr, Nat.sub_self]; show pre acc (.ok ([], l')) = _; rw [pre_ok, List.append_nil]) (by omega) (S'.cong (arst_at S0.isS)) (arst_two hp B')
  · rintro k hk ρ α' ⟨acc, dv, l', x3, ha, hr, rfl, S', hc, B'⟩ X hX
    rw [List.length_range] at hk
    rw [List.getElem_range]
    rw [show m - k = (m - (k + 1)) + 1 by omega, rV, show ((9 : Int) - ((m - (k + 1) : Nat) : Int)) = 9 - ((m : Int) - 1 + (k : Int) * -1) by omega] at hr
    sizeOf_list_dec
    (repeat' array_get_dec)
    refine meth_rd S' (fun _ _ => rfl) rfl ?_
    (repeat' array_get_dec)
    refine byte_go S' (fun d l2 α2 h2 S3 B3 => ?_) (fun e α2 h2 B3 => ?_)
    rotate_left
    · (repeat' array_get_dec)
      exact er e _ (by rw [key, hr, h2]; rfl) (arst_two hp fun a ha hb => (B3 a ha).trans (B' a ha hb))
    rw [h2] at hr
    replace hr : rV m 0 l1 = pre acc (bn (rN 1 l2) fun n l => pre [(d, n)] (rV (m - (k + 1)) d l)) := hr
    have hc3 : α2 p = some (.list (acc.map vD)) := (B3 p (Ne.symm hpr)).trans hc
    sizeOf_list_dec
    (repeat' array_get_dec)
    try refine bar_of ?_
    sizeOf_list_dec
    (repeat' array_get_dec)
    refine meth_rd S3 (fun _ _ => rfl) rfl ?_
    (repeat' array_get_dec)
    refine num_go S3 (fun n l3 α3 h3 S4 B4 => ?_) (fun e α3 h3 B4 => ?_)
    rotate_left
    · (repeat' array_get_dec)
      exact er e _ (by rw [key, hr, h3]; rfl) (arst_two hp fun a ha hb => (B4 a ha).trans ((B3 a ha).trans (B' a ha hb)))
    rw [h3] at hr
    replace hr : rV m 0 l1 = pre acc (pre [(d, n)] (rV (m - (k + 1)) d l3)) := hr
    have hc4 : α3 p = some (.list (acc.map vD)) := (B4 p (Ne.symm hpr)).trans ((B3 p (Ne.symm hpr)).trans hc)
    (repeat' array_get_dec)
    refine oq_append (by rw [List.length_map]; omega) ?_
    (repeat' array_get_dec)
    refine hX _ _ ⟨acc ++ [(d, n)], d, l3, _, by rw [List.length_append]; simp only [List.length_cons, List.length_nil]; omega, by rw [hr, pre_pre], rfl, S4.cong (aset_ne hpr), by rw [aset_same, List.map_append]; rfl, fun a ha hb => ?_⟩
    rw [aset_ne hb]
    exact (B4 a ha).trans ((B3 a ha).trans (B' a ha hb))
theorem row_go {r : Addr} {ds l : List Int} {lo : Int} (h0 : 0 ≤ lo) (S0 : RdAt CR r ds l α) (ok : ∀ v l' α', rR lo l = .ok (v, l') → v.length ≤ 4 → RdAt CR r ds l' α' → But r α α' → Q (.list (v.map .int)) α')
    (er : ∀ e α', rR lo l = .error e → But r α α' → E (bx CI (ds.length - e)) α') : f_Reader_row CE CR CF CB CI gX [dref r, .int lo] α Q E := by
  unfold f_Reader_row m_Reader_row
  refine w_runP rfl ?_
  sizeOf_list_dec
  (repeat' array_get_dec)
  refine meth_rd S0 (fun _ _ => rfl) rfl ?_
  (repeat' array_get_dec)
  refine byte_go S0 (fun n l1 α1 h1 S1 B1 => ?_) (fun e α1 h1 B1 => ?_)
  rotate_left
  · (repeat' array_get_dec)
    rw [arst_but S0.isS B1]
    exact er e _ (by rw [rR, h1]; rfl) B1
  have hn := (rB_ok h1).2
  obtain ⟨m, rfl⟩ := Int.eq_ofNat_of_zero_le (show 0 ≤ n by omega)
  have key : rR lo l = rBs m l1 := by rw [rR, h1]; rfl
  (repeat' array_get_dec)
  have hm : (Int.ofNat m).toNat = m := rfl
  have hnl : (nums 0 (Int.ofNat m).toNat).length = m := by rw [nums_map, List.length_map, List.length_range, hm]
  refine lc_invX (fun rr acc α' => ∃ (ys : List Int) (l' : List Int), acc = ys.map .int ∧ ys.length + rr.length = m ∧ rBs m l1 = pre ys (rBs rr.length l') ∧ RdAt CR r ds l' α' ∧ But r α α') ⟨[], l1, rfl, by rw [List.length_nil, Nat.zero_add]; exact hnl, by rw [pre_nil]; show rBs m l1 = rBs (nums 0 (Int.ofNat m).toNat).length l1; rw [hnl], S1, B1⟩ (fun _ _ _ _ => trivial) ?_ ?_
  · rintro acc α' ⟨ys, l', rfl, hy, hr, S', B'⟩
    rw [List.length_nil] at hy hr
    (repeat' array_get_dec)
    rw [arst_but S0.isS B']
    exact ok ys l' _ (by rw [key, hr]; show pre ys (.ok ([], l')) = _; rw [pre_ok, List.append_nil]) (by omega) S' B'
  · rintro d rr acc α' ⟨ys, l', rfl, hy, hr, S', B'⟩ X hX
    rw [List.length_cons] at hy hr
    rw [rBs] at hr
    sizeOf_list_dec
    (repeat' array_get_dec)
    refine meth_rd S' (fun _ _ => rfl) rfl ?_
    (repeat' array_get_dec)
    refine byte_go S' (fun c l2 α2 h2 S2 B2 => ?_) (fun e α2 h2 B2 => ?_)
    · rw [h2] at hr
      replace hr : rBs m l1 = pre ys (pre [c] (rBs rr.length l2)) := hr
      exact ⟨by rw [List.length_map]; omega, hX _ _ ⟨ys ++ [c], l2, by rw [List.map_append]; rfl, by rw [List.length_append]; simp only [List.length_cons, List.length_nil]; omega, by rw [hr, pre_pre], S2, B'.trans B2⟩⟩
    · (repeat' array_get_dec)
      rw [arst_but S0.isS (B'.trans B2)]
      exact er e _ (by rw [key, hr, h2]; rfl) (B'.trans B2)
theorem bnum_go {p : List Int} (h : Q (.int (val 256 1 p)) α) : f_block_number CE CR CF CB CI gX [.list (p.map .int)] α Q E := by
  refine (?_ : pu _ _ _) α Q E h
  unfold f_block_number m_block_number
  refine pu_P rfl fun α R X hR => ?_
  sizeOf_list_dec
  (repeat' decreasing_trivial_pre_omega)
  refine for_map (xs := p) (u := PyData.int) rfl (fun j ρ α' => ∃ a v, val 256 a (p.drop j) = val 256 1 p ∧ ρ = [some (.list (p.map .int)), some (.int a), v] ∧ α' = α) ⟨1, none, rfl, rfl, rfl⟩ ?_ ?_
  · rintro _ _ ⟨a, v, e, rfl, rfl⟩
    (repeat' decreasing_trivial_pre_omega)
    rw [List.drop_length] at e
    rw [show a = val 256 1 p from e]
    exact hR
  · rintro j hj _ _ ⟨a, v, e, rfl, rfl⟩ X hX
    (repeat' decreasing_trivial_pre_omega)
    refine hX _ _ ⟨_, _, ?_, rfl, rfl⟩
    rw [List.drop_eq_getElem_cons hj] at e
    exact e
theorem blk_go {r : Addr} {ds l : List Int} {lo : Int} (h0 : 0 ≤ lo) (S0 : RdAt CR r ds l α) (ok : ∀ b l' α', rBk lo l = .ok (b, l') → RdAt CR r ds l' α' → But r α α' → Q (.int b) α')
    (er : ∀ e α', rBk lo l = .error e → But r α α' → E (bx CI (ds.length - e)) α') : f_Reader_block CE CR CF CB CI gX [dref r, .int lo] α Q E := by
  unfold f_Reader_block m_Reader_block
  refine w_runP rfl ?_
  sizeOf_list_dec
  (repeat' array_get_dec)
  refine meth_rd S0 (fun _ _ => rfl) rfl ?_
  (repeat' array_get_dec)
  refine row_go h0 S0 (fun v l1 α1 h1 _ S1 B1 => ?_) (fun e α1 h1 B1 => ?_)
  · (repeat' array_get_dec)
    refine bnum_go ?_
    (repeat' array_get_dec)
    rw [arst_but S0.isS B1]
    exact ok _ l1 _ (by rw [rBk, h1]; rfl) S1 B1
  · (repeat' array_get_dec)
    rw [arst_but S0.isS B1]
    exact er e _ (by rw [rBk, h1]; rfl) B1
end K21
namespace K21
open PySem L2 Hz
local macro_rules | `(tactic| array_mem_dec) => `(tactic| (first | ((with_reducible apply w_xf); exact rfl; exact decide_eq_true rfl; exact rfl) | ((with_reducible apply w_frzS); exact rfl; (first | assumption | exact aset_same); (try simp only [List.set])) | ((with_reducible apply rg1_of); (first | omega | decide)) | ((with_reducible apply rg2_of); (first | omega | decide)) | ((with_reducible apply lok); exact rfl) | ((with_reducible refine it2_dec ?_ ?_) <;> intro)))
local macro_rules | `(tactic| array_mem_dec) => `(tactic| (first | ((with_reducible apply oq_setv2); (simp only [List.set, wipeA]; exact rfl)) | ((with_reducible apply cal_of); exact rfl; (try simp only [List.cons_append, List.nil_append, List.append_nil])) | ((with_reducible apply w_aug); exact rfl) | ((with_reducible apply cel_of); (first | assumption | exact aset_same)) | ((with_reducible apply ceo_of); (first | assumption | exact aset_same)) | ((with_reducible apply tlG_r); (first | assumption | exact aset_same)) | ((with_reducible apply fr_of); (first | assumption | exact aset_same)) | ((with_reducible apply fd_cons); exact trivial) | ((with_reducible apply fd_nil); exact trivial) | ((with_reducible apply oq_isiB (b := true)); exact rfl) | ((with_reducible apply oq_isiB (b := false)); exact rfl) | ((with_reducible apply w_xi); exact rfl; exact decide_eq_true rfl; exact if_pos rfl)))
local macro_rules | `(tactic| array_mem_dec) => `(tactic| (with_reducible first | refine pr2_of ?_ | refine fl_d ?_ | refine fl_a ?_ | refine w_lcX ?_ | refine w_mk ?_))
local macro_rules | `(tactic| array_mem_dec) => `(tactic| (with_reducible first | refine tb_b ?_ | refine ti_b ?_ | refine ts_b ?_ | refine we_nx ?_ | refine we_rt ?_ | refine we_ex ?_ | refine wn_nx ?_ | refine wn_rt ?_ | refine wn_bk ?_ | refine wn_ct ?_ | refine wn_ex ?_ | refine wl_nx ?_ | refine wl_rt ?_ | refine wl_bk ?_ | refine wl_ct ?_ | refine wl_ex ?_ | refine wx_nx ?_ | refine wx_rt ?_ | refine wx_bk ?_ | refine wx_ct ?_ | refine wx_ex ?_ | refine wh_nx ?_ | refine wh_rt ?_ | refine wh_bk ?_ | refine wh_ct ?_ | refine it2_t ?_ | refine it2_f ?_ | refine it2_not ?_ | refine tlG_l ?_ | refine ttG_t ?_))
local macro_rules | `(tactic| array_mem_dec) => `(tactic| ((with_reducible refine oq_id ?_); (first | (with_reducible first | refine vw_i ?_ | refine vw_s ?_ | refine vw_b ?_ | refine vw_n ?_ | refine vw_l ?_ | refine vw_t ?_ | refine vw_sc ?_ | refine vw_o ?_ | refine mv_nil ?_ | refine mv_cons ?_ | refine oq_tgNil ?_ | refine oq_tgCons ?_ | refine oq_add_i ?_ | refine oq_sub ?_ | refine oq_lt ?_ | refine oq_le ?_ | refine oq_gt ?_ | refine oq_ge ?_ | refine oq_eq_i ?_ | refine oq_ne_i ?_ | refine oq_eq_s ?_ | refine oq_ne_s ?_ | refine oq_eq_b ?_ | refine oq_ne_b ?_ | refine oq_is ?_ | refine oq_isNot ?_ | refine oq_in_s ?_ | refine oq_notIn_s ?_ | refine oq_len_l ?_ | refine oq_len_t ?_ | refine oq_int ?_ | refine oq_abs ?_ | refine oq_ord ?_ | refine oq_cut_l ?_ | refine oq_cut_t ?_ | refine oq_list_l ?_ | refine oq_list_t ?_ | refine oq_tuple_l ?_ | refine oq_tuple_t ?_ | refine oq_max2 ?_ | refine oq_min2 ?_ | refine oq_some ?_ | refine oq_len_sc ?_ | refine oq_eq_il ?_ | refine oq_ne_il ?_ | refine oq_eq_it ?_ | refine oq_ne_it ?_ | refine oq_lt_il ?_ | refine oq_lt_it ?_ | refine oq_iadd_i ?_ | refine oq_isT ?_ | refine oq_isNotT ?_) | (first | ((with_reducible apply vw_rd); assumption) | ((with_reducible apply oq_tgTup); exact rfl) | ((with_reducible apply oq_ix_lk); exact rfl) | ((with_reducible apply oq_ix_tk); exact rfl) | ((with_reducible apply vw_r); (first | assumption | exact aset_same)) | ((with_reducible apply oq_ixN_k); exact rfl; (try simp only [List.set, Int.reduceToNat])) | ((with_reducible apply oq_mod); (first | omega | decide)) | ((with_reducible apply oq_div); (first | omega | decide)) | ((with_reducible apply oq_mul); (first | omega | decide)) | ((with_reducible apply oq_pow); (first | omega | decide)) | ((with_reducible apply oq_shl); (first | omega | decide)) | ((with_reducible apply oq_shr); (first | omega | decide))) | (first | ((with_reducible apply oq_add_s); (first | omega | decide)) | ((with_reducible apply oq_len_s); (first | omega | decide)) | ((with_reducible apply oq_cut_s); (first | omega | decide)) | ((with_reducible apply oq_append); (first | omega | decide)) | ((with_reducible apply oq_insert); (first | omega | decide)) | ((with_reducible apply oq_rep); (first | omega | decide)) | ((with_reducible apply oq_cat); (first | omega | decide))))))
local macro_rules | `(tactic| array_mem_dec) => `(tactic| (with_reducible first | refine w_list ?_ | refine w_tuple ?_ | refine w_str ?_ | refine w_range1 ?_ | refine w_range2 ?_ | refine w_range3 ?_ | refine w_next ?_ | refine w_break ?_ | refine w_cont ?_ | refine w_drop ?_ | refine w_ret ?_ | refine w_retN ?_ | refine w_if ?_ | refine w_asg ?_ | refine w_raise ?_ | refine w_fld ?_ | refine w_seta ?_ | refine w_auga ?_ | refine w_seti ?_ | refine w_mut ?_ | refine w_frz ?_ | refine w_new ?_ | refine w_ext ?_ | refine w_for ?_ | refine w_lc ?_ | refine w_tryA ?_ | refine w_try ?_ | refine w_par ?_))
local macro_rules | `(tactic| array_mem_dec) => `(tactic| (first | ((with_reducible apply w_kV); exact rfl) | (with_reducible first | refine w_kC ?_ | refine w_bop ?_ | refine w_tst ?_ | refine w_val ?_ | refine w_and ?_ | refine w_or ?_ | refine w_not ?_ | refine w_andV ?_ | refine w_orV ?_ | refine w_chain ?_ | refine w_ifK ?_ | refine w_nil ?_ | refine w_cons ?_ | refine w_tup ?_ | refine w_lst ?_ | refine w_call ?_ | refine w_neg ?_ | refine w_b1 ?_ | refine w_bn ?_ | refine w_isi ?_ | refine w_met ?_ | refine w_pnone ?_ | refine w_psome ?_ | refine w_cut ?_ | refine w_yes ?_)))
local macro_rules | `(tactic| array_get_dec) => `(tactic| (with_reducible refine w_seqB ?_))
local macro_rules | `(tactic| array_get_dec) => `(tactic| array_mem_dec)
local macro_rules | `(tactic| decreasing_trivial_pre_omega) => `(tactic| (with_reducible refine w_seq ?_))
local macro_rules | `(tactic| decreasing_trivial_pre_omega) => `(tactic| array_mem_dec)
local macro_rules | `(tactic| sizeOf_list_dec) => `(tactic| (try simp only [List.set, Int.reduceToNat, List.map_cons, List.map_nil, Nat.reduceSub, List.reduceReplicate, List.cons_append, List.nil_append, wipeA, aset_aset, List.getElem?_cons_zero, List.getElem?_cons_succ]))
variable {CE CR CF CB CI gX : Nat} {α : AH} {Q : QD} {E : QX}
def enD (CE : Nat) (n v h m d t b : D) : D := oD CE [(.str "name", n), (.str "vector", v), (.str "height", h), (.str "maker", m), (.str "deleted", d), (.str "time", t), (.str "blocks", b)]
theorem en_go {p : Addr} {n v h m d t b : D} (hp : α p = some (oD CE [])) (q : Q .none (aset α p (enD CE n v h m d t b))) : f_Entry_init CE CR CF CB CI gX [dref p, n, v, h, m, d, t, b] α Q E := by
  unfold f_Entry_init m_Entry_init
  refine w_runF rfl ?_
  sizeOf_list_dec
  (repeat' decreasing_trivial_pre_omega)
  refine ⟨by show (0 : Nat) < 900; decide, ?_⟩
  (repeat' decreasing_trivial_pre_omega)
  refine ⟨by show (1 : Nat) < 900; decide, ?_⟩
  (repeat' decreasing_trivial_pre_omega)
  refine ⟨by show (2 : Nat) < 900; decide, ?_⟩
  (repeat' decreasing_trivial_pre_omega)
  refine ⟨by show (3 : Nat) < 900; decide, ?_⟩
  (repeat' decreasing_trivial_pre_omega)
  refine ⟨by show (4 : Nat) < 900; decide, ?_⟩
  (repeat' decreasing_trivial_pre_omega)
  refine ⟨by show (5 : Nat) < 900; decide, ?_⟩
  (repeat' decreasing_trivial_pre_omega)
  refine ⟨by show (6 : Nat) < 900; decide, ?_⟩
  (repeat' decreasing_trivial_pre_omega)
  simp only [aset_aset]
  exact q
structure EF where
  nm : List Nat
  ve : List (Int × Int)
  h : Int
  md : Int
  mn : Int
  de : Bool
  ti : Int
  bl : List Int
def efD (CE : Nat) (x : EF) : D := enD CE (.str (S x.nm)) (.tuple (x.ve.map vD)) (.int x.h) (.tuple [.int x.md, .int x.mn]) (.bool x.de) (.int x.ti) (.tuple (x.bl.map .int))
section
variable (num : Int) (nm : List Nat) (ve : List (Int × Int)) (h md mn de ti : Int)
def rE9 (n : Int) (l : List Int) : Rd (EF × Int) := bn (rBl n.toNat l) fun bl l => .ok ((⟨nm, ve, h, md, mn, decide (de = 1), ti, bl⟩, num), l)
def rE8 (l : List Int) : Rd (EF × Int) := bn (rB 0 (if de = 1 then 0 else 255) l) (rE9 num nm ve h md mn de ti)
def rE7 (l : List Int) : Rd (EF × Int) := bn (rN 0 l) fun ti => rE8 num nm ve h md mn de ti
def rE6 (l : List Int) : Rd (EF × Int) := bn (rB 0 1 l) fun de => rE7 num nm ve h md mn de
def rE5 (l : List Int) : Rd (EF × Int) := bn (rN 1 l) fun mn => rE6 num nm ve h md mn
def rE4 (l : List Int) : Rd (EF × Int) := bn (rB 1 9 l) fun md => rE5 num nm ve h md
def rE3 (l : List Int) : Rd (EF × Int) := bn (rN 1 l) fun h => rE4 num nm ve h
def rE2 (l : List Int) : Rd (EF × Int) := bn (rVec l) fun ve => rE3 num nm ve
def rE1 (l : List Int) : Rd (EF × Int) := bn (rNm l) fun nm => rE2 num nm
end
def rE (l : List Int) : Rd (EF × Int) := bn (rN 1 l) rE1
theorem ent_go {r : Addr} {ds l : List Int} (S0 : RdAt CR r ds l α) (ok : ∀ x num l' α', rE l = .ok ((x, num), l') → RdAt CR r ds l' α' → But r α α' → Q (.tuple [efD CE x, .int num]) α')
    (er : ∀ e α', rE l = .error e → But r α α' → E (bx CI (ds.length - e)) α') : f_Reader_entry CE CR CF CB CI gX [dref r] α Q E := by
  unfold f_Reader_entry m_Reader_entry
  refine w_runP rfl ?_
  have er1 : ∀ e α', rE l = .error e → But r α α' → E (bx CI (ds.length - e)) (arst α α') := fun e α' h B => by
    rw [arst_but S0.isS B]
    exact er e α' h B
  sizeOf_list_dec
  (repeat' array_get_dec)
  refine meth_rd S0 (fun _ _ => rfl) rfl ?_
  (repeat' array_get_dec)
  refine num_go S0 (fun num l1 α1 h1 S1 B1 => ?_) (fun e α1 h1 B1 => ?_)
  rotate_left
  · (repeat' array_get_dec)
    exact er1 e _ (by rw [rE, h1]; rfl) B1
  have hr : rE l = rE1 num l1 := by rw [rE, h1]; rfl
  sizeOf_list_dec
  (repeat' array_get_dec)
  try refine bar_of ?_
  sizeOf_list_dec
  (repeat' array_get_dec)
  refine meth_rd S1 (fun _ _ => rfl) rfl ?_
  (repeat' array_get_dec)
  refine name_go S1 (fun nm l2 α2 h2 hnl S2 B2 => ?_) (fun e α2 h2 B2 => ?_)
  rotate_left
  · (repeat' array_get_dec)
    exact er1 e _ (by rw [hr, rE1, h2]; rfl) (B1.trans B2)
  replace hr : rE l = rE2 num nm l2 := by rw [hr, rE1, h2]; rfl
  replace B2 := B1.trans B2
  clear B1 h1 h2
  sizeOf_list_dec
  (repeat' array_get_dec)
  try refine bar_of ?_
  sizeOf_list_dec
  (repeat' array_get_dec)
  refine meth_rd S2 (fun _ _ => rfl) rfl ?_
  (repeat' array_get_dec)
  refine vec_go S2 (fun ve l3 α3 h3 hvl S3 B3 => ?_) (fun e α3 h3 B3 => ?_)
  rotate_left
  · (repeat' array_get_dec)
    exact er1 e _ (by rw [hr, rE2, h3]; rfl) (B2.trans B3)
  replace hr : rE l = rE3 num nm ve l3 := by rw [hr, rE2, h3]; rfl
  replace B3 := B2.trans B3
  clear B2 h3
  sizeOf_list_dec
  (repeat' array_get_dec)
  try refine bar_of ?_
  sizeOf_list_dec
  (repeat' array_get_dec)
  refine meth_rd S3 (fun _ _ => rfl) rfl ?_
  (repeat' array_get_dec)
  refine num_go S3 (fun h l4 α4 h4 S4 B4 => ?_) (fun e α4 h4 B4 => ?_)
  rotate_left
  · (repeat' array_get_dec)
    exact er1 e _ (by rw [hr, rE3, h4]; rfl) (B3.trans B4)
  replace hr : rE l = rE4 num nm ve h l4 := by rw [hr, rE3, h4]; rfl
  replace B4 := B3.trans B4
  clear B3 h4
  sizeOf_list_dec
  (repeat' array_get_dec)
  try refine bar_of ?_
  sizeOf_list_dec
  (repeat' array_get_dec)
  refine meth_rd S4 (fun _ _ => rfl) rfl ?_
  (repeat' array_get_dec)
  refine dev_go S4 (fun md l5 α5 h5 S5 B5 => ?_) (fun e α5 h5 B5 => ?_)
  rotate_left
  · (repeat' array_get_dec)
    exact er1 e _ (by rw [hr, rE4, h5]; rfl) (B4.trans B5)
  replace hr : rE l = rE5 num nm ve h md l5 := by rw [hr, rE4, h5]; rfl
  replace B5 := B4.trans B5
  clear B4 h5
  (repeat' array_get_dec)
  refine meth_rd S5 (fun _ _ => rfl) rfl ?_
  (repeat' array_get_dec)
  refine num_go S5 (fun mn l6 α6 h6 S6 B6 => ?_) (fun e α6 h6 B6 => ?_)
  rotate_left
  · (repeat' array_get_dec)
    exact er1 e _ (by rw [hr, rE5, h6]; rfl) (B5.trans B6)
  replace hr : rE l = rE6 num nm ve h md mn l6 := by rw [hr, rE5, h6]; rfl
  replace B6 := B5.trans B6
  clear B5 h6
  sizeOf_list_dec
  (repeat' array_get_dec)
  try refine bar_of ?_
  sizeOf_list_dec
  (repeat' array_get_dec)
  refine meth_rd S6 (fun _ _ => rfl) rfl ?_
  (repeat' array_get_dec)
  refine byte_go S6 (fun de l7 α7 h7 S7 B7 => ?_) (fun e α7 h7 B7 => ?_)
  rotate_left
  · (repeat' array_get_dec)
    exact er1 e _ (by rw [hr, rE6, h7]; rfl) (B6.trans B7)
  replace hr : rE l = rE7 num nm ve h md mn de l7 := by rw [hr, rE6, h7]; rfl
  replace B7 := B6.trans B7
  clear B6 h7
  sizeOf_list_dec
  (repeat' array_get_dec)
  try refine bar_of ?_
  sizeOf_list_dec
  (repeat' array_get_dec)
  refine meth_rd S7 (fun _ _ => rfl) rfl ?_
  (repeat' array_get_dec)
  refine num_go S7 (fun ti l8 α8 h8 S8 B8 => ?_) (fun e α8 h8 B8 => ?_)
  rotate_left
  · (repeat' array_get_dec)
    exact er1 e _ (by rw [hr, rE7, h8]; rfl) (B7.trans B8)
  replace hr : rE l = rE8 num nm ve h md mn de ti l8 := by rw [hr, rE7, h8]; rfl
  replace B8 := B7.trans B8
  clear B7 h8
  sizeOf_list_dec
  (repeat' array_get_dec)
  try refine bar_of ?_
  sizeOf_list_dec
  (repeat' array_get_dec)
  intro p hp
  have hpr : r ≠ p := fun e => by
    have := S8.isS
    rw [e, hp] at this
    cases this
  have hp0 : α p = none := (B8 p (Ne.symm hpr)).symm.trans hp
  have S9 : RdAt CR r ds l8 (aset α8 p (.list [])) := S8.cong (aset_ne hpr)
  (repeat' array_get_dec)
  try refine bar_of ?_
  sizeOf_list_dec
  (repeat' array_get_dec)
  refine meth_rd S9 (fun _ _ => rfl) rfl ?_
  (repeat' array_get_dec)
  all_goals rename_i hde
  all_goals
    have key9 : rE8 num nm ve h md mn de ti l8 = bn (rB 0 (if de = 1 then 0 else 255) l8) (rE9 num nm ve h md mn de ti) := rfl
    first
      | rw [if_pos hde] at key9
      | rw [if_neg hde] at key9
    rw [← hr] at key9
    refine byte_go S9 (fun n l9 α9 h9 S10 B10 => ?_) (fun e α9 h9 B10 => ?_)
    rotate_left
    · (repeat' array_get_dec)
      exact er e _ (by rw [key9, h9]; rfl) (arst_two hp0 fun a ha hb => (B10 a ha).trans ((aset_ne hb).trans (B8 a ha)))
    have hn := (rB_ok h9).2
    obtain ⟨m, rfl⟩ := Int.eq_ofNat_of_zero_le hn.1
    have hm : m < 256 := by omega
    replace key9 : rE l = bn (rBl m l9) fun bl l => .ok ((⟨nm, ve, h, md, mn, decide (de = 1), ti, bl⟩, num), l) := by rw [key9, h9]; rfl
    have hc9 : α9 p = some (.list []) := (B10 p (Ne.symm hpr)).trans aset_same
    (repeat' array_get_dec)
    refine rg3_of (down m hm) ?_
    rw [down_n m hm, numsC_map]
    refine for_map (xs := List.range m) (u := fun k => .int ((m : Int) - 1 + (k : Nat) * -1)) rfl (fun k ρ α' => ∃ (acc : List Int) (l' : List Int) (x9 : Option D), acc.length = k ∧ rBl m l9 = pre acc (rBl (m - k) l') ∧ ρ = [some (dref r), some (.int num), some (.str (S nm)), some (.tuple (ve.map vD)), some (.int h), some (.tuple [.int md, .int mn]), some (.bool (decide (de = 1))), some (.int ti), some (dref p), x9] ∧ RdAt CR r ds l' α' ∧ α' p = some (.list (acc.map .int)) ∧ ∀ a, a ≠ r → a ≠ p → α' a = α a) ⟨[], l9, none, rfl, by rw [pre_nil]; rfl, rfl, S10, hc9, fun a ha hb => (B10 a ha).trans ((aset_ne hb).trans (B8 a ha))⟩ ?_ ?_
    · rintro ρ α' ⟨acc, l', x9, ha, hb, rfl, S', hc, B'⟩
      rw [List.length_range] at ha hb
      rw [Nat.sub_self] at hb
      replace hb : rBl m l9 = .ok (acc, l') := by rw [hb]; show pre acc (.ok ([], l')) = _; rw [pre_ok, List.append_nil]
      sizeOf_list_dec
      (repeat' array_get_dec)
      try refine bar_of ?_
      sizeOf_list_dec
      (repeat' array_get_dec)
      refine ⟨rfl, fun z hz => ?_⟩
      refine en_go aset_same ⟨rfl, ?_⟩
      rw [aset_aset]
      refine ⟨z, _, rfl, aset_same, ?_⟩
      rw [adel_aset hz]
      (repeat' array_get_dec)
      exact ok ⟨nm, ve, h, md, mn, decide (de = 1), ti, acc⟩ num l' _ (by rw [key9, hb]; rfl) (S'.cong (arst_at S0.isS)) (arst_two hp0 B')
    · rintro k hk ρ α' ⟨acc, l', x9, ha, hb, rfl, S', hc, B'⟩ X hX
      rw [List.length_range] at hk
      rw [List.getElem_range]
      rw [show m - k = (m - (k + 1)) + 1 by omega, rBl] at hb
      sizeOf_list_dec
      (repeat' array_get_dec)
      refine meth_rd S' (fun _ _ => rfl) rfl ?_
      (repeat' array_get_dec)
      all_goals rename_i hz
      all_goals
        have hk0 : (m - (k + 1) = 0) ↔ ((m : Int) - 1 + (k : Int) * -1 = 0) := by omega
        simp only [hk0, hz, reduceIte] at hb
        refine blk_go (by decide) S' (fun b l2 α2 h2 S3 B3 => ?_) (fun e α2 h2 B3 => ?_)
        · rw [h2] at hb
          replace hb : rBl m l9 = pre acc (pre [b] (rBl (m - (k + 1)) l2)) := hb
          have hc3 : α2 p = some (.list (acc.map .int)) := (B3 p (Ne.symm hpr)).trans hc
          have hal : (acc.map PyData.int).length < 100000 := by
            rw [List.length_map]
            omega
          (repeat' array_get_dec)
          try refine oq_append hal ?_
          (repeat' array_get_dec)
          refine hX _ _ ⟨acc ++ [b], l2, _, by rw [List.length_append]; simp only [List.length_cons, List.length_nil]; omega, by rw [hb, pre_pre], rfl, S3.cong (aset_ne hpr), by rw [aset_same, List.map_append]; rfl, fun a ha hb => ?_⟩
          rw [aset_ne hb]
          exact (B3 a ha).trans (B' a ha hb)
        · (repeat' array_get_dec)
          exact er e _ (by rw [key9, hb, h2]; rfl) (arst_two hp0 fun a ha hb => (B3 a ha).trans (B' a ha hb))
end K21
namespace K21
open PySem L2 Hz
local macro_rules | `(tactic| array_mem_dec) => `(tactic| (first | ((with_reducible apply w_xf); exact rfl; exact decide_eq_true rfl; exact rfl) | ((with_reducible apply w_frzS); exact rfl; (first | assumption | exact aset_same); (try simp only [List.set])) | ((with_reducible apply rg1_of); (first | omega | decide)) | ((with_reducible apply rg2_of); (first | omega | decide)) | ((with_reducible apply lok); exact rfl) | ((with_reducible refine it2_dec ?_ ?_) <;> intro)))
local macro_rules | `(tactic| array_mem_dec) => `(tactic| (first | ((with_reducible apply oq_setv2); (simp only [List.set, wipeA]; exact rfl)) | ((with_reducible apply cal_of); exact rfl; (try simp only [List.cons_append, List.nil_append, List.append_nil])) | ((with_reducible apply w_aug); exact rfl) | ((with_reducible apply cel_of); (first | assumption | exact aset_same)) | ((with_reducible apply ceo_of); (first | assumption | exact aset_same)) | ((with_reducible apply tlG_r); (first | assumption | exact aset_same)) | ((with_reducible apply fr_of); (first | assumption | exact aset_same)) | ((with_reducible apply fd_cons); exact trivial) | ((with_reducible apply fd_nil); exact trivial) | ((with_reducible apply oq_isiB (b := true)); exact rfl) | ((with_reducible apply oq_isiB (b := false)); exact rfl) | ((with_reducible apply w_xi); exact rfl; exact decide_eq_true rfl; exact if_pos rfl)))
local macro_rules | `(tactic| array_mem_dec) => `(tactic| (with_reducible first | refine pr2_of ?_ | refine oq_and255 ?_))
local macro_rules | `(tactic| array_mem_dec) => `(tactic| (with_reducible first | refine tb_b ?_ | refine ti_b ?_ | refine ts_b ?_ | refine we_nx ?_ | refine we_rt ?_ | refine we_ex ?_ | refine wn_nx ?_ | refine wn_rt ?_ | refine wn_bk ?_ | refine wn_ct ?_ | refine wn_ex ?_ | refine wl_nx ?_ | refine wl_rt ?_ | refine wl_bk ?_ | refine wl_ct ?_ | refine wl_ex ?_ | refine wx_nx ?_ | refine wx_rt ?_ | refine wx_bk ?_ | refine wx_ct ?_ | refine wx_ex ?_ | refine wh_nx ?_ | refine wh_rt ?_ | refine wh_bk ?_ | refine wh_ct ?_ | refine it2_t ?_ | refine it2_f ?_ | refine it2_not ?_ | refine tlG_l ?_ | refine ttG_t ?_))
local macro_rules | `(tactic| array_mem_dec) => `(tactic| ((with_reducible refine oq_id ?_); (first | (with_reducible first | refine vw_i ?_ | refine vw_s ?_ | refine vw_b ?_ | refine vw_n ?_ | refine vw_l ?_ | refine vw_t ?_ | refine vw_sc ?_ | refine vw_o ?_ | refine mv_nil ?_ | refine mv_cons ?_ | refine oq_tgNil ?_ | refine oq_tgCons ?_ | refine oq_add_i ?_ | refine oq_sub ?_ | refine oq_lt ?_ | refine oq_le ?_ | refine oq_gt ?_ | refine oq_ge ?_ | refine oq_eq_i ?_ | refine oq_ne_i ?_ | refine oq_eq_s ?_ | refine oq_ne_s ?_ | refine oq_eq_b ?_ | refine oq_ne_b ?_ | refine oq_is ?_ | refine oq_isNot ?_ | refine oq_in_s ?_ | refine oq_notIn_s ?_ | refine oq_len_l ?_ | refine oq_len_t ?_ | refine oq_int ?_ | refine oq_abs ?_ | refine oq_ord ?_ | refine oq_cut_l ?_ | refine oq_cut_t ?_ | refine oq_list_l ?_ | refine oq_list_t ?_ | refine oq_tuple_l ?_ | refine oq_tuple_t ?_ | refine oq_max2 ?_ | refine oq_min2 ?_ | refine oq_some ?_ | refine oq_len_sc ?_ | refine oq_eq_il ?_ | refine oq_ne_il ?_ | refine oq_eq_it ?_ | refine oq_ne_it ?_ | refine oq_lt_il ?_ | refine oq_lt_it ?_ | refine oq_iadd_i ?_ | refine oq_isT ?_ | refine oq_isNotT ?_) | (first | ((with_reducible apply oq_tgTup); exact rfl) | ((with_reducible apply oq_ix_lk); exact rfl) | ((with_reducible apply oq_ix_tk); exact rfl) | ((with_reducible apply vw_r); (first | assumption | exact aset_same)) | ((with_reducible apply oq_ixN_k); exact rfl; (try simp only [List.set, Int.reduceToNat])) | ((with_reducible apply oq_mod); (first | omega | decide)) | ((with_reducible apply oq_div); (first | omega | decide)) | ((with_reducible apply oq_mul); (first | omega | decide)) | ((with_reducible apply oq_pow); (first | omega | decide)) | ((with_reducible apply oq_shl); (first | omega | decide)) | ((with_reducible apply oq_shr); (first | omega | decide)) | ((with_reducible apply oq_add_s); (first | omega | decide))) | (first | ((with_reducible apply oq_len_s); (first | omega | decide)) | ((with_reducible apply oq_cut_s); (first | omega | decide)) | ((with_reducible apply oq_append); (first | omega | decide)) | ((with_reducible apply oq_insert); (first | omega | decide)) | ((with_reducible apply oq_rep); (first | omega | decide)) | ((with_reducible apply oq_cat); (first | omega | decide))))))
local macro_rules | `(tactic| array_mem_dec) => `(tactic| (with_reducible first | refine w_list ?_ | refine w_tuple ?_ | refine w_str ?_ | refine w_range1 ?_ | refine w_range2 ?_ | refine w_range3 ?_ | refine w_next ?_ | refine w_break ?_ | refine w_cont ?_ | refine w_drop ?_ | refine w_ret ?_ | refine w_retN ?_ | refine w_if ?_ | refine w_asg ?_ | refine w_raise ?_ | refine w_fld ?_ | refine w_seta ?_ | refine w_auga ?_ | refine w_seti ?_ | refine w_mut ?_ | refine w_frz ?_ | refine w_new ?_ | refine w_ext ?_ | refine w_for ?_ | refine w_lc ?_ | refine w_tryA ?_ | refine w_try ?_ | refine w_par ?_))
local macro_rules | `(tactic| array_mem_dec) => `(tactic| (first | ((with_reducible apply w_kV); exact rfl) | (with_reducible first | refine w_kC ?_ | refine w_bop ?_ | refine w_tst ?_ | refine w_val ?_ | refine w_and ?_ | refine w_or ?_ | refine w_not ?_ | refine w_andV ?_ | refine w_orV ?_ | refine w_chain ?_ | refine w_ifK ?_ | refine w_nil ?_ | refine w_cons ?_ | refine w_tup ?_ | refine w_lst ?_ | refine w_call ?_ | refine w_neg ?_ | refine w_b1 ?_ | refine w_bn ?_ | refine w_isi ?_ | refine w_met ?_ | refine w_pnone ?_ | refine w_psome ?_ | refine w_cut ?_ | refine w_yes ?_)))
local macro_rules | `(tactic| array_get_dec) => `(tactic| (with_reducible refine w_seqB ?_))
local macro_rules | `(tactic| array_get_dec) => `(tactic| array_mem_dec)
local macro_rules | `(tactic| decreasing_trivial_pre_omega) => `(tactic| (with_reducible refine w_seq ?_))
local macro_rules | `(tactic| decreasing_trivial_pre_omega) => `(tactic| array_mem_dec)
local macro_rules | `(tactic| sizeOf_list_dec) => `(tactic| (try simp only [List.set, Int.reduceToNat, List.map_cons, List.map_nil, Nat.reduceSub, List.reduceReplicate, List.cons_append, List.nil_append, wipeA, aset_aset, List.getElem?_cons_zero, List.getElem?_cons_succ]))
variable {CE CR CF CB CI gX : Nat} {α : AH} {Q : QD} {E : QX}
def ilD (l : List Int) : D := .list (l.map .int)
theorem vw_il {l : List Int} {R : D → Prop} (h : R (ilD l)) : oq (vw α (ilD l)) R := ⟨_, rfl, h⟩
theorem len_il {l : List Int} {R : D → Prop} (h : R (.int (l.length : Nat))) : oq (dLen [ilD l]) R := ⟨_, by
  show (some (PyData.int ((l.map PyData.int).length : Nat))) = _
  rw [List.length_map], h⟩
theorem list_il {l : List Int} {R : D → Prop} (h : R (ilD l)) : oq (dList [ilD l]) R := ⟨_, rfl, h⟩
theorem add_il {a b : List Int} {R : D → Prop} (hl : a.length + b.length ≤ 100000) (h : R (ilD (a ++ b))) : oq (dAdd (ilD a) (ilD b)) R := by
  refine oq_add_l (ds := a.map .int) (es := b.map .int) (by rw [List.length_map, List.length_map]; exact hl) ?_
  rw [← List.map_append]
  exact h
local macro_rules | `(tactic| array_mem_dec) => `(tactic| (with_reducible first | refine vw_il ?_ | refine len_il ?_ | refine list_il ?_))
def four (n : Int) : List Int := [n / 16777216, n / 65536 % 256, n / 256 % 256, n % 256]
def wNm (nm : List Nat) : List Int := (nm.length : Int) :: nm.map Int.ofNat
def wVe (ve : List (Int × Int)) : List Int := (ve.length : Int) :: ve.flatMap fun x => x.1 :: four x.2
def wBk (p : List Int) : List Int := (p.length : Int) :: p
theorem nb_go {n : Int} (h : Q (ilD (four n)) α) : f_number_bytes_coding CE CR CF CB CI gX [.int n] α Q E := by
  refine (?_ : pu _ _ _) α Q E h
  unfold f_number_bytes_coding m_number_bytes_coding
  refine pu_P rfl fun α R X hR => ?_
  sizeOf_list_dec
  (repeat' decreasing_trivial_pre_omega)
  exact hR
theorem nmb_go {nm : List Nat} (hl : nm.length ≤ 1000) (h : Q (ilD (wNm nm)) α) : f_name_bytes CE CR CF CB CI gX [.str (S nm)] α Q E := by
  unfold f_name_bytes m_name_bytes
  refine w_runP rfl ?_
  sizeOf_list_dec
  (repeat' array_get_dec)
  refine oq_len_S (by omega) ?_
  (repeat' array_get_dec)
  rw [S_chars]
  refine lc_map nm (fun k => .str (S [k])) (fun k => .int (k : Nat)) rfl (by omega) trivial (fun z hz => ⟨_, rfl, fun R hR => ?_⟩) ?_
  · sizeOf_list_dec
    (repeat' array_get_dec)
    refine oq_ord (k := z) ?_
    exact hR
  (repeat' array_get_dec)
  refine oq_add_l (by rw [List.length_map]; simp only [List.length_cons, List.length_nil]; omega) ?_
  (repeat' array_get_dec)
  rw [arst_self]
  unfold ilD wNm at h
  rw [List.map_cons, List.map_map] at h
  exact h
theorem wVe_len {ve : List (Int × Int)} : (ve.flatMap fun x => x.1 :: four x.2).length = 5 * ve.length := by
  induction ve with
  | nil => rfl
  | cons a l ih =>
    rw [List.flatMap_cons, List.length_append, ih]
    show 5 + _ = 5 * (l.length + 1)
    omega
theorem veb_go {ve : List (Int × Int)} (hl : ve.length ≤ 1000) (h : Q (ilD (wVe ve)) α) : f_vector_bytes CE CR CF CB CI gX [.tuple (ve.map vD)] α Q E := by
  unfold f_vector_bytes m_vector_bytes
  refine w_runP rfl ?_
  sizeOf_list_dec
  (repeat' array_get_dec)
  rw [List.length_map]
  intro p hp
  (repeat' array_get_dec)
  try refine bar_of ?_
  sizeOf_list_dec
  (repeat' array_get_dec)
  refine for_map (xs := ve) (u := vD) rfl (fun k ρ α' => ∃ x2 x3, ρ = [some (.tuple (ve.map vD)), some (dref p), x2, x3] ∧ α' = aset α p (ilD ((ve.length : Int) :: (ve.take k).flatMap fun x => x.1 :: four x.2))) ⟨none, none, rfl, rfl⟩ ?_ ?_
  · rintro ρ _ ⟨x2, x3, rfl, rfl⟩
    rw [List.take_length]
    (repeat' array_get_dec)
    try refine bar_of ?_
    sizeOf_list_dec
    (repeat' array_get_dec)
    rw [adel_aset hp, arst_self]
    exact h
  · rintro k hk ρ _ ⟨x2, x3, rfl, rfl⟩ X hX
    have hta := List.take_append_getElem hk
    have hle := wVe_len (ve := ve.take k)
    rw [List.length_take] at hle
    generalize ve[k] = y at *
    obtain ⟨d, c⟩ := y
    simp only [vD]
    (repeat' array_get_dec)
    refine oq_append (by rw [List.length_map, List.length_cons, hle]; omega) ?_
    (repeat' array_get_dec)
    try refine bar_of ?_
    sizeOf_list_dec
    (repeat' array_get_dec)
    refine nb_go ?_
    (repeat' array_get_dec)
    refine exD_of rfl ⟨by simp only [List.length_cons, List.length_append, List.length_map, List.length_nil, hle, show (four c).length = 4 from rfl]; omega, ?_⟩
    (repeat' array_get_dec)
    refine hX _ _ ⟨_, _, rfl, ?_⟩
    rw [← hta, List.flatMap_append, List.flatMap_cons, List.flatMap_nil, List.append_nil]
    try rw [aset_aset]
    unfold ilD
    simp only [List.map_cons, List.map_append, List.map_nil, List.cons_append, List.append_assoc, List.nil_append]
theorem val_app (b : Int) : ∀ (l : List Int) (a d : Int), val b a (l ++ [d]) = val b a l * b + d
  | [], a, d => rfl
  | x :: l, a, d => val_app b l (a * b + x) d
def bs (n : Int) : Int := if n / 256 = 1 then 1 else if n / 65536 = 1 then 2 else if n / 16777216 = 1 then 3 else if n / 4294967296 = 1 then 4 else 0
theorem bs_cases (n : Int) : (bs n = 1 ∧ 256 ≤ n ∧ n < 512) ∨ (bs n = 2 ∧ 65536 ≤ n ∧ n < 131072) ∨ (bs n = 3 ∧ 16777216 ≤ n ∧ n < 33554432) ∨ (bs n = 4 ∧ 4294967296 ≤ n ∧ n < 8589934592) ∨ (bs n = 0 ∧ (n < 256 ∨ 512 ≤ n) ∧ (n < 65536 ∨ 131072 ≤ n) ∧ (n < 16777216 ∨ 33554432 ≤ n) ∧ (n < 4294967296 ∨ 8589934592 ≤ n)) := by
  unfold bs
  repeat' split
  all_goals omega
theorem bs_go {n : Int} (h : Q (.int (bs n)) α) : f_block_size CE CR CF CB CI gX [.int n] α Q E := by
  refine (?_ : pu _ _ _) α Q E h
  unfold f_block_size m_block_size
  refine pu_P rfl fun α R X hR => ?_
  have e1 : n / 2 ^ ((8 : Int) * 1).toNat = n / 256 := rfl
  have e2 : n / 2 ^ ((8 : Int) * 2).toNat = n / 65536 := rfl
  have e3 : n / 2 ^ ((8 : Int) * 3).toNat = n / 16777216 := rfl
  have e4 : n / 2 ^ ((8 : Int) * 4).toNat = n / 4294967296 := rfl
  have hR : ∀ z, z = bs n → R (.int z) α := fun z e => e ▸ hR
  sizeOf_list_dec
  (repeat' decreasing_trivial_pre_omega)
  rw [show nums 1 ((4 : Int) + 1 - 1).toNat = [.int 1, .int 2, .int 3, .int 4] from rfl]
  (repeat' decreasing_trivial_pre_omega)
  all_goals simp only [e1, e2, e3, e4] at *
  all_goals (refine hR _ ?_; unfold bs; simp [*])
local macro_rules | `(tactic| array_mem_dec) => `(tactic| (with_reducible first | refine bs_go ?_))
theorem is_go {n : Int} (h : Q (.bool (decide (0 < bs n))) α) : f_is_block CE CR CF CB CI gX [.int n] α Q E := by
  refine (?_ : pu _ _ _) α Q E h
  unfold f_is_block m_is_block
  refine pu_P rfl fun α R X hR => ?_
  sizeOf_list_dec
  (repeat' decreasing_trivial_pre_omega)
  exact hR
local macro_rules | `(tactic| array_mem_dec) => `(tactic| (with_reducible first | refine is_go ?_))
def okp (p : List Int) : Prop := p.length ≤ 4 ∧ p ≠ [] ∧ ∀ d ∈ p, 0 ≤ d ∧ d < 256
theorem val_ge : ∀ (l : List Int) (a : Int), 1 ≤ a → (∀ d ∈ l, 0 ≤ d ∧ d < 256) → 1 ≤ val 256 a l
  | [], a, h, _ => h
  | d :: l, a, h, k => val_ge l (a * 256 + d) (by have := (k d List.mem_cons_self).1; omega) fun x hx => k x (List.mem_cons_of_mem _ hx)
theorem bs_val {p : List Int} (h : okp p) : bs (val 256 1 p) = p.length := by
  obtain ⟨l, ne, d⟩ := h
  match p, l, ne, d with
  | [a], _, _, d =>
    have ha := d a (by simp)
    have := bs_cases (val 256 1 [a])
    simp only [val, List.length_cons, List.length_nil] at *
    omega
  | [a, b], _, _, d =>
    have ha := d a (by simp)
    have hb := d b (by simp)
    have := bs_cases (val 256 1 [a, b])
    simp only [val, List.length_cons, List.length_nil] at *
    omega
  | [a, b, c], _, _, d =>
    have ha := d a (by simp)
    have hb := d b (by simp)
    have hc := d c (by simp)
    have := bs_cases (val 256 1 [a, b, c])
    simp only [val, List.length_cons, List.length_nil] at *
    omega
  | [a, b, c, e], _, _, d =>
    have ha := d a (by simp)
    have hb := d b (by simp)
    have hc := d c (by simp)
    have he := d e (by simp)
    have := bs_cases (val 256 1 [a, b, c, e])
    simp only [val, List.length_cons, List.length_nil] at *
    omega
theorem bb_go {p : List Int} (hp : okp p) (h : Q (.list (p.map .int)) α) : f_block_bytes CE CR CF CB CI gX [.int (val 256 1 p)] α Q E := by
  unfold f_block_bytes m_block_bytes
  refine w_runP rfl ?_
  have hb := bs_val hp
  have hl : 0 < p.length := List.length_pos_iff.mpr hp.2.1
  sizeOf_list_dec
  (repeat' decreasing_trivial_pre_omega)
  · intro q hq
    (repeat' decreasing_trivial_pre_omega)
    refine w_while (fun m ρ α' => ∃ l acc : List Int, p = l ++ acc ∧ l.length = m ∧ ρ = [some (.int (val 256 1 l)), some (dref q)] ∧ α' = aset α q (.list (acc.map .int))) p.length ⟨p, [], by simp, rfl, rfl, rfl⟩ ?_
    rintro m _ _ ⟨l, acc, e, hm, rfl, rfl⟩ X hX
    have hd : ∀ d ∈ l, 0 ≤ d ∧ d < 256 := fun d hd => hp.2.2 d (by rw [e]; exact List.mem_append_left _ hd)
    (repeat' decreasing_trivial_pre_omega)
    · rename_i h1
      rcases List.eq_nil_or_concat l with rfl | ⟨l', d, rfl⟩
      · exact absurd h1 (by show ¬ (1 : Int) < 1; decide)
      · rw [List.concat_eq_append] at *
        have dd := hd d (by simp)
        have := congrArg List.length e
        have hp4 := hp.1
        simp only [List.length_append, List.length_cons, List.length_nil] at this hm
        refine oq_insert (by rw [List.length_map]; omega) ?_
        (repeat' decreasing_trivial_pre_omega)
        rw [val_app]
        refine hX l'.length _ _ (by omega) ⟨l', d :: acc, by rw [e]; simp, rfl, ?_, ?_⟩
        · have : (val 256 1 l' * 256 + d) / 256 = val 256 1 l' := by omega
          rw [this]
        · have : (val 256 1 l' * 256 + d) % 256 = d := by omega
          rw [aset_aset, this]
          rfl
    · rename_i h1
      rcases List.eq_nil_or_concat l with rfl | ⟨l', d, rfl⟩
      · (repeat' decreasing_trivial_pre_omega)
        rw [adel_aset hq, arst_self]
        rw [List.nil_append] at e
        rw [← e]
        exact h
      · rw [List.concat_eq_append] at *
        have dd := hd d (by simp)
        have := val_ge l' 1 (by omega) fun x hx => hd x (by simp [hx])
        rw [val_app] at h1
        omega
  · omega
theorem db_go {p : List Int} (hp : p.length ≤ 1000) (h : Q (ilD (wBk p)) α) : f_data_bytes CE CR CF CB CI gX [.list (p.map .int)] α Q E := by
  refine (?_ : pu _ _ _) α Q E h
  unfold f_data_bytes m_data_bytes
  refine pu_P rfl fun α R X hR => ?_
  sizeOf_list_dec
  (repeat' array_get_dec)
  refine oq_add_l (by rw [List.length_map]; simp only [List.length_cons, List.length_nil]; omega) ?_
  (repeat' array_get_dec)
  rw [List.length_map]
  exact hR
end K21
namespace K21
open PySem L2 Hz
local macro_rules | `(tactic| array_mem_dec) => `(tactic| (first | ((with_reducible apply w_xf); exact rfl; exact decide_eq_true rfl; exact rfl) | ((with_reducible apply w_frzS); exact rfl; (first | assumption | exact aset_same); (try simp only [List.set])) | ((with_reducible apply rg1_of); (first | omega | decide)) | ((with_reducible apply rg2_of); (first | omega | decide)) | ((with_reducible apply lok); exact rfl) | ((with_reducible refine it2_dec ?_ ?_) <;> intro)))
local macro_rules | `(tactic| array_mem_dec) => `(tactic| (first | ((with_reducible apply oq_setv2); (simp only [List.set, wipeA]; exact rfl)) | ((with_reducible apply cal_of); exact rfl; (try simp only [List.cons_append, List.nil_append, List.append_nil])) | ((with_reducible apply w_aug); exact rfl) | ((with_reducible apply cel_of); (first | assumption | exact aset_same)) | ((with_reducible apply ceo_of); (first | assumption | exact aset_same)) | ((with_reducible apply tlG_r); (first | assumption | exact aset_same)) | ((with_reducible apply fr_of); (first | assumption | exact aset_same)) | ((with_reducible apply fd_cons); exact trivial) | ((with_reducible apply fd_nil); exact trivial) | ((with_reducible apply oq_isiB (b := true)); exact rfl) | ((with_reducible apply oq_isiB (b := false)); exact rfl) | ((with_reducible apply w_xi); exact rfl; exact decide_eq_true rfl; exact if_pos rfl)))
local macro_rules | `(tactic| array_mem_dec) => `(tactic| (with_reducible first | refine pr2_of ?_ | refine oq_and255 ?_ | refine vw_il ?_ | refine len_il ?_ | refine list_il ?_ | refine w_mk ?_))
local macro_rules | `(tactic| array_mem_dec) => `(tactic| (with_reducible first | refine tb_b ?_ | refine ti_b ?_ | refine ts_b ?_ | refine we_nx ?_ | refine we_rt ?_ | refine we_ex ?_ | refine wn_nx ?_ | refine wn_rt ?_ | refine wn_bk ?_ | refine wn_ct ?_ | refine wn_ex ?_ | refine wl_nx ?_ | refine wl_rt ?_ | refine wl_bk ?_ | refine wl_ct ?_ | refine wl_ex ?_ | refine wx_nx ?_ | refine wx_rt ?_ | refine wx_bk ?_ | refine wx_ct ?_ | refine wx_ex ?_ | refine wh_nx ?_ | refine wh_rt ?_ | refine wh_bk ?_ | refine wh_ct ?_ | refine it2_t ?_ | refine it2_f ?_ | refine it2_not ?_ | refine tlG_l ?_ | refine ttG_t ?_))
local macro_rules | `(tactic| array_mem_dec) => `(tactic| ((with_reducible refine oq_id ?_); (first | (with_reducible first | refine vw_i ?_ | refine vw_s ?_ | refine vw_b ?_ | refine vw_n ?_ | refine vw_l ?_ | refine vw_t ?_ | refine vw_sc ?_ | refine vw_o ?_ | refine mv_nil ?_ | refine mv_cons ?_ | refine oq_tgNil ?_ | refine oq_tgCons ?_ | refine oq_add_i ?_ | refine oq_sub ?_ | refine oq_lt ?_ | refine oq_le ?_ | refine oq_gt ?_ | refine oq_ge ?_ | refine oq_eq_i ?_ | refine oq_ne_i ?_ | refine oq_eq_s ?_ | refine oq_ne_s ?_ | refine oq_eq_b ?_ | refine oq_ne_b ?_ | refine oq_is ?_ | refine oq_isNot ?_ | refine oq_in_s ?_ | refine oq_notIn_s ?_ | refine oq_len_l ?_ | refine oq_len_t ?_ | refine oq_int ?_ | refine oq_abs ?_ | refine oq_ord ?_ | refine oq_cut_l ?_ | refine oq_cut_t ?_ | refine oq_list_l ?_ | refine oq_list_t ?_ | refine oq_tuple_l ?_ | refine oq_tuple_t ?_ | refine oq_max2 ?_ | refine oq_min2 ?_ | refine oq_some ?_ | refine oq_len_sc ?_ | refine oq_eq_il ?_ | refine oq_ne_il ?_ | refine oq_eq_it ?_ | refine oq_ne_it ?_ | refine oq_lt_il ?_ | refine oq_lt_it ?_ | refine oq_iadd_i ?_ | refine oq_isT ?_ | refine oq_isNotT ?_) | (first | ((with_reducible apply oq_tgTup); exact rfl) | ((with_reducible apply oq_ix_lk); exact rfl) | ((with_reducible apply oq_ix_tk); exact rfl) | ((with_reducible apply vw_r); (first | assumption | exact aset_same)) | ((with_reducible apply oq_ixN_k); exact rfl; (try simp only [List.set, Int.reduceToNat])) | ((with_reducible apply oq_mod); (first | omega | decide)) | ((with_reducible apply oq_div); (first | omega | decide)) | ((with_reducible apply oq_mul); (first | omega | decide)) | ((with_reducible apply oq_pow); (first | omega | decide)) | ((with_reducible apply oq_shl); (first | omega | decide)) | ((with_reducible apply oq_shr); (first | omega | decide)) | ((with_reducible apply oq_add_s); (first | omega | decide))) | (first | ((with_reducible apply oq_len_s); (first | omega | decide)) | ((with_reducible apply oq_cut_s); (first | omega | decide)) | ((with_reducible apply oq_append); (first | omega | decide)) | ((with_reducible apply oq_insert); (first | omega | decide)) | ((with_reducible apply oq_rep); (first | omega | decide)) | ((with_reducible apply oq_cat); (first | omega | decide))))))
local macro_rules | `(tactic| array_mem_dec) => `(tactic| (with_reducible first | refine w_list ?_ | refine w_tuple ?_ | refine w_str ?_ | refine w_range1 ?_ | refine w_range2 ?_ | refine w_range3 ?_ | refine w_next ?_ | refine w_break ?_ | refine w_cont ?_ | refine w_drop ?_ | refine w_ret ?_ | refine w_retN ?_ | refine w_if ?_ | refine w_asg ?_ | refine w_raise ?_ | refine w_fld ?_ | refine w_seta ?_ | refine w_auga ?_ | refine w_seti ?_ | refine w_mut ?_ | refine w_frz ?_ | refine w_new ?_ | refine w_ext ?_ | refine w_for ?_ | refine w_lc ?_ | refine w_tryA ?_ | refine w_try ?_ | refine w_par ?_))
local macro_rules | `(tactic| array_mem_dec) => `(tactic| (first | ((with_reducible apply w_kV); exact rfl) | (with_reducible first | refine w_kC ?_ | refine w_bop ?_ | refine w_tst ?_ | refine w_val ?_ | refine w_and ?_ | refine w_or ?_ | refine w_not ?_ | refine w_andV ?_ | refine w_orV ?_ | refine w_chain ?_ | refine w_ifK ?_ | refine w_nil ?_ | refine w_cons ?_ | refine w_tup ?_ | refine w_lst ?_ | refine w_call ?_ | refine w_neg ?_ | refine w_b1 ?_ | refine w_bn ?_ | refine w_isi ?_ | refine w_met ?_ | refine w_pnone ?_ | refine w_psome ?_ | refine w_cut ?_ | refine w_yes ?_)))
local macro_rules | `(tactic| array_get_dec) => `(tactic| (with_reducible refine w_seqB ?_))
local macro_rules | `(tactic| array_get_dec) => `(tactic| array_mem_dec)
local macro_rules | `(tactic| decreasing_trivial_pre_omega) => `(tactic| (with_reducible refine w_seq ?_))
local macro_rules | `(tactic| decreasing_trivial_pre_omega) => `(tactic| array_mem_dec)
local macro_rules | `(tactic| sizeOf_list_dec) => `(tactic| (try simp only [List.set, Int.reduceToNat, List.map_cons, List.map_nil, Nat.reduceSub, List.reduceReplicate, List.cons_append, List.nil_append, wipeA, aset_aset, List.getElem?_cons_zero, List.getElem?_cons_succ]))
variable {CE CR CF CB CI gX : Nat} {α : AH} {Q : QD} {E : QX}
section
variable {n v h m d t b : D} {R : D → Prop}
theorem vw_en (q : R (enD CE n v h m d t b)) : oq (vw α (enD CE n v h m d t b)) R := ⟨_, rfl, q⟩
theorem fe_1 (q : R n) : oq (fldD CE "name" (enD CE n v h m d t b)) R := ⟨_, by
  show (if Int.ofNat CE = Int.ofNat CE then _ else _) = _
  rw [if_pos rfl]
  rfl, q⟩
theorem fe_2 (q : R v) : oq (fldD CE "vector" (enD CE n v h m d t b)) R := ⟨_, by
  show (if Int.ofNat CE = Int.ofNat CE then _ else _) = _
  rw [if_pos rfl]
  rfl, q⟩
theorem fe_3 (q : R h) : oq (fldD CE "height" (enD CE n v h m d t b)) R := ⟨_, by
  show (if Int.ofNat CE = Int.ofNat CE then _ else _) = _
  rw [if_pos rfl]
  rfl, q⟩
theorem fe_4 (q : R m) : oq (fldD CE "maker" (enD CE n v h m d t b)) R := ⟨_, by
  show (if Int.ofNat CE = Int.ofNat CE then _ else _) = _
  rw [if_pos rfl]
  rfl, q⟩
theorem fe_5 (q : R d) : oq (fldD CE "deleted" (enD CE n v h m d t b)) R := ⟨_, by
  show (if Int.ofNat CE = Int.ofNat CE then _ else _) = _
  rw [if_pos rfl]
  rfl, q⟩
theorem fe_6 (q : R t) : oq (fldD CE "time" (enD CE n v h m d t b)) R := ⟨_, by
  show (if Int.ofNat CE = Int.ofNat CE then _ else _) = _
  rw [if_pos rfl]
  rfl, q⟩
theorem fe_7 (q : R b) : oq (fldD CE "blocks" (enD CE n v h m d t b)) R := ⟨_, by
  show (if Int.ofNat CE = Int.ofNat CE then _ else _) = _
  rw [if_pos rfl]
  rfl, q⟩
theorem oq_intb {b : Bool} (q : R (.int (if b then 1 else 0))) : oq (dInt [.bool b]) R := ⟨_, rfl, q⟩
end
local macro_rules | `(tactic| array_mem_dec) => `(tactic| (with_reducible first | refine vw_en ?_ | refine fe_1 ?_ | refine fe_2 ?_ | refine fe_3 ?_ | refine fe_4 ?_ | refine fe_5 ?_ | refine fe_6 ?_ | refine fe_7 ?_ | refine oq_intb ?_))
theorem cat_il {a b : List Int} {R : D → Prop} (hl : a.length + b.length ≤ 100000) (h : R (ilD (a ++ b))) : oq (dCat (ilD a) (ilD b)) R := by
  refine oq_cat (ds := a.map .int) (es := b.map .int) (by rw [List.length_map, List.length_map]; exact hl) ?_
  rw [← List.map_append]
  exact h
theorem app_il {a b : List Int} : PyData.list (a.map PyData.int ++ b.map PyData.int) = ilD (a ++ b) := by
  unfold ilD
  rw [List.map_append]
def veOk (ve : List (Int × Int)) : Prop := 1 ≤ ve.length ∧ ve.length ≤ 9 ∧ (ve.map (·.1)).Pairwise (· < ·) ∧ ∀ x ∈ ve, (1 ≤ x.1 ∧ x.1 ≤ 9) ∧ 1 ≤ x.2 ∧ x.2 < 4294967296
structure EOk (x : EF) (rows : List (List Int)) : Prop where
  nm : (1 ≤ x.nm.length ∧ x.nm.length ≤ 40) ∧ ∀ k ∈ x.nm, k ∈ CHS
  ve : veOk x.ve
  h : 1 ≤ x.h ∧ x.h < 4294967296
  md : 1 ≤ x.md ∧ x.md ≤ 9
  mn : 1 ≤ x.mn ∧ x.mn < 4294967296
  ti : 0 ≤ x.ti ∧ x.ti < 4294967296
  bl : x.bl = rows.map (val 256 1)
  ok : ∀ p ∈ rows, okp p
  len : rows.length ≤ 255
  de : x.de = true → rows = []
  shape : ∀ j, j + 1 < rows.length → (rows.getD j []).length = 4
def wA (x : EF) (num : Int) : List Int := four num ++ wNm x.nm ++ wVe x.ve
def wEn (x : EF) (num : Int) (rows : List (List Int)) : List Int := wA x num ++ (four x.h ++ [x.md] ++ four x.mn) ++ ([if x.de then 1 else 0] ++ four x.ti ++ [(rows.length : Int)]) ++ rows.flatMap wBk
theorem wA_len {x : EF} {num : Int} (h : x.nm.length ≤ 40) (h2 : x.ve.length ≤ 9) : (wA x num).length ≤ 200 := by
  have := wVe_len (ve := x.ve)
  unfold wA wNm wVe
  simp only [List.length_append, List.length_cons, List.length_map, this, show (four num).length = 4 from rfl]
  omega
theorem wBk_len : ∀ {rows : List (List Int)}, (∀ p ∈ rows, okp p) → (rows.flatMap wBk).length ≤ 5 * rows.length
  | [], _ => Nat.le_refl _
  | p :: r, h => by
    have := wBk_len (rows := r) fun q hq => h q (List.mem_cons_of_mem _ hq)
    have := (h p List.mem_cons_self).1
    rw [List.flatMap_cons, List.length_append]
    show (p.length + 1) + _ ≤ 5 * (r.length + 1)
    omega
theorem eb_go {x : EF} {num : Int} {rows : List (List Int)} (k : EOk x rows) (h : Q (ilD (wEn x num rows)) α) : f_entry_bytes CE CR CF CB CI gX [efD CE x, .int num] α Q E := by
  unfold f_entry_bytes m_entry_bytes
  refine w_runP rfl ?_
  have hn := k.nm.1.2
  have hv := k.ve.2.1
  have hwl := wA_len (num := num) hn hv
  unfold efD
  sizeOf_list_dec
  (repeat' array_get_dec)
  try refine bar_of ?_
  sizeOf_list_dec
  (repeat' array_get_dec)
  refine nb_go ?_
  (repeat' array_get_dec)
  refine nmb_go (by omega) ?_
  (repeat' array_get_dec)
  refine add_il (by unfold wNm; simp only [List.length_cons, List.length_map, show (four num).length = 4 from rfl]; omega) ?_
  (repeat' array_get_dec)
  refine veb_go (by omega) ?_
  (repeat' array_get_dec)
  refine cat_il (by unfold wNm wVe; simp only [List.length_append, List.length_cons, List.length_map, wVe_len, show (four num).length = 4 from rfl]; omega) ?_
  rw [show four num ++ wNm x.nm ++ wVe x.ve = wA x num from rfl]
  intro p hp
  (repeat' array_get_dec)
  try refine bar_of ?_
  sizeOf_list_dec
  (repeat' array_get_dec)
  refine nb_go ?_
  (repeat' array_get_dec)
  refine add_il (b := [x.md]) (by simp [four]) ?_
  (repeat' array_get_dec)
  refine nb_go ?_
  (repeat' array_get_dec)
  refine add_il (by simp [four]) ?_
  (repeat' array_get_dec)
  refine exD_of rfl ⟨by rw [List.length_map, List.length_map]; simp only [List.length_append, List.length_cons, List.length_nil, show (four x.h).length = 4 from rfl, show (four x.mn).length = 4 from rfl]; omega, ?_⟩
  rw [app_il]
  (repeat' array_get_dec)
  try refine bar_of ?_
  sizeOf_list_dec
  (repeat' array_get_dec)
  refine nb_go ?_
  (repeat' array_get_dec)
  refine add_il (a := [if x.de then 1 else 0]) (by simp [four]) ?_
  (repeat' array_get_dec)
  have hbl : x.bl.map PyData.int = rows.map fun p => PyData.int (val 256 1 p) := by rw [k.bl, List.map_map]; rfl
  have hrl := k.len
  rw [hbl, List.length_map]
  refine add_il (b := [(rows.length : Int)]) (by simp [four]) ?_
  (repeat' array_get_dec)
  refine exD_of rfl ⟨by rw [List.length_map, List.length_map]; simp only [List.length_append, List.length_cons, List.length_nil, show ∀ n, (four n).length = 4 from fun _ => rfl]; omega, ?_⟩
  rw [app_il]
  have hB : (wA x num ++ (four x.h ++ [x.md] ++ four x.mn) ++ ([if x.de then 1 else 0] ++ four x.ti ++ [(rows.length : Int)])).length ≤ 300 := by
    simp only [List.length_append, List.length_cons, List.length_nil, show ∀ n, (four n).length = 4 from fun _ => rfl]
    omega
  unfold wEn at h
  generalize wA x num ++ (four x.h ++ [x.md] ++ four x.mn) ++ ([if x.de then 1 else 0] ++ four x.ti ++ [(rows.length : Int)]) = B at *
  have hok := k.ok
  (repeat' array_get_dec)
  try refine bar_of ?_
  sizeOf_list_dec
  (repeat' array_get_dec)
  refine for_map (xs := rows) (u := fun p => .int (val 256 1 p)) rfl (fun j ρ α' => ∃ x3, ρ = [some (enD CE (.str (S x.nm)) (.tuple (x.ve.map vD)) (.int x.h) (.tuple [.int x.md, .int x.mn]) (.bool x.de) (.int x.ti) (.tuple (rows.map fun p => .int (val 256 1 p)))), some (.int num), some (dref p), x3] ∧ α' = aset α p (ilD (B ++ (rows.take j).flatMap wBk))) ⟨none, rfl, by rw [List.take_zero, List.flatMap_nil, List.append_nil]⟩ ?_ ?_
  · rintro ρ _ ⟨x3, rfl, rfl⟩
    rw [List.take_length]
    (repeat' array_get_dec)
    try refine bar_of ?_
    sizeOf_list_dec
    (repeat' array_get_dec)
    rw [adel_aset hp, arst_self]
    exact h
  · rintro j hj ρ _ ⟨x3, rfl, rfl⟩ X hX
    have hta := List.take_append_getElem hj
    have hpo := hok _ (List.getElem_mem hj)
    have hwb := wBk_len (rows := rows.take j) fun q hq => hok q (List.mem_of_mem_take hq)
    rw [List.length_take] at hwb
    generalize rows[j] = pc at *
    have hp4 := hpo.1
    sizeOf_list_dec
    (repeat' array_get_dec)
    refine bb_go hpo ?_
    (repeat' array_get_dec)
    refine db_go (by omega) ?_
    (repeat' array_get_dec)
    refine exD_of rfl ⟨by rw [List.length_map, List.length_map]; simp only [List.length_append, wBk, List.length_cons]; omega, ?_⟩
    rw [app_il]
    (repeat' array_get_dec)
    refine hX _ _ ⟨_, rfl, ?_⟩
    rw [aset_aset, ← hta, List.flatMap_append, List.flatMap_cons, List.flatMap_nil, List.append_nil, List.append_assoc]
end K21
namespace K21
open PySem L2 Hz
theorem rN_four {lo n : Int} {r : List Int} (h : 0 ≤ n ∧ n < 4294967296) (hlo : 0 ≤ lo ∧ lo ≤ n) : rN lo (four n ++ r) = .ok (n, r) := by
  show bn (rB 0 255 (n / 16777216 :: n / 65536 % 256 :: n / 256 % 256 :: n % 256 :: r)) _ = _
  rw [rB_pos (by omega)]
  show bn (rB 0 255 (n / 65536 % 256 :: n / 256 % 256 :: n % 256 :: r)) _ = _
  rw [rB_pos (by omega)]
  show bn (rB 0 255 (n / 256 % 256 :: n % 256 :: r)) _ = _
  rw [rB_pos (by omega)]
  show bn (rB (if (n / 16777216 * 256 + n / 65536 % 256) * 256 + n / 256 % 256 = 0 then lo else 0) 255 (n % 256 :: r)) _ = _
  rw [rB_pos (by split <;> omega)]
  show Except.ok (((n / 16777216 * 256 + n / 65536 % 256) * 256 + n / 256 % 256) * 256 + n % 256, r) = _
  congr 2
  omega
theorem rC_w : ∀ {nm : List Nat} {r : List Int}, (∀ k ∈ nm, k ∈ CHS) → rC nm.length (nm.map Int.ofNat ++ r) = .ok (nm, r)
  | [], r, _ => rfl
  | k :: nm, r, h => by
    have hk := h k List.mem_cons_self
    have hb := chs_lt k hk
    show bn (rB 0 255 ((k : Int) :: (nm.map Int.ofNat ++ r))) _ = _
    rw [rB_pos (by omega)]
    have e : chO (k : Int) = some k := by
      unfold chO
      rw [if_pos ⟨by omega, by omega, by rw [Int.toNat_natCast]; exact hk⟩, Int.toNat_natCast]
    show (match chO (k : Int) with
      | none => _
      | some z => pre [z] (rC nm.length (nm.map Int.ofNat ++ r))) = _
    rw [e]
    show pre [k] (rC nm.length (nm.map Int.ofNat ++ r)) = _
    rw [rC_w fun x hx => h x (List.mem_cons_of_mem _ hx)]
    rfl
theorem rNm_w {nm : List Nat} {r : List Int} (h : (1 ≤ nm.length ∧ nm.length ≤ 40) ∧ ∀ k ∈ nm, k ∈ CHS) : rNm (wNm nm ++ r) = .ok (nm, r) := by
  unfold rNm wNm
  rw [List.cons_append, rB_pos (by omega)]
  show rC ((nm.length : Int)).toNat (nm.map Int.ofNat ++ r) = _
  rw [Int.toNat_natCast]
  exact rC_w h.2
theorem inc_le : ∀ {v : List (Int × Int)} {x : Int × Int}, ((x :: v).map (·.1)).Pairwise (· < ·) → (∀ y ∈ x :: v, y.1 ≤ 9) → x.1 + (v.length : Nat) ≤ 9
  | [], x, _, h => by
    have := h x List.mem_cons_self
    simp only [List.length_nil]
    omega
  | y :: w, x, hp, h => by
    rw [List.map_cons, List.pairwise_cons] at hp
    have h1 := hp.1 y.1 (by simp)
    have h2 := inc_le hp.2 fun z hz => h z (List.mem_cons_of_mem _ hz)
    rw [List.length_cons]
    omega
theorem rV_w : ∀ {v : List (Int × Int)} {d : Int} {r : List Int}, (v.map (·.1)).Pairwise (· < ·) → (∀ x ∈ v, (d < x.1 ∧ x.1 ≤ 9) ∧ 1 ≤ x.2 ∧ x.2 < 4294967296) → rV v.length d ((v.flatMap fun x => x.1 :: four x.2) ++ r) = .ok (v, r)
  | [], d, r, _, _ => rfl
  | x :: v, d, r, hp, h => by
    have hx := h x List.mem_cons_self
    have hl := inc_le hp fun y hy => (h y hy).1.2
    rw [List.map_cons, List.pairwise_cons] at hp
    rw [List.flatMap_cons, List.append_assoc, List.cons_append]
    show bn (rB (d + 1) (9 - (v.length : Nat)) (x.1 :: (four x.2 ++ ((v.flatMap fun x => x.1 :: four x.2) ++ r)))) _ = _
    rw [rB_pos (by omega)]
    show bn (rN 1 (four x.2 ++ ((v.flatMap fun x => x.1 :: four x.2) ++ r))) _ = _
    rw [rN_four (by omega) (by omega)]
    show pre [(x.1, x.2)] (rV v.length x.1 ((v.flatMap fun x => x.1 :: four x.2) ++ r)) = _
    rw [rV_w hp.2 fun y hy => ⟨⟨hp.1 y.1 (List.mem_map.mpr ⟨y, hy, rfl⟩), (h y (List.mem_cons_of_mem _ hy)).1.2⟩, (h y (List.mem_cons_of_mem _ hy)).2⟩]
    rfl
theorem rVec_w {v : List (Int × Int)} {r : List Int} (h : veOk v) : rVec (wVe v ++ r) = .ok (v, r) := by
  obtain ⟨h1, h2, h3, h4⟩ := h
  unfold rVec wVe
  rw [List.cons_append, rB_pos (by omega)]
  show rV ((v.length : Int)).toNat 0 ((v.flatMap fun x => x.1 :: four x.2) ++ r) = _
  rw [Int.toNat_natCast]
  exact rV_w h3 fun x hx => ⟨⟨by have := (h4 x hx).1.1; omega, (h4 x hx).1.2⟩, (h4 x hx).2⟩
theorem rBs_w : ∀ {p r : List Int}, (∀ d ∈ p, 0 ≤ d ∧ d < 256) → rBs p.length (p ++ r) = .ok (p, r)
  | [], r, _ => rfl
  | d :: p, r, h => by
    have hd := h d List.mem_cons_self
    show bn (rB 0 255 (d :: (p ++ r))) _ = _
    rw [rB_pos (by omega)]
    show pre [d] (rBs p.length (p ++ r)) = _
    rw [rBs_w fun x hx => h x (List.mem_cons_of_mem _ hx)]
    rfl
theorem rBk_w {lo : Int} {p r : List Int} (h : okp p) (hlo : lo ≤ p.length) : rBk lo (wBk p ++ r) = .ok (val 256 1 p, r) := by
  have h4 := h.1
  unfold rBk rR wBk
  rw [List.cons_append, rB_pos (by omega)]
  show bn (rBs ((p.length : Int)).toNat (p ++ r)) _ = _
  rw [Int.toNat_natCast, rBs_w h.2.2]
  rfl
theorem rBl_w : ∀ {rows : List (List Int)} {r : List Int}, (∀ p ∈ rows, okp p) → (∀ j, j + 1 < rows.length → (rows.getD j []).length = 4) → rBl rows.length (rows.flatMap wBk ++ r) = .ok (rows.map (val 256 1), r)
  | [], r, _, _ => rfl
  | p :: rows, r, h, hs => by
    have hp := h p List.mem_cons_self
    have hl : (if rows.length = 0 then 1 else 4 : Int) ≤ p.length := by
      split
      · have := List.length_pos_iff.mpr hp.2.1
        omega
      · have := hs 0 (by rw [List.length_cons]; omega)
        have this : p.length = 4 := this
        omega
    rw [List.flatMap_cons, List.append_assoc]
    show bn (rBk (if rows.length = 0 then 1 else 4) (wBk p ++ (rows.flatMap wBk ++ r))) _ = _
    rw [rBk_w hp hl]
    show pre [val 256 1 p] (rBl rows.length (rows.flatMap wBk ++ r)) = _
    rw [rBl_w (fun x hx => h x (List.mem_cons_of_mem _ hx)) fun j hj => hs (j + 1) (by rw [List.length_cons]; omega)]
    rfl
theorem wEn_app {x : EF} {num : Int} {rows : List (List Int)} {r : List Int} : wEn x num rows ++ r = four num ++ (wNm x.nm ++ (wVe x.ve ++ (four x.h ++ (x.md :: (four x.mn ++ ((if x.de then 1 else 0) :: (four x.ti ++ ((rows.length : Int) :: (rows.flatMap wBk ++ r))))))))) := by
  unfold wEn wA
  simp only [List.append_assoc, List.cons_append, List.nil_append]
theorem rE_w {x : EF} {num : Int} {rows : List (List Int)} {r : List Int} (k : EOk x rows) (h1 : 1 ≤ num) (h2 : num < 4294967296) : rE (wEn x num rows ++ r) = .ok ((x, num), r) := by
  rw [wEn_app, rE, rN_four (by omega) (by omega)]
  show rE1 num _ = _
  rw [rE1, rNm_w k.nm]
  show rE2 num x.nm _ = _
  rw [rE2, rVec_w k.ve]
  show rE3 num x.nm x.ve _ = _
  have kh := k.h
  have kd := k.md
  have kn := k.mn
  have kt := k.ti
  rw [rE3, rN_four (by omega) (by omega)]
  show rE4 num x.nm x.ve x.h _ = _
  rw [rE4, rB_pos (by omega)]
  show rE5 num x.nm x.ve x.h x.md _ = _
  rw [rE5, rN_four (by omega) (by omega)]
  show rE6 num x.nm x.ve x.h x.md x.mn _ = _
  rw [rE6, rB_pos (by split <;> omega)]
  show rE7 num x.nm x.ve x.h x.md x.mn _ _ = _
  rw [rE7, rN_four (by omega) (by omega)]
  show rE8 num x.nm x.ve x.h x.md x.mn _ x.ti _ = _
  have kl := k.len
  have kde := k.de
  rw [rE8, rB_pos (by
    cases hde : x.de with
    | true =>
      rw [kde hde]
      simp
    | false =>
      simp
      omega)]
  show rE9 num x.nm x.ve x.h x.md x.mn _ x.ti ((rows.length : Int)) (rows.flatMap wBk ++ r) = _
  rw [rE9, Int.toNat_natCast, rBl_w k.ok k.shape, ← k.bl]
  show Except.ok ((_, num), r) = _
  obtain ⟨nm, ve, h, md, mn, de, ti, bl⟩ := x
  cases de <;> rfl
end K21
namespace K21
open PySem L2 Hz
local macro_rules | `(tactic| array_mem_dec) => `(tactic| (first | ((with_reducible apply w_xf); exact rfl; exact decide_eq_true rfl; exact rfl) | ((with_reducible apply w_frzS); exact rfl; (first | assumption | exact aset_same); (try simp only [List.set])) | ((with_reducible apply rg1_of); (first | omega | decide)) | ((with_reducible apply rg2_of); (first | omega | decide)) | ((with_reducible apply lok); exact rfl) | ((with_reducible refine it2_dec ?_ ?_) <;> intro)))
local macro_rules | `(tactic| array_mem_dec) => `(tactic| (first | ((with_reducible apply oq_setv2); (simp only [List.set, wipeA]; exact rfl)) | ((with_reducible apply cal_of); exact rfl; (try simp only [List.cons_append, List.nil_append, List.append_nil])) | ((with_reducible apply w_aug); exact rfl) | ((with_reducible apply cel_of); (first | assumption | exact aset_same)) | ((with_reducible apply ceo_of); (first | assumption | exact aset_same)) | ((with_reducible apply tlG_r); (first | assumption | exact aset_same)) | ((with_reducible apply fr_of); (first | assumption | exact aset_same)) | ((with_reducible apply fd_cons); exact trivial) | ((with_reducible apply fd_nil); exact trivial) | ((with_reducible apply oq_isiB (b := true)); exact rfl) | ((with_reducible apply oq_isiB (b := false)); exact rfl) | ((with_reducible apply w_xi); exact rfl; exact decide_eq_true rfl; exact if_pos rfl)))
local macro_rules | `(tactic| array_mem_dec) => `(tactic| (with_reducible first | refine pr2_of ?_ | refine fl_d ?_ | refine fl_a ?_ | refine oq_and255 ?_ | refine vw_il ?_ | refine len_il ?_ | refine list_il ?_ | refine w_mk ?_ | refine vw_en ?_ | refine fe_1 ?_ | refine fe_2 ?_ | refine fe_3 ?_ | refine fe_4 ?_ | refine fe_5 ?_ | refine fe_6 ?_ | refine fe_7 ?_ | refine oq_intb ?_))
local macro_rules | `(tactic| array_mem_dec) => `(tactic| (with_reducible first | refine tb_b ?_ | refine ti_b ?_ | refine ts_b ?_ | refine we_nx ?_ | refine we_rt ?_ | refine we_ex ?_ | refine wn_nx ?_ | refine wn_rt ?_ | refine wn_bk ?_ | refine wn_ct ?_ | refine wn_ex ?_ | refine wl_nx ?_ | refine wl_rt ?_ | refine wl_bk ?_ | refine wl_ct ?_ | refine wl_ex ?_ | refine wx_nx ?_ | refine wx_rt ?_ | refine wx_bk ?_ | refine wx_ct ?_ | refine wx_ex ?_ | refine wh_nx ?_ | refine wh_rt ?_ | refine wh_bk ?_ | refine wh_ct ?_ | refine it2_t ?_ | refine it2_f ?_ | refine it2_not ?_ | refine tlG_l ?_ | refine ttG_t ?_))
local macro_rules | `(tactic| array_mem_dec) => `(tactic| ((with_reducible refine oq_id ?_); (first | (with_reducible first | refine vw_i ?_ | refine vw_s ?_ | refine vw_b ?_ | refine vw_n ?_ | refine vw_l ?_ | refine vw_t ?_ | refine vw_sc ?_ | refine vw_o ?_ | refine mv_nil ?_ | refine mv_cons ?_ | refine oq_tgNil ?_ | refine oq_tgCons ?_ | refine oq_add_i ?_ | refine oq_sub ?_ | refine oq_lt ?_ | refine oq_le ?_ | refine oq_gt ?_ | refine oq_ge ?_ | refine oq_eq_i ?_ | refine oq_ne_i ?_ | refine oq_eq_s ?_ | refine oq_ne_s ?_ | refine oq_eq_b ?_ | refine oq_ne_b ?_ | refine oq_is ?_ | refine oq_isNot ?_ | refine oq_in_s ?_ | refine oq_notIn_s ?_ | refine oq_len_l ?_ | refine oq_len_t ?_ | refine oq_int ?_ | refine oq_abs ?_ | refine oq_ord ?_ | refine oq_cut_l ?_ | refine oq_cut_t ?_ | refine oq_list_l ?_ | refine oq_list_t ?_ | refine oq_tuple_l ?_ | refine oq_tuple_t ?_ | refine oq_max2 ?_ | refine oq_min2 ?_ | refine oq_some ?_ | refine oq_len_sc ?_ | refine oq_eq_il ?_ | refine oq_ne_il ?_ | refine oq_eq_it ?_ | refine oq_ne_it ?_ | refine oq_lt_il ?_ | refine oq_lt_it ?_ | refine oq_iadd_i ?_ | refine oq_isT ?_ | refine oq_isNotT ?_) | (first | ((with_reducible apply oq_tgTup); exact rfl) | ((with_reducible apply oq_ix_lk); exact rfl) | ((with_reducible apply oq_ix_tk); exact rfl) | ((with_reducible apply vw_r); (first | assumption | exact aset_same)) | ((with_reducible apply oq_ixN_k); exact rfl; (try simp only [List.set, Int.reduceToNat])) | ((with_reducible apply oq_mod); (first | omega | decide)) | ((with_reducible apply oq_div); (first | omega | decide)) | ((with_reducible apply oq_mul); (first | omega | decide)) | ((with_reducible apply oq_pow); (first | omega | decide)) | ((with_reducible apply oq_shl); (first | omega | decide)) | ((with_reducible apply oq_shr); (first | omega | decide)) | ((with_reducible apply oq_add_s); (first | omega | decide))) | (first | ((with_reducible apply oq_len_s); (first | omega | decide)) | ((with_reducible apply oq_cut_s); (first | omega | decide)) | ((with_reducible apply oq_append); (first | omega | decide)) | ((with_reducible apply oq_insert); (first | omega | decide)) | ((with_reducible apply oq_rep); (first | omega | decide)) | ((with_reducible apply oq_cat); (first | omega | decide))))))
local macro_rules | `(tactic| array_mem_dec) => `(tactic| (with_reducible first | refine w_list ?_ | refine w_tuple ?_ | refine w_str ?_ | refine w_range1 ?_ | refine w_range2 ?_ | refine w_range3 ?_ | refine w_next ?_ | refine w_break ?_ | refine w_cont ?_ | refine w_drop ?_ | refine w_ret ?_ | refine w_retN ?_ | refine w_if ?_ | refine w_asg ?_ | refine w_raise ?_ | refine w_fld ?_ | refine w_seta ?_ | refine w_auga ?_ | refine w_seti ?_ | refine w_mut ?_ | refine w_frz ?_ | refine w_new ?_ | refine w_ext ?_ | refine w_for ?_ | refine w_lc ?_ | refine w_tryA ?_ | refine w_try ?_ | refine w_par ?_))
local macro_rules | `(tactic| array_mem_dec) => `(tactic| (first | ((with_reducible apply w_kV); exact rfl) | (with_reducible first | refine w_kC ?_ | refine w_bop ?_ | refine w_tst ?_ | refine w_val ?_ | refine w_and ?_ | refine w_or ?_ | refine w_not ?_ | refine w_andV ?_ | refine w_orV ?_ | refine w_chain ?_ | refine w_ifK ?_ | refine w_nil ?_ | refine w_cons ?_ | refine w_tup ?_ | refine w_lst ?_ | refine w_call ?_ | refine w_neg ?_ | refine w_b1 ?_ | refine w_bn ?_ | refine w_isi ?_ | refine w_met ?_ | refine w_pnone ?_ | refine w_psome ?_ | refine w_cut ?_ | refine w_yes ?_)))
local macro_rules | `(tactic| array_get_dec) => `(tactic| (with_reducible refine w_seqB ?_))
local macro_rules | `(tactic| array_get_dec) => `(tactic| array_mem_dec)
local macro_rules | `(tactic| decreasing_trivial_pre_omega) => `(tactic| (with_reducible refine w_seq ?_))
local macro_rules | `(tactic| decreasing_trivial_pre_omega) => `(tactic| array_mem_dec)
local macro_rules | `(tactic| sizeOf_list_dec) => `(tactic| (try simp only [List.set, Int.reduceToNat, List.map_cons, List.map_nil, Nat.reduceSub, List.reduceReplicate, List.cons_append, List.nil_append, wipeA, aset_aset, List.getElem?_cons_zero, List.getElem?_cons_succ]))
variable {CE CR CF CB CI gX : Nat} {α : AH} {Q : QD} {E : QX}
theorem arst_ext {α' : AH} (h : ∀ a, (α a).isSome = true → α' a = α a) : arst α α' = α := by
  funext a
  unfold arst
  by_cases q : (α a).isSome = true
  · rw [if_pos q, h a q]
  · rw [if_neg q]
    cases e : α a with
    | none => rfl
    | some c => rw [e] at q; exact absurd rfl q
theorem draw_ok {ns : List Int} {a b n : Int} {p : Addr} {α : AH} (hp : α p = some (.list [.int a, .int b])) (hn : 0 < n ∧ n < 2 ^ 80) {Q : QD} {E : QX} (q : ∀ d a' b', 0 ≤ d → d < n → Q (.int d) (aset α p (.list [.int a', .int b']))) :
    f_law_draw CE CR CF CB CI gX [dref p, scriptD ns, .int n] α Q E := by
  unfold f_law_draw m_law_draw
  refine w_runP rfl ?_
  sizeOf_list_dec
  have h0 := hn.1
  refine w_seqI (fun ρ α' => ∃ a b y z, ρ = [some (dref p), some (scriptD ns), some (.int n), none, y, z] ∧ α' = aset α p (.list [.int a, .int b])) ?_ fun X hX => ?_
  · rintro _ _ ⟨a, b, y, z, rfl, rfl⟩
    (repeat' decreasing_trivial_pre_omega)
    sizeOf_list_dec
    rw [arst_old ⟨_, hp⟩, arst_self]
    exact q _ _ _ (Int.emod_nonneg _ (by omega)) (Int.emod_lt_of_pos _ h0)
  · have hid : α = aset α p (.list [.int a, .int b]) := (aset_id hp).symm
    have fin : ∀ a' b' y z, X [some (dref p), some (scriptD ns), some (.int n), none, y, z] (aset α p (.list [.int a', .int b'])) := fun a' b' y z => hX _ _ ⟨a', b', y, z, rfl, rfl⟩
    (repeat' decreasing_trivial_pre_omega)
    · have h1 : 0 ≤ a % ↑ns.length := Int.emod_nonneg _ (by omega)
      have h2 : a % ↑ns.length < ↑ns.length := Int.emod_lt_of_pos _ (by omega)
      refine oq_ix_sc h1 h2 fun z _ => ?_
      (repeat' decreasing_trivial_pre_omega)
      all_goals (sizeOf_list_dec; exact fin _ _ _ _)
    all_goals first | (sizeOf_list_dec; exact fin _ _ _ _) | (rw [hid]; exact fin _ _ _ _)
def DrAt (p : Addr) (α : AH) : Prop := ∃ a b, α p = some (.list [.int a, .int b])
theorem DrAt.isS {p : Addr} (h : DrAt p α) : (α p).isSome = true := by
  obtain ⟨a, b, h⟩ := h
  rw [h]
  rfl
theorem dr_go {ns : List Int} {p : Addr} {n : Int} (h : DrAt p α) (hn : 0 < n ∧ n < 2 ^ 80) (q : ∀ d α', 0 ≤ d → d < n → DrAt p α' → But p α α' → Q (.int d) α') : f_law_draw CE CR CF CB CI gX [dref p, scriptD ns, .int n] α Q E := by
  obtain ⟨a, b, h1⟩ := h
  exact draw_ok h1 hn fun d a' b' g1 g2 => q d _ g1 g2 ⟨a', b', aset_same⟩ fun x hx => aset_ne hx
def BuX (p : Addr) (α α' : AH) : Prop := ∀ a, a ≠ p → (α a).isSome = true → α' a = α a
theorem BuX.of {p : Addr} {α1 : AH} (h : But p α α1) : BuX p α α1 := fun a ha _ => h a ha
theorem BuX.but {p : Addr} {α1 α2 : AH} (h : BuX p α α1) (k : But p α1 α2) : BuX p α α2 := fun a ha hs => (k a ha).trans (h a ha hs)
theorem BuX.new {p z : Addr} {α1 : AH} {d : D} (h : BuX p α α1) (hz : α1 z = none) : BuX p α (aset α1 z d) := fun a ha hs => by
  rw [aset_ne fun e => ?_]
  · exact h a ha hs
  · rw [← h a ha hs, e, hz] at hs
    cases hs
theorem BuX.put {p z : Addr} {α1 : AH} {d : D} (h : BuX p α α1) (hz : α z = none) : BuX p α (aset α1 z d) := fun a ha hs => by
  rw [aset_ne fun e => ?_]
  · exact h a ha hs
  · rw [e, hz] at hs
    cases hs
theorem BuX.none {p z : Addr} {α1 : AH} (h : BuX p α α1) (hz : α1 z = none) (hp : p ≠ z) : α z = none := by
  cases e : α z with
  | none => rfl
  | some c =>
    have := h z (Ne.symm hp) (by rw [e]; rfl)
    rw [e, hz] at this
    cases this
theorem arst_bux {p : Addr} {α' : AH} (h : BuX p α α') : But p α (arst α α') := fun a ha => by
  unfold arst
  by_cases q : (α a).isSome = true
  · rw [if_pos q]
    exact h a ha q
  · rw [if_neg q]
    cases e : α a with
    | none => rfl
    | some c => rw [e] at q; exact absurd rfl q
theorem DrAt.cong {p : Addr} {α' : AH} (h : DrAt p α) (e : α' p = α p) : DrAt p α' := by
  obtain ⟨a, b, h⟩ := h
  exact ⟨a, b, e.trans h⟩
theorem DrAt.ne {p z : Addr} (h : DrAt p α) (hz : α z = none) : p ≠ z := fun e => by
  have := h.isS
  rw [e, hz] at this
  cases this
theorem DrAt.new {p z : Addr} {d : D} (h : DrAt p α) (hz : α z = none) : DrAt p (aset α z d) := h.cong (aset_ne (h.ne hz))
theorem arst_bx {b : Addr} {α' : AH} (hb : α b = none) (h : BuX b α α') : arst α α' = α := arst_ext fun a ha => h a (fun e => by rw [e, hb] at ha; cases ha) ha
theorem rdi_go {z : Addr} {ds : List Int} {a : Nat} (hz : α z = some (oD CR [])) (q : Q .none (aset α z (rdO CR ds a))) : f_Reader_init CE CR CF CB CI gX [dref z, ilD ds, .int a] α Q E := by
  unfold f_Reader_init m_Reader_init
  refine w_runF rfl ?_
  sizeOf_list_dec
  (repeat' decreasing_trivial_pre_omega)
  refine ⟨by show (0 : Nat) < 900; decide, ?_⟩
  (repeat' decreasing_trivial_pre_omega)
  refine ⟨by show (1 : Nat) < 900; decide, ?_⟩
  (repeat' decreasing_trivial_pre_omega)
  simp only [aset_aset]
  exact q
theorem dEqB_self {d : D} (h : okD 60 d = true) : dEqB d d = some true := by
  have e := PySem.SeqAt.eqv_refl _ (okD_ok 60 _ h).1
  unfold dEqB
  cases d with
  | str s => simp
  | _ => simp only [h, e, and_self, if_true]
theorem oq_eq_self {d : D} {R : D → Prop} (h : okD 60 d = true) (q : R (.bool true)) : oq (dEq d d) R := oq_eq_d (dEqB_self h) q
theorem cutt_il {l : List Int} {k : Int} {R : D → Prop} (h0 : 0 ≤ k) (h : R (ilD (l.take k.toNat))) : oq (dCut (ilD l) none (some k)) R := ⟨_, by
  obtain ⟨k, rfl⟩ := Int.eq_ofNat_of_zero_le h0
  show some (PyData.list (cutD (l.map PyData.int) none (some (k : Int)))) = some (ilD (l.take k))
  unfold cutD ilD
  rw [HT.sIx_nat, List.length_map, HT.sIx_none, List.drop_zero, Nat.sub_zero, List.map_take]
  congr 2
  rw [List.take_eq_take_iff, List.length_map]
  omega, h⟩
def byt (w : List Int) : Prop := ∀ d ∈ w, 0 ≤ d ∧ d < 256
theorem byt_app {a b : List Int} (h : byt a) (k : byt b) : byt (a ++ b) := fun d hd => (List.mem_append.mp hd).elim (h d) (k d)
theorem byt_nil : byt [] := fun _ h => nomatch h
theorem byt_cons {a : Int} {b : List Int} (h : 0 ≤ a ∧ a < 256) (k : byt b) : byt (a :: b) := fun d hd => (List.mem_cons.mp hd).elim (fun e => e ▸ h) (k d)
theorem byt_one {a : Int} (h : 0 ≤ a ∧ a < 256) : byt [a] := byt_cons h byt_nil
theorem byt_take {a : List Int} {k : Nat} (h : byt a) : byt (a.take k) := fun d hd => h d (List.mem_of_mem_take hd)
theorem byt_drop {a : List Int} {k : Nat} (h : byt a) : byt (a.drop k) := fun d hd => h d (List.mem_of_mem_drop hd)
theorem byt_four {n : Int} (h : 0 ≤ n ∧ n < 4294967296) : byt (four n) := byt_cons (by omega) (byt_cons (by omega) (byt_cons (by omega) (byt_one (by omega))))
theorem byt_nm {nm : List Nat} (h : (1 ≤ nm.length ∧ nm.length ≤ 40) ∧ ∀ k ∈ nm, k ∈ CHS) : byt (wNm nm) := byt_cons (by omega) fun d hd => by
  obtain ⟨k, hk, rfl⟩ := List.mem_map.mp hd
  have := chs_lt k (h.2 k hk)
  exact ⟨Int.natCast_nonneg k, by show (k : Int) < 256; omega⟩
theorem byt_ve {ve : List (Int × Int)} (h : veOk ve) : byt (wVe ve) := byt_cons (by have := h.2.1; omega) fun d hd => by
  obtain ⟨x, hx, hd⟩ := List.mem_flatMap.mp hd
  have := h.2.2.2 x hx
  exact byt_cons (by omega) (byt_four (by omega)) d hd
theorem byt_en {x : EF} {num : Int} {rows : List (List Int)} (k : EOk x rows) (h : 1 ≤ num ∧ num < 4294967296) : byt (wEn x num rows) := by
  have k1 := k.h
  have k2 := k.md
  have k3 := k.mn
  have k4 := k.ti
  have k5 := k.len
  refine byt_app (byt_app (byt_app (byt_app (byt_app (byt_four (by omega)) (byt_nm k.nm)) (byt_ve k.ve)) (byt_app (byt_app (byt_four (by omega)) (byt_one (by omega))) (byt_four (by omega)))) (byt_app (byt_app (byt_one (by split <;> omega)) (byt_four (by omega))) (byt_one (by omega)))) fun d hd => ?_
  obtain ⟨p, hp, hd⟩ := List.mem_flatMap.mp hd
  have := k.ok p hp
  exact byt_cons (by have := this.1; omega) this.2.2 d hd
end K21
namespace K21
open PySem L2 Hz
local macro_rules | `(tactic| array_mem_dec) => `(tactic| (first | ((with_reducible apply w_xf); exact rfl; exact decide_eq_true rfl; exact rfl) | ((with_reducible apply w_frzS); exact rfl; (first | assumption | exact aset_same); (try simp only [List.set])) | ((with_reducible apply rg1_of); (first | omega | decide)) | ((with_reducible apply rg2_of); (first | omega | decide)) | ((with_reducible apply lok); exact rfl) | ((with_reducible refine it2_dec ?_ ?_) <;> intro)))
local macro_rules | `(tactic| array_mem_dec) => `(tactic| (first | ((with_reducible apply oq_setv2); (simp only [List.set, wipeA]; exact rfl)) | ((with_reducible apply cal_of); exact rfl; (try simp only [List.cons_append, List.nil_append, List.append_nil])) | ((with_reducible apply w_aug); exact rfl) | ((with_reducible apply cel_of); (first | assumption | exact aset_same)) | ((with_reducible apply ceo_of); (first | assumption | exact aset_same)) | ((with_reducible apply tlG_r); (first | assumption | exact aset_same)) | ((with_reducible apply fr_of); (first | assumption | exact aset_same)) | ((with_reducible apply fd_cons); exact trivial) | ((with_reducible apply fd_nil); exact trivial) | ((with_reducible apply oq_isiB (b := true)); exact rfl) | ((with_reducible apply oq_isiB (b := false)); exact rfl) | ((with_reducible apply w_xi); exact rfl; exact decide_eq_true rfl; exact if_pos rfl)))
local macro_rules | `(tactic| array_mem_dec) => `(tactic| (with_reducible first | refine pr2_of ?_ | refine fl_d ?_ | refine fl_a ?_ | refine oq_and255 ?_ | refine vw_il ?_ | refine len_il ?_ | refine list_il ?_ | refine w_mk ?_ | refine vw_en ?_ | refine fe_1 ?_ | refine fe_2 ?_ | refine fe_3 ?_ | refine fe_4 ?_ | refine fe_5 ?_ | refine fe_6 ?_ | refine fe_7 ?_ | refine oq_intb ?_))
local macro_rules | `(tactic| array_mem_dec) => `(tactic| (with_reducible first | refine tb_b ?_ | refine ti_b ?_ | refine ts_b ?_ | refine we_nx ?_ | refine we_rt ?_ | refine we_ex ?_ | refine wn_nx ?_ | refine wn_rt ?_ | refine wn_bk ?_ | refine wn_ct ?_ | refine wn_ex ?_ | refine wl_nx ?_ | refine wl_rt ?_ | refine wl_bk ?_ | refine wl_ct ?_ | refine wl_ex ?_ | refine wx_nx ?_ | refine wx_rt ?_ | refine wx_bk ?_ | refine wx_ct ?_ | refine wx_ex ?_ | refine wh_nx ?_ | refine wh_rt ?_ | refine wh_bk ?_ | refine wh_ct ?_ | refine it2_t ?_ | refine it2_f ?_ | refine it2_not ?_ | refine tlG_l ?_ | refine ttG_t ?_))
local macro_rules | `(tactic| array_mem_dec) => `(tactic| ((with_reducible refine oq_id ?_); (first | (with_reducible first | refine vw_i ?_ | refine vw_s ?_ | refine vw_b ?_ | refine vw_n ?_ | refine vw_l ?_ | refine vw_t ?_ | refine vw_sc ?_ | refine vw_o ?_ | refine mv_nil ?_ | refine mv_cons ?_ | refine oq_tgNil ?_ | refine oq_tgCons ?_ | refine oq_add_i ?_ | refine oq_sub ?_ | refine oq_lt ?_ | refine oq_le ?_ | refine oq_gt ?_ | refine oq_ge ?_ | refine oq_eq_i ?_ | refine oq_ne_i ?_ | refine oq_eq_s ?_ | refine oq_ne_s ?_ | refine oq_eq_b ?_ | refine oq_ne_b ?_ | refine oq_is ?_ | refine oq_isNot ?_ | refine oq_in_s ?_ | refine oq_notIn_s ?_ | refine oq_len_l ?_ | refine oq_len_t ?_ | refine oq_int ?_ | refine oq_abs ?_ | refine oq_ord ?_ | refine oq_cut_l ?_ | refine oq_cut_t ?_ | refine oq_list_l ?_ | refine oq_list_t ?_ | refine oq_tuple_l ?_ | refine oq_tuple_t ?_ | refine oq_max2 ?_ | refine oq_min2 ?_ | refine oq_some ?_ | refine oq_len_sc ?_ | refine oq_eq_il ?_ | refine oq_ne_il ?_ | refine oq_eq_it ?_ | refine oq_ne_it ?_ | refine oq_lt_il ?_ | refine oq_lt_it ?_ | refine oq_iadd_i ?_ | refine oq_isT ?_ | refine oq_isNotT ?_) | (first | ((with_reducible apply vw_rd); assumption) | ((with_reducible apply oq_tgTup); exact rfl) | ((with_reducible apply oq_ix_lk); exact rfl) | ((with_reducible apply oq_ix_tk); exact rfl) | ((with_reducible apply vw_r); (first | assumption | exact aset_same)) | ((with_reducible apply oq_ixN_k); exact rfl; (try simp only [List.set, Int.reduceToNat])) | ((with_reducible apply oq_mod); (first | omega | decide)) | ((with_reducible apply oq_div); (first | omega | decide)) | ((with_reducible apply oq_mul); (first | omega | decide)) | ((with_reducible apply oq_pow); (first | omega | decide)) | ((with_reducible apply oq_shl); (first | omega | decide)) | ((with_reducible apply oq_shr); (first | omega | decide))) | (first | ((with_reducible apply oq_add_s); (first | omega | decide)) | ((with_reducible apply oq_len_s); (first | omega | decide)) | ((with_reducible apply oq_cut_s); (first | omega | decide)) | ((with_reducible apply oq_append); (first | omega | decide)) | ((with_reducible apply oq_insert); (first | omega | decide)) | ((with_reducible apply oq_rep); (first | omega | decide)) | ((with_reducible apply oq_cat); (first | omega | decide))))))
local macro_rules | `(tactic| array_mem_dec) => `(tactic| (with_reducible first | refine w_list ?_ | refine w_tuple ?_ | refine w_str ?_ | refine w_range1 ?_ | refine w_range2 ?_ | refine w_range3 ?_ | refine w_next ?_ | refine w_break ?_ | refine w_cont ?_ | refine w_drop ?_ | refine w_ret ?_ | refine w_retN ?_ | refine w_if ?_ | refine w_asg ?_ | refine w_raise ?_ | refine w_fld ?_ | refine w_seta ?_ | refine w_auga ?_ | refine w_seti ?_ | refine w_mut ?_ | refine w_frz ?_ | refine w_new ?_ | refine w_ext ?_ | refine w_for ?_ | refine w_lc ?_ | refine w_tryA ?_ | refine w_try ?_ | refine w_par ?_))
local macro_rules | `(tactic| array_mem_dec) => `(tactic| (first | ((with_reducible apply w_kV); exact rfl) | (with_reducible first | refine w_kC ?_ | refine w_bop ?_ | refine w_tst ?_ | refine w_val ?_ | refine w_and ?_ | refine w_or ?_ | refine w_not ?_ | refine w_andV ?_ | refine w_orV ?_ | refine w_chain ?_ | refine w_ifK ?_ | refine w_nil ?_ | refine w_cons ?_ | refine w_tup ?_ | refine w_lst ?_ | refine w_call ?_ | refine w_neg ?_ | refine w_b1 ?_ | refine w_bn ?_ | refine w_isi ?_ | refine w_met ?_ | refine w_pnone ?_ | refine w_psome ?_ | refine w_cut ?_ | refine w_yes ?_)))
local macro_rules | `(tactic| array_get_dec) => `(tactic| (with_reducible refine w_seqB ?_))
local macro_rules | `(tactic| array_get_dec) => `(tactic| array_mem_dec)
local macro_rules | `(tactic| decreasing_trivial_pre_omega) => `(tactic| (with_reducible refine w_seq ?_))
local macro_rules | `(tactic| decreasing_trivial_pre_omega) => `(tactic| array_mem_dec)
local macro_rules | `(tactic| sizeOf_list_dec) => `(tactic| (try simp only [List.set, Int.reduceToNat, List.map_cons, List.map_nil, Nat.reduceSub, List.reduceReplicate, List.cons_append, List.nil_append, wipeA, aset_aset, List.getElem?_cons_zero, List.getElem?_cons_succ]))
variable {CE CR CF CB CI gX : Nat} {α : AH} {Q : QD} {E : QX}
theorem oq_eq_iT {x y : Int} {R : D → Prop} (e : decide (x = y) = true) (h : R (.bool true)) : oq (dEq (.int x) (.int y)) R := oq_eq_i (by rw [e]; exact h)
theorem oq_eq_iF {x y : Int} {R : D → Prop} (e : decide (x = y) = false) (h : R (.bool false)) : oq (dEq (.int x) (.int y)) R := oq_eq_i (by rw [e]; exact h)
local macro_rules | `(tactic| array_mem_dec) => `(tactic| (first | ((with_reducible apply oq_eq_iT); decide +kernel) | ((with_reducible apply oq_eq_iF); decide +kernel)))
structure TB where
  k : Int
  d : Int
  e : Option EF
  n : Int
def tbD (f : EF → D) (t : TB) : D := .tuple [.int t.k, .int t.d, (match t.e with | some x => f x | none => .none), .int t.n]
theorem tl_il {l : List Int} {G : List D → (AH → Prop) → AH → Prop} (h : G (l.map PyData.int) (fun _ => True) α) : tlG α (ilD l) G := tlG_l h
local macro_rules | `(tactic| array_mem_dec) => `(tactic| (with_reducible first | refine tl_il ?_))
/-- the two sums -/
def ck : Int → Int → List Int → Int × Int
  | a, b, [] => (a, b)
  | a, b, x :: l => ck ((a + x) % 251) ((b + (a + x) % 251) % 251) l
def chk (l : List Int) : List Int := [(ck 1 0 l).1, (ck 1 0 l).2]
theorem ck_go {mb : MS} {D' : Md} {tg : D → En → Option En} {g : Int → Int → Option D → En} (hs : ∀ a b x y α, ∀ X : En → AH → Prop, X (g ((a + x) % 251) ((b + (a + x) % 251) % 251) (some (.int x))) α → oq (tg (.int x) (g a b y)) fun ρ1 => mb ρ1 α (wl D' X)) : ∀ (l : List Int) (a b : Int) (y : Option D), (∀ y, D'.nx (g (ck a b l).1 (ck a b l).2 y) α) → forD tg mb (fun _ => True) D' (l.map PyData.int) (g a b y) α := fun l a b y h => by
  refine for_inv (fun r ρ α' => ∃ (m : List Int) (a b : Int) (y : Option D), r = m.map PyData.int ∧ ρ = g a b y ∧ α' = α ∧ ∀ y, D'.nx (g (ck a b m).1 (ck a b m).2 y) α) ⟨l, a, b, y, rfl, rfl, rfl, h⟩ (fun _ _ _ _ => trivial) ?_ ?_
  · rintro ρ α' ⟨m, a, b, y, e, rfl, rfl, h⟩
    cases m with
    | nil => exact h y
    | cons x m => cases e
  · rintro d r ρ α' ⟨m, a, b, y, e, rfl, rfl, h⟩ X hX
    cases m with
    | nil => cases e
    | cons x m =>
      cases e
      exact hs a b x y α' X (hX _ _ ⟨m, _, _, _, rfl, rfl, rfl, h⟩)
theorem chk_go {l : List Int} (h : Q (ilD (chk l)) α) : f_check_of CE CR CF CB CI gX [ilD l] α Q E := by
  refine (?_ : pu _ _ _) α Q E h
  unfold f_check_of m_check_of
  refine pu_P rfl fun α R X hR => ?_
  sizeOf_list_dec
  (repeat' array_get_dec)
  (repeat ((with_reducible refine bar_of ?_); sizeOf_list_dec; (repeat' array_get_dec)))
  refine ck_go (g := fun a b y => [some (ilD l), some (.int a), some (.int b), y]) (fun a b x y α X hX => ?_) l 1 0 none fun y => ?_
  · sizeOf_list_dec
    (repeat' array_get_dec)
    (repeat ((with_reducible refine bar_of ?_); sizeOf_list_dec; (repeat' array_get_dec)))
    exact hX
  · (repeat' array_get_dec)
    (repeat ((with_reducible refine bar_of ?_); sizeOf_list_dec; (repeat' array_get_dec)))
    exact hR
/-- a body -/
def rT (k d : Int) (l : List Int) : Rd TB := bn (rE l) fun z l => .ok (⟨k, d, some z.1, z.2⟩, l)
def rU (d : Int) (l : List Int) : Rd TB := bn (rN 0 l) fun n l => .ok (⟨2, d, none, n⟩, l)
def rY1 (k : Int) (l : List Int) : Rd TB := if k = 2 then bn (rB 1 9 l) rU else if k = 1 then bn (rB 1 9 l) (rT 1) else rT k 0 l
def rY (l : List Int) : Rd TB := bn (rB 0 3 l) rY1
def rBd (l : List Int) : Option TB := match rY l with
  | .ok (t, []) => some t
  | _ => none
theorem body_go {ds : List Int} (ok : ∀ t, rBd ds = some t → Q (tbD (efD CE) t) α) (er : ∀ p : Nat, rBd ds = none → E (bx CI p) α) : f_read_body CE CR CF CB CI gX [ilD ds] α Q E := by
  unfold f_read_body m_read_body
  refine w_runP rfl ?_
  sizeOf_list_dec
  (repeat' array_get_dec)
  refine ⟨rfl, fun z hz => ?_⟩
  refine rdi_go (a := 0) aset_same ⟨rfl, ?_⟩
  rw [aset_aset]
  have S0 : RdAt CR z ds ds (aset α z (rdO CR ds 0)) := ⟨0, aset_same, Nat.zero_le _, by rw [List.drop_zero]⟩
  have B0 : BuX z α (aset α z (rdO CR ds 0)) := fun z hz _ => aset_ne hz
  generalize aset α z (rdO CR ds 0) = α1 at *
  have er1 : ∀ e α', rY ds = .error e → BuX z α α' → E (bx CI (ds.length - e)) (arst α α') := fun e α' h B => by
    rw [arst_bx hz B]
    exact er _ (by unfold rBd; rw [h])
  have fin : ∀ t l' α', rY ds = .ok (t, l') → RdAt CR z ds l' α' → BuX z α α' → ∃ a : Nat, α' z = some (rdO CR ds a) ∧ a ≤ ds.length ∧ (a = ds.length → Q (tbD (efD CE) t) (arst α α')) ∧ (a ≠ ds.length → E (bx CI a) (arst α α')) := fun t l' α' h S B => by
    obtain ⟨a, h1, h2, rfl⟩ := S
    refine ⟨a, h1, h2, fun e => ?_, fun e => ?_⟩
    · rw [arst_bx hz B]
      exact ok t (by unfold rBd; rw [h, e, List.drop_length])
    · rw [arst_bx hz B]
      refine er _ ?_
      unfold rBd
      rw [h]
      have : (ds.drop a).length ≠ 0 := by rw [List.length_drop]; omega
      cases hd : ds.drop a with
      | nil => rw [hd] at this; exact absurd rfl this
      | cons x y => rfl
  clear ok er
  (repeat' array_get_dec)
  (repeat ((with_reducible refine bar_of ?_); sizeOf_list_dec; (repeat' array_get_dec)))
  refine meth_rd S0 (fun _ _ => rfl) rfl ?_
  (repeat' array_get_dec)
  refine byte_go S0 (fun k l1 α2 h1 S1 B1 => ?_) (fun e α2 h1 B1 => ?_)
  rotate_left
  · (repeat' array_get_dec)
    exact er1 e _ (by rw [rY, h1]; rfl) (B0.but B1)
  have hb := (rB_ok h1).2
  have hr : rY ds = rY1 k l1 := by rw [rY, h1]; rfl
  replace B1 := B0.but B1
  clear h1 B0 S0
  have last : ∀ (kk dd : Int) (e : Option EF) (n : Int) (l' : List Int) (α' : AH), rY ds = .ok (⟨kk, dd, e, n⟩, l') → RdAt CR z ds l' α' → BuX z α α' → ∀ ee : D, ee = (match e with | some x => efD CE x | none => PyData.none) → ifS (tst (bop dNe (fldK CR "at" (Hz.kV 1)) (b1K dLen (Hz.kV 0)))) (raiseS CI (fldK CR "at" (Hz.kV 1))) nextS [some (ilD ds), some (dref z), some (.int kk), some (.int dd), some ee, some (.int n)] α' (wn (we (fun d α' => Q d (arst α α')) fun x α' => E x (arst α α')) (bar fun ρ1 α1 => retS (tupK (consK (Hz.kV 2) (consK (Hz.kV 3) (consK (Hz.kV 4) (consK (Hz.kV 5) nilK))))) ρ1 α1 (we (fun d α' => Q d (arst α α')) fun x α' => E x (arst α α')))) := fun kk dd e n l' α' h S B ee he => by
    obtain ⟨a, h1, h2, h3, h4⟩ := fin _ _ _ h S B
    (repeat' array_get_dec)
    · rename_i hx
      (repeat ((with_reducible refine bar_of ?_); sizeOf_list_dec; (repeat' array_get_dec)))
      rw [he]
      exact h3 (by omega)
    · rename_i hx
      exact h4 (by omega)
  (repeat' array_get_dec)
  have hk : k = 0 ∨ k = 1 ∨ k = 2 ∨ k = 3 := by omega
  rcases hk with rfl | rfl | rfl | rfl
  · replace hr : rY ds = rT 0 0 l1 := hr
    (repeat ((with_reducible refine bar_of ?_); sizeOf_list_dec; (repeat' array_get_dec)))
    refine meth_rd S1 (fun _ _ => rfl) rfl ?_
    (repeat' array_get_dec)
    refine ent_go S1 (fun x num l2 α3 h2 S2 B2 => ?_) (fun e α3 h2 B2 => ?_)
    · (repeat' array_get_dec)
      refine bar_of ?_
      sizeOf_list_dec
      exact last _ _ (some x) _ _ _ (by rw [hr, rT, h2]; rfl) S2 (B1.but B2) _ rfl
    · (repeat' array_get_dec)
      exact er1 e _ (by rw [hr, rT, h2]; rfl) (B1.but B2)
  · replace hr : rY ds = bn (rB 1 9 l1) (rT 1) := hr
    (repeat ((with_reducible refine bar_of ?_); sizeOf_list_dec; (repeat' array_get_dec)))
    refine meth_rd S1 (fun _ _ => rfl) rfl ?_
    (repeat' array_get_dec)
    refine dev_go S1 (fun d l2 α3 h2 S2 B2 => ?_) (fun e α3 h2 B2 => ?_)
    rotate_left
    · (repeat' array_get_dec)
      exact er1 e _ (by rw [hr, h2]; rfl) (B1.but B2)
    replace hr : rY ds = rT 1 d l2 := by rw [hr, h2]; rfl
    replace B2 := B1.but B2
    (repeat' array_get_dec)
    (repeat ((with_reducible refine bar_of ?_); sizeOf_list_dec; (repeat' array_get_dec)))
    refine meth_rd S2 (fun _ _ => rfl) rfl ?_
    (repeat' array_get_dec)
    refine ent_go S2 (fun x num l3 α4 h3 S3 B3 => ?_) (fun e α4 h3 B3 => ?_)
    · (repeat' array_get_dec)
      refine bar_of ?_
      sizeOf_list_dec
      exact last _ _ (some x) _ _ _ (by rw [hr, rT, h3]; rfl) S3 (B2.but B3) _ rfl
    · (repeat' array_get_dec)
      exact er1 e _ (by rw [hr, rT, h3]; rfl) (B2.but B3)
  · replace hr : rY ds = bn (rB 1 9 l1) rU := hr
    (repeat ((with_reducible refine bar_of ?_); sizeOf_list_dec; (repeat' array_get_dec)))
    refine meth_rd S1 (fun _ _ => rfl) rfl ?_
    (repeat' array_get_dec)
    refine dev_go S1 (fun d l2 α3 h2 S2 B2 => ?_) (fun e α3 h2 B2 => ?_)
    rotate_left
    · (repeat' array_get_dec)
      exact er1 e _ (by rw [hr, h2]; rfl) (B1.but B2)
    replace hr : rY ds = rU d l2 := by rw [hr, h2]; rfl
    replace B2 := B1.but B2
    (repeat' array_get_dec)
    (repeat ((with_reducible refine bar_of ?_); sizeOf_list_dec; (repeat' array_get_dec)))
    refine meth_rd S2 (fun _ _ => rfl) rfl ?_
    (repeat' array_get_dec)
    refine num_go S2 (fun num l3 α4 h3 S3 B3 => ?_) (fun e α4 h3 B3 => ?_)
    · (repeat' array_get_dec)
      refine bar_of ?_
      sizeOf_list_dec
      exact last _ _ none _ _ _ (by rw [hr, rU, h3]; rfl) S3 (B2.but B3) _ rfl
    · (repeat' array_get_dec)
      exact er1 e _ (by rw [hr, rU, h3]; rfl) (B2.but B3)
  · replace hr : rY ds = rT 3 0 l1 := hr
    (repeat ((with_reducible refine bar_of ?_); sizeOf_list_dec; (repeat' array_get_dec)))
    refine meth_rd S1 (fun _ _ => rfl) rfl ?_
    (repeat' array_get_dec)
    refine ent_go S1 (fun x num l2 α3 h2 S2 B2 => ?_) (fun e α3 h2 B2 => ?_)
    · (repeat' array_get_dec)
      refine bar_of ?_
      sizeOf_list_dec
      exact last _ _ (some x) _ _ _ (by rw [hr, rT, h2]; rfl) S2 (B1.but B2) _ rfl
    · (repeat' array_get_dec)
      exact er1 e _ (by rw [hr, rT, h2]; rfl) (B1.but B2)
def byt1 (ds : List Int) (i : Nat) : Int := ds.getD i 0
def stp (ds : List Int) (i : Nat) : Nat := i + 2 + (byt1 ds i * 256 + byt1 ds (i + 1)).toNat
def seg (ds : List Int) (i j : Nat) : List Int := (ds.drop i).take (j - i)
def okS (ds : List Int) (i : Nat) : Option TB := if i + 2 ≤ ds.length ∧ stp ds i + 2 ≤ ds.length ∧ seg ds (stp ds i) (stp ds i + 2) = chk (seg ds i (stp ds i)) then rBd (seg ds (i + 2) (stp ds i)) else none
def Lg (ds : List Int) : Nat → Nat → List TB × Nat
  | 0, i => ([], i)
  | f + 1, i => match okS ds i with
    | none => ([], i)
    | some t => (t :: (Lg ds f (stp ds i + 2)).1, (Lg ds f (stp ds i + 2)).2)
theorem cutm_il {l : List Int} {i j : Int} {R : D → Prop} (h0 : 0 ≤ i) (h1 : i ≤ j) (h : R (ilD ((l.drop i.toNat).take (j - i).toNat))) : oq (dCut (ilD l) (some i) (some j)) R := ⟨_, by
  obtain ⟨i, rfl⟩ := Int.eq_ofNat_of_zero_le h0
  obtain ⟨j, rfl⟩ := Int.eq_ofNat_of_zero_le (Int.le_trans h0 h1)
  show some (PyData.list (cutD (l.map PyData.int) (some (i : Int)) (some (j : Int)))) = some (ilD ((l.drop i).take ((j : Int) - (i : Int)).toNat))
  unfold cutD ilD
  rw [HT.sIx_nat, HT.sIx_nat, ← List.map_drop, ← List.map_take, List.length_map]
  congr 3
  rcases Nat.le_total i l.length with hi | hi
  · rw [Nat.min_eq_left hi]
    rw [List.take_eq_take_iff, List.length_drop]
    omega
  · rw [Nat.min_eq_right hi, List.drop_length, List.drop_eq_nil_of_le hi]
    simp, h⟩
theorem cut_seg {l : List Int} {i j : Int} {a b : Nat} {R : D → Prop} (hi : i = (a : Nat)) (hj : j = (b : Nat)) (hab : a ≤ b) (h : R (ilD (seg l a b))) : oq (dCut (ilD l) (some i) (some j)) R := by
  subst hi
  subst hj
  refine cutm_il (Int.natCast_nonneg a) (by omega) ?_
  rw [Int.toNat_natCast, show ((b : Int) - (a : Int)).toNat = b - a by omega]
  exact h
theorem ne_il {a b : List Int} {R : D → Prop} (h : R (.bool (!decide (a = b)))) : oq (dNe (ilD a) (ilD b)) R := oq_ne_il h
theorem eq_il {a b : List Int} {R : D → Prop} (h : R (.bool (decide (a = b)))) : oq (dEq (ilD a) (ilD b)) R := oq_eq_il h
theorem ix_il {l : List Int} {i : Int} {a : Nat} {R : D → Prop} (hi : i = (a : Nat)) (h : a < l.length) (q : R (.int (byt1 l a))) : oq (dIx (ilD l) (.int i)) R := by
  subst hi
  exact oq_ix_m h q
theorem byt1_bd {ds : List Int} (hb : byt ds) (i : Nat) : 0 ≤ byt1 ds i ∧ byt1 ds i < 256 := by
  unfold byt1
  rw [List.getD_eq_getElem?_getD]
  rcases Nat.lt_or_ge i ds.length with h | h
  · rw [List.getElem?_eq_getElem h]
    exact hb _ (List.getElem_mem h)
  · rw [List.getElem?_eq_none h]
    exact ⟨by decide, by decide⟩
end K21
namespace K21
open PySem L2 Hz
local macro_rules | `(tactic| array_mem_dec) => `(tactic| (first | ((with_reducible apply w_xf); exact rfl; exact decide_eq_true rfl; exact rfl) | ((with_reducible apply w_frzS); exact rfl; (first | assumption | exact aset_same); (try simp only [List.set])) | ((with_reducible apply rg1_of); (first | omega | decide)) | ((with_reducible apply rg2_of); (first | omega | decide)) | ((with_reducible apply lok); exact rfl) | ((with_reducible refine it2_dec ?_ ?_) <;> intro)))
local macro_rules | `(tactic| array_mem_dec) => `(tactic| (first | ((with_reducible apply oq_setv2); (simp only [List.set, wipeA]; exact rfl)) | ((with_reducible apply cal_of); exact rfl; (try simp only [List.cons_append, List.nil_append, List.append_nil])) | ((with_reducible apply w_aug); exact rfl) | ((with_reducible apply cel_of); (first | assumption | exact aset_same)) | ((with_reducible apply ceo_of); (first | assumption | exact aset_same)) | ((with_reducible apply tlG_r); (first | assumption | exact aset_same)) | ((with_reducible apply fr_of); (first | assumption | exact aset_same)) | ((with_reducible apply fd_cons); exact trivial) | ((with_reducible apply fd_nil); exact trivial) | ((with_reducible apply oq_isiB (b := true)); exact rfl) | ((with_reducible apply oq_isiB (b := false)); exact rfl) | ((with_reducible apply w_xi); exact rfl; exact decide_eq_true rfl; exact if_pos rfl)))
local macro_rules | `(tactic| array_mem_dec) => `(tactic| (with_reducible first | refine pr2_of ?_ | refine oq_and255 ?_ | refine vw_il ?_ | refine len_il ?_ | refine list_il ?_ | refine ne_il ?_ | refine eq_il ?_ | refine tl_il ?_))
local macro_rules | `(tactic| array_mem_dec) => `(tactic| (with_reducible first | refine tb_b ?_ | refine ti_b ?_ | refine ts_b ?_ | refine we_nx ?_ | refine we_rt ?_ | refine we_ex ?_ | refine wn_nx ?_ | refine wn_rt ?_ | refine wn_bk ?_ | refine wn_ct ?_ | refine wn_ex ?_ | refine wl_nx ?_ | refine wl_rt ?_ | refine wl_bk ?_ | refine wl_ct ?_ | refine wl_ex ?_ | refine wx_nx ?_ | refine wx_rt ?_ | refine wx_bk ?_ | refine wx_ct ?_ | refine wx_ex ?_ | refine wh_nx ?_ | refine wh_rt ?_ | refine wh_bk ?_ | refine wh_ct ?_ | refine it2_t ?_ | refine it2_f ?_ | refine it2_not ?_ | refine tlG_l ?_ | refine ttG_t ?_))
local macro_rules | `(tactic| array_mem_dec) => `(tactic| ((with_reducible refine oq_id ?_); (first | (first | ((with_reducible apply oq_eq_iT); decide +kernel) | ((with_reducible apply oq_eq_iF); decide +kernel)) | (with_reducible first | refine vw_i ?_ | refine vw_s ?_ | refine vw_b ?_ | refine vw_n ?_ | refine vw_l ?_ | refine vw_t ?_ | refine vw_sc ?_ | refine vw_o ?_ | refine mv_nil ?_ | refine mv_cons ?_ | refine oq_tgNil ?_ | refine oq_tgCons ?_ | refine oq_add_i ?_ | refine oq_sub ?_ | refine oq_lt ?_ | refine oq_le ?_ | refine oq_gt ?_ | refine oq_ge ?_ | refine oq_eq_i ?_ | refine oq_ne_i ?_ | refine oq_eq_s ?_ | refine oq_ne_s ?_ | refine oq_eq_b ?_ | refine oq_ne_b ?_ | refine oq_is ?_ | refine oq_isNot ?_ | refine oq_in_s ?_ | refine oq_notIn_s ?_ | refine oq_len_l ?_ | refine oq_len_t ?_ | refine oq_int ?_ | refine oq_abs ?_ | refine oq_ord ?_ | refine oq_cut_l ?_ | refine oq_cut_t ?_ | refine oq_list_l ?_ | refine oq_list_t ?_ | refine oq_tuple_l ?_ | refine oq_tuple_t ?_ | refine oq_max2 ?_ | refine oq_min2 ?_ | refine oq_some ?_ | refine oq_len_sc ?_ | refine oq_eq_il ?_ | refine oq_ne_il ?_ | refine oq_eq_it ?_ | refine oq_ne_it ?_ | refine oq_lt_il ?_ | refine oq_lt_it ?_ | refine oq_iadd_i ?_ | refine oq_isT ?_ | refine oq_isNotT ?_) | (first | ((with_reducible apply oq_tgTup); exact rfl) | ((with_reducible apply oq_ix_lk); exact rfl) | ((with_reducible apply oq_ix_tk); exact rfl) | ((with_reducible apply vw_r); (first | assumption | exact aset_same)) | ((with_reducible apply oq_ixN_k); exact rfl; (try simp only [List.set, Int.reduceToNat])) | ((with_reducible apply oq_mod); (first | omega | decide)) | ((with_reducible apply oq_div); (first | omega | decide)) | ((with_reducible apply oq_mul); (first | omega | decide)) | ((with_reducible apply oq_pow); (first | omega | decide)) | ((with_reducible apply oq_shl); (first | omega | decide)) | ((with_reducible apply oq_shr); (first | omega | decide)) | ((with_reducible apply oq_add_s); (first | omega | decide))) | (first | ((with_reducible apply oq_len_s); (first | omega | decide)) | ((with_reducible apply oq_cut_s); (first | omega | decide)) | ((with_reducible apply oq_append); (first | omega | decide)) | ((with_reducible apply oq_insert); (first | omega | decide)) | ((with_reducible apply oq_rep); (first | omega | decide)) | ((with_reducible apply oq_cat); (first | omega | decide))))))
local macro_rules | `(tactic| array_mem_dec) => `(tactic| (with_reducible first | refine w_list ?_ | refine w_tuple ?_ | refine w_str ?_ | refine w_range1 ?_ | refine w_range2 ?_ | refine w_range3 ?_ | refine w_next ?_ | refine w_break ?_ | refine w_cont ?_ | refine w_drop ?_ | refine w_ret ?_ | refine w_retN ?_ | refine w_if ?_ | refine w_asg ?_ | refine w_raise ?_ | refine w_fld ?_ | refine w_seta ?_ | refine w_auga ?_ | refine w_seti ?_ | refine w_mut ?_ | refine w_frz ?_ | refine w_new ?_ | refine w_ext ?_ | refine w_for ?_ | refine w_lc ?_ | refine w_tryA ?_ | refine w_try ?_ | refine w_par ?_))
local macro_rules | `(tactic| array_mem_dec) => `(tactic| (first | ((with_reducible apply w_kV); exact rfl) | (with_reducible first | refine w_kC ?_ | refine w_bop ?_ | refine w_tst ?_ | refine w_val ?_ | refine w_and ?_ | refine w_or ?_ | refine w_not ?_ | refine w_andV ?_ | refine w_orV ?_ | refine w_chain ?_ | refine w_ifK ?_ | refine w_nil ?_ | refine w_cons ?_ | refine w_tup ?_ | refine w_lst ?_ | refine w_call ?_ | refine w_neg ?_ | refine w_b1 ?_ | refine w_bn ?_ | refine w_isi ?_ | refine w_met ?_ | refine w_pnone ?_ | refine w_psome ?_ | refine w_cut ?_ | refine w_yes ?_)))
local macro_rules | `(tactic| array_get_dec) => `(tactic| (with_reducible refine w_seqB ?_))
local macro_rules | `(tactic| array_get_dec) => `(tactic| array_mem_dec)
local macro_rules | `(tactic| decreasing_trivial_pre_omega) => `(tactic| (with_reducible refine w_seq ?_))
local macro_rules | `(tactic| decreasing_trivial_pre_omega) => `(tactic| array_mem_dec)
local macro_rules | `(tactic| sizeOf_list_dec) => `(tactic| (try simp only [List.set, Int.reduceToNat, List.map_cons, List.map_nil, Nat.reduceSub, List.reduceReplicate, List.cons_append, List.nil_append, wipeA, aset_aset, List.getElem?_cons_zero, List.getElem?_cons_succ]))
variable {CE CR CF CB CI gX : Nat} {α : AH} {Q : QD} {E : QX}
theorem exm_t (nx : CB ≠ CI) {R : Bool → Prop} (h : R true) : oq (exm_InvalidBytes CE CR CF CB CI gX CI) R := ⟨true, by
  unfold exm_InvalidBytes
  rw [if_neg (Ne.symm nx), if_pos rfl], h⟩
theorem stp_eq {ds : List Int} (hb : byt ds) (i : Nat) : (i : Int) + 2 + byt1 ds i * 256 + byt1 ds (i + 1) = ((stp ds i : Nat) : Int) := by
  have h1 := byt1_bd hb i
  have h2 := byt1_bd hb (i + 1)
  unfold stp
  omega
theorem Lg_none {ds : List Int} {i : Nat} (h : okS ds i = none) (f : Nat) : Lg ds f i = ([], i) := by
  cases f with
  | zero => rfl
  | succ f => rw [Lg, h]
theorem rlog_go (nx : CB ≠ CI) {ds : List Int} (hb : byt ds) (hl : ds.length ≤ 90000) (q : Q (.tuple [.list ((Lg ds ds.length 0).1.map (tbD (efD CE))), .int ((Lg ds ds.length 0).2 : Nat)]) α) : f_read_log CE CR CF CB CI gX [ilD ds] α Q E := by
  unfold f_read_log m_read_log
  refine w_runP rfl ?_
  sizeOf_list_dec
  (repeat' array_get_dec)
  intro c hc
  (repeat' array_get_dec)
  (repeat ((with_reducible refine bar_of ?_); sizeOf_list_dec; (repeat' array_get_dec)))
  refine w_while (fun m ρ α' => ∃ (i f : Nat) (vs : List TB) (x3 : Option D), m = ds.length - i ∧ vs.length ≤ i ∧ ds.length ≤ f + i ∧ Lg ds ds.length 0 = (vs ++ (Lg ds f i).1, (Lg ds f i).2) ∧ ρ = [some (ilD ds), some (dref c), some (.int (i : Nat)), x3] ∧ α' = aset α c (.list (vs.map (tbD (efD CE))))) ds.length ⟨0, ds.length, [], none, rfl, Nat.le_refl _, by omega, by rw [List.nil_append], rfl, rfl⟩ ?_
  rintro m _ _ ⟨i, f, vs, x3, rfl, hvl, hf, hLg, rfl, rfl⟩ X hX
  have bye : okS ds i = none → Q (.tuple [.list (vs.map (tbD (efD CE))), .int (i : Nat)]) α := fun h => by
    rw [hLg, Lg_none h, List.append_nil] at q
    exact q
  (repeat' array_get_dec)
  · rename_i hlt
    obtain ⟨g, rfl⟩ : ∃ g, f = g + 1 := ⟨f - 1, by omega⟩
    have he := stp_eq hb i
    have hst : i + 2 ≤ stp ds i := Nat.le_add_right _ _
    refine ix_il (a := i) rfl (by omega) ?_
    (repeat' array_get_dec)
    refine ix_il (a := i + 1) (by omega) (by omega) ?_
    (repeat' array_get_dec)
    rw [he]
    generalize hs : stp ds i = s at *
    (repeat ((with_reducible refine bar_of ?_); sizeOf_list_dec; (repeat' array_get_dec)))
    · rename_i h1
      have hno : okS ds i = none := by
        unfold okS
        rw [hs, if_neg (fun h => by omega)]
      rw [adel_aset hc, arst_self]
      exact bye hno
    · rename_i h1
      refine cut_seg (a := s) (b := s + 2) rfl (by omega) (by omega) ?_
      (repeat' array_get_dec)
      refine cut_seg (a := i) (b := s) rfl rfl (by omega) ?_
      (repeat' array_get_dec)
      refine chk_go ?_
      (repeat' array_get_dec)
      · rename_i h2
        (repeat ((with_reducible refine bar_of ?_); sizeOf_list_dec; (repeat' array_get_dec)))
        refine cut_seg (a := i + 2) (b := s) (by omega) rfl (by omega) ?_
        (repeat' array_get_dec)
        have hokS : okS ds i = rBd (seg ds (i + 2) s) := by
          unfold okS
          rw [hs, if_pos ⟨by omega, by omega, h2⟩]
        refine body_go (fun t ht => ?_) (fun p hp => ?_)
        · (repeat' array_get_dec)
          refine oq_append (by rw [List.length_map]; omega) ?_
          (repeat' array_get_dec)
          (repeat ((with_reducible refine bar_of ?_); sizeOf_list_dec; (repeat' array_get_dec)))
          refine hX _ _ _ ?_ ⟨s + 2, g, vs ++ [t], some (.int (s : Nat)), rfl, ?_, ?_, ?_, ?_, ?_⟩
          · omega
          · rw [List.length_append, List.length_cons, List.length_nil]
            omega
          · omega
          · rw [hLg, Lg, hokS, ht, hs, List.append_assoc]
            rfl
          · rfl
          · rw [List.map_append]
            rfl
        · refine exm_t nx ?_
          (repeat' array_get_dec)
          rw [adel_aset hc, arst_self]
          exact bye (hokS.trans hp)
      · rename_i h2
        have hno : okS ds i = none := by
          unfold okS
          rw [hs, if_neg (fun h => h2 h.2.2)]
        rw [adel_aset hc, arst_self]
        exact bye hno
  · rename_i hlt
    have hno : okS ds i = none := by
      unfold okS
      rw [if_neg (fun h => by omega)]
    (repeat ((with_reducible refine bar_of ?_); sizeOf_list_dec; (repeat' array_get_dec)))
    rw [adel_aset hc, arst_self]
    exact bye hno
def wide (n : Int) (w : Nat) : List Int := (List.range w).map fun k => n / 2 ^ (8 * (w - 1 - k)) % 256
theorem wide_go {n : Int} {w : Nat} (hw : w ≤ 8) (h : Q (ilD (wide n w)) α) : f_law_wide CE CR CF CB CI gX [.int n, .int (w : Nat)] α Q E := by
  unfold f_law_wide m_law_wide
  refine w_runP rfl ?_
  sizeOf_list_dec
  (repeat' array_get_dec)
  rw [Int.toNat_natCast, nums0]
  refine lc_map (List.range w) (fun k => .int (k : Int)) (fun k => .int (n / 2 ^ (8 * (w - 1 - k)) % 256)) rfl (by rw [List.length_range]; omega) (by exact trivial) (fun k hk => ?_) ?_
  · rw [List.mem_range] at hk
    sizeOf_list_dec
    (repeat' array_get_dec)
    intro R hR
    (repeat' array_get_dec)
    rw [show (8 * ((w : Int) - 1 - (k : Int))).toNat = 8 * (w - 1 - k) by omega]
    exact hR
  · (repeat' array_get_dec)
    rw [arst_self]
    have e : PyData.list ((List.range w).map fun k => PyData.int (n / 2 ^ (8 * (w - 1 - k)) % 256)) = ilD (wide n w) := by
      unfold ilD wide
      rw [List.map_map]
      rfl
    rw [e]
    exact h
end K21
namespace K21
open PySem L2 Hz
local macro_rules | `(tactic| array_mem_dec) => `(tactic| (first | ((with_reducible apply w_xf); exact rfl; exact decide_eq_true rfl; exact rfl) | ((with_reducible apply w_frzS); exact rfl; (first | assumption | exact aset_same); (try simp only [List.set])) | ((with_reducible apply rg1_of); (first | omega | decide)) | ((with_reducible apply rg2_of); (first | omega | decide)) | ((with_reducible apply lok); exact rfl) | ((with_reducible refine it2_dec ?_ ?_) <;> intro)))
local macro_rules | `(tactic| array_mem_dec) => `(tactic| (first | ((with_reducible apply oq_setv2); (simp only [List.set, wipeA]; exact rfl)) | ((with_reducible apply cal_of); exact rfl; (try simp only [List.cons_append, List.nil_append, List.append_nil])) | ((with_reducible apply w_aug); exact rfl) | ((with_reducible apply cel_of); (first | assumption | exact aset_same)) | ((with_reducible apply ceo_of); (first | assumption | exact aset_same)) | ((with_reducible apply tlG_r); (first | assumption | exact aset_same)) | ((with_reducible apply fr_of); (first | assumption | exact aset_same)) | ((with_reducible apply fd_cons); exact trivial) | ((with_reducible apply fd_nil); exact trivial) | ((with_reducible apply oq_isiB (b := true)); exact rfl) | ((with_reducible apply oq_isiB (b := false)); exact rfl) | ((with_reducible apply w_xi); exact rfl; exact decide_eq_true rfl; exact if_pos rfl)))
local macro_rules | `(tactic| array_mem_dec) => `(tactic| (with_reducible first | refine pr2_of ?_ | refine oq_and255 ?_ | refine vw_il ?_ | refine len_il ?_ | refine list_il ?_ | refine ne_il ?_ | refine eq_il ?_ | refine tl_il ?_ | refine vw_en ?_ | refine fe_1 ?_ | refine fe_2 ?_ | refine fe_3 ?_ | refine fe_4 ?_ | refine fe_5 ?_ | refine fe_6 ?_ | refine fe_7 ?_ | refine oq_intb ?_))
local macro_rules | `(tactic| array_mem_dec) => `(tactic| (with_reducible first | refine tb_b ?_ | refine ti_b ?_ | refine ts_b ?_ | refine we_nx ?_ | refine we_rt ?_ | refine we_ex ?_ | refine wn_nx ?_ | refine wn_rt ?_ | refine wn_bk ?_ | refine wn_ct ?_ | refine wn_ex ?_ | refine wl_nx ?_ | refine wl_rt ?_ | refine wl_bk ?_ | refine wl_ct ?_ | refine wl_ex ?_ | refine wx_nx ?_ | refine wx_rt ?_ | refine wx_bk ?_ | refine wx_ct ?_ | refine wx_ex ?_ | refine wh_nx ?_ | refine wh_rt ?_ | refine wh_bk ?_ | refine wh_ct ?_ | refine it2_t ?_ | refine it2_f ?_ | refine it2_not ?_ | refine tlG_l ?_ | refine ttG_t ?_))
local macro_rules | `(tactic| array_mem_dec) => `(tactic| ((with_reducible refine oq_id ?_); (first | (first | ((with_reducible apply oq_eq_iT); decide +kernel) | ((with_reducible apply oq_eq_iF); decide +kernel)) | (with_reducible first | refine vw_i ?_ | refine vw_s ?_ | refine vw_b ?_ | refine vw_n ?_ | refine vw_l ?_ | refine vw_t ?_ | refine vw_sc ?_ | refine vw_o ?_ | refine mv_nil ?_ | refine mv_cons ?_ | refine oq_tgNil ?_ | refine oq_tgCons ?_ | refine oq_add_i ?_ | refine oq_sub ?_ | refine oq_lt ?_ | refine oq_le ?_ | refine oq_gt ?_ | refine oq_ge ?_ | refine oq_eq_i ?_ | refine oq_ne_i ?_ | refine oq_eq_s ?_ | refine oq_ne_s ?_ | refine oq_eq_b ?_ | refine oq_ne_b ?_ | refine oq_is ?_ | refine oq_isNot ?_ | refine oq_in_s ?_ | refine oq_notIn_s ?_ | refine oq_len_l ?_ | refine oq_len_t ?_ | refine oq_int ?_ | refine oq_abs ?_ | refine oq_ord ?_ | refine oq_cut_l ?_ | refine oq_cut_t ?_ | refine oq_list_l ?_ | refine oq_list_t ?_ | refine oq_tuple_l ?_ | refine oq_tuple_t ?_ | refine oq_max2 ?_ | refine oq_min2 ?_ | refine oq_some ?_ | refine oq_len_sc ?_ | refine oq_eq_il ?_ | refine oq_ne_il ?_ | refine oq_eq_it ?_ | refine oq_ne_it ?_ | refine oq_lt_il ?_ | refine oq_lt_it ?_ | refine oq_iadd_i ?_ | refine oq_isT ?_ | refine oq_isNotT ?_) | (first | ((with_reducible apply oq_tgTup); exact rfl) | ((with_reducible apply oq_ix_lk); exact rfl) | ((with_reducible apply oq_ix_tk); exact rfl) | ((with_reducible apply vw_r); (first | assumption | exact aset_same)) | ((with_reducible apply oq_ixN_k); exact rfl; (try simp only [List.set, Int.reduceToNat])) | ((with_reducible apply oq_mod); (first | omega | decide)) | ((with_reducible apply oq_div); (first | omega | decide)) | ((with_reducible apply oq_mul); (first | omega | decide)) | ((with_reducible apply oq_pow); (first | omega | decide)) | ((with_reducible apply oq_shl); (first | omega | decide)) | ((with_reducible apply oq_shr); (first | omega | decide)) | ((with_reducible apply oq_add_s); (first | omega | decide))) | (first | ((with_reducible apply oq_len_s); (first | omega | decide)) | ((with_reducible apply oq_cut_s); (first | omega | decide)) | ((with_reducible apply oq_append); (first | omega | decide)) | ((with_reducible apply oq_insert); (first | omega | decide)) | ((with_reducible apply oq_rep); (first | omega | decide)) | ((with_reducible apply oq_cat); (first | omega | decide))))))
local macro_rules | `(tactic| array_mem_dec) => `(tactic| (with_reducible first | refine w_list ?_ | refine w_tuple ?_ | refine w_str ?_ | refine w_range1 ?_ | refine w_range2 ?_ | refine w_range3 ?_ | refine w_next ?_ | refine w_break ?_ | refine w_cont ?_ | refine w_drop ?_ | refine w_ret ?_ | refine w_retN ?_ | refine w_if ?_ | refine w_asg ?_ | refine w_raise ?_ | refine w_fld ?_ | refine w_seta ?_ | refine w_auga ?_ | refine w_seti ?_ | refine w_mut ?_ | refine w_frz ?_ | refine w_new ?_ | refine w_ext ?_ | refine w_for ?_ | refine w_lc ?_ | refine w_tryA ?_ | refine w_try ?_ | refine w_par ?_))
local macro_rules | `(tactic| array_mem_dec) => `(tactic| (first | ((with_reducible apply w_kV); exact rfl) | (with_reducible first | refine w_kC ?_ | refine w_bop ?_ | refine w_tst ?_ | refine w_val ?_ | refine w_and ?_ | refine w_or ?_ | refine w_not ?_ | refine w_andV ?_ | refine w_orV ?_ | refine w_chain ?_ | refine w_ifK ?_ | refine w_nil ?_ | refine w_cons ?_ | refine w_tup ?_ | refine w_lst ?_ | refine w_call ?_ | refine w_neg ?_ | refine w_b1 ?_ | refine w_bn ?_ | refine w_isi ?_ | refine w_met ?_ | refine w_pnone ?_ | refine w_psome ?_ | refine w_cut ?_ | refine w_yes ?_)))
local macro_rules | `(tactic| array_get_dec) => `(tactic| (with_reducible refine w_seqB ?_))
local macro_rules | `(tactic| array_get_dec) => `(tactic| array_mem_dec)
local macro_rules | `(tactic| decreasing_trivial_pre_omega) => `(tactic| (with_reducible refine w_seq ?_))
local macro_rules | `(tactic| decreasing_trivial_pre_omega) => `(tactic| array_mem_dec)
local macro_rules | `(tactic| sizeOf_list_dec) => `(tactic| (try simp only [List.set, Int.reduceToNat, List.map_cons, List.map_nil, Nat.reduceSub, List.reduceReplicate, List.cons_append, List.nil_append, wipeA, aset_aset, List.getElem?_cons_zero, List.getElem?_cons_succ]))
variable {CE CR CF CB CI gX : Nat} {α : AH} {Q : QD} {E : QX}
theorem wide4 {n : Int} (h : 0 ≤ n ∧ n < 4294967296) : wide n 4 = four n := by
  have e : wide n 4 = [n / 16777216 % 256, n / 65536 % 256, n / 256 % 256, n / 1 % 256] := rfl
  rw [e]
  unfold four
  rw [show n / 16777216 % 256 = n / 16777216 by omega, Int.ediv_one]
theorem wide_len {n : Int} {w : Nat} : (wide n w).length = w := by
  unfold wide
  rw [List.length_map, List.length_range]
theorem wd1 {n : Int} : wide n 1 = [n / 1 % 256] := rfl
theorem wd2 {n : Int} : wide n 2 = [n / 256 % 256, n / 1 % 256] := rfl
theorem wd3 {n : Int} : wide n 3 = [n / 65536 % 256, n / 256 % 256, n / 1 % 256] := rfl
theorem wd4 {n : Int} : wide n 4 = [n / 16777216 % 256, n / 65536 % 256, n / 256 % 256, n / 1 % 256] := rfl
theorem wide_blk {p : List Int} (h : okp p) : wide (val 256 1 p) p.length = p := by
  obtain ⟨l, ne, d⟩ := h
  match p, l, ne, d with
  | [a], _, _, d =>
    have ha := d a (by simp)
    have e1 : val 256 1 [a] / 1 % 256 = a := by simp only [val]; omega
    rw [show ([a] : List Int).length = 1 from rfl, wd1, e1]
  | [a, b], _, _, d =>
    have ha := d a (by simp)
    have hb := d b (by simp)
    have e1 : val 256 1 [a, b] / 256 % 256 = a := by simp only [val]; omega
    have e2 : val 256 1 [a, b] / 1 % 256 = b := by simp only [val]; omega
    rw [show ([a, b] : List Int).length = 2 from rfl, wd2, e1, e2]
  | [a, b, c], _, _, d =>
    have ha := d a (by simp)
    have hb := d b (by simp)
    have hc := d c (by simp)
    have e1 : val 256 1 [a, b, c] / 65536 % 256 = a := by simp only [val]; omega
    have e2 : val 256 1 [a, b, c] / 256 % 256 = b := by simp only [val]; omega
    have e3 : val 256 1 [a, b, c] / 1 % 256 = c := by simp only [val]; omega
    rw [show ([a, b, c] : List Int).length = 3 from rfl, wd3, e1, e2, e3]
  | [a, b, c, e], _, _, d =>
    have ha := d a (by simp)
    have hb := d b (by simp)
    have hc := d c (by simp)
    have he := d e (by simp)
    have e1 : val 256 1 [a, b, c, e] / 16777216 % 256 = a := by simp only [val]; omega
    have e2 : val 256 1 [a, b, c, e] / 65536 % 256 = b := by simp only [val]; omega
    have e3 : val 256 1 [a, b, c, e] / 256 % 256 = c := by simp only [val]; omega
    have e4 : val 256 1 [a, b, c, e] / 1 % 256 = e := by simp only [val]; omega
    rw [show ([a, b, c, e] : List Int).length = 4 from rfl, wd4, e1, e2, e3, e4]
def hdr (b : List Int) : List Int := wide b.length 2 ++ b
def sld (b : List Int) : List Int := hdr b ++ chk (hdr b)
theorem lseal_go {b : List Int} (hl : b.length ≤ 90000) (h : Q (ilD (sld b)) α) : f_law_sealed CE CR CF CB CI gX [ilD b] α Q E := by
  unfold f_law_sealed m_law_sealed
  refine w_runP rfl ?_
  have hw := wide_len (n := (b.length : Int)) (w := 2)
  sizeOf_list_dec
  (repeat' array_get_dec)
  refine wide_go (w := 2) (by decide) ?_
  (repeat' array_get_dec)
  refine add_il (by omega) ?_
  (repeat' array_get_dec)
  (repeat ((with_reducible refine bar_of ?_); sizeOf_list_dec; (repeat' array_get_dec)))
  rw [show wide (b.length : Int) 2 ++ b = hdr b from rfl]
  have hh : (hdr b).length = b.length + 2 := by unfold hdr; rw [List.length_append]; omega
  refine ck_go (g := fun x y z => [some (ilD b), some (ilD (hdr b)), some (.int x), some (.int y), z]) (fun x y v z α X hX => ?_) (hdr b) 1 0 none fun y => ?_
  · sizeOf_list_dec
    (repeat' array_get_dec)
    (repeat ((with_reducible refine bar_of ?_); sizeOf_list_dec; (repeat' array_get_dec)))
    exact hX
  · (repeat' array_get_dec)
    (repeat ((with_reducible refine bar_of ?_); sizeOf_list_dec; (repeat' array_get_dec)))
    refine add_il (b := chk (hdr b)) (by rw [hh]; show _ + 2 ≤ _; omega) ?_
    (repeat' array_get_dec)
    rw [arst_self]
    exact h
theorem val_rg {p : List Int} (h : okp p) : 256 ^ p.length ≤ val 256 1 p ∧ val 256 1 p < 2 * 256 ^ p.length := by
  obtain ⟨l, ne, d⟩ := h
  match p, l, ne, d with
  | [a], _, _, d =>
    have ha := d a (by simp)
    simp only [val, List.length_cons, List.length_nil, Nat.reduceAdd, Int.reducePow]
    omega
  | [a, b], _, _, d =>
    have ha := d a (by simp)
    have hb := d b (by simp)
    simp only [val, List.length_cons, List.length_nil, Nat.reduceAdd, Int.reducePow]
    omega
  | [a, b, c], _, _, d =>
    have ha := d a (by simp)
    have hb := d b (by simp)
    have hc := d c (by simp)
    simp only [val, List.length_cons, List.length_nil, Nat.reduceAdd, Int.reducePow]
    omega
  | [a, b, c, e], _, _, d =>
    have ha := d a (by simp)
    have hb := d b (by simp)
    have hc := d c (by simp)
    have he := d e (by simp)
    simp only [val, List.length_cons, List.length_nil, Nat.reduceAdd, Int.reducePow]
    omega
theorem sz_len {p : List Int} (h : okp p) : (([1, 2, 3, 4] : List Int).filter fun k => decide (0 < val 256 1 p / 2 ^ (8 * k).toNat)).length = p.length := by
  have hv := val_rg h
  have h4 := h.1
  have h1 := List.length_pos_iff.mpr h.2.1
  generalize val 256 1 p = v at *
  have e1 : v / 2 ^ ((8 : Int) * 1).toNat = v / 256 := rfl
  have e2 : v / 2 ^ ((8 : Int) * 2).toNat = v / 65536 := rfl
  have e3 : v / 2 ^ ((8 : Int) * 3).toNat = v / 16777216 := rfl
  have e4 : v / 2 ^ ((8 : Int) * 4).toNat = v / 4294967296 := rfl
  simp only [List.filter_cons, List.filter_nil, e1, e2, e3, e4, decide_eq_true_eq]
  have hn : p.length = 1 ∨ p.length = 2 ∨ p.length = 3 ∨ p.length = 4 := by omega
  rcases hn with hn | hn | hn | hn <;> rw [hn] at hv ⊢ <;> simp only [Int.reducePow] at hv <;> repeat' split
  all_goals first | rfl | (exfalso; omega)
theorem leb_go {x : EF} {num : Int} {rows : List (List Int)} (k : EOk x rows) (hnum : 0 ≤ num ∧ num < 4294967296) (h : Q (ilD (wEn x num rows)) α) : f_law_entry_bytes CE CR CF CB CI gX [efD CE x, .int num] α Q E := by
  unfold f_law_entry_bytes m_law_entry_bytes
  refine w_runP rfl ?_
  have hn := k.nm.1.2
  have hv := k.ve.2.1
  have hwl := wA_len (num := num) hn hv
  have h4 : ∀ n, (four n).length = 4 := fun _ => rfl
  have w4 : ∀ (n : Int), 0 ≤ n → n < 4294967296 → ∀ (R : D → AH → Prop) (E' : QX), R (ilD (four n)) α → f_law_wide CE CR CF CB CI gX [.int n, .int 4] α R E' := fun n a b R E' r => wide_go (w := 4) (by decide) (by rw [wide4 ⟨a, b⟩]; exact r)
  unfold efD
  sizeOf_list_dec
  (repeat' array_get_dec)
  refine w4 _ hnum.1 hnum.2 _ _ ?_
  (repeat' array_get_dec)
  refine oq_len_S (by omega) ?_
  (repeat' array_get_dec)
  refine add_il (b := [(x.nm.length : Int)]) (by simp only [h4, List.length_cons, List.length_nil]; omega) ?_
  (repeat' array_get_dec)
  rw [S_chars]
  refine lc_map x.nm (fun k => .str (S [k])) (fun k => .int (k : Nat)) rfl (by omega) (by exact trivial) (fun z hz => ⟨_, rfl, fun R hR => ?_⟩) ?_
  · sizeOf_list_dec
    (repeat' array_get_dec)
    refine oq_ord (k := z) ?_
    exact hR
  have e1 : PyData.list (x.nm.map fun (k : Nat) => PyData.int (k : Int)) = ilD (x.nm.map Int.ofNat) := by
    unfold ilD
    rw [List.map_map]
    rfl
  rw [e1]
  (repeat' array_get_dec)
  refine add_il (by simp only [List.length_append, List.length_map, h4, List.length_cons, List.length_nil]; omega) ?_
  (repeat' array_get_dec)
  rw [List.length_map]
  refine add_il (b := [(x.ve.length : Int)]) (by simp only [List.length_append, List.length_map, h4, List.length_cons, List.length_nil]; omega) ?_
  have hA0 : four num ++ [(x.nm.length : Int)] ++ x.nm.map Int.ofNat ++ [(x.ve.length : Int)] = four num ++ wNm x.nm ++ [(x.ve.length : Int)] := by
    unfold wNm
    simp only [List.append_assoc, List.cons_append, List.nil_append]
  rw [hA0]
  have hA0l : (four num ++ wNm x.nm ++ [(x.ve.length : Int)]).length ≤ 50 := by
    unfold wNm
    simp only [List.length_append, List.length_map, h4, List.length_cons, List.length_nil]
    omega
  have hA : wA x num = four num ++ wNm x.nm ++ [(x.ve.length : Int)] ++ x.ve.flatMap fun x => x.1 :: four x.2 := by
    unfold wA wVe
    simp only [List.append_assoc, List.cons_append, List.nil_append]
  generalize four num ++ wNm x.nm ++ [(x.ve.length : Int)] = A0 at *
  (repeat' array_get_dec)
  (repeat ((with_reducible refine bar_of ?_); sizeOf_list_dec; (repeat' array_get_dec)))
  refine for_map (xs := x.ve) (u := vD) rfl (fun j ρ α' => ∃ x4 x5, ρ = [some (enD CE (.str (S x.nm)) (.tuple (x.ve.map vD)) (.int x.h) (.tuple [.int x.md, .int x.mn]) (.bool x.de) (.int x.ti) (.tuple (x.bl.map .int))), some (.int num), some (ilD (A0 ++ (x.ve.take j).flatMap fun x => x.1 :: four x.2)), none, x4, x5, none, none, none] ∧ α = α') ⟨none, none, by rw [List.take_zero, List.flatMap_nil, List.append_nil], rfl⟩ ?_ ?_
  rotate_left
  · rintro j hj ρ _ ⟨x4, x5, rfl, rfl⟩ X hX
    have hta := List.take_append_getElem hj
    have hle := wVe_len (ve := x.ve.take j)
    rw [List.length_take] at hle
    have hy := k.ve.2.2.2 _ (List.getElem_mem hj)
    generalize x.ve[j] = y at *
    obtain ⟨d, c⟩ := y
    simp only [vD]
    sizeOf_list_dec
    (repeat' array_get_dec)
    refine add_il (b := [d]) (by simp only [List.length_append, List.length_cons, List.length_nil, hle]; omega) ?_
    (repeat' array_get_dec)
    refine w4 _ (by have := hy.2.1; show 0 ≤ c; have : (1 : Int) ≤ c := hy.2.1; omega) hy.2.2 _ _ ?_
    (repeat' array_get_dec)
    refine add_il (by simp only [List.length_append, List.length_cons, List.length_nil, hle, h4]; omega) ?_
    (repeat' array_get_dec)
    refine hX _ _ ⟨some (.int d), some (.int c), ?_, rfl⟩
    rw [← hta, List.flatMap_append, List.flatMap_cons, List.flatMap_nil, List.append_nil]
    simp only [List.append_assoc, List.cons_append, List.nil_append]
  rintro ρ _ ⟨x4, x5, rfl, rfl⟩
  rw [List.take_length, ← hA]
  clear hA hA0 hA0l
  (repeat' array_get_dec)
  (repeat ((with_reducible refine bar_of ?_); sizeOf_list_dec; (repeat' array_get_dec)))
  refine w4 _ (by have := k.h.1; omega) k.h.2 _ _ ?_
  (repeat' array_get_dec)
  refine add_il (by simp only [h4]; omega) ?_
  (repeat' array_get_dec)
  refine add_il (b := [x.md]) (by simp only [List.length_append, List.length_cons, List.length_nil, h4]; omega) ?_
  (repeat' array_get_dec)
  refine w4 _ (by have := k.mn.1; omega) k.mn.2 _ _ ?_
  (repeat' array_get_dec)
  refine add_il (by simp only [List.length_append, List.length_cons, List.length_nil, h4]; omega) ?_
  (repeat' array_get_dec)
  (repeat ((with_reducible refine bar_of ?_); sizeOf_list_dec; (repeat' array_get_dec)))
  refine add_il (b := [if x.de then 1 else 0]) (by simp only [List.length_append, List.length_cons, List.length_nil, h4]; omega) ?_
  (repeat' array_get_dec)
  refine w4 _ k.ti.1 k.ti.2 _ _ ?_
  (repeat' array_get_dec)
  refine add_il (by simp only [List.length_append, List.length_cons, List.length_nil, h4]; omega) ?_
  (repeat' array_get_dec)
  have hbl : x.bl.map PyData.int = rows.map fun p => PyData.int (val 256 1 p) := by rw [k.bl, List.map_map]; rfl
  have hrl := k.len
  have hok := k.ok
  rw [hbl, List.length_map]
  refine add_il (b := [(rows.length : Int)]) (by simp only [List.length_append, List.length_cons, List.length_nil, h4]; omega) ?_
  have hBl : (wA x num ++ four x.h ++ [x.md] ++ four x.mn ++ [if x.de then 1 else 0] ++ four x.ti ++ [(rows.length : Int)]).length ≤ 300 := by
    simp only [List.length_append, List.length_cons, List.length_nil, h4]
    omega
  unfold wEn at h
  have eB : wA x num ++ (four x.h ++ [x.md] ++ four x.mn) ++ ([if x.de then 1 else 0] ++ four x.ti ++ [(rows.length : Int)]) = wA x num ++ four x.h ++ [x.md] ++ four x.mn ++ [if x.de then 1 else 0] ++ four x.ti ++ [(rows.length : Int)] := by
    simp only [List.append_assoc]
  rw [eB] at h
  generalize wA x num ++ four x.h ++ [x.md] ++ four x.mn ++ [if x.de then 1 else 0] ++ four x.ti ++ [(rows.length : Int)] = B at *
  (repeat' array_get_dec)
  (repeat ((with_reducible refine bar_of ?_); sizeOf_list_dec; (repeat' array_get_dec)))
  refine for_map (xs := rows) (u := fun p => .int (val 256 1 p)) rfl (fun j ρ α' => ∃ x3 x4 x5 x6, ρ = [some (enD CE (.str (S x.nm)) (.tuple (x.ve.map vD)) (.int x.h) (.tuple [.int x.md, .int x.mn]) (.bool x.de) (.int x.ti) (.tuple (rows.map fun p => .int (val 256 1 p)))), some (.int num), some (ilD (B ++ (rows.take j).flatMap wBk)), x3, x4, x5, x6, none, none] ∧ α = α') ⟨_, _, _, _, by rw [List.take_zero, List.flatMap_nil, List.append_nil], rfl⟩ ?_ ?_
  · rintro ρ _ ⟨x3, x4, x5, x6, rfl, rfl⟩
    rw [List.take_length]
    (repeat' array_get_dec)
    (repeat ((with_reducible refine bar_of ?_); sizeOf_list_dec; (repeat' array_get_dec)))
    rw [arst_self]
    exact h
  · rintro j hj ρ _ ⟨x3, x4, x5, x6, rfl, rfl⟩ X hX
    have hta := List.take_append_getElem hj
    have hpo := hok _ (List.getElem_mem hj)
    have hwb := wBk_len (rows := rows.take j) fun q hq => hok q (List.mem_of_mem_take hq)
    rw [List.length_take] at hwb
    generalize rows[j] = pc at *
    have hp4 := hpo.1
    sizeOf_list_dec
    (repeat' array_get_dec)
    rw [show nums 1 ((5 : Int) - 1).toNat = ([1, 2, 3, 4] : List Int).map PyData.int from rfl]
    refine lc_fm ([1, 2, 3, 4] : List Int) PyData.int (fun k => decide (0 < val 256 1 pc / 2 ^ (8 * k).toNat)) PyData.int rfl (by decide) (by exact trivial) (fun z hz => ?_) ?_
    · have hz0 : 0 ≤ 8 * z ∧ 8 * z < 100 := by
        simp only [List.mem_cons, List.not_mem_nil, or_false] at hz
        omega
      refine ⟨_, rfl, fun R hR => ?_, fun _ R hR => ?_⟩
      · sizeOf_list_dec
        (repeat' array_get_dec)
        exact hR
      · sizeOf_list_dec
        (repeat' array_get_dec)
        exact hR
    (repeat' array_get_dec)
    rw [List.length_map, sz_len hpo]
    (repeat' array_get_dec)
    (repeat ((with_reducible refine bar_of ?_); sizeOf_list_dec; (repeat' array_get_dec)))
    refine add_il (b := [(pc.length : Int)]) (by simp only [List.length_append, List.length_cons, List.length_nil]; omega) ?_
    (repeat' array_get_dec)
    refine wide_go (w := pc.length) (by omega) ?_
    rw [wide_blk hpo]
    (repeat' array_get_dec)
    refine add_il (by simp only [List.length_append, List.length_cons, List.length_nil]; omega) ?_
    (repeat' array_get_dec)
    refine hX _ _ ⟨some (.int (val 256 1 pc)), x4, x5, some (.int (pc.length : Nat)), ?_, rfl⟩
    rw [← hta, List.flatMap_append, List.flatMap_cons, List.flatMap_nil, List.append_nil]
    unfold wBk
    simp only [List.append_assoc, List.cons_append, List.nil_append]
end K21
namespace K21
open PySem L2 Hz
local macro_rules | `(tactic| array_mem_dec) => `(tactic| (first | ((with_reducible apply w_xf); exact rfl; exact decide_eq_true rfl; exact rfl) | ((with_reducible apply w_frzS); exact rfl; (first | assumption | exact aset_same); (try simp only [List.set])) | ((with_reducible apply rg1_of); (first | omega | decide)) | ((with_reducible apply rg2_of); (first | omega | decide)) | ((with_reducible apply lok); exact rfl) | ((with_reducible refine it2_dec ?_ ?_) <;> intro)))
local macro_rules | `(tactic| array_mem_dec) => `(tactic| (first | ((with_reducible apply oq_setv2); (simp only [List.set, wipeA]; exact rfl)) | ((with_reducible apply cal_of); exact rfl; (try simp only [List.cons_append, List.nil_append, List.append_nil])) | ((with_reducible apply w_aug); exact rfl) | ((with_reducible apply cel_of); (first | assumption | exact aset_same)) | ((with_reducible apply ceo_of); (first | assumption | exact aset_same)) | ((with_reducible apply tlG_r); (first | assumption | exact aset_same)) | ((with_reducible apply fr_of); (first | assumption | exact aset_same)) | ((with_reducible apply fd_cons); exact trivial) | ((with_reducible apply fd_nil); exact trivial) | ((with_reducible apply oq_isiB (b := true)); exact rfl) | ((with_reducible apply oq_isiB (b := false)); exact rfl) | ((with_reducible apply w_xi); exact rfl; exact decide_eq_true rfl; exact if_pos rfl)))
local macro_rules | `(tactic| array_mem_dec) => `(tactic| (with_reducible first | refine pr2_of ?_ | refine oq_and255 ?_ | refine vw_il ?_ | refine len_il ?_ | refine list_il ?_ | refine ne_il ?_ | refine eq_il ?_ | refine tl_il ?_ | refine vw_en ?_ | refine fe_1 ?_ | refine fe_2 ?_ | refine fe_3 ?_ | refine fe_4 ?_ | refine fe_5 ?_ | refine fe_6 ?_ | refine fe_7 ?_ | refine oq_intb ?_))
local macro_rules | `(tactic| array_mem_dec) => `(tactic| (with_reducible first | refine tb_b ?_ | refine ti_b ?_ | refine ts_b ?_ | refine we_nx ?_ | refine we_rt ?_ | refine we_ex ?_ | refine wn_nx ?_ | refine wn_rt ?_ | refine wn_bk ?_ | refine wn_ct ?_ | refine wn_ex ?_ | refine wl_nx ?_ | refine wl_rt ?_ | refine wl_bk ?_ | refine wl_ct ?_ | refine wl_ex ?_ | refine wx_nx ?_ | refine wx_rt ?_ | refine wx_bk ?_ | refine wx_ct ?_ | refine wx_ex ?_ | refine wh_nx ?_ | refine wh_rt ?_ | refine wh_bk ?_ | refine wh_ct ?_ | refine it2_t ?_ | refine it2_f ?_ | refine it2_not ?_ | refine tlG_l ?_ | refine ttG_t ?_))
local macro_rules | `(tactic| array_mem_dec) => `(tactic| ((with_reducible refine oq_id ?_); (first | (first | ((with_reducible apply oq_eq_iT); decide +kernel) | ((with_reducible apply oq_eq_iF); decide +kernel)) | (with_reducible first | refine vw_i ?_ | refine vw_s ?_ | refine vw_b ?_ | refine vw_n ?_ | refine vw_l ?_ | refine vw_t ?_ | refine vw_sc ?_ | refine vw_o ?_ | refine mv_nil ?_ | refine mv_cons ?_ | refine oq_tgNil ?_ | refine oq_tgCons ?_ | refine oq_add_i ?_ | refine oq_sub ?_ | refine oq_lt ?_ | refine oq_le ?_ | refine oq_gt ?_ | refine oq_ge ?_ | refine oq_eq_i ?_ | refine oq_ne_i ?_ | refine oq_eq_s ?_ | refine oq_ne_s ?_ | refine oq_eq_b ?_ | refine oq_ne_b ?_ | refine oq_is ?_ | refine oq_isNot ?_ | refine oq_in_s ?_ | refine oq_notIn_s ?_ | refine oq_len_l ?_ | refine oq_len_t ?_ | refine oq_int ?_ | refine oq_abs ?_ | refine oq_ord ?_ | refine oq_cut_l ?_ | refine oq_cut_t ?_ | refine oq_list_l ?_ | refine oq_list_t ?_ | refine oq_tuple_l ?_ | refine oq_tuple_t ?_ | refine oq_max2 ?_ | refine oq_min2 ?_ | refine oq_some ?_ | refine oq_len_sc ?_ | refine oq_eq_il ?_ | refine oq_ne_il ?_ | refine oq_eq_it ?_ | refine oq_ne_it ?_ | refine oq_lt_il ?_ | refine oq_lt_it ?_ | refine oq_iadd_i ?_ | refine oq_isT ?_ | refine oq_isNotT ?_) | (first | ((with_reducible apply oq_tgTup); exact rfl) | ((with_reducible apply oq_ix_lk); exact rfl) | ((with_reducible apply oq_ix_tk); exact rfl) | ((with_reducible apply vw_r); (first | assumption | exact aset_same)) | ((with_reducible apply oq_ixN_k); exact rfl; (try simp only [List.set, Int.reduceToNat])) | ((with_reducible apply oq_mod); (first | omega | decide)) | ((with_reducible apply oq_div); (first | omega | decide)) | ((with_reducible apply oq_mul); (first | omega | decide)) | ((with_reducible apply oq_pow); (first | omega | decide)) | ((with_reducible apply oq_shl); (first | omega | decide)) | ((with_reducible apply oq_shr); (first | omega | decide)) | ((with_reducible apply oq_add_s); (first | omega | decide))) | (first | ((with_reducible apply oq_len_s); (first | omega | decide)) | ((with_reducible apply oq_cut_s); (first | omega | decide)) | ((with_reducible apply oq_append); (first | omega | decide)) | ((with_reducible apply oq_insert); (first | omega | decide)) | ((with_reducible apply oq_rep); (first | omega | decide)) | ((with_reducible apply oq_cat); (first | omega | decide))))))
local macro_rules | `(tactic| array_mem_dec) => `(tactic| (with_reducible first | refine w_list ?_ | refine w_tuple ?_ | refine w_str ?_ | refine w_range1 ?_ | refine w_range2 ?_ | refine w_range3 ?_ | refine w_next ?_ | refine w_break ?_ | refine w_cont ?_ | refine w_drop ?_ | refine w_ret ?_ | refine w_retN ?_ | refine w_if ?_ | refine w_asg ?_ | refine w_raise ?_ | refine w_fld ?_ | refine w_seta ?_ | refine w_auga ?_ | refine w_seti ?_ | refine w_mut ?_ | refine w_frz ?_ | refine w_new ?_ | refine w_ext ?_ | refine w_for ?_ | refine w_lc ?_ | refine w_tryA ?_ | refine w_try ?_ | refine w_par ?_))
local macro_rules | `(tactic| array_mem_dec) => `(tactic| (first | ((with_reducible apply w_kV); exact rfl) | (with_reducible first | refine w_kC ?_ | refine w_bop ?_ | refine w_tst ?_ | refine w_val ?_ | refine w_and ?_ | refine w_or ?_ | refine w_not ?_ | refine w_andV ?_ | refine w_orV ?_ | refine w_chain ?_ | refine w_ifK ?_ | refine w_nil ?_ | refine w_cons ?_ | refine w_tup ?_ | refine w_lst ?_ | refine w_call ?_ | refine w_neg ?_ | refine w_b1 ?_ | refine w_bn ?_ | refine w_isi ?_ | refine w_met ?_ | refine w_pnone ?_ | refine w_psome ?_ | refine w_cut ?_ | refine w_yes ?_)))
local macro_rules | `(tactic| array_get_dec) => `(tactic| (with_reducible refine w_seqB ?_))
local macro_rules | `(tactic| array_get_dec) => `(tactic| array_mem_dec)
local macro_rules | `(tactic| decreasing_trivial_pre_omega) => `(tactic| (with_reducible refine w_seq ?_))
local macro_rules | `(tactic| decreasing_trivial_pre_omega) => `(tactic| array_mem_dec)
local macro_rules | `(tactic| sizeOf_list_dec) => `(tactic| (try simp only [List.set, Int.reduceToNat, List.map_cons, List.map_nil, Nat.reduceSub, List.reduceReplicate, List.cons_append, List.nil_append, wipeA, aset_aset, List.getElem?_cons_zero, List.getElem?_cons_succ]))
variable {CE CR CF CB CI gX : Nat} {α : AH} {Q : QD} {E : QX}
inductive TW : TB → List Int → Prop
  | own {k n : Int} {x : EF} {rows : List (List Int)} : (k = 0 ∨ k = 3) → EOk x rows → 1 ≤ n → n < 4294967296 → TW ⟨k, 0, some x, n⟩ (k :: wEn x n rows)
  | peer {d n : Int} {x : EF} {rows : List (List Int)} : 1 ≤ d → d ≤ 9 → EOk x rows → 1 ≤ n → n < 4294967296 → TW ⟨1, d, some x, n⟩ (1 :: d :: wEn x n rows)
  | upto {d n : Int} : 1 ≤ d → d ≤ 9 → 0 ≤ n → n < 4294967296 → TW ⟨2, d, none, n⟩ (2 :: d :: four n)
theorem wEn_len {x : EF} {num : Int} {rows : List (List Int)} (k : EOk x rows) : (wEn x num rows).length ≤ 1600 := by
  have h1 := wA_len (num := num) k.nm.1.2 k.ve.2.1
  have h2 := wBk_len k.ok
  have h3 := k.len
  unfold wEn
  simp only [List.length_append, List.length_cons, List.length_nil, show ∀ n, (four n).length = 4 from fun _ => rfl]
  omega
theorem TW.len {t : TB} {b : List Int} (h : TW t b) : b.length ≤ 1602 := by
  cases h with
  | own _ k _ _ =>
    rename_i n x rows _ _ _
    have := wEn_len k (num := n)
    rw [List.length_cons]
    omega
  | peer _ _ k _ _ =>
    rename_i d n x rows _ _ _ _
    have := wEn_len k (num := n)
    rw [List.length_cons, List.length_cons]
    omega
  | upto _ _ _ _ => show 6 ≤ 1602; decide
theorem rBd_w {t : TB} {b : List Int} (h : TW t b) : rBd b = some t := by
  unfold rBd
  cases h with
  | own hk k h1 h2 =>
    rename_i kk n x rows
    have e : rY (kk :: wEn x n rows) = .ok (⟨kk, 0, some x, n⟩, []) := by
      unfold rY
      rw [rB_pos (by omega)]
      show rY1 kk (wEn x n rows) = _
      unfold rY1
      rw [if_neg (by omega), if_neg (by omega), rT, ← List.append_nil (wEn x n rows), rE_w k h1 h2]
      rfl
    rw [e]
  | peer d1 d2 k h1 h2 =>
    rename_i d n x rows
    have e : rY (1 :: d :: wEn x n rows) = .ok (⟨1, d, some x, n⟩, []) := by
      unfold rY
      rw [rB_pos (by decide)]
      show bn (rB 1 9 (d :: wEn x n rows)) (rT 1) = _
      rw [rB_pos ⟨d1, d2⟩]
      show rT 1 d (wEn x n rows) = _
      rw [rT, ← List.append_nil (wEn x n rows), rE_w k h1 h2]
      rfl
    rw [e]
  | upto d1 d2 h1 h2 =>
    rename_i d n
    have e : rY (2 :: d :: four n) = .ok (⟨2, d, none, n⟩, []) := by
      unfold rY
      rw [rB_pos (by decide)]
      show bn (rB 1 9 (d :: four n)) rU = _
      rw [rB_pos ⟨d1, d2⟩]
      show rU d (four n) = _
      rw [rU, ← List.append_nil (four n), rN_four ⟨h1, h2⟩ ⟨by decide, h1⟩]
      rfl
    rw [e]
theorem lrec_go {t : TB} {b : List Int} (hw : TW t b) (h : Q (ilD (sld b)) α) : f_law_record CE CR CF CB CI gX [tbD (efD CE) t] α Q E := by
  unfold f_law_record m_law_record
  refine w_runP rfl ?_
  have hbl := hw.len
  cases hw with
  | own hk k h1 h2 =>
    rename_i kk n x rows
    rw [List.length_cons] at hbl
    unfold tbD
    simp only
    rcases hk with rfl | rfl
    · sizeOf_list_dec
      (repeat' array_get_dec)
      (repeat ((with_reducible refine bar_of ?_); sizeOf_list_dec; (repeat' array_get_dec)))
      refine leb_go k ⟨by omega, h2⟩ ?_
      (repeat' array_get_dec)
      refine add_il (a := [0]) (by rw [List.length_cons, List.length_nil]; omega) ?_
      (repeat' array_get_dec)
      refine lseal_go (b := 0 :: wEn x n rows) (by rw [List.length_cons]; omega) ?_
      (repeat' array_get_dec)
      rw [arst_self]
      exact h
    · sizeOf_list_dec
      (repeat' array_get_dec)
      (repeat ((with_reducible refine bar_of ?_); sizeOf_list_dec; (repeat' array_get_dec)))
      refine leb_go k ⟨by omega, h2⟩ ?_
      (repeat' array_get_dec)
      refine add_il (a := [3]) (by rw [List.length_cons, List.length_nil]; omega) ?_
      (repeat' array_get_dec)
      refine lseal_go (b := 3 :: wEn x n rows) (by rw [List.length_cons]; omega) ?_
      (repeat' array_get_dec)
      rw [arst_self]
      exact h
  | peer d1 d2 k h1 h2 =>
    rename_i d n x rows
    rw [List.length_cons, List.length_cons] at hbl
    unfold tbD
    simp only
    sizeOf_list_dec
    (repeat' array_get_dec)
    (repeat ((with_reducible refine bar_of ?_); sizeOf_list_dec; (repeat' array_get_dec)))
    refine leb_go k ⟨by omega, h2⟩ ?_
    (repeat' array_get_dec)
    refine add_il (a := [1, d]) (by simp only [List.length_cons, List.length_nil]; omega) ?_
    (repeat' array_get_dec)
    refine lseal_go (b := 1 :: d :: wEn x n rows) (by simp only [List.length_cons]; omega) ?_
    (repeat' array_get_dec)
    rw [arst_self]
    exact h
  | upto d1 d2 h1 h2 =>
    rename_i d n
    unfold tbD
    simp only
    sizeOf_list_dec
    (repeat' array_get_dec)
    (repeat ((with_reducible refine bar_of ?_); sizeOf_list_dec; (repeat' array_get_dec)))
    refine wide_go (w := 4) (by decide) ?_
    rw [wide4 ⟨h1, h2⟩]
    (repeat' array_get_dec)
    refine add_il (a := [2, d]) (by show 2 + 4 ≤ _; decide) ?_
    (repeat' array_get_dec)
    refine lseal_go (b := 2 :: d :: four n) (by show 6 ≤ _; decide) ?_
    (repeat' array_get_dec)
    rw [arst_self]
    exact h
end K21
namespace K21
open PySem L2 Hz
local macro_rules | `(tactic| array_mem_dec) => `(tactic| (first | ((with_reducible apply w_xf); exact rfl; exact decide_eq_true rfl; exact rfl) | ((with_reducible apply w_frzS); exact rfl; (first | assumption | exact aset_same); (try simp only [List.set])) | ((with_reducible apply rg1_of); (first | omega | decide)) | ((with_reducible apply rg2_of); (first | omega | decide)) | ((with_reducible apply lok); exact rfl) | ((with_reducible refine it2_dec ?_ ?_) <;> intro)))
local macro_rules | `(tactic| array_mem_dec) => `(tactic| (first | ((with_reducible apply oq_setv2); (simp only [List.set, wipeA]; exact rfl)) | ((with_reducible apply cal_of); exact rfl; (try simp only [List.cons_append, List.nil_append, List.append_nil])) | ((with_reducible apply w_aug); exact rfl) | ((with_reducible apply cel_of); (first | assumption | exact aset_same)) | ((with_reducible apply ceo_of); (first | assumption | exact aset_same)) | ((with_reducible apply tlG_r); (first | assumption | exact aset_same)) | ((with_reducible apply fr_of); (first | assumption | exact aset_same)) | ((with_reducible apply fd_cons); exact trivial) | ((with_reducible apply fd_nil); exact trivial) | ((with_reducible apply oq_isiB (b := true)); exact rfl) | ((with_reducible apply oq_isiB (b := false)); exact rfl) | ((with_reducible apply w_xi); exact rfl; exact decide_eq_true rfl; exact if_pos rfl)))
local macro_rules | `(tactic| array_mem_dec) => `(tactic| (with_reducible first | refine pr2_of ?_ | refine oq_and255 ?_ | refine vw_il ?_ | refine len_il ?_ | refine list_il ?_ | refine ne_il ?_ | refine eq_il ?_ | refine tl_il ?_))
local macro_rules | `(tactic| array_mem_dec) => `(tactic| (with_reducible first | refine tb_b ?_ | refine ti_b ?_ | refine ts_b ?_ | refine we_nx ?_ | refine we_rt ?_ | refine we_ex ?_ | refine wn_nx ?_ | refine wn_rt ?_ | refine wn_bk ?_ | refine wn_ct ?_ | refine wn_ex ?_ | refine wl_nx ?_ | refine wl_rt ?_ | refine wl_bk ?_ | refine wl_ct ?_ | refine wl_ex ?_ | refine wx_nx ?_ | refine wx_rt ?_ | refine wx_bk ?_ | refine wx_ct ?_ | refine wx_ex ?_ | refine wh_nx ?_ | refine wh_rt ?_ | refine wh_bk ?_ | refine wh_ct ?_ | refine it2_t ?_ | refine it2_f ?_ | refine it2_not ?_ | refine tlG_l ?_ | refine ttG_t ?_))
local macro_rules | `(tactic| array_mem_dec) => `(tactic| ((with_reducible refine oq_id ?_); (first | (first | ((with_reducible apply oq_eq_iT); decide +kernel) | ((with_reducible apply oq_eq_iF); decide +kernel)) | (with_reducible first | refine vw_i ?_ | refine vw_s ?_ | refine vw_b ?_ | refine vw_n ?_ | refine vw_l ?_ | refine vw_t ?_ | refine vw_sc ?_ | refine vw_o ?_ | refine mv_nil ?_ | refine mv_cons ?_ | refine oq_tgNil ?_ | refine oq_tgCons ?_ | refine oq_add_i ?_ | refine oq_sub ?_ | refine oq_lt ?_ | refine oq_le ?_ | refine oq_gt ?_ | refine oq_ge ?_ | refine oq_eq_i ?_ | refine oq_ne_i ?_ | refine oq_eq_s ?_ | refine oq_ne_s ?_ | refine oq_eq_b ?_ | refine oq_ne_b ?_ | refine oq_is ?_ | refine oq_isNot ?_ | refine oq_in_s ?_ | refine oq_notIn_s ?_ | refine oq_len_l ?_ | refine oq_len_t ?_ | refine oq_int ?_ | refine oq_abs ?_ | refine oq_ord ?_ | refine oq_cut_l ?_ | refine oq_cut_t ?_ | refine oq_list_l ?_ | refine oq_list_t ?_ | refine oq_tuple_l ?_ | refine oq_tuple_t ?_ | refine oq_max2 ?_ | refine oq_min2 ?_ | refine oq_some ?_ | refine oq_len_sc ?_ | refine oq_eq_il ?_ | refine oq_ne_il ?_ | refine oq_eq_it ?_ | refine oq_ne_it ?_ | refine oq_lt_il ?_ | refine oq_lt_it ?_ | refine oq_iadd_i ?_ | refine oq_isT ?_ | refine oq_isNotT ?_) | (first | ((with_reducible apply oq_tgTup); exact rfl) | ((with_reducible apply oq_ix_lk); exact rfl) | ((with_reducible apply oq_ix_tk); exact rfl) | ((with_reducible apply vw_r); (first | assumption | exact aset_same)) | ((with_reducible apply oq_ixN_k); exact rfl; (try simp only [List.set, Int.reduceToNat])) | ((with_reducible apply oq_mod); (first | omega | decide)) | ((with_reducible apply oq_div); (first | omega | decide)) | ((with_reducible apply oq_mul); (first | omega | decide)) | ((with_reducible apply oq_pow); (first | omega | decide)) | ((with_reducible apply oq_shl); (first | omega | decide)) | ((with_reducible apply oq_shr); (first | omega | decide)) | ((with_reducible apply oq_add_s); (first | omega | decide))) | (first | ((with_reducible apply oq_len_s); (first | omega | decide)) | ((with_reducible apply oq_cut_s); (first | omega | decide)) | ((with_reducible apply oq_append); (first | omega | decide)) | ((with_reducible apply oq_insert); (first | omega | decide)) | ((with_reducible apply oq_rep); (first | omega | decide)) | ((with_reducible apply oq_cat); (first | omega | decide))))))
local macro_rules | `(tactic| array_mem_dec) => `(tactic| (with_reducible first | refine w_list ?_ | refine w_tuple ?_ | refine w_str ?_ | refine w_range1 ?_ | refine w_range2 ?_ | refine w_range3 ?_ | refine w_next ?_ | refine w_break ?_ | refine w_cont ?_ | refine w_drop ?_ | refine w_ret ?_ | refine w_retN ?_ | refine w_if ?_ | refine w_asg ?_ | refine w_raise ?_ | refine w_fld ?_ | refine w_seta ?_ | refine w_auga ?_ | refine w_seti ?_ | refine w_mut ?_ | refine w_frz ?_ | refine w_new ?_ | refine w_ext ?_ | refine w_for ?_ | refine w_lc ?_ | refine w_tryA ?_ | refine w_try ?_ | refine w_par ?_))
local macro_rules | `(tactic| array_mem_dec) => `(tactic| (first | ((with_reducible apply w_kV); exact rfl) | (with_reducible first | refine w_kC ?_ | refine w_bop ?_ | refine w_tst ?_ | refine w_val ?_ | refine w_and ?_ | refine w_or ?_ | refine w_not ?_ | refine w_andV ?_ | refine w_orV ?_ | refine w_chain ?_ | refine w_ifK ?_ | refine w_nil ?_ | refine w_cons ?_ | refine w_tup ?_ | refine w_lst ?_ | refine w_call ?_ | refine w_neg ?_ | refine w_b1 ?_ | refine w_bn ?_ | refine w_isi ?_ | refine w_met ?_ | refine w_pnone ?_ | refine w_psome ?_ | refine w_cut ?_ | refine w_yes ?_)))
local macro_rules | `(tactic| array_get_dec) => `(tactic| (with_reducible refine w_seqB ?_))
local macro_rules | `(tactic| array_get_dec) => `(tactic| array_mem_dec)
local macro_rules | `(tactic| decreasing_trivial_pre_omega) => `(tactic| (with_reducible refine w_seq ?_))
local macro_rules | `(tactic| decreasing_trivial_pre_omega) => `(tactic| array_mem_dec)
local macro_rules | `(tactic| sizeOf_list_dec) => `(tactic| (try simp only [List.set, Int.reduceToNat, List.map_cons, List.map_nil, Nat.reduceSub, List.reduceReplicate, List.cons_append, List.nil_append, wipeA, aset_aset, List.getElem?_cons_zero, List.getElem?_cons_succ]))
variable {CE CR CF CB CI gX : Nat} {α : AH} {Q : QD} {E : QX}
def nmOk (nm : List Nat) : Prop := (1 ≤ nm.length ∧ nm.length ≤ 40) ∧ ∀ k ∈ nm, k ∈ CHS
theorem seg_byt {ds : List Int} (hb : byt ds) {i j : Nat} : byt (seg ds i j) := byt_take (byt_drop hb)
theorem nm_of {s : PySem.Str} (h : (decide (1 ≤ s.cps.toList.length) && decide (s.cps.toList.length ≤ 40) && s.cps.toList.all fun k => decide (k ∈ CHS)) = true) : nmOk s.cps.toList := by
  simp only [Bool.and_eq_true, decide_eq_true_eq, List.all_eq_true] at h
  exact ⟨h.1, h.2⟩
theorem name_dr {ns : List Int} {p : Addr} (h : DrAt p α) (q : ∀ nm α', nmOk nm → DrAt p α' → But p α α' → Q (.str (S nm)) α') : f_law_name CE CR CF CB CI gX [dref p, scriptD ns] α Q E := by
  unfold f_law_name m_law_name
  refine w_runP rfl ?_
  sizeOf_list_dec
  (repeat' array_get_dec)
  refine dr_go h (by decide) fun d α1 g1 g2 D1 B1 => ?_
  have fin : ∀ s : PySem.Str, nmOk s.cps.toList → Q (.str s) (arst α α1) := fun s hs => by
    rw [arst_but h.isS B1]
    have := q _ _ hs D1 B1
    rwa [S_self] at this
  (repeat' array_get_dec)
  have hd : d = 0 ∨ d = 1 ∨ d = 2 ∨ d = 3 ∨ d = 4 ∨ d = 5 := by omega
  rcases hd with rfl | rfl | rfl | rfl | rfl | rfl
  all_goals
    refine ⟨_, rfl, ?_⟩
    (repeat' array_get_dec)
    exact fin _ (nm_of (by decide +kernel))
/-- one of three -/
theorem pick3 {a b c d : Int} {R : D → Prop} (h0 : 0 ≤ d) (h1 : d < 3) (h : ∀ x, (x = a ∨ x = b ∨ x = c) → R (.int x)) : oq (dIx (.list [.int a, .int b, .int c]) (.int d)) R := by
  have hd : d = 0 ∨ d = 1 ∨ d = 2 := by omega
  rcases hd with rfl | rfl | rfl
  · exact ⟨_, rfl, h a (.inl rfl)⟩
  · exact ⟨_, rfl, h b (.inr (.inl rfl))⟩
  · exact ⟨_, rfl, h c (.inr (.inr rfl))⟩
theorem vec_dr {ns : List Int} {p : Addr} (h : DrAt p α) (q : ∀ v α', veOk v → DrAt p α' → But p α α' → Q (.tuple (v.map vD)) α') : f_law_vector CE CR CF CB CI gX [dref p, scriptD ns] α Q E := by
  unfold f_law_vector m_law_vector
  refine w_runP rfl ?_
  sizeOf_list_dec
  (repeat' array_get_dec)
  intro c hc
  (repeat' array_get_dec)
  try refine bar_of ?_
  sizeOf_list_dec
  have B1 : BuX p α (aset α c (.list [])) := (BuX.of But.refl).new hc
  have D1 := h.new (d := .list []) hc
  have hcp := h.ne hc
  have hc1 : (aset α c (.list [])) c = some (.list (([] : List (Int × Int)).map vD)) := aset_same
  have hc0 := hc
  generalize aset α c (.list []) = α1 at *
  (repeat' array_get_dec)
  refine for_nums (fun j ρ α' => ∃ (v : List (Int × Int)) (x3 : Option D), ρ = [some (dref p), some (scriptD ns), some (dref c), x3] ∧ α' c = some (.list (v.map vD)) ∧ v.length ≤ j ∧ (v.map (·.1)).Pairwise (· < ·) ∧ (∀ x ∈ v, (1 ≤ x.1 ∧ x.1 ≤ (j : Int)) ∧ 1 ≤ x.2 ∧ x.2 < 4294967296) ∧ DrAt p α' ∧ BuX p α α') ⟨[], none, rfl, hc1, Nat.le_refl _, .nil, (fun _ h => nomatch h), D1, B1⟩ ?_ ?_
  rotate_left
  · rintro j hj ρ α2 ⟨v, x3, rfl, hc2, hvl, hvp, hvx, D2, B2⟩ X hX
    have hj9 : j < 9 := by
      have : ((10 : Int) - 1).toNat = 9 := rfl
      omega
    sizeOf_list_dec
    (repeat' array_get_dec)
    refine dr_go D2 (by decide) fun d α3 g1 g2 D3 B3 => ?_
    have hc3 := (B3 c (Ne.symm hcp)).trans hc2
    (repeat' array_get_dec)
    · refine dr_go D3 (by decide) fun d2 α4 g3 g4 D4 B4 => ?_
      have hc4 := (B4 c (Ne.symm hcp)).trans hc3
      (repeat' array_get_dec)
      refine dr_go D4 (by decide) fun d3 α5 g5 g6 D5 B5 => ?_
      have hc5 := (B5 c (Ne.symm hcp)).trans hc4
      (repeat' array_get_dec)
      refine pick3 g5 g6 fun x hx => ?_
      (repeat' array_get_dec)
      refine oq_append (by rw [List.length_map]; omega) ?_
      (repeat' array_get_dec)
      have hxr : 1 ≤ x ∧ x < 4294967296 := by omega
      refine hX _ _ ⟨v ++ [(1 + (j : Int), x)], some (.int (1 + (j : Nat))), rfl, by rw [aset_same, List.map_append]; rfl, by rw [List.length_append, List.length_cons, List.length_nil]; omega, ?_, fun y hy => ?_, D5.cong (aset_ne hcp), (((B2.but B3).but B4).but B5).put hc0⟩
      · rw [List.map_append, List.pairwise_append]
        refine ⟨hvp, by simp, fun a ha b hb => ?_⟩
        obtain ⟨y, hy, rfl⟩ := List.mem_map.mp ha
        have := (hvx y hy).1.2
        simp only [List.map_cons, List.map_nil, List.mem_singleton] at hb
        omega
      · rcases List.mem_append.mp hy with hy | hy
        · have := hvx y hy
          exact ⟨⟨this.1.1, by have := this.1.2; omega⟩, this.2⟩
        · rw [List.mem_singleton.mp hy]
          exact ⟨⟨by show (1 : Int) ≤ 1 + j; omega, by show 1 + (j : Int) ≤ _; omega⟩, hxr⟩
    · refine hX _ _ ⟨v, some (.int (1 + (j : Nat))), rfl, hc3, by omega, hvp, fun y hy => ?_, D3, B2.but B3⟩
      have := hvx y hy
      exact ⟨⟨this.1.1, by have := this.1.2; omega⟩, this.2⟩
  rintro ρ α2 ⟨v, x3, rfl, hc2, hvl, hvp, hvx, D2, B2⟩
  have e9 : ((10 : Int) - 1).toNat = 9 := rfl
  rw [e9] at hvl hvx
  (repeat' array_get_dec)
  (repeat ((with_reducible refine bar_of ?_); sizeOf_list_dec; (repeat' array_get_dec)))
  · rename_i h0
    rw [List.length_map] at h0
    refine dr_go D2 (by decide) fun d α3 g1 g2 D3 B3 => ?_
    (repeat' array_get_dec)
    intro c2 hc2'
    (repeat' array_get_dec)
    (repeat ((with_reducible refine bar_of ?_); sizeOf_list_dec; (repeat' array_get_dec)))
    refine q [(1 + d, 1)] _ ⟨by simp, by simp, by simp, fun x hx => ?_⟩ ((D3.new hc2').cong (arst_at h.isS)) (arst_bux ((B2.but B3).new hc2'))
    rw [List.mem_singleton.mp hx]
    exact ⟨⟨by show (1 : Int) ≤ 1 + d; omega, by show 1 + d ≤ 9; omega⟩, by show (1 : Int) ≤ 1; decide, by show (1 : Int) < 4294967296; decide⟩
  · rename_i h0
    rw [List.length_map] at h0
    (repeat ((with_reducible refine bar_of ?_); sizeOf_list_dec; (repeat' array_get_dec)))
    refine q v _ ⟨by omega, hvl, hvp, fun x hx => ?_⟩ (D2.cong (arst_at h.isS)) (arst_bux B2)
    have := hvx x hx
    exact ⟨⟨this.1.1, by have := this.1.2; omega⟩, this.2⟩
end K21
namespace K21
open PySem L2 Hz
local macro_rules | `(tactic| array_mem_dec) => `(tactic| (first | ((with_reducible apply w_xf); exact rfl; exact decide_eq_true rfl; exact rfl) | ((with_reducible apply w_frzS); exact rfl; (first | assumption | exact aset_same); (try simp only [List.set])) | ((with_reducible apply rg1_of); (first | omega | decide)) | ((with_reducible apply rg2_of); (first | omega | decide)) | ((with_reducible apply lok); exact rfl) | ((with_reducible refine it2_dec ?_ ?_) <;> intro)))
local macro_rules | `(tactic| array_mem_dec) => `(tactic| (first | ((with_reducible apply oq_setv2); (simp only [List.set, wipeA]; exact rfl)) | ((with_reducible apply cal_of); exact rfl; (try simp only [List.cons_append, List.nil_append, List.append_nil])) | ((with_reducible apply w_aug); exact rfl) | ((with_reducible apply cel_of); (first | assumption | exact aset_same)) | ((with_reducible apply ceo_of); (first | assumption | exact aset_same)) | ((with_reducible apply tlG_r); (first | assumption | exact aset_same)) | ((with_reducible apply fr_of); (first | assumption | exact aset_same)) | ((with_reducible apply fd_cons); exact trivial) | ((with_reducible apply fd_nil); exact trivial) | ((with_reducible apply oq_isiB (b := true)); exact rfl) | ((with_reducible apply oq_isiB (b := false)); exact rfl) | ((with_reducible apply w_xi); exact rfl; exact decide_eq_true rfl; exact if_pos rfl)))
local macro_rules | `(tactic| array_mem_dec) => `(tactic| (with_reducible first | refine pr2_of ?_ | refine oq_and255 ?_ | refine vw_il ?_ | refine len_il ?_ | refine list_il ?_ | refine ne_il ?_ | refine eq_il ?_ | refine tl_il ?_ | refine w_mk ?_))
local macro_rules | `(tactic| array_mem_dec) => `(tactic| (with_reducible first | refine tb_b ?_ | refine ti_b ?_ | refine ts_b ?_ | refine we_nx ?_ | refine we_rt ?_ | refine we_ex ?_ | refine wn_nx ?_ | refine wn_rt ?_ | refine wn_bk ?_ | refine wn_ct ?_ | refine wn_ex ?_ | refine wl_nx ?_ | refine wl_rt ?_ | refine wl_bk ?_ | refine wl_ct ?_ | refine wl_ex ?_ | refine wx_nx ?_ | refine wx_rt ?_ | refine wx_bk ?_ | refine wx_ct ?_ | refine wx_ex ?_ | refine wh_nx ?_ | refine wh_rt ?_ | refine wh_bk ?_ | refine wh_ct ?_ | refine it2_t ?_ | refine it2_f ?_ | refine it2_not ?_ | refine tlG_l ?_ | refine ttG_t ?_))
local macro_rules | `(tactic| array_mem_dec) => `(tactic| ((with_reducible refine oq_id ?_); (first | (first | ((with_reducible apply oq_eq_iT); decide +kernel) | ((with_reducible apply oq_eq_iF); decide +kernel)) | (with_reducible first | refine vw_i ?_ | refine vw_s ?_ | refine vw_b ?_ | refine vw_n ?_ | refine vw_l ?_ | refine vw_t ?_ | refine vw_sc ?_ | refine vw_o ?_ | refine mv_nil ?_ | refine mv_cons ?_ | refine oq_tgNil ?_ | refine oq_tgCons ?_ | refine oq_add_i ?_ | refine oq_sub ?_ | refine oq_lt ?_ | refine oq_le ?_ | refine oq_gt ?_ | refine oq_ge ?_ | refine oq_eq_i ?_ | refine oq_ne_i ?_ | refine oq_eq_s ?_ | refine oq_ne_s ?_ | refine oq_eq_b ?_ | refine oq_ne_b ?_ | refine oq_is ?_ | refine oq_isNot ?_ | refine oq_in_s ?_ | refine oq_notIn_s ?_ | refine oq_len_l ?_ | refine oq_len_t ?_ | refine oq_int ?_ | refine oq_abs ?_ | refine oq_ord ?_ | refine oq_cut_l ?_ | refine oq_cut_t ?_ | refine oq_list_l ?_ | refine oq_list_t ?_ | refine oq_tuple_l ?_ | refine oq_tuple_t ?_ | refine oq_max2 ?_ | refine oq_min2 ?_ | refine oq_some ?_ | refine oq_len_sc ?_ | refine oq_eq_il ?_ | refine oq_ne_il ?_ | refine oq_eq_it ?_ | refine oq_ne_it ?_ | refine oq_lt_il ?_ | refine oq_lt_it ?_ | refine oq_iadd_i ?_ | refine oq_isT ?_ | refine oq_isNotT ?_) | (first | ((with_reducible apply oq_tgTup); exact rfl) | ((with_reducible apply oq_ix_lk); exact rfl) | ((with_reducible apply oq_ix_tk); exact rfl) | ((with_reducible apply vw_r); (first | assumption | exact aset_same)) | ((with_reducible apply oq_ixN_k); exact rfl; (try simp only [List.set, Int.reduceToNat])) | ((with_reducible apply oq_mod); (first | omega | decide)) | ((with_reducible apply oq_div); (first | omega | decide)) | ((with_reducible apply oq_mul); (first | omega | decide)) | ((with_reducible apply oq_pow); (first | omega | decide)) | ((with_reducible apply oq_shl); (first | omega | decide)) | ((with_reducible apply oq_shr); (first | omega | decide)) | ((with_reducible apply oq_add_s); (first | omega | decide))) | (first | ((with_reducible apply oq_len_s); (first | omega | decide)) | ((with_reducible apply oq_cut_s); (first | omega | decide)) | ((with_reducible apply oq_append); (first | omega | decide)) | ((with_reducible apply oq_insert); (first | omega | decide)) | ((with_reducible apply oq_rep); (first | omega | decide)) | ((with_reducible apply oq_cat); (first | omega | decide))))))
local macro_rules | `(tactic| array_mem_dec) => `(tactic| (with_reducible first | refine w_list ?_ | refine w_tuple ?_ | refine w_str ?_ | refine w_range1 ?_ | refine w_range2 ?_ | refine w_range3 ?_ | refine w_next ?_ | refine w_break ?_ | refine w_cont ?_ | refine w_drop ?_ | refine w_ret ?_ | refine w_retN ?_ | refine w_if ?_ | refine w_asg ?_ | refine w_raise ?_ | refine w_fld ?_ | refine w_seta ?_ | refine w_auga ?_ | refine w_seti ?_ | refine w_mut ?_ | refine w_frz ?_ | refine w_new ?_ | refine w_ext ?_ | refine w_for ?_ | refine w_lc ?_ | refine w_tryA ?_ | refine w_try ?_ | refine w_par ?_))
local macro_rules | `(tactic| array_mem_dec) => `(tactic| (first | ((with_reducible apply w_kV); exact rfl) | (with_reducible first | refine w_kC ?_ | refine w_bop ?_ | refine w_tst ?_ | refine w_val ?_ | refine w_and ?_ | refine w_or ?_ | refine w_not ?_ | refine w_andV ?_ | refine w_orV ?_ | refine w_chain ?_ | refine w_ifK ?_ | refine w_nil ?_ | refine w_cons ?_ | refine w_tup ?_ | refine w_lst ?_ | refine w_call ?_ | refine w_neg ?_ | refine w_b1 ?_ | refine w_bn ?_ | refine w_isi ?_ | refine w_met ?_ | refine w_pnone ?_ | refine w_psome ?_ | refine w_cut ?_ | refine w_yes ?_)))
local macro_rules | `(tactic| array_get_dec) => `(tactic| (with_reducible refine w_seqB ?_))
local macro_rules | `(tactic| array_get_dec) => `(tactic| array_mem_dec)
local macro_rules | `(tactic| decreasing_trivial_pre_omega) => `(tactic| (with_reducible refine w_seq ?_))
local macro_rules | `(tactic| decreasing_trivial_pre_omega) => `(tactic| array_mem_dec)
local macro_rules | `(tactic| sizeOf_list_dec) => `(tactic| (try simp only [List.set, Int.reduceToNat, List.map_cons, List.map_nil, Nat.reduceSub, List.reduceReplicate, List.cons_append, List.nil_append, wipeA, aset_aset, List.getElem?_cons_zero, List.getElem?_cons_succ]))
variable {CE CR CF CB CI gX : Nat} {α : AH} {Q : QD} {E : QX}
theorem cont_dr {ns : List Int} {p : Addr} (h : DrAt p α) (q : ∀ xs α', xs.length ≤ 20 → byt xs → DrAt p α' → But p α α' → Q (ilD xs) α') : f_law_content CE CR CF CB CI gX [dref p, scriptD ns, .int 5] α Q E := by
  unfold f_law_content m_law_content
  refine w_runP rfl ?_
  sizeOf_list_dec
  (repeat' array_get_dec)
  refine dr_go h (by decide) fun x α1 x1 x2 D1 B1 => ?_
  (repeat' array_get_dec)
  (repeat ((with_reducible refine bar_of ?_); sizeOf_list_dec; (repeat' array_get_dec)))
  refine dr_go D1 (by decide) fun n α2 n1 n2 D2 B2 => ?_
  (repeat' array_get_dec)
  refine for_nums (fun k ρ α' => ∃ (xs : List Int) (v : Option D), ρ = [some (dref p), some (scriptD ns), some (.int 5), some (.list [.list [.int 1, .int 2, .int 3, .int 4], .list [.int 0, .int 0, .int 0, .int 0], .list [.int 255, .int 254, .int 253, .int 252], .list [.int 5], .list [.int 9, .int 9], .list [.int x, .int 7, .int 7, .int 7]]), some (ilD xs), v] ∧ DrAt p α' ∧ But p α α' ∧ xs.length ≤ 4 * k ∧ byt xs) ⟨[], none, rfl, D2, B1.trans B2, by simp, fun _ h => nomatch h⟩ ?_ ?_
  · rintro ρ α' ⟨xs, v, rfl, D, B, hl, hk⟩
    (repeat' array_get_dec)
    (repeat ((with_reducible refine bar_of ?_); sizeOf_list_dec; (repeat' array_get_dec)))
    rw [arst_but h.isS B]
    exact q xs _ (by omega) hk D B
  · rintro k hk' ρ α' ⟨xs, v, rfl, D, B, hl, hk⟩ X hX
    sizeOf_list_dec
    (repeat' array_get_dec)
    refine dr_go D (by decide) fun d α3 g1 g2 D3 B3 => ?_
    (repeat' array_get_dec)
    refine oq_ix_mf (xs := ([[1, 2, 3, 4], [0, 0, 0, 0], [255, 254, 253, 252], [5], [9, 9], [x, 7, 7, 7]] : List (List Int))) (u := ilD) (k := d.toNat) (by omega) (by show d.toNat < 6; omega) ?_
    have hW : ∀ w ∈ ([[1, 2, 3, 4], [0, 0, 0, 0], [255, 254, 253, 252], [5], [9, 9], [x, 7, 7, 7]] : List (List Int)), w.length ≤ 4 ∧ byt w := by
      intro w hw
      simp only [List.mem_cons, List.not_mem_nil, or_false] at hw
      rcases hw with rfl | rfl | rfl | rfl | rfl | rfl
      all_goals
        refine ⟨by simp, fun z hz => ?_⟩
        simp only [List.mem_cons, List.not_mem_nil, or_false] at hz
        omega
    obtain ⟨w, hw1⟩ : ∃ w : List Int, ([[1, 2, 3, 4], [0, 0, 0, 0], [255, 254, 253, 252], [5], [9, 9], [x, 7, 7, 7]] : List (List Int))[d.toNat]'(by show d.toNat < 6; omega) = w := ⟨_, rfl⟩
    obtain ⟨hw2, hw3⟩ := hW w (by rw [← hw1]; exact List.getElem_mem _)
    rw [hw1]
    (repeat' array_get_dec)
    refine add_il (by omega) ?_
    (repeat' array_get_dec)
    exact hX _ _ ⟨xs ++ w, some (.int (0 + (k : Nat))), rfl, D3, B.trans B3, by rw [List.length_append]; omega, byt_app hk hw3⟩
/-- contents in blocks -/
def nk (c : List Int) : Nat := (c.length + 3) / 4
def pcs (c : List Int) : List (List Int) := (List.range (nk c)).map fun j => seg c (4 * j) (4 * j + 4)
theorem pcs_len {c : List Int} : (pcs c).length = nk c := by
  unfold pcs
  rw [List.length_map, List.length_range]
theorem pcs_ok {c : List Int} (hb : byt c) (hl : c.length ≤ 20) : (∀ p ∈ pcs c, okp p) ∧ (pcs c).length ≤ 255 ∧ ∀ j, j + 1 < (pcs c).length → ((pcs c).getD j []).length = 4 := by
  have hs : ∀ j, (seg c (4 * j) (4 * j + 4)).length = min 4 (c.length - 4 * j) := fun j => by
    unfold seg
    rw [List.length_take, List.length_drop]
    omega
  refine ⟨fun p hp => ?_, by rw [pcs_len]; unfold nk; omega, fun j hj => ?_⟩
  · obtain ⟨j, hj, rfl⟩ := List.mem_map.mp hp
    have hj := List.mem_range.mp hj
    unfold nk at hj
    have := hs j
    exact ⟨by omega, fun e => by rw [e] at this; simp at this; omega, seg_byt hb⟩
  · rw [pcs_len] at hj
    unfold pcs
    rw [List.getD_eq_getElem?_getD, List.getElem?_map, List.getElem?_range (by omega)]
    show (seg c (4 * j) (4 * j + 4)).length = 4
    unfold nk at hj
    rw [hs]
    omega
theorem rng4 (c : List Int) : (Builtin.Range.rangeSize 0 (c.length : Int) 4).toNat = nk c := by
  unfold Builtin.Range.rangeSize nk
  rw [if_pos (by decide)]
  split <;> omega
theorem small4 {c : List Int} (h : c.length ≤ 20) : (4 : Int) ≠ 0 ∧ (4 : Int).natAbs < 1073741824 ∧ Builtin.Range.small 0 (c.length : Int) 4 = true := by
  refine ⟨by decide, by decide, ?_⟩
  have h : ∀ n : Nat, n < 21 → Builtin.Range.small 0 (n : Int) 4 = true := by decide +kernel
  exact h c.length (by omega)
theorem bl_go {c : List Int} (hl : c.length ≤ 20) (h : Q (.tuple ((pcs c).map fun p => .int (val 256 1 p))) α) : f_law_blocks CE CR CF CB CI gX [ilD c] α Q E := by
  unfold f_law_blocks m_law_blocks
  refine w_runP rfl ?_
  sizeOf_list_dec
  (repeat' array_get_dec)
  intro p1 hp1
  (repeat' array_get_dec)
  (repeat ((with_reducible refine bar_of ?_); sizeOf_list_dec; (repeat' array_get_dec)))
  refine rg3_of (small4 hl) ?_
  rw [rng4, numsC_map]
  have hpn := pcs_len (c := c)
  refine for_map (xs := List.range (nk c)) (u := fun k => .int (0 + (k : Nat) * 4)) rfl (fun k ρ α' => ∃ x2 x3 x4, ρ = [some (ilD c), some (dref p1), x2, x3, x4] ∧ α' = aset α p1 (.list (((pcs c).take k).map fun p => .int (val 256 1 p)))) ⟨none, none, none, rfl, rfl⟩ ?_ ?_
  · rintro ρ _ ⟨x2, x3, x4, rfl, rfl⟩
    rw [List.length_range, ← hpn, List.take_length]
    (repeat' array_get_dec)
    (repeat ((with_reducible refine bar_of ?_); sizeOf_list_dec; (repeat' array_get_dec)))
    rw [arst_bx hp1 (fun a ha hs => aset_ne ha)]
    exact h
  · rintro k hk ρ _ ⟨x2, x3, x4, rfl, rfl⟩ X hX
    rw [List.length_range] at hk
    rw [List.getElem_range]
    have hkl : k ≤ 5 := by unfold nk at hk; omega
    sizeOf_list_dec
    (repeat' array_get_dec)
    (repeat ((with_reducible refine bar_of ?_); sizeOf_list_dec; (repeat' array_get_dec)))
    refine cut_seg (a := 4 * k) (b := 4 * k + 4) (by omega) (by omega) (by omega) ?_
    (repeat' array_get_dec)
    refine for_map (xs := seg c (4 * k) (4 * k + 4)) (u := PyData.int) rfl (fun j ρ α' => ∃ v, ρ = [some (ilD c), some (dref p1), some (.int (0 + (k : Nat) * 4)), some (.int (val 256 1 ((seg c (4 * k) (4 * k + 4)).take j))), v] ∧ α' = aset α p1 (.list (((pcs c).take k).map fun p => .int (val 256 1 p)))) ⟨x4, rfl, rfl⟩ ?_ ?_
    · rintro _ _ ⟨v, rfl, rfl⟩
      rw [List.take_length]
      sizeOf_list_dec
      (repeat' array_get_dec)
      (repeat ((with_reducible refine bar_of ?_); sizeOf_list_dec; (repeat' array_get_dec)))
      refine oq_append (by rw [List.length_map, List.length_take]; omega) ?_
      (repeat' array_get_dec)
      refine hX _ _ ⟨_, _, _, rfl, ?_⟩
      have hk' : k < (pcs c).length := by omega
      rw [aset_aset, ← List.take_append_getElem hk', List.map_append, show (pcs c)[k] = seg c (4 * k) (4 * k + 4) by simp [pcs]]
      rfl
    · rintro j hj _ _ ⟨v, rfl, rfl⟩ X2 hX2
      have hta := List.take_append_getElem hj
      generalize (seg c (4 * k) (4 * k + 4))[j] = y at *
      sizeOf_list_dec
      (repeat' array_get_dec)
      refine hX2 _ _ ⟨some (.int y), ?_, rfl⟩
      rw [← hta, val_app]
theorem ent_dr {ns : List Int} {p : Addr} (h : DrAt p α) (q : ∀ (x : EF) rows α', EOk x rows → DrAt p α' → But p α α' → Q (efD CE x) α') : f_law_entry CE CR CF CB CI gX [dref p, scriptD ns] α Q E := by
  unfold f_law_entry m_law_entry
  refine w_runP rfl ?_
  sizeOf_list_dec
  (repeat' array_get_dec)
  refine name_dr h fun nm α1 hnm D1 B1 => ?_
  (repeat' array_get_dec)
  (repeat ((with_reducible refine bar_of ?_); sizeOf_list_dec; (repeat' array_get_dec)))
  refine vec_dr D1 fun ve α2 hve D2 B2 => ?_
  replace B2 := B1.trans B2
  clear B1 D1
  (repeat' array_get_dec)
  (repeat ((with_reducible refine bar_of ?_); sizeOf_list_dec; (repeat' array_get_dec)))
  refine dr_go D2 (by decide) fun d1 α3 g1 g2 D3 B3 => ?_
  (repeat' array_get_dec)
  refine dr_go D3 (by decide) fun d2 α4 g3 g4 D4 B4 => ?_
  replace B4 := (B2.trans B3).trans B4
  clear B2 B3 D2 D3
  (repeat' array_get_dec)
  refine pick3 g3 g4 fun ti hti => ?_
  (repeat' array_get_dec)
  (repeat ((with_reducible refine bar_of ?_); sizeOf_list_dec; (repeat' array_get_dec)))
  refine dr_go D4 (by decide) fun d3 α5 g5 g6 D5 B5 => ?_
  (repeat' array_get_dec)
  refine dr_go D5 (by decide) fun d4 α6 g7 g8 D6 B6 => ?_
  replace B6 := (B4.trans B5).trans B6
  clear B4 B5 D4 D5
  (repeat' array_get_dec)
  refine pick3 g7 g8 fun hh hhh => ?_
  (repeat' array_get_dec)
  (repeat ((with_reducible refine bar_of ?_); sizeOf_list_dec; (repeat' array_get_dec)))
  refine dr_go D6 (by decide) fun md α7 g9 g10 D7 B7 => ?_
  (repeat' array_get_dec)
  refine dr_go D7 (by decide) fun d5 α8 g11 g12 D8 B8 => ?_
  (repeat' array_get_dec)
  refine dr_go D8 (by decide) fun d6 α9 g13 g14 D9 B9 => ?_
  replace B9 := ((B6.trans B7).trans B8).trans B9
  clear B6 B7 B8 D6 D7 D8
  (repeat' array_get_dec)
  refine pick3 g13 g14 fun mn hmn => ?_
  (repeat' array_get_dec)
  (repeat ((with_reducible refine bar_of ?_); sizeOf_list_dec; (repeat' array_get_dec)))
  refine dr_go D9 (by decide) fun d7 α10 g15 g16 D10 B10 => ?_
  replace B10 := B9.trans B10
  have mk : ∀ (de : Bool) (c : List Int), byt c → c.length ≤ 20 → (de = true → c = []) → EOk ⟨nm, ve, hh, 1 + md, mn, de, ti, (pcs c).map (val 256 1)⟩ (pcs c) := fun de c hb hl hd => by
    obtain ⟨p1, p2, p3⟩ := pcs_ok hb hl
    exact ⟨hnm, hve, ⟨by show 1 ≤ hh; omega, by show hh < 4294967296; omega⟩, ⟨by show 1 ≤ 1 + md; omega, by show 1 + md ≤ 9; omega⟩, ⟨by show 1 ≤ mn; omega, by show mn < 4294967296; omega⟩, ⟨by show 0 ≤ ti; omega, by show ti < 4294967296; omega⟩, rfl, p1, p2, fun e => by rw [hd e]; rfl, p3⟩
  (repeat' array_get_dec)
  · refine ⟨rfl, fun z hz => ?_⟩
    refine en_go aset_same ⟨rfl, ?_⟩
    rw [aset_aset]
    refine ⟨z, _, rfl, aset_same, ?_⟩
    rw [adel_aset hz]
    (repeat' array_get_dec)
    rw [arst_but h.isS B10]
    exact q ⟨nm, ve, hh, 1 + md, mn, true, ti, (pcs []).map (val 256 1)⟩ (pcs []) _ (mk true [] (fun _ h => nomatch h) (by decide) fun _ => rfl) D10 B10
  · (repeat ((with_reducible refine bar_of ?_); sizeOf_list_dec; (repeat' array_get_dec)))
    refine cont_dr D10 fun c α11 hcl hcb D11 B11 => ?_
    replace B11 := B10.trans B11
    (repeat' array_get_dec)
    refine bl_go hcl ?_
    (repeat' array_get_dec)
    refine ⟨rfl, fun z hz => ?_⟩
    refine en_go aset_same ⟨rfl, ?_⟩
    rw [aset_aset]
    refine ⟨z, _, rfl, aset_same, ?_⟩
    rw [adel_aset hz]
    (repeat' array_get_dec)
    rw [arst_but h.isS B11]
    have := q ⟨nm, ve, hh, 1 + md, mn, false, ti, (pcs c).map (val 256 1)⟩ (pcs c) _ (mk false c hcb hcl fun e => by cases e) D11 B11
    unfold efD at this
    rw [List.map_map] at this
    exact this
theorem told_dr {ns : List Int} {p : Addr} (h : DrAt p α) (q : ∀ t b α', TW t b → DrAt p α' → But p α α' → Q (tbD (efD CE) t) α') : f_law_told CE CR CF CB CI gX [dref p, scriptD ns] α Q E := by
  unfold f_law_told m_law_told
  refine w_runP rfl ?_
  sizeOf_list_dec
  (repeat' array_get_dec)
  refine dr_go h (by decide) fun k α1 g1 g2 D1 B1 => ?_
  (repeat' array_get_dec)
  (repeat ((with_reducible refine bar_of ?_); sizeOf_list_dec; (repeat' array_get_dec)))
  refine dr_go D1 (by decide) fun d1 α2 g3 g4 D2 B2 => ?_
  (repeat' array_get_dec)
  refine dr_go D2 (by decide) fun d2 α3 g5 g6 D3 B3 => ?_
  replace B3 := (B1.trans B2).trans B3
  clear B1 B2 D1 D2
  (repeat' array_get_dec)
  refine pick3 g5 g6 fun n hn => ?_
  (repeat' array_get_dec)
  have fin : ∀ t b α', TW t b → DrAt p α' → But p α α' → Q (tbD (efD CE) t) (arst α α') := fun t b α' h1 h2 h3 => by
    rw [arst_but h.isS h3]
    exact q t b α' h1 h2 h3
  (repeat ((with_reducible refine bar_of ?_); sizeOf_list_dec; (repeat' array_get_dec)))
  · rename_i h0
    subst h0
    refine ent_dr D3 fun x rows α4 hx D4 B4 => ?_
    (repeat' array_get_dec)
    exact fin ⟨0, 0, some x, n⟩ _ _ (.own (.inl rfl) hx (by omega) (by omega)) D4 (B3.trans B4)
  · rename_i h0 h1
    subst h1
    refine ent_dr D3 fun x rows α4 hx D4 B4 => ?_
    (repeat' array_get_dec)
    exact fin ⟨3, 0, some x, n⟩ _ _ (.own (.inr rfl) hx (by omega) (by omega)) D4 (B3.trans B4)
  rename_i h0 h1
  (repeat ((with_reducible refine bar_of ?_); sizeOf_list_dec; (repeat' array_get_dec)))
  · rename_i h2
    refine dr_go D3 (by decide) fun d α4 g7 g8 D4 B4 => ?_
    (repeat' array_get_dec)
    refine ent_dr D4 fun x rows α5 hx D5 B5 => ?_
    (repeat' array_get_dec)
    exact fin ⟨1, 1 + d, some x, n⟩ _ _ (.peer (by omega) (by omega) hx (by omega) (by omega)) D5 ((B3.trans B4).trans B5)
  · rename_i h2
    (repeat ((with_reducible refine bar_of ?_); sizeOf_list_dec; (repeat' array_get_dec)))
    refine dr_go D3 (by decide) fun d α4 g7 g8 D4 B4 => ?_
    (repeat' array_get_dec)
    exact fin ⟨2, 1 + d, none, n - 1⟩ _ _ (.upto (by omega) (by omega) (by omega) (by omega)) D4 (B3.trans B4)
end K21
namespace K21
open PySem L2 Hz
local macro_rules | `(tactic| array_mem_dec) => `(tactic| (first | ((with_reducible apply w_xf); exact rfl; exact decide_eq_true rfl; exact rfl) | ((with_reducible apply w_frzS); exact rfl; (first | assumption | exact aset_same); (try simp only [List.set])) | ((with_reducible apply rg1_of); (first | omega | decide)) | ((with_reducible apply rg2_of); (first | omega | decide)) | ((with_reducible apply lok); exact rfl) | ((with_reducible refine it2_dec ?_ ?_) <;> intro)))
local macro_rules | `(tactic| array_mem_dec) => `(tactic| (first | ((with_reducible apply oq_setv2); (simp only [List.set, wipeA]; exact rfl)) | ((with_reducible apply cal_of); exact rfl; (try simp only [List.cons_append, List.nil_append, List.append_nil])) | ((with_reducible apply w_aug); exact rfl) | ((with_reducible apply cel_of); (first | assumption | exact aset_same)) | ((with_reducible apply ceo_of); (first | assumption | exact aset_same)) | ((with_reducible apply tlG_r); (first | assumption | exact aset_same)) | ((with_reducible apply fr_of); (first | assumption | exact aset_same)) | ((with_reducible apply fd_cons); exact trivial) | ((with_reducible apply fd_nil); exact trivial) | ((with_reducible apply oq_isiB (b := true)); exact rfl) | ((with_reducible apply oq_isiB (b := false)); exact rfl) | ((with_reducible apply w_xi); exact rfl; exact decide_eq_true rfl; exact if_pos rfl)))
local macro_rules | `(tactic| array_mem_dec) => `(tactic| (with_reducible first | refine pr2_of ?_ | refine oq_and255 ?_ | refine vw_il ?_ | refine len_il ?_ | refine list_il ?_ | refine ne_il ?_ | refine eq_il ?_ | refine tl_il ?_ | refine vw_en ?_ | refine fe_1 ?_ | refine fe_2 ?_ | refine fe_3 ?_ | refine fe_4 ?_ | refine fe_5 ?_ | refine fe_6 ?_ | refine fe_7 ?_ | refine oq_intb ?_))
local macro_rules | `(tactic| array_mem_dec) => `(tactic| (with_reducible first | refine tb_b ?_ | refine ti_b ?_ | refine ts_b ?_ | refine we_nx ?_ | refine we_rt ?_ | refine we_ex ?_ | refine wn_nx ?_ | refine wn_rt ?_ | refine wn_bk ?_ | refine wn_ct ?_ | refine wn_ex ?_ | refine wl_nx ?_ | refine wl_rt ?_ | refine wl_bk ?_ | refine wl_ct ?_ | refine wl_ex ?_ | refine wx_nx ?_ | refine wx_rt ?_ | refine wx_bk ?_ | refine wx_ct ?_ | refine wx_ex ?_ | refine wh_nx ?_ | refine wh_rt ?_ | refine wh_bk ?_ | refine wh_ct ?_ | refine it2_t ?_ | refine it2_f ?_ | refine it2_not ?_ | refine tlG_l ?_ | refine ttG_t ?_))
local macro_rules | `(tactic| array_mem_dec) => `(tactic| ((with_reducible refine oq_id ?_); (first | (first | ((with_reducible apply oq_eq_iT); decide +kernel) | ((with_reducible apply oq_eq_iF); decide +kernel)) | (with_reducible first | refine vw_i ?_ | refine vw_s ?_ | refine vw_b ?_ | refine vw_n ?_ | refine vw_l ?_ | refine vw_t ?_ | refine vw_sc ?_ | refine vw_o ?_ | refine mv_nil ?_ | refine mv_cons ?_ | refine oq_tgNil ?_ | refine oq_tgCons ?_ | refine oq_add_i ?_ | refine oq_sub ?_ | refine oq_lt ?_ | refine oq_le ?_ | refine oq_gt ?_ | refine oq_ge ?_ | refine oq_eq_i ?_ | refine oq_ne_i ?_ | refine oq_eq_s ?_ | refine oq_ne_s ?_ | refine oq_eq_b ?_ | refine oq_ne_b ?_ | refine oq_is ?_ | refine oq_isNot ?_ | refine oq_in_s ?_ | refine oq_notIn_s ?_ | refine oq_len_l ?_ | refine oq_len_t ?_ | refine oq_int ?_ | refine oq_abs ?_ | refine oq_ord ?_ | refine oq_cut_l ?_ | refine oq_cut_t ?_ | refine oq_list_l ?_ | refine oq_list_t ?_ | refine oq_tuple_l ?_ | refine oq_tuple_t ?_ | refine oq_max2 ?_ | refine oq_min2 ?_ | refine oq_some ?_ | refine oq_len_sc ?_ | refine oq_eq_il ?_ | refine oq_ne_il ?_ | refine oq_eq_it ?_ | refine oq_ne_it ?_ | refine oq_lt_il ?_ | refine oq_lt_it ?_ | refine oq_iadd_i ?_ | refine oq_isT ?_ | refine oq_isNotT ?_) | (first | ((with_reducible apply oq_tgTup); exact rfl) | ((with_reducible apply oq_ix_lk); exact rfl) | ((with_reducible apply oq_ix_tk); exact rfl) | ((with_reducible apply vw_r); (first | assumption | exact aset_same)) | ((with_reducible apply oq_ixN_k); exact rfl; (try simp only [List.set, Int.reduceToNat])) | ((with_reducible apply oq_mod); (first | omega | decide)) | ((with_reducible apply oq_div); (first | omega | decide)) | ((with_reducible apply oq_mul); (first | omega | decide)) | ((with_reducible apply oq_pow); (first | omega | decide)) | ((with_reducible apply oq_shl); (first | omega | decide)) | ((with_reducible apply oq_shr); (first | omega | decide)) | ((with_reducible apply oq_add_s); (first | omega | decide))) | (first | ((with_reducible apply oq_len_s); (first | omega | decide)) | ((with_reducible apply oq_cut_s); (first | omega | decide)) | ((with_reducible apply oq_append); (first | omega | decide)) | ((with_reducible apply oq_insert); (first | omega | decide)) | ((with_reducible apply oq_rep); (first | omega | decide)) | ((with_reducible apply oq_cat); (first | omega | decide))))))
local macro_rules | `(tactic| array_mem_dec) => `(tactic| (with_reducible first | refine w_list ?_ | refine w_tuple ?_ | refine w_str ?_ | refine w_range1 ?_ | refine w_range2 ?_ | refine w_range3 ?_ | refine w_next ?_ | refine w_break ?_ | refine w_cont ?_ | refine w_drop ?_ | refine w_ret ?_ | refine w_retN ?_ | refine w_if ?_ | refine w_asg ?_ | refine w_raise ?_ | refine w_fld ?_ | refine w_seta ?_ | refine w_auga ?_ | refine w_seti ?_ | refine w_mut ?_ | refine w_frz ?_ | refine w_new ?_ | refine w_ext ?_ | refine w_for ?_ | refine w_lc ?_ | refine w_tryA ?_ | refine w_try ?_ | refine w_par ?_))
local macro_rules | `(tactic| array_mem_dec) => `(tactic| (first | ((with_reducible apply w_kV); exact rfl) | (with_reducible first | refine w_kC ?_ | refine w_bop ?_ | refine w_tst ?_ | refine w_val ?_ | refine w_and ?_ | refine w_or ?_ | refine w_not ?_ | refine w_andV ?_ | refine w_orV ?_ | refine w_chain ?_ | refine w_ifK ?_ | refine w_nil ?_ | refine w_cons ?_ | refine w_tup ?_ | refine w_lst ?_ | refine w_call ?_ | refine w_neg ?_ | refine w_b1 ?_ | refine w_bn ?_ | refine w_isi ?_ | refine w_met ?_ | refine w_pnone ?_ | refine w_psome ?_ | refine w_cut ?_ | refine w_yes ?_)))
local macro_rules | `(tactic| array_get_dec) => `(tactic| (with_reducible refine w_seqB ?_))
local macro_rules | `(tactic| array_get_dec) => `(tactic| array_mem_dec)
local macro_rules | `(tactic| decreasing_trivial_pre_omega) => `(tactic| (with_reducible refine w_seq ?_))
local macro_rules | `(tactic| decreasing_trivial_pre_omega) => `(tactic| array_mem_dec)
local macro_rules | `(tactic| sizeOf_list_dec) => `(tactic| (try simp only [List.set, Int.reduceToNat, List.map_cons, List.map_nil, Nat.reduceSub, List.reduceReplicate, List.cons_append, List.nil_append, wipeA, aset_aset, List.getElem?_cons_zero, List.getElem?_cons_succ]))
variable {CE CR CF CB CI gX : Nat} {α : AH} {Q : QD} {E : QX}
theorem nbb_go {n : Int} {w : Nat} (hw : w ≤ 8) (h : Q (ilD (wide n w)) α) : f_number_bytes_book CE CR CF CB CI gX [.int n, .int (w : Nat)] α Q E := by
  unfold f_number_bytes_book m_number_bytes_book
  refine w_runP rfl ?_
  sizeOf_list_dec
  (repeat' array_get_dec)
  rw [Int.toNat_natCast, nums0]
  refine lc_map (List.range w) (fun k => .int (k : Int)) (fun k => .int (n / 2 ^ (8 * (w - 1 - k)) % 256)) rfl (by rw [List.length_range]; omega) (by exact trivial) (fun k hk => ?_) ?_
  · rw [List.mem_range] at hk
    sizeOf_list_dec
    (repeat' array_get_dec)
    intro R hR
    (repeat' array_get_dec)
    rw [show (8 * ((w : Int) - 1 - (k : Int))).toNat = 8 * (w - 1 - k) by omega]
    exact hR
  · (repeat' array_get_dec)
    rw [arst_self]
    have e : PyData.list ((List.range w).map fun k => PyData.int (n / 2 ^ (8 * (w - 1 - k)) % 256)) = ilD (wide n w) := by
      unfold ilD wide
      rw [List.map_map]
      rfl
    rw [e]
    exact h
theorem sl_go {b : List Int} (hl : b.length ≤ 90000) (h : Q (ilD (sld b)) α) : f_sealed CE CR CF CB CI gX [ilD b] α Q E := by
  unfold f_sealed m_sealed
  refine w_runP rfl ?_
  have hw := wide_len (n := (b.length : Int)) (w := 2)
  sizeOf_list_dec
  (repeat' array_get_dec)
  refine nbb_go (w := 2) (by decide) ?_
  (repeat' array_get_dec)
  refine add_il (by omega) ?_
  (repeat' array_get_dec)
  (repeat ((with_reducible refine bar_of ?_); sizeOf_list_dec; (repeat' array_get_dec)))
  rw [show wide (b.length : Int) 2 ++ b = hdr b from rfl]
  have hh : (hdr b).length = b.length + 2 := by unfold hdr; rw [List.length_append]; omega
  refine chk_go ?_
  (repeat' array_get_dec)
  refine add_il (b := chk (hdr b)) (by rw [hh]; show _ + 2 ≤ _; omega) ?_
  (repeat' array_get_dec)
  rw [arst_self]
  exact h
theorem rec_go {x : EF} {num : Int} {rows : List (List Int)} (k : EOk x rows) (h : Q (ilD (sld (0 :: wEn x num rows))) α) : f_record_of CE CR CF CB CI gX [efD CE x, .int num] α Q E := by
  unfold f_record_of m_record_of
  refine w_runP rfl ?_
  have hl := wEn_len (num := num) k
  sizeOf_list_dec
  (repeat' array_get_dec)
  refine eb_go k ?_
  (repeat' array_get_dec)
  refine add_il (a := [0]) (by rw [List.length_cons, List.length_nil]; omega) ?_
  (repeat' array_get_dec)
  refine sl_go (b := 0 :: wEn x num rows) (by rw [List.length_cons]; omega) ?_
  (repeat' array_get_dec)
  rw [arst_self]
  exact h
theorem int_go {x : EF} {num : Int} {rows : List (List Int)} (k : EOk x rows) (h : Q (ilD (sld (3 :: wEn x num rows))) α) : f_intent_record CE CR CF CB CI gX [efD CE x, .int num] α Q E := by
  unfold f_intent_record m_intent_record
  refine w_runP rfl ?_
  have hl := wEn_len (num := num) k
  sizeOf_list_dec
  (repeat' array_get_dec)
  refine eb_go k ?_
  (repeat' array_get_dec)
  refine add_il (a := [3]) (by rw [List.length_cons, List.length_nil]; omega) ?_
  (repeat' array_get_dec)
  refine sl_go (b := 3 :: wEn x num rows) (by rw [List.length_cons]; omega) ?_
  (repeat' array_get_dec)
  rw [arst_self]
  exact h
theorem peer_go {x : EF} {d num : Int} {rows : List (List Int)} (k : EOk x rows) (h : Q (ilD (sld (1 :: d :: wEn x num rows))) α) : f_peer_record CE CR CF CB CI gX [.int d, efD CE x, .int num] α Q E := by
  unfold f_peer_record m_peer_record
  refine w_runP rfl ?_
  have hl := wEn_len (num := num) k
  sizeOf_list_dec
  (repeat' array_get_dec)
  refine eb_go k ?_
  (repeat' array_get_dec)
  refine add_il (a := [1, d]) (by simp only [List.length_cons, List.length_nil]; omega) ?_
  (repeat' array_get_dec)
  refine sl_go (b := 1 :: d :: wEn x num rows) (by simp only [List.length_cons]; omega) ?_
  (repeat' array_get_dec)
  rw [arst_self]
  exact h
theorem upto_go {d n : Int} (h1 : 0 ≤ n ∧ n < 4294967296) (h : Q (ilD (sld (2 :: d :: four n))) α) : f_upto_record CE CR CF CB CI gX [.int d, .int n] α Q E := by
  unfold f_upto_record m_upto_record
  refine w_runP rfl ?_
  sizeOf_list_dec
  (repeat' array_get_dec)
  refine nbb_go (w := 4) (by decide) ?_
  rw [wide4 h1]
  (repeat' array_get_dec)
  refine add_il (a := [2, d]) (by show 2 + 4 ≤ _; decide) ?_
  (repeat' array_get_dec)
  refine sl_go (b := 2 :: d :: four n) (by show 6 ≤ _; decide) ?_
  (repeat' array_get_dec)
  rw [arst_self]
  exact h
theorem made_go {t : TB} {b : List Int} (hw : TW t b) (h : Q (ilD (sld b)) α) : f_law_made CE CR CF CB CI gX [tbD (efD CE) t] α Q E := by
  unfold f_law_made m_law_made
  refine w_runP rfl ?_
  cases hw with
  | own hk k h1 h2 =>
    unfold tbD
    simp only
    rcases hk with rfl | rfl
    · sizeOf_list_dec
      (repeat' array_get_dec)
      (repeat ((with_reducible refine bar_of ?_); sizeOf_list_dec; (repeat' array_get_dec)))
      refine rec_go k ?_
      (repeat' array_get_dec)
      rw [arst_self]
      exact h
    · sizeOf_list_dec
      (repeat' array_get_dec)
      (repeat ((with_reducible refine bar_of ?_); sizeOf_list_dec; (repeat' array_get_dec)))
      refine int_go k ?_
      (repeat' array_get_dec)
      rw [arst_self]
      exact h
  | peer d1 d2 k h1 h2 =>
    unfold tbD
    simp only
    sizeOf_list_dec
    (repeat' array_get_dec)
    (repeat ((with_reducible refine bar_of ?_); sizeOf_list_dec; (repeat' array_get_dec)))
    refine peer_go k ?_
    (repeat' array_get_dec)
    rw [arst_self]
    exact h
  | upto d1 d2 h1 h2 =>
    unfold tbD
    simp only
    sizeOf_list_dec
    (repeat' array_get_dec)
    (repeat ((with_reducible refine bar_of ?_); sizeOf_list_dec; (repeat' array_get_dec)))
    refine upto_go ⟨h1, h2⟩ ?_
    (repeat' array_get_dec)
    rw [arst_self]
    exact h
def efT (x : EF) : D := .tuple [.str (S x.nm), .tuple (x.ve.map vD), .int x.h, .tuple [.int x.md, .int x.mn], .bool x.de, .int x.ti, .tuple (x.bl.map .int)]
theorem okD_int (k : Nat) (i : Int) : okD k (.int i) = true := by cases k <;> rfl
theorem okD_bool (k : Nat) (i : Bool) : okD k (.bool i) = true := by cases k <;> rfl
theorem okD_nm (k : Nat) {nm : List Nat} (h : ∀ c ∈ nm, c ∈ CHS) : okD k (.str (S nm)) = true := by
  have e : PyData.strOk (S nm) = true := by
    show ((S nm).cps.all (· < 0x110000)) = true
    have : (S nm).cps = nm.toArray := rfl
    rw [this, List.all_toArray, List.all_eq_true]
    intro c hc
    have := (chs_lt c (h c hc)).2
    exact decide_eq_true (by omega)
  cases k <;> exact e
theorem okD_tup {k : Nat} {ds : List D} (h : ∀ d ∈ ds, okD k d = true) : okD (k + 1) (.tuple ds) = true := by
  show ds.all (okD k) = true
  rw [List.all_eq_true]
  exact h
theorem okD_ve (k : Nat) {v : List (Int × Int)} : okD (k + 2) (.tuple (v.map vD)) = true := okD_tup fun d hd => by
  obtain ⟨x, _, rfl⟩ := List.mem_map.mp hd
  exact okD_tup fun d hd => by
    simp only [List.mem_cons, List.not_mem_nil, or_false] at hd
    rcases hd with rfl | rfl <;> exact okD_int _ _
theorem okD_its (k : Nat) {v : List Int} : okD (k + 1) (.tuple (v.map .int)) = true := okD_ints k v
theorem okD_ef (k : Nat) {x : EF} (h : ∀ c ∈ x.nm, c ∈ CHS) : okD (k + 3) (efT x) = true := okD_tup fun d hd => by
  simp only [List.mem_cons, List.not_mem_nil, or_false] at hd
  rcases hd with rfl | rfl | rfl | rfl | rfl | rfl | rfl
  · exact okD_nm _ h
  · exact okD_ve k
  · exact okD_int _ _
  · exact okD_tup fun d hd => by
      simp only [List.mem_cons, List.not_mem_nil, or_false] at hd
      rcases hd with rfl | rfl <;> exact okD_int _ _
  · exact okD_bool _ _
  · exact okD_int _ _
  · exact okD_its _
end K21
namespace K21
open PySem L2 Hz
local macro_rules | `(tactic| array_mem_dec) => `(tactic| (first | ((with_reducible apply w_xf); exact rfl; exact decide_eq_true rfl; exact rfl) | ((with_reducible apply w_frzS); exact rfl; (first | assumption | exact aset_same); (try simp only [List.set])) | ((with_reducible apply rg1_of); (first | omega | decide)) | ((with_reducible apply rg2_of); (first | omega | decide)) | ((with_reducible apply lok); exact rfl) | ((with_reducible refine it2_dec ?_ ?_) <;> intro)))
local macro_rules | `(tactic| array_mem_dec) => `(tactic| (first | ((with_reducible apply oq_setv2); (simp only [List.set, wipeA]; exact rfl)) | ((with_reducible apply cal_of); exact rfl; (try simp only [List.cons_append, List.nil_append, List.append_nil])) | ((with_reducible apply w_aug); exact rfl) | ((with_reducible apply cel_of); (first | assumption | exact aset_same)) | ((with_reducible apply ceo_of); (first | assumption | exact aset_same)) | ((with_reducible apply tlG_r); (first | assumption | exact aset_same)) | ((with_reducible apply fr_of); (first | assumption | exact aset_same)) | ((with_reducible apply fd_cons); exact trivial) | ((with_reducible apply fd_nil); exact trivial) | ((with_reducible apply oq_isiB (b := true)); exact rfl) | ((with_reducible apply oq_isiB (b := false)); exact rfl) | ((with_reducible apply w_xi); exact rfl; exact decide_eq_true rfl; exact if_pos rfl)))
local macro_rules | `(tactic| array_mem_dec) => `(tactic| (with_reducible first | refine pr2_of ?_ | refine oq_and255 ?_ | refine vw_il ?_ | refine len_il ?_ | refine list_il ?_ | refine ne_il ?_ | refine eq_il ?_ | refine tl_il ?_ | refine vw_en ?_ | refine fe_1 ?_ | refine fe_2 ?_ | refine fe_3 ?_ | refine fe_4 ?_ | refine fe_5 ?_ | refine fe_6 ?_ | refine fe_7 ?_ | refine oq_intb ?_))
local macro_rules | `(tactic| array_mem_dec) => `(tactic| (with_reducible first | refine tb_b ?_ | refine ti_b ?_ | refine ts_b ?_ | refine we_nx ?_ | refine we_rt ?_ | refine we_ex ?_ | refine wn_nx ?_ | refine wn_rt ?_ | refine wn_bk ?_ | refine wn_ct ?_ | refine wn_ex ?_ | refine wl_nx ?_ | refine wl_rt ?_ | refine wl_bk ?_ | refine wl_ct ?_ | refine wl_ex ?_ | refine wx_nx ?_ | refine wx_rt ?_ | refine wx_bk ?_ | refine wx_ct ?_ | refine wx_ex ?_ | refine wh_nx ?_ | refine wh_rt ?_ | refine wh_bk ?_ | refine wh_ct ?_ | refine it2_t ?_ | refine it2_f ?_ | refine it2_not ?_ | refine tlG_l ?_ | refine ttG_t ?_))
local macro_rules | `(tactic| array_mem_dec) => `(tactic| ((with_reducible refine oq_id ?_); (first | (first | ((with_reducible apply oq_eq_iT); decide +kernel) | ((with_reducible apply oq_eq_iF); decide +kernel)) | (with_reducible first | refine vw_i ?_ | refine vw_s ?_ | refine vw_b ?_ | refine vw_n ?_ | refine vw_l ?_ | refine vw_t ?_ | refine vw_sc ?_ | refine vw_o ?_ | refine mv_nil ?_ | refine mv_cons ?_ | refine oq_tgNil ?_ | refine oq_tgCons ?_ | refine oq_add_i ?_ | refine oq_sub ?_ | refine oq_lt ?_ | refine oq_le ?_ | refine oq_gt ?_ | refine oq_ge ?_ | refine oq_eq_i ?_ | refine oq_ne_i ?_ | refine oq_eq_s ?_ | refine oq_ne_s ?_ | refine oq_eq_b ?_ | refine oq_ne_b ?_ | refine oq_is ?_ | refine oq_isNot ?_ | refine oq_in_s ?_ | refine oq_notIn_s ?_ | refine oq_len_l ?_ | refine oq_len_t ?_ | refine oq_int ?_ | refine oq_abs ?_ | refine oq_ord ?_ | refine oq_cut_l ?_ | refine oq_cut_t ?_ | refine oq_list_l ?_ | refine oq_list_t ?_ | refine oq_tuple_l ?_ | refine oq_tuple_t ?_ | refine oq_max2 ?_ | refine oq_min2 ?_ | refine oq_some ?_ | refine oq_len_sc ?_ | refine oq_eq_il ?_ | refine oq_ne_il ?_ | refine oq_eq_it ?_ | refine oq_ne_it ?_ | refine oq_lt_il ?_ | refine oq_lt_it ?_ | refine oq_iadd_i ?_ | refine oq_isT ?_ | refine oq_isNotT ?_) | (first | ((with_reducible apply oq_tgTup); exact rfl) | ((with_reducible apply oq_ix_lk); exact rfl) | ((with_reducible apply oq_ix_tk); exact rfl) | ((with_reducible apply vw_r); (first | assumption | exact aset_same)) | ((with_reducible apply oq_ixN_k); exact rfl; (try simp only [List.set, Int.reduceToNat])) | ((with_reducible apply oq_mod); (first | omega | decide)) | ((with_reducible apply oq_div); (first | omega | decide)) | ((with_reducible apply oq_mul); (first | omega | decide)) | ((with_reducible apply oq_pow); (first | omega | decide)) | ((with_reducible apply oq_shl); (first | omega | decide)) | ((with_reducible apply oq_shr); (first | omega | decide)) | ((with_reducible apply oq_add_s); (first | omega | decide))) | (first | ((with_reducible apply oq_len_s); (first | omega | decide)) | ((with_reducible apply oq_cut_s); (first | omega | decide)) | ((with_reducible apply oq_append); (first | omega | decide)) | ((with_reducible apply oq_insert); (first | omega | decide)) | ((with_reducible apply oq_rep); (first | omega | decide)) | ((with_reducible apply oq_cat); (first | omega | decide))))))
local macro_rules | `(tactic| array_mem_dec) => `(tactic| (with_reducible first | refine w_list ?_ | refine w_tuple ?_ | refine w_str ?_ | refine w_range1 ?_ | refine w_range2 ?_ | refine w_range3 ?_ | refine w_next ?_ | refine w_break ?_ | refine w_cont ?_ | refine w_drop ?_ | refine w_ret ?_ | refine w_retN ?_ | refine w_if ?_ | refine w_asg ?_ | refine w_raise ?_ | refine w_fld ?_ | refine w_seta ?_ | refine w_auga ?_ | refine w_seti ?_ | refine w_mut ?_ | refine w_frz ?_ | refine w_new ?_ | refine w_ext ?_ | refine w_for ?_ | refine w_lc ?_ | refine w_tryA ?_ | refine w_try ?_ | refine w_par ?_))
local macro_rules | `(tactic| array_mem_dec) => `(tactic| (first | ((with_reducible apply w_kV); exact rfl) | (with_reducible first | refine w_kC ?_ | refine w_bop ?_ | refine w_tst ?_ | refine w_val ?_ | refine w_and ?_ | refine w_or ?_ | refine w_not ?_ | refine w_andV ?_ | refine w_orV ?_ | refine w_chain ?_ | refine w_ifK ?_ | refine w_nil ?_ | refine w_cons ?_ | refine w_tup ?_ | refine w_lst ?_ | refine w_call ?_ | refine w_neg ?_ | refine w_b1 ?_ | refine w_bn ?_ | refine w_isi ?_ | refine w_met ?_ | refine w_pnone ?_ | refine w_psome ?_ | refine w_cut ?_ | refine w_yes ?_)))
local macro_rules | `(tactic| array_get_dec) => `(tactic| (with_reducible refine w_seqB ?_))
local macro_rules | `(tactic| array_get_dec) => `(tactic| array_mem_dec)
local macro_rules | `(tactic| decreasing_trivial_pre_omega) => `(tactic| (with_reducible refine w_seq ?_))
local macro_rules | `(tactic| decreasing_trivial_pre_omega) => `(tactic| array_mem_dec)
local macro_rules | `(tactic| sizeOf_list_dec) => `(tactic| (try simp only [List.set, Int.reduceToNat, List.map_cons, List.map_nil, Nat.reduceSub, List.reduceReplicate, List.cons_append, List.nil_append, wipeA, aset_aset, List.getElem?_cons_zero, List.getElem?_cons_succ]))
variable {CE CR CF CB CI gX : Nat} {α : AH} {Q : QD} {E : QX}
theorem fl_ef {x : EF} (h : Q (efT x) α) : f_Entry_fields CE CR CF CB CI gX [efD CE x] α Q E := by
  unfold f_Entry_fields m_Entry_fields
  refine w_runP rfl ?_
  unfold efD
  sizeOf_list_dec
  (repeat' array_get_dec)
  rw [arst_self]
  exact h
theorem isi_ef {x : EF} {R : Bool → Prop} (h : R true) : oq (isiCB CE (efD CE x)) R := ⟨true, by
  have e : isOb CE (efD CE x) = true := by
    unfold efD enD oD isOb
    exact decide_eq_true rfl
  show (if isOb CE (efD CE x) = true then some true else none) = some true
  rw [if_pos e], h⟩
theorem vw_ed {x : EF} {R : D → Prop} (h : R (efD CE x)) : oq (vw α (efD CE x)) R := ⟨_, rfl, h⟩
theorem vw_et {x : EF} {R : D → Prop} (h : R (efT x)) : oq (vw α (efT x)) R := ⟨_, rfl, h⟩
theorem w_isiC {C : Nat} {m : ME} {ρ : En} (h : m ρ α (fun d α1 => oq (vw α1 d) fun d' => oq (isiCB C d') fun b => Q (.bool b) α1) E) : isiCK C m ρ α Q E := h
theorem w_mE {i : Nat} {x : EF} {fm : Fm} {ρ : En} (e : ρ[i]? = some (some (efD CE x))) (h : fm [efD CE x] α Q E) : methK CE "fields" 0 fm [] (Hz.kV i) nilK ρ α Q E :=
  w_meth (w_kV e ⟨_, rfl, (by
    show (decide (Int.ofNat CE = Int.ofNat CE) && (lookF _ _).isNone) = true
    rw [decide_eq_true rfl]
    rfl), ⟨rfl, h⟩⟩)
local macro_rules | `(tactic| array_mem_dec) => `(tactic| (with_reducible first | refine vw_ed ?_ | refine vw_et ?_ | refine isi_ef ?_ | refine w_isiC ?_))
theorem eq_ef {x : EF} (hx : ∀ c ∈ x.nm, c ∈ CHS) (h : Q (.bool true) α) : f_Entry_eq CE CR CF CB CI gX [efD CE x, efD CE x] α Q E := by
  unfold f_Entry_eq m_Entry_eq
  refine w_runP rfl ?_
  sizeOf_list_dec
  (repeat' array_get_dec)
  (repeat ((with_reducible refine bar_of ?_); sizeOf_list_dec; (repeat' array_get_dec)))
  refine w_mE rfl ?_
  refine fl_ef ?_
  (repeat' array_get_dec)
  refine w_mE rfl ?_
  refine fl_ef ?_
  (repeat' array_get_dec)
  refine oq_eq_self (okD_ef 57 hx) ?_
  (repeat' array_get_dec)
  rw [arst_self]
  exact h
end K21
namespace K21
open PySem L2 Hz
theorem TW.pos {t : TB} {b : List Int} (h : TW t b) : 1 ≤ b.length := by
  cases h <;> simp
theorem sld_len {b : List Int} : (sld b).length = b.length + 4 := by
  unfold sld hdr
  rw [List.length_append, List.length_append, wide_len]
  show 2 + b.length + 2 = _
  omega
theorem seg_ln {ds : List Int} {i j : Nat} (h : j ≤ ds.length) : (seg ds i j).length = j - i := by
  unfold seg
  rw [List.length_take, List.length_drop]
  omega
theorem seg_ap {ds : List Int} {i j k : Nat} (h1 : i ≤ j) (h2 : j ≤ k) : seg ds i k = seg ds i j ++ seg ds j k := by
  unfold seg
  rw [show k - i = (j - i) + (k - j) by omega, List.take_add, List.drop_drop, show i + (j - i) = j by omega]
theorem two_seg {ds : List Int} {i : Nat} (h : i + 2 ≤ ds.length) : seg ds i (i + 2) = [byt1 ds i, byt1 ds (i + 1)] := by
  unfold seg byt1
  rw [show i + 2 - i = 2 by omega, List.drop_eq_getElem_cons (show i < ds.length by omega), List.drop_eq_getElem_cons (show i + 1 < ds.length by omega), List.take_succ_cons, List.take_succ_cons, List.take_zero, List.getD_eq_getElem?_getD, List.getD_eq_getElem?_getD, List.getElem?_eq_getElem (show i < ds.length by omega), List.getElem?_eq_getElem (show i + 1 < ds.length by omega)]
  rfl
theorem stp_hdr {ds : List Int} {i L : Nat} (h : i + 2 ≤ ds.length) (hL : L < 65536) (e : seg ds i (i + 2) = wide (L : Int) 2) : stp ds i = i + 2 + L := by
  rw [two_seg h, wd2] at e
  injection e with e1 e
  injection e with e2 e
  unfold stp
  rw [e1, e2]
  omega
theorem okS_rec {ds : List Int} {i : Nat} {t : TB} {b : List Int} (hw : TW t b) (hl : i + (sld b).length ≤ ds.length) (he : seg ds i (i + (sld b).length) = sld b) : okS ds i = some t ∧ stp ds i + 2 = i + (sld b).length := by
  have hb := hw.len
  have hs := sld_len (b := b)
  rw [hs] at he hl ⊢
  rw [seg_ap (show i ≤ i + 2 + b.length by omega) (show i + 2 + b.length ≤ i + (b.length + 4) by omega)] at he
  obtain ⟨h1, h2⟩ := List.append_inj (show _ = hdr b ++ chk (hdr b) from he) (by rw [seg_ln (by omega)]; unfold hdr; rw [List.length_append, wide_len]; omega)
  have h1' := h1
  rw [seg_ap (show i ≤ i + 2 by omega) (show i + 2 ≤ i + 2 + b.length by omega)] at h1'
  obtain ⟨h3, h4⟩ := List.append_inj (show _ = wide (b.length : Int) 2 ++ b from h1') (by rw [seg_ln (by omega), wide_len]; omega)
  have hst := stp_hdr (by omega) (by omega) h3
  refine ⟨?_, by omega⟩
  unfold okS
  rw [hst, if_pos ⟨by omega, by omega, by rw [h1, show i + 2 + b.length + 2 = i + (b.length + 4) by omega]; exact h2⟩, h4]
  exact rBd_w hw
theorem okS_cut {ds : List Int} {i : Nat} {t : TB} {b : List Int} (hw : TW t b) (hl : ds.length < i + (sld b).length) (he : seg ds i ds.length = (sld b).take (ds.length - i)) : okS ds i = none := by
  have hb := hw.len
  have hs := sld_len (b := b)
  unfold okS
  refine if_neg fun hc => ?_
  obtain ⟨c1, c2, _⟩ := hc
  have h3 : seg ds i (i + 2) = wide (b.length : Int) 2 := by
    have e := congrArg (List.take 2) he
    rw [List.take_take, Nat.min_eq_left (by omega)] at e
    have e1 : List.take 2 (seg ds i ds.length) = seg ds i (i + 2) := by
      unfold seg
      rw [List.take_take, show i + 2 - i = 2 by omega, Nat.min_eq_left (by omega)]
    rw [← e1, e]
    unfold sld hdr
    rw [List.append_assoc, List.take_append_of_le_length (by rw [wide_len]; exact Nat.le_refl _), List.take_of_length_le (by rw [wide_len]; exact Nat.le_refl _)]
  have hst := stp_hdr c1 (by omega) h3
  omega
theorem Lg_pre {ds : List Int} : ∀ (zs : List (TB × List Int)) (f i : Nat), (∀ z ∈ zs, TW z.1 z.2) → i + (zs.flatMap fun z => sld z.2).length ≤ ds.length → seg ds i (i + (zs.flatMap fun z => sld z.2).length) = (zs.flatMap fun z => sld z.2) → okS ds (i + (zs.flatMap fun z => sld z.2).length) = none → zs.length ≤ f → Lg ds f i = (zs.map (·.1), i + (zs.flatMap fun z => sld z.2).length)
  | [], f, i, _, _, _, h, _ => Lg_none h f
  | z :: zs, f, i, hm, hl, he, h, hf => by
    obtain ⟨g, rfl⟩ : ∃ g, f = g + 1 := ⟨f - 1, by rw [List.length_cons] at hf; omega⟩
    rw [List.flatMap_cons, List.length_append] at hl he h ⊢
    rw [seg_ap (show i ≤ i + (sld z.2).length by omega) (by omega)] at he
    obtain ⟨h1, h2⟩ := List.append_inj he (by rw [seg_ln (by omega)]; omega)
    obtain ⟨k1, k2⟩ := okS_rec (hm z (.head _)) (by omega) h1
    rw [← Nat.add_assoc] at hl h h2 ⊢
    have ih := Lg_pre zs g (i + (sld z.2).length) (fun y hy => hm y (.tail _ hy)) hl h2 h (by rw [List.length_cons] at hf; omega)
    rw [Lg, k1]
    simp only [k2, ih]
    rfl
end K21
namespace K21
open PySem L2 Hz
abbrev ZB := TB × List Int
def fz (zs : List ZB) : List Int := zs.flatMap fun z => sld z.2
def pos (zs : List ZB) (j : Nat) : Nat := (fz (zs.take j)).length
def enl (zs : List ZB) : List Int := (List.range (zs.length + 1)).map fun j => ((pos zs j : Nat) : Int)
theorem fz_app {a b : List ZB} : fz (a ++ b) = fz a ++ fz b := List.flatMap_append
theorem enl_app {zs : List ZB} {z : ZB} : enl (zs ++ [z]) = enl zs ++ [((fz zs ++ sld z.2).length : Int)] := by
  unfold enl
  rw [List.length_append, show zs.length + [z].length + 1 = (zs.length + 1) + 1 from rfl, List.range_succ (n := zs.length + 1), List.map_append]
  congr 1
  · refine List.map_congr_left fun j hj => ?_
    rw [List.mem_range] at hj
    unfold pos
    rw [List.take_append_of_le_length (by omega)]
  · show [((pos (zs ++ [z]) (zs.length + 1) : Nat) : Int)] = _
    unfold pos
    rw [List.take_of_length_le (by rw [List.length_append]; exact Nat.le_refl _), fz_app]
    have : fz [z] = sld z.2 := List.flatMap_singleton _ _
    rw [this]
theorem mono_le {f : Nat → Nat} (hf : ∀ j, f j ≤ f (j + 1)) {a b : Nat} (h : a ≤ b) : f a ≤ f b := by
  induction h with
  | refl => exact Nat.le_refl _
  | step _ ih => exact Nat.le_trans ih (hf _)
theorem cntw {f : Nat → Nat} {m : Nat} (hf : ∀ j, f j ≤ f (j + 1)) (h0 : f 0 ≤ m) : ∀ n, ∃ w, w ≤ n ∧ f w ≤ m ∧ (w = n ∨ m < f (w + 1)) ∧ ((List.range (n + 1)).filter fun j => decide (f j ≤ m)).length = w + 1
  | 0 => ⟨0, Nat.le_refl _, h0, .inl rfl, by simp [h0]⟩
  | n + 1 => by
    obtain ⟨w, h1, h2, h3, h4⟩ := cntw hf h0 n
    by_cases hn : f (n + 1) ≤ m
    · have hw : w = n := by
        rcases h3 with h3 | h3
        · exact h3
        · have := mono_le hf (show w + 1 ≤ n + 1 by omega)
          omega
      subst hw
      refine ⟨w + 1, Nat.le_refl _, hn, .inl rfl, ?_⟩
      rw [List.range_succ, List.filter_append, List.length_append, h4, List.filter_cons, decide_eq_true hn]
      rfl
    · refine ⟨w, by omega, h2, .inr ?_, ?_⟩
      · rcases h3 with rfl | h3
        · omega
        · exact h3
      · rw [List.range_succ, List.filter_append, List.length_append, h4, List.filter_cons, decide_eq_false hn]
        rfl
theorem pos_mono (zs : List ZB) (j : Nat) : pos zs j ≤ pos zs (j + 1) := by
  unfold pos
  rcases Nat.lt_or_ge j zs.length with h | h
  · rw [List.take_succ_eq_append_getElem h, fz_app, List.length_append]
    exact Nat.le_add_right _ _
  · rw [List.take_of_length_le h, List.take_of_length_le (by omega)]
    exact Nat.le_refl _
theorem pos_succ {zs : List ZB} {j : Nat} (h : j < zs.length) : pos zs (j + 1) = pos zs j + (sld zs[j].2).length := by
  unfold pos
  rw [List.take_succ_eq_append_getElem h, fz_app, List.length_append]
  have : fz [zs[j]] = sld zs[j].2 := List.flatMap_singleton _ _
  rw [this]
theorem pos_all {zs : List ZB} : pos zs zs.length = (fz zs).length := by
  unfold pos
  rw [List.take_length]
theorem fz_ge : ∀ zs : List ZB, zs.length ≤ (fz zs).length
  | [] => Nat.le_refl _
  | z :: zs => by
    have := fz_ge zs
    have h := sld_len (b := z.2)
    unfold fz at *
    rw [List.flatMap_cons, List.length_append, List.length_cons]
    omega
theorem Lg_cut {zs : List ZB} {m w : Nat} (hm : ∀ z ∈ zs, TW z.1 z.2) (hl : m ≤ (fz zs).length) (hw : w ≤ zs.length) (h1 : pos zs w ≤ m) (h2 : w = zs.length ∨ m < pos zs (w + 1)) :
    Lg ((fz zs).take m) ((fz zs).take m).length 0 = ((zs.take w).map (·.1), pos zs w) := by
  have hlen : ((fz zs).take m).length = m := by rw [List.length_take]; omega
  have hap : fz zs = fz (zs.take w) ++ fz (zs.drop w) := by rw [← fz_app, List.take_append_drop]
  have e0 : ((zs.take w).flatMap fun z => sld z.2) = fz (zs.take w) := rfl
  have hp : (fz (zs.take w)).length = pos zs w := rfl
  have hg := fz_ge (zs.take w)
  have r := Lg_pre (ds := (fz zs).take m) (zs.take w) ((fz zs).take m).length 0 (fun z hz => hm z (List.mem_of_mem_take hz)) (by rw [e0, hp, hlen]; omega) (by
    rw [e0, hp]
    unfold seg
    rw [List.drop_zero, List.take_take, show min (0 + pos zs w - 0) m = pos zs w by omega, hap, ← hp, List.take_left]) (by
    rw [e0, hp, Nat.zero_add]
    rcases h2 with rfl | h2
    · have := pos_all (zs := zs)
      unfold okS
      exact if_neg fun hc => by omega
    · have hw' : w < zs.length := by
        rcases Nat.lt_or_ge w zs.length with h | h
        · exact h
        · have := pos_all (zs := zs)
          have hw2 : w = zs.length := by omega
          subst hw2
          unfold pos at h2
          rw [List.take_of_length_le (by omega)] at h2
          omega
      have hs := pos_succ hw'
      refine okS_cut (hm _ (List.getElem_mem hw')) (by rw [hlen]; omega) ?_
      unfold seg
      rw [hlen, List.drop_take, List.take_take, Nat.min_self]
      have hd : (fz zs).drop (pos zs w) = sld zs[w].2 ++ fz (zs.drop (w + 1)) := by
        rw [hap, ← hp, List.drop_left, List.drop_eq_getElem_cons hw']
        exact List.flatMap_cons
      rw [hd, List.take_append_of_le_length (by omega)]) (by rw [hlen, List.length_take] at *; omega)
  rw [r, e0, hp, Nat.zero_add]
end K21
namespace K21
open PySem L2 Hz
local macro_rules | `(tactic| array_mem_dec) => `(tactic| (first | ((with_reducible apply w_xf); exact rfl; exact decide_eq_true rfl; exact rfl) | ((with_reducible apply w_frzS); exact rfl; (first | assumption | exact aset_same); (try simp only [List.set])) | ((with_reducible apply rg1_of); (first | omega | decide)) | ((with_reducible apply rg2_of); (first | omega | decide)) | ((with_reducible apply lok); exact rfl) | ((with_reducible refine it2_dec ?_ ?_) <;> intro)))
local macro_rules | `(tactic| array_mem_dec) => `(tactic| (first | ((with_reducible apply oq_setv2); (simp only [List.set, wipeA]; exact rfl)) | ((with_reducible apply cal_of); exact rfl; (try simp only [List.cons_append, List.nil_append, List.append_nil])) | ((with_reducible apply w_aug); exact rfl) | ((with_reducible apply cel_of); (first | assumption | exact aset_same)) | ((with_reducible apply ceo_of); (first | assumption | exact aset_same)) | ((with_reducible apply tlG_r); (first | assumption | exact aset_same)) | ((with_reducible apply fr_of); (first | assumption | exact aset_same)) | ((with_reducible apply fd_cons); exact trivial) | ((with_reducible apply fd_nil); exact trivial) | ((with_reducible apply oq_isiB (b := true)); exact rfl) | ((with_reducible apply oq_isiB (b := false)); exact rfl) | ((with_reducible apply w_xi); exact rfl; exact decide_eq_true rfl; exact if_pos rfl)))
local macro_rules | `(tactic| array_mem_dec) => `(tactic| (with_reducible first | refine pr2_of ?_ | refine oq_and255 ?_ | refine vw_il ?_ | refine len_il ?_ | refine list_il ?_ | refine ne_il ?_ | refine eq_il ?_ | refine tl_il ?_))
local macro_rules | `(tactic| array_mem_dec) => `(tactic| (with_reducible first | refine tb_b ?_ | refine ti_b ?_ | refine ts_b ?_ | refine we_nx ?_ | refine we_rt ?_ | refine we_ex ?_ | refine wn_nx ?_ | refine wn_rt ?_ | refine wn_bk ?_ | refine wn_ct ?_ | refine wn_ex ?_ | refine wl_nx ?_ | refine wl_rt ?_ | refine wl_bk ?_ | refine wl_ct ?_ | refine wl_ex ?_ | refine wx_nx ?_ | refine wx_rt ?_ | refine wx_bk ?_ | refine wx_ct ?_ | refine wx_ex ?_ | refine wh_nx ?_ | refine wh_rt ?_ | refine wh_bk ?_ | refine wh_ct ?_ | refine it2_t ?_ | refine it2_f ?_ | refine it2_not ?_ | refine tlG_l ?_ | refine ttG_t ?_))
local macro_rules | `(tactic| array_mem_dec) => `(tactic| ((with_reducible refine oq_id ?_); (first | (first | ((with_reducible apply oq_eq_iT); decide +kernel) | ((with_reducible apply oq_eq_iF); decide +kernel)) | (with_reducible first | refine vw_i ?_ | refine vw_s ?_ | refine vw_b ?_ | refine vw_n ?_ | refine vw_l ?_ | refine vw_t ?_ | refine vw_sc ?_ | refine vw_o ?_ | refine mv_nil ?_ | refine mv_cons ?_ | refine oq_tgNil ?_ | refine oq_tgCons ?_ | refine oq_add_i ?_ | refine oq_sub ?_ | refine oq_lt ?_ | refine oq_le ?_ | refine oq_gt ?_ | refine oq_ge ?_ | refine oq_eq_i ?_ | refine oq_ne_i ?_ | refine oq_eq_s ?_ | refine oq_ne_s ?_ | refine oq_eq_b ?_ | refine oq_ne_b ?_ | refine oq_is ?_ | refine oq_isNot ?_ | refine oq_in_s ?_ | refine oq_notIn_s ?_ | refine oq_len_l ?_ | refine oq_len_t ?_ | refine oq_int ?_ | refine oq_abs ?_ | refine oq_ord ?_ | refine oq_cut_l ?_ | refine oq_cut_t ?_ | refine oq_list_l ?_ | refine oq_list_t ?_ | refine oq_tuple_l ?_ | refine oq_tuple_t ?_ | refine oq_max2 ?_ | refine oq_min2 ?_ | refine oq_some ?_ | refine oq_len_sc ?_ | refine oq_eq_il ?_ | refine oq_ne_il ?_ | refine oq_eq_it ?_ | refine oq_ne_it ?_ | refine oq_lt_il ?_ | refine oq_lt_it ?_ | refine oq_iadd_i ?_ | refine oq_isT ?_ | refine oq_isNotT ?_) | (first | ((with_reducible apply oq_tgTup); exact rfl) | ((with_reducible apply oq_ix_lk); exact rfl) | ((with_reducible apply oq_ix_tk); exact rfl) | ((with_reducible apply vw_r); (first | assumption | exact aset_same)) | ((with_reducible apply oq_ixN_k); exact rfl; (try simp only [List.set, Int.reduceToNat])) | ((with_reducible apply oq_mod); (first | omega | decide)) | ((with_reducible apply oq_div); (first | omega | decide)) | ((with_reducible apply oq_mul); (first | omega | decide)) | ((with_reducible apply oq_pow); (first | omega | decide)) | ((with_reducible apply oq_shl); (first | omega | decide)) | ((with_reducible apply oq_shr); (first | omega | decide)) | ((with_reducible apply oq_add_s); (first | omega | decide))) | (first | ((with_reducible apply oq_len_s); (first | omega | decide)) | ((with_reducible apply oq_cut_s); (first | omega | decide)) | ((with_reducible apply oq_append); (first | omega | decide)) | ((with_reducible apply oq_insert); (first | omega | decide)) | ((with_reducible apply oq_rep); (first | omega | decide)) | ((with_reducible apply oq_cat); (first | omega | decide))))))
local macro_rules | `(tactic| array_mem_dec) => `(tactic| (with_reducible first | refine w_list ?_ | refine w_tuple ?_ | refine w_str ?_ | refine w_range1 ?_ | refine w_range2 ?_ | refine w_range3 ?_ | refine w_next ?_ | refine w_break ?_ | refine w_cont ?_ | refine w_drop ?_ | refine w_ret ?_ | refine w_retN ?_ | refine w_if ?_ | refine w_asg ?_ | refine w_raise ?_ | refine w_fld ?_ | refine w_seta ?_ | refine w_auga ?_ | refine w_seti ?_ | refine w_mut ?_ | refine w_frz ?_ | refine w_new ?_ | refine w_ext ?_ | refine w_for ?_ | refine w_lc ?_ | refine w_tryA ?_ | refine w_try ?_ | refine w_par ?_))
local macro_rules | `(tactic| array_mem_dec) => `(tactic| (first | ((with_reducible apply w_kV); exact rfl) | (with_reducible first | refine w_kC ?_ | refine w_bop ?_ | refine w_tst ?_ | refine w_val ?_ | refine w_and ?_ | refine w_or ?_ | refine w_not ?_ | refine w_andV ?_ | refine w_orV ?_ | refine w_chain ?_ | refine w_ifK ?_ | refine w_nil ?_ | refine w_cons ?_ | refine w_tup ?_ | refine w_lst ?_ | refine w_call ?_ | refine w_neg ?_ | refine w_b1 ?_ | refine w_bn ?_ | refine w_isi ?_ | refine w_met ?_ | refine w_pnone ?_ | refine w_psome ?_ | refine w_cut ?_ | refine w_yes ?_)))
local macro_rules | `(tactic| array_get_dec) => `(tactic| (with_reducible refine w_seqB ?_))
local macro_rules | `(tactic| array_get_dec) => `(tactic| array_mem_dec)
local macro_rules | `(tactic| decreasing_trivial_pre_omega) => `(tactic| (with_reducible refine w_seq ?_))
local macro_rules | `(tactic| decreasing_trivial_pre_omega) => `(tactic| array_mem_dec)
local macro_rules | `(tactic| sizeOf_list_dec) => `(tactic| (try simp only [List.set, Int.reduceToNat, List.map_cons, List.map_nil, Nat.reduceSub, List.reduceReplicate, List.cons_append, List.nil_append, wipeA, aset_aset, List.getElem?_cons_zero, List.getElem?_cons_succ]))
variable {CE CR CF CB CI gX : Nat} {α : AH} {Q : QD} {E : QX}
theorem ck_bd : ∀ (l : List Int) (a b : Int), 0 ≤ a ∧ a < 256 → 0 ≤ b ∧ b < 256 → (0 ≤ (ck a b l).1 ∧ (ck a b l).1 < 256) ∧ 0 ≤ (ck a b l).2 ∧ (ck a b l).2 < 256
  | [], a, b, h, k => ⟨h, k⟩
  | x :: l, a, b, h, k => ck_bd l _ _ (by omega) (by omega)
theorem byt_chk {l : List Int} : byt (chk l) := by
  obtain ⟨h1, h2⟩ := ck_bd l 1 0 (by decide) (by decide)
  exact byt_cons h1 (byt_one h2)
theorem byt_wide {n : Int} {w : Nat} : byt (wide n w) := fun d hd => by
  obtain ⟨k, _, rfl⟩ := List.mem_map.mp hd
  omega
theorem byt_sld {b : List Int} (h : byt b) : byt (sld b) := byt_app (byt_app byt_wide h) byt_chk
theorem TW.byt {t : TB} {b : List Int} (h : TW t b) : K21.byt b := by
  cases h with
  | own hk k n1 n2 => exact byt_cons (by omega) (byt_en k ⟨n1, n2⟩)
  | peer d1 d2 k n1 n2 => exact byt_cons (by decide) (byt_cons (by omega) (byt_en k ⟨n1, n2⟩))
  | upto d1 d2 n1 n2 => exact byt_cons (by decide) (byt_cons (by omega) (byt_four ⟨n1, n2⟩))
theorem byt_fz {zs : List ZB} (h : ∀ z ∈ zs, TW z.1 z.2) : byt (fz zs) := fun d hd => by
  obtain ⟨z, hz, hd⟩ := List.mem_flatMap.mp hd
  exact byt_sld (h z hz).byt d hd
theorem eqo_tb {t : TB} {b : List Int} (h : TW t b) : EqO CE (f_Entry_eq CE CR CF CB CI gX) 1 (tbD (efD CE) t) (tbD (efD CE) t) := by
  have hi : ∀ i : Int, EqO CE (f_Entry_eq CE CR CF CB CI gX) 0 (.int i) (.int i) := fun i => .inl ⟨rfl, rfl⟩
  have ho : ∀ x : EF, (∀ c ∈ x.nm, c ∈ CHS) → EqO CE (f_Entry_eq CE CR CF CB CI gX) 0 (efD CE x) (efD CE x) := fun x hx => by
    have e : isOb CE (efD CE x) = true := by
      unfold efD enD oD isOb
      exact decide_eq_true rfl
    exact .inr ⟨e, e, eq_ef hx rfl⟩
  refine .inr (.inr ⟨_, _, rfl, rfl, .cons (hi _) (.cons (hi _) (.cons ?_ (.cons (hi _) .nil)))⟩)
  cases h with
  | own _ k _ _ => exact ho _ k.nm.2
  | peer _ _ k _ _ => exact ho _ k.nm.2
  | upto _ _ _ _ => exact .inl ⟨rfl, rfl⟩
theorem law_true (CE CR CF CB CI gX : Nat) (nx : CB ≠ CI) (ns : List Int) (hns : ns.length ≤ 63) : f_law CE CR CF CB CI gX [scriptD ns] (fun _ => none) (fun d _ => d = .bool true) (fun _ _ => False) := by
  unfold f_law m_law
  refine w_runF rfl ?_
  sizeOf_list_dec
  generalize (fun _ => none : AH) = α0
  (repeat' array_get_dec)
  intro p hp
  (repeat' array_get_dec)
  try refine bar_of ?_
  sizeOf_list_dec
  have D1 : DrAt p (aset α0 p (.list [.int 0, .int 0])) := ⟨0, 0, aset_same⟩
  generalize aset α0 p (.list [.int 0, .int 0]) = α1 at *
  (repeat' array_get_dec)
  (repeat ((with_reducible refine bar_of ?_); sizeOf_list_dec; (repeat' array_get_dec)))
  intro e he
  (repeat' array_get_dec)
  try refine bar_of ?_
  sizeOf_list_dec
  have hpe := D1.ne he
  have D2 := D1.new (d := .list [.int 0]) he
  have E2 : (aset α1 e (.list [.int 0])) e = some (.list [.int 0]) := aset_same
  generalize aset α1 e (.list [.int 0]) = α2 at *
  (repeat' array_get_dec)
  intro g hg
  (repeat' array_get_dec)
  try refine bar_of ?_
  sizeOf_list_dec
  have hpg := D2.ne hg
  have heg : e ≠ g := fun z => by rw [z, hg] at E2; cases E2
  have D3 := D2.new (d := .list []) hg
  have E3 : (aset α2 g (.list [])) e = some (.list [.int 0]) := by rw [aset_ne heg]; exact E2
  have G3 : (aset α2 g (.list [])) g = some (.list []) := aset_same
  generalize aset α2 g (.list []) = α3 at *
  (repeat' array_get_dec)
  refine dr_go D3 (by decide) fun n α4 n1 n2 D4 B4 => ?_
  have E4 := (B4 e (Ne.symm hpe)).trans E3
  have G4 := (B4 g (Ne.symm hpg)).trans G3
  (repeat' array_get_dec)
  refine for_nums (fun k ρ α' => ∃ (zs : List ZB) (x5 x9 x10 : Option D), ρ = [some (scriptD ns), some (dref p), some (ilD (fz zs)), some (dref e), some (dref g), x5, none, none, none, x9, x10, none] ∧ zs.length ≤ k ∧ (fz zs).length ≤ 1606 * k ∧ (∀ z ∈ zs, TW z.1 z.2) ∧ DrAt p α' ∧ α' e = some (ilD (enl zs)) ∧ α' g = some (.list (zs.map fun z => tbD (efD CE) z.1))) ⟨[], none, none, none, rfl, Nat.le_refl _, Nat.le_refl _, (fun _ h => nomatch h), D4, E4, G4⟩ ?_ ?_
  rotate_left
  · rintro k hk ρ α5 ⟨zs, x5, x9, x10, rfl, hz, hzl, hm, D5, E5, G5⟩ X hX
    have hk6 : k < 6 := by omega
    sizeOf_list_dec
    (repeat' array_get_dec)
    refine told_dr D5 fun t b α6 ht D6 B6 => ?_
    have E6 := (B6 e (Ne.symm hpe)).trans E5
    have G6 := (B6 g (Ne.symm hpg)).trans G5
    have hl := ht.len
    have hs := sld_len (b := b)
    (repeat' array_get_dec)
    (repeat ((with_reducible refine bar_of ?_); sizeOf_list_dec; (repeat' array_get_dec)))
    refine made_go ht ?_
    (repeat' array_get_dec)
    (repeat ((with_reducible refine bar_of ?_); sizeOf_list_dec; (repeat' array_get_dec)))
    refine lrec_go ht ?_
    (repeat' array_get_dec)
    (all_goals try (rename_i hx; exfalso; simp at hx; done))
    (repeat ((with_reducible refine bar_of ?_); sizeOf_list_dec; (repeat' array_get_dec)))
    refine add_il (by omega) ?_
    (repeat' array_get_dec)
    (all_goals try (rename_i hx; exfalso; simp at hx; done))
    (repeat ((with_reducible refine bar_of ?_); sizeOf_list_dec; (repeat' array_get_dec)))
    have hel : (enl zs).length ≤ 7 := by unfold enl; rw [List.length_map, List.length_range]; omega
    refine oq_append (by rw [List.length_map]; omega) ?_
    have hc1 : PyData.list ((enl zs).map PyData.int ++ [PyData.int ((fz zs ++ sld b).length : Nat)]) = ilD (enl (zs ++ [(t, b)])) := by
      rw [enl_app]
      unfold ilD
      rw [List.map_append]
      rfl
    (repeat' array_get_dec)
    rw [hc1]
    have E8 : (aset α6 e (ilD (enl (zs ++ [(t, b)])))) e = some (ilD (enl (zs ++ [(t, b)]))) := aset_same
    have G8 : (aset α6 e (ilD (enl (zs ++ [(t, b)])))) g = some (.list (zs.map fun z => tbD (efD CE) z.1)) := by rw [aset_ne (Ne.symm heg)]; exact G6
    have D8 := D6.cong (aset_ne (α := α6) (c := ilD (enl (zs ++ [(t, b)]))) hpe)
    generalize aset α6 e (ilD (enl (zs ++ [(t, b)]))) = α8 at *
    (repeat ((with_reducible refine bar_of ?_); sizeOf_list_dec; (repeat' array_get_dec)))
    refine oq_append (by rw [List.length_map]; omega) ?_
    (repeat' array_get_dec)
    have hfz : fz (zs ++ [(t, b)]) = fz zs ++ sld b := by
      rw [fz_app]
      congr 1
      exact List.flatMap_singleton _ _
    refine hX _ _ ⟨zs ++ [(t, b)], _, _, _, by rw [hfz], by rw [List.length_append]; show zs.length + 1 ≤ k + 1; omega, by rw [hfz, List.length_append]; omega, fun z hz => ?_, D8.cong (aset_ne hpg), by rw [aset_ne heg]; exact E8, by rw [List.map_append]; exact aset_same⟩
    rcases List.mem_append.mp hz with hz | hz
    · exact hm z hz
    · rw [List.mem_singleton.mp hz]
      exact ht
  · rintro ρ α5 ⟨zs, x5, x9, x10, rfl, hz, hzl, hm, D5, E5, G5⟩
    have hl6 : (fz zs).length ≤ 1606 * 6 := by omega
    clear E4 G4 D4 B4 E3 G3 D3 E2 D2 he hg D1 hp
    (repeat' array_get_dec)
    (repeat ((with_reducible refine bar_of ?_); sizeOf_list_dec; (repeat' array_get_dec)))
    refine dr_go D5 (by omega) fun y α6 g1 g2 D6 B6 => ?_
    have E6 := (B6 e (Ne.symm hpe)).trans E5
    have G6 := (B6 g (Ne.symm hpg)).trans G5
    obtain ⟨y, rfl⟩ := Int.eq_ofNat_of_zero_le g1
    (repeat' array_get_dec)
    refine dr_go D6 (by decide) fun k α7 g3 g4 D7 B7 => ?_
    have E7 := (B7 e (Ne.symm hpe)).trans E6
    have G7 := (B7 g (Ne.symm hpg)).trans G6
    (repeat' array_get_dec)
    have hst : ∃ m : Nat, m ≤ (fz zs).length ∧ ((k = 0 ∧ m = (fz zs).length) ∨ (k = 1 ∧ m = y)) := by
      have : k = 0 ∨ k = 1 := by omega
      rcases this with rfl | rfl
      · exact ⟨_, Nat.le_refl _, .inl ⟨rfl, rfl⟩⟩
      · exact ⟨y, by omega, .inr ⟨rfl, rfl⟩⟩
    obtain ⟨m, hml, hm2⟩ := hst
    refine ⟨.int (m : Nat), ?_, ?_⟩
    · rcases hm2 with ⟨rfl, rfl⟩ | ⟨rfl, rfl⟩ <;> rfl
    clear hm2 g1 g2 g3 g4 k y
    obtain ⟨w, w1, w2, w3, w4⟩ := cntw (f := pos zs) (m := m) (pos_mono zs) (by unfold pos; exact Nat.zero_le _) zs.length
    (repeat' array_get_dec)
    (repeat ((with_reducible refine bar_of ?_); sizeOf_list_dec; (repeat' array_get_dec)))
    refine lc_fm (List.range (zs.length + 1)) (fun j => .int (pos zs j : Nat)) (fun j => decide ((pos zs j : Int) ≤ (m : Int))) (fun j => .int (pos zs j : Nat)) (by unfold enl; rw [List.map_map]; rfl) (by rw [List.length_range]; omega) E7 (fun j hj => ?_) ?_
    · refine ⟨_, rfl, fun R hR => ?_, fun _ R hR => ?_⟩
      · sizeOf_list_dec
        (repeat' array_get_dec)
        exact hR
      · sizeOf_list_dec
        (repeat' array_get_dec)
        exact hR
    have hfl : ((List.range (zs.length + 1)).filter fun j => decide ((pos zs j : Int) ≤ (m : Int))).length = w + 1 := by
      rw [← w4]
      congr 2
      funext j
      exact decide_eq_decide.mpr Int.ofNat_le
    (repeat' array_get_dec)
    rw [List.length_map, hfl]
    (repeat' array_get_dec)
    (repeat ((with_reducible refine bar_of ?_); sizeOf_list_dec; (repeat' array_get_dec)))
    have hL := Lg_cut hm hml w1 w2 w3
    have hbz := byt_fz hm
    have htl : ((fz zs).take m).length ≤ 90000 := by rw [List.length_take]; omega
    refine cutt_il (Int.natCast_nonneg _) ?_
    rw [Int.toNat_natCast]
    (repeat' array_get_dec)
    (repeat ((with_reducible refine bar_of ?_); sizeOf_list_dec; (repeat' array_get_dec)))
    refine rlog_go nx (fun d hd => hbz d (List.mem_of_mem_take hd)) htl ?_
    rw [hL]
    (repeat' array_get_dec)
    (repeat ((with_reducible refine bar_of ?_); sizeOf_list_dec; (repeat' array_get_dec)))
    have hel : (enl zs).length = zs.length + 1 := by unfold enl; rw [List.length_map, List.length_range]
    have hew : byt1 (enl zs) w = (pos zs w : Nat) := by
      unfold byt1 enl
      rw [List.getD_eq_getElem?_getD, List.getElem?_eq_getElem (by rw [List.length_map, List.length_range]; omega), List.getElem_map, List.getElem_range]
      rfl
    refine ix_il (a := w) (by omega) (by omega) ?_
    rw [hew]
    (repeat' array_get_dec)
    (repeat ((with_reducible refine bar_of ?_); sizeOf_list_dec; (repeat' array_get_dec)))
    refine cutt_il (Int.natCast_nonneg _) ?_
    rw [Int.toNat_natCast]
    (repeat' array_get_dec)
    (all_goals try (rename_i hx; exfalso; simp at hx; done))
    (repeat ((with_reducible refine bar_of ?_); sizeOf_list_dec; (repeat' array_get_dec)))
    refine lc_map (zs.take w) (fun z => tbD (efD CE) z.1) (fun z => tbD (efD CE) z.1) (by rw [List.map_map]; rfl) (by rw [List.length_take]; omega) (by exact trivial) (fun z hz => ?_) ?_
    · refine ⟨_, rfl, fun R hR => ?_⟩
      sizeOf_list_dec
      (repeat' array_get_dec)
      exact ⟨_, rfl, _, rfl, hR⟩
    · (repeat' array_get_dec)
      have hcut : cutD (zs.map fun z => tbD (efD CE) z.1) none (some (((w + 1 : Nat) : Int) - 1)) = (zs.take w).map fun z => tbD (efD CE) z.1 := by
        rw [show ((w + 1 : Nat) : Int) - 1 = (w : Nat) by omega]
        unfold cutD
        rw [HT.sIx_nat, HT.sIx_none, List.drop_zero, Nat.sub_zero, List.map_take, List.take_eq_take_iff]
        simp only [List.length_map]
        omega
      rw [hcut]
      refine oq_eqQ (All2.map fun z hz => eqo_tb (hm z (List.mem_of_mem_take hz))) ?_
      (repeat' array_get_dec)
      refine lc_map (zs.take w) (fun z => tbD (efD CE) z.1) (fun _ => .bool true) (by rw [List.map_map]; rfl) (by rw [List.length_take]; omega) (by exact trivial) (fun z hz => ?_) ?_
      · refine ⟨_, rfl, fun R hR => ?_⟩
        sizeOf_list_dec
        (repeat' array_get_dec)
        exact ⟨_, rfl, _, rfl, hR⟩
      · (repeat' array_get_dec)
        refine oq_all (f := fun _ => true) ?_
        rw [List.all_eq_true.mpr fun _ _ => rfl]
        rfl
end K21
open PySem PySem.W PyProof.Rows in
set_option maxRecDepth 100000 in
set_option maxHeartbeats 0 in
theorem PySem.Challenge.cw_folderkin_k21_records_and_cut_logs_holds : PySem.Challenge.rw_folderkin_k21_records_and_cut_logs.Holds := by
  w_on; o_law; k_head; (case hw => w_witness2)
  k_fill
  refine Hz.walk_law (l := PySem.Challenge.rw_folderkin_k21_records_and_cut_logs) (k := 9) (x := "_law_script") rfl rfl ⟨rfl, by decide, by decide⟩ (fun w h Y => PySem.W.kIn_of Y) ?F
  case F =>
    intro w mg fa h KX G hmg
    refine' K21.all_mk KX G hmg ?aC_Entry ?aC_Reader ?aC_FolderkinError ?aC_InvalidBlock ?aC_InvalidBytes ?a0 ?l0 ?c0 ?k0 ?a1 ?l1 ?c1 ?k1 ?a2 ?l2 ?c2 ?k2 ?a3 ?l3 ?c3 ?k3 ?a4 ?i4 ?l4 ?c4 ?k4 ?a5 ?i5 ?l5 ?c5 ?k5 ?a6 ?i6 ?l6 ?c6 ?k6 ?a7 ?l7 ?c7 ?k7 ?a8 ?l8 ?c8 ?k8 ?a9 ?l9 ?c9 ?k9 ?a10 ?l10 ?c10 ?k10 ?a11 ?l11 ?c11 ?k11 ?a12 ?l12 ?c12 ?k12 ?a13 ?i13 ?l13 ?c13 ?k13 ?t13 ?a14 ?i14 ?l14 ?c14 ?k14 ?t14 ?a15 ?i15 ?l15 ?c15 ?k15 ?t15 ?a16 ?i16 ?l16 ?c16 ?k16 ?a17 ?i17 ?l17 ?c17 ?k17 ?a18 ?i18 ?l18 ?c18 ?k18 ?a19 ?i19 ?l19 ?c19 ?k19 ?t19 ?a20 ?i20 ?l20 ?c20 ?k20 ?t20 ?a21 ?i21 ?l21 ?c21 ?k21 ?a22 ?l22 ?c22 ?k22 ?a23 ?l23 ?c23 ?k23 ?a24 ?l24 ?c24 ?k24 ?a25 ?l25 ?c25 ?k25 ?a26 ?l26 ?c26 ?k26 ?a27 ?l27 ?c27 ?k27 ?a28 ?l28 ?c28 ?k28 ?a29 ?l29 ?c29 ?k29 ?a30 ?l30 ?c30 ?k30 ?a31 ?l31 ?c31 ?k31 ?a32 ?l32 ?c32 ?k32 ?a33 ?l33 ?c33 ?k33 ?a34 ?l34 ?c34 ?k34 ?a35 ?l35 ?c35 ?k35 ?a36 ?l36 ?c36 ?k36 ?a37 ?l37 ?c37 ?k37 ?a38 ?l38 ?c38 ?k38 ?a39 ?l39 ?c39 ?k39 ?a40 ?l40 ?c40 ?k40 ?a41 ?l41 ?c41 ?k41 ?a42 ?l42 ?c42 ?k42 ?a43 ?l43 ?c43 ?k43 ?pg_Entry ?hd_Entry ?po_Entry ?sa_Entry ?mk_Entry ?kc_Entry ?cha_Entry ?chn_Entry ?cht_Entry ?chm_Entry ?cic_Entry ?cty_Entry ?nNoneType_Entry ?nbool_Entry ?nint_Entry ?nstr_Entry ?nlist_Entry ?ntuple_Entry ?na_name_Entry ?na_vector_Entry ?na_height_Entry ?na_maker_Entry ?na_deleted_Entry ?na_time_Entry ?na_blocks_Entry ?pg_Reader ?hd_Reader ?po_Reader ?sa_Reader ?mk_Reader ?kc_Reader ?cha_Reader ?chn_Reader ?cht_Reader ?chm_Reader ?cic_Reader ?cty_Reader ?nNoneType_Reader ?nbool_Reader ?nint_Reader ?nstr_Reader ?nlist_Reader ?ntuple_Reader ?na_data_Reader ?na_at_Reader ?lX ?cX ?oX ?vX ?fX ?ceX ?dX ?kX ?tX ?tpX ?topX ?suX ?e0_FolderkinError ?ez_FolderkinError ?e1_FolderkinError ?e2_FolderkinError ?e3_FolderkinError ?e4_FolderkinError ?e5_FolderkinError ?e6_FolderkinError ?e7_FolderkinError ?e8_FolderkinError ?e9_FolderkinError ?ea_FolderkinError ?eb_FolderkinError ?ec_FolderkinError ?ed_FolderkinError ?ee_FolderkinError ?ef_FolderkinError ?eg_FolderkinError ?eh_FolderkinError ?e0_InvalidBlock ?ez_InvalidBlock ?e1_InvalidBlock ?e2_InvalidBlock ?e3_InvalidBlock ?e4_InvalidBlock ?e5_InvalidBlock ?e6_InvalidBlock ?e7_InvalidBlock ?e8_InvalidBlock ?e9_InvalidBlock ?ea_InvalidBlock ?eb_InvalidBlock ?ec_InvalidBlock ?ed_InvalidBlock ?ee_InvalidBlock ?ef_InvalidBlock ?eg_InvalidBlock ?eh_InvalidBlock ?e0_InvalidBytes ?ez_InvalidBytes ?e1_InvalidBytes ?e2_InvalidBytes ?e3_InvalidBytes ?e4_InvalidBytes ?e5_InvalidBytes ?e6_InvalidBytes ?e7_InvalidBytes ?e8_InvalidBytes ?e9_InvalidBytes ?ea_InvalidBytes ?eb_InvalidBytes ?ec_InvalidBytes ?ed_InvalidBytes ?ee_InvalidBytes ?ef_InvalidBytes ?eg_InvalidBytes ?eh_InvalidBytes ?es_InvalidBlock_InvalidBytes ?es_InvalidBytes_InvalidBytes ?z_all ?z_int ?z_isinstance ?z_len ?z_list ?z_ord ?z_range ?z_tuple ?y_INTENT ?y_BLOCK ?y_PEER ?y_OWN ?y_UPTO ?y_MOST_BLOCKS ?y_MOST_DEVICE ?y_MOST_NAME ?y_FIRST_CODE ?y_TABLE ?y_CHARACTERS K21.law_true
    (case aC_Entry => k_is)
    (case aC_Reader => k_is)
    (case aC_FolderkinError => k_is)
    (case aC_InvalidBlock => k_is)
    (case aC_InvalidBytes => k_is)
    (case ea_FolderkinError => k_is)
    (case ea_InvalidBlock => k_is)
    (case ea_InvalidBytes => k_is)
    (case a0 => k_is)
    (case l0 => k_is)
    (case c0 => k_is)
    (case k0 => k_is)
    (case a1 => k_is)
    (case l1 => k_is)
    (case c1 => k_is)
    (case k1 => k_is)
    (case a2 => k_is)
    (case l2 => k_is)
    (case c2 => k_is)
    (case k2 => k_is)
    (case a3 => k_is)
    (case l3 => k_is)
    (case c3 => k_is)
    (case k3 => k_is)
    (case a4 => k_is)
    (case i4 => k_is)
    (case l4 => k_is)
    (case c4 => k_is)
    (case k4 => k_is)
    (case a5 => k_is)
    (case i5 => k_is)
    (case l5 => k_is)
    (case c5 => k_is)
    (case k5 => k_is)
    (case a6 => k_is)
    (case i6 => k_is)
    (case l6 => k_is)
    (case c6 => k_is)
    (case k6 => k_is)
    (case a7 => k_is)
    (case l7 => k_is)
    (case c7 => k_is)
    (case k7 => k_is)
    (case a8 => k_is)
    (case l8 => k_is)
    (case c8 => k_is)
    (case k8 => k_is)
    (case a9 => k_is)
    (case l9 => k_is)
    (case c9 => k_is)
    (case k9 => k_is)
    (case a10 => k_is)
    (case l10 => k_is)
    (case c10 => k_is)
    (case k10 => k_is)
    (case a11 => k_is)
    (case l11 => k_is)
    (case c11 => k_is)
    (case k11 => k_is)
    (case a12 => k_is)
    (case l12 => k_is)
    (case c12 => k_is)
    (case k12 => k_is)
    (case a13 => k_is)
    (case i13 => k_is)
    (case l13 => k_is)
    (case c13 => k_is)
    (case k13 => k_is)
    (case t13 => k_is)
    (case a14 => k_is)
    (case i14 => k_is)
    (case l14 => k_is)
    (case c14 => k_is)
    (case k14 => k_is)
    (case t14 => k_is)
    (case a15 => k_is)
    (case i15 => k_is)
    (case l15 => k_is)
    (case c15 => k_is)
    (case k15 => k_is)
    (case t15 => k_is)
    (case a16 => k_is)
    (case i16 => k_is)
    (case l16 => k_is)
    (case c16 => k_is)
    (case k16 => k_is)
    (case a17 => k_is)
    (case i17 => k_is)
    (case l17 => k_is)
    (case c17 => k_is)
    (case k17 => k_is)
    (case a18 => k_is)
    (case i18 => k_is)
    (case l18 => k_is)
    (case c18 => k_is)
    (case k18 => k_is)
    (case a19 => k_is)
    (case i19 => k_is)
    (case l19 => k_is)
    (case c19 => k_is)
    (case k19 => k_is)
    (case t19 => k_is)
    (case a20 => k_is)
    (case i20 => k_is)
    (case l20 => k_is)
    (case c20 => k_is)
    (case k20 => k_is)
    (case t20 => k_is)
    (case a21 => k_is)
    (case i21 => k_is)
    (case l21 => k_is)
    (case c21 => k_is)
    (case k21 => k_is)
    (case a22 => k_is)
    (case l22 => k_is)
    (case c22 => k_is)
    (case k22 => k_is)
    (case a23 => k_is)
    (case l23 => k_is)
    (case c23 => k_is)
    (case k23 => k_is)
    (case a24 => k_is)
    (case l24 => k_is)
    (case c24 => k_is)
    (case k24 => k_is)
    (case a25 => k_is)
    (case l25 => k_is)
    (case c25 => k_is)
    (case k25 => k_is)
    (case a26 => k_is)
    (case l26 => k_is)
    (case c26 => k_is)
    (case k26 => k_is)
    (case a27 => k_is)
    (case l27 => k_is)
    (case c27 => k_is)
    (case k27 => k_is)
    (case a28 => k_is)
    (case l28 => k_is)
    (case c28 => k_is)
    (case k28 => k_is)
    (case a29 => k_is)
    (case l29 => k_is)
    (case c29 => k_is)
    (case k29 => k_is)
    (case a30 => k_is)
    (case l30 => k_is)
    (case c30 => k_is)
    (case k30 => k_is)
    (case a31 => k_is)
    (case l31 => k_is)
    (case c31 => k_is)
    (case k31 => k_is)
    (case a32 => k_is)
    (case l32 => k_is)
    (case c32 => k_is)
    (case k32 => k_is)
    (case a33 => k_is)
    (case l33 => k_is)
    (case c33 => k_is)
    (case k33 => k_is)
    (case a34 => k_is)
    (case l34 => k_is)
    (case c34 => k_is)
    (case k34 => k_is)
    (case a35 => k_is)
    (case l35 => k_is)
    (case c35 => k_is)
    (case k35 => k_is)
    (case a36 => k_is)
    (case l36 => k_is)
    (case c36 => k_is)
    (case k36 => k_is)
    (case a37 => k_is)
    (case l37 => k_is)
    (case c37 => k_is)
    (case k37 => k_is)
    (case a38 => k_is)
    (case l38 => k_is)
    (case c38 => k_is)
    (case k38 => k_is)
    (case a39 => k_is)
    (case l39 => k_is)
    (case c39 => k_is)
    (case k39 => k_is)
    (case a40 => k_is)
    (case l40 => k_is)
    (case c40 => k_is)
    (case k40 => k_is)
    (case a41 => k_is)
    (case l41 => k_is)
    (case c41 => k_is)
    (case k41 => k_is)
    (case a42 => k_is)
    (case l42 => k_is)
    (case c42 => k_is)
    (case k42 => k_is)
    (case a43 => k_is)
    (case l43 => k_is)
    (case c43 => k_is)
    (case k43 => k_is)
    (case pg_Entry => k_is)
    (case hd_Entry => k_is)
    (case po_Entry => k_is)
    (case sa_Entry => k_is)
    (case mk_Entry => k_is)
    (case kc_Entry => k_is)
    (case cha_Entry => k_is)
    (case chn_Entry => k_is)
    (case cht_Entry => k_is)
    (case chm_Entry => k_is)
    (case cic_Entry => k_is)
    (case cty_Entry => k_is)
    (case nNoneType_Entry => k_is)
    (case nbool_Entry => k_is)
    (case nint_Entry => k_is)
    (case nstr_Entry => k_is)
    (case nlist_Entry => k_is)
    (case ntuple_Entry => k_is)
    (case na_name_Entry => k_is)
    (case na_vector_Entry => k_is)
    (case na_height_Entry => k_is)
    (case na_maker_Entry => k_is)
    (case na_deleted_Entry => k_is)
    (case na_time_Entry => k_is)
    (case na_blocks_Entry => k_is)
    (case pg_Reader => k_is)
    (case hd_Reader => k_is)
    (case po_Reader => k_is)
    (case sa_Reader => k_is)
    (case mk_Reader => k_is)
    (case kc_Reader => k_is)
    (case cha_Reader => k_is)
    (case chn_Reader => k_is)
    (case cht_Reader => k_is)
    (case chm_Reader => k_is)
    (case cic_Reader => k_is)
    (case cty_Reader => k_is)
    (case nNoneType_Reader => k_is)
    (case nbool_Reader => k_is)
    (case nint_Reader => k_is)
    (case nstr_Reader => k_is)
    (case nlist_Reader => k_is)
    (case ntuple_Reader => k_is)
    (case na_data_Reader => k_is)
    (case na_at_Reader => k_is)
    (case lX => k_is)
    (case cX => k_is)
    (case oX => k_is)
    (case vX => rfl)
    (case fX => decide +kernel)
    (case ceX => k_is)
    (case dX => k_is)
    (case kX => k_is)
    (case tX => k_is)
    (case tpX => k_is)
    (case topX => decide +kernel)
    (case suX => k_is)
    (case e0_FolderkinError => k_is)
    (case ez_FolderkinError => rfl)
    (case e1_FolderkinError => k_is)
    (case e2_FolderkinError => k_is)
    (case e3_FolderkinError => k_is)
    (case e4_FolderkinError => k_is)
    (case e5_FolderkinError => k_is)
    (case e6_FolderkinError => k_is)
    (case e7_FolderkinError => ks_is)
    (case e8_FolderkinError => k_is)
    (case e9_FolderkinError => k_is)
    (case eb_FolderkinError => k_is)
    (case ec_FolderkinError => k_is)
    (case ed_FolderkinError => k_is)
    (case ee_FolderkinError => k_is)
    (case ef_FolderkinError => k_is)
    (case eg_FolderkinError => k_is)
    (case eh_FolderkinError => k_is)
    (case e0_InvalidBlock => k_is)
    (case ez_InvalidBlock => rfl)
    (case e1_InvalidBlock => k_is)
    (case e2_InvalidBlock => k_is)
    (case e3_InvalidBlock => k_is)
    (case e4_InvalidBlock => k_is)
    (case e5_InvalidBlock => k_is)
    (case e6_InvalidBlock => k_is)
    (case e7_InvalidBlock => ks_is)
    (case e8_InvalidBlock => k_is)
    (case e9_InvalidBlock => k_is)
    (case eb_InvalidBlock => k_is)
    (case ec_InvalidBlock => k_is)
    (case ed_InvalidBlock => k_is)
    (case ee_InvalidBlock => k_is)
    (case ef_InvalidBlock => k_is)
    (case eg_InvalidBlock => k_is)
    (case eh_InvalidBlock => k_is)
    (case e0_InvalidBytes => k_is)
    (case ez_InvalidBytes => rfl)
    (case e1_InvalidBytes => k_is)
    (case e2_InvalidBytes => k_is)
    (case e3_InvalidBytes => k_is)
    (case e4_InvalidBytes => k_is)
    (case e5_InvalidBytes => k_is)
    (case e6_InvalidBytes => k_is)
    (case e7_InvalidBytes => ks_is)
    (case e8_InvalidBytes => k_is)
    (case e9_InvalidBytes => k_is)
    (case eb_InvalidBytes => k_is)
    (case ec_InvalidBytes => k_is)
    (case ed_InvalidBytes => k_is)
    (case ee_InvalidBytes => k_is)
    (case ef_InvalidBytes => k_is)
    (case eg_InvalidBytes => k_is)
    (case eh_InvalidBytes => k_is)
    (case es_InvalidBlock_InvalidBytes => k_is)
    (case es_InvalidBytes_InvalidBytes => k_is)
    (case z_all => k_is)
    (case z_int => k_is)
    (case z_isinstance => k_is)
    (case z_len => k_is)
    (case z_list => k_is)
    (case z_ord => k_is)
    (case z_range => k_is)
    (case z_tuple => k_is)
    (case y_INTENT => k_is)
    (case y_BLOCK => k_is)
    (case y_PEER => k_is)
    (case y_OWN => k_is)
    (case y_UPTO => k_is)
    (case y_MOST_BLOCKS => k_is)
    (case y_MOST_DEVICE => k_is)
    (case y_MOST_NAME => k_is)
    (case y_FIRST_CODE => k_is)
    (case y_TABLE => k_is)
    (case y_CHARACTERS => k_is)
