import PyProof.Rows.All
import Wide.All
import OpenK.AllK
import Wide.FinOn
import HandS.ForMost
import HandS.ForExc
import HandS.CallSlots
import HandS.IsInst
import HandS.TupAny
import HandS.Deep
import HandS.Wide
import HandS.Zip
import KE.DataCmp
import HandS.OwnEq
import HandS.SlotsOwn
import HandS.Defaults
import HandS.ExcInit
import HandS.ExcSuper
import HandS.ExcField
import HandS.ExcIs
import KE.KSuper
import KE.KExcSuper
import HandS.TryOnly
import HandS.Iter
import HandS.More
import HandS.Replace
import HandS.StrMore
import PyProof.Rows.StrRev
import HandS.Style
import KE.DatumOrd
import PyProof.StrLawsFirst
import PyProof.StrLawsChain
import PyProof.Rows.StrDouble
import PyProof.StrOps2
import HandS.WordsDict
import HandS.DictEq
import HandS.WideBits
import KE.GoesComp
import KE.GoesRaise
import HandS.Strs
import HandS.Set
import HandS.SetFor
import PyProof.Rows.SortShellAny
import PySem.Challenge.RW_folderkin_k27_attics
import KE.RegKSuper
set_option Elab.async false
set_option linter.all false
set_option maxRecDepth 100000
set_option maxHeartbeats 4000000
namespace Hz
open PySem L2
abbrev D := PyData
abbrev Frag := PySem.W.Frag
/-- the heap without the addresses that B hides -/
def hide (B : Addr → Bool) (H : Hp) : Hp := fun a => if B a = true then none else H a
def Sub (H H' : Hp) : Prop := ∀ a o, H a = some o → H' a = some o
theorem Sub.refl (H : Hp) : Sub H H := fun _ _ h => h
theorem Sub.trans {H H1 H2 : Hp} (a : Sub H H1) (b : Sub H1 H2) : Sub H H2 := fun x o h => b x o (a x o h)
theorem hide_some {B : Addr → Bool} {H : Hp} {a : Addr} {o : HO} (h : hide B H a = some o) : B a = false ∧ H a = some o := by
  unfold hide at h
  split at h
  · cases h
  · rename_i q
    exact ⟨by simpa using q, h⟩
theorem hide_of {B : Addr → Bool} {H : Hp} {a : Addr} {o : HO} (b : B a = false) (h : H a = some o) : hide B H a = some o := by
  unfold hide
  rw [b]
  exact h
theorem hide_sub (B : Addr → Bool) (H : Hp) : Sub (hide B H) H := fun a o h => (hide_some h).2
theorem Sub.new {H : Hp} {p : Addr} {o : HO} (h : H p = none) : Sub H (upd H p o) := fun a u e => by
  rw [upd_ne (ne_of_none e h)]
  exact e
def kD : Key → D
  | .inl i => .int i
  | .inr x => .str x
/-- a tuple that begins with a pair of a whole number and something: its object is known -/
def needX : List D → Bool
  | .tuple [.int _, _] :: _ => true
  | _ => false
def ExT (o : Obj) : Prop := o.cls = .type "tuple" ∧ o.dict = none
def XT (H : Hp) (a : Addr) : Prop := ∃ (o : Obj) (u : HO), H a = some (.frz o u) ∧ ExT o
theorem XT.mono {H H' : Hp} {a : Addr} (e : Sub H H') (h : XT H a) : XT H' a := let ⟨o, u, h1, h2⟩ := h; ⟨o, u, e _ _ h1, h2⟩
mutual
/-- v, in H, is the datum d -/
inductive Rp (K : Frag) (H : Hp) : V → D → Prop
  | non : Rp K H .non .none
  | bl (b : Bool) : Rp K H (.bl b) (.bool b)
  | int (i : Int) : Rp K H (.int i) (.int i)
  | str (x : Str) : Rp K H (.str x) (.str x)
  | lst {a : Addr} {xs : List V} {ds : List D} : SqL K H a xs → RpL K H xs ds → Rp K H (.ref a) (.list ds)
  | tup {a : Addr} {xs : List V} {ds : List D} : SqT K H a xs → RpL K H xs ds → (needX ds = true → XT H a) → Rp K H (.ref a) (.tuple ds)
  | dct {a : Addr} {kvs : List (Key × V)} {ds : List (D × D)} : Rd H a (.dK kvs) → RpK K H kvs ds → Rp K H (.ref a) (.dict ds)
  | obj {a C dx : Addr} {fs : List (Str × V)} {ds : List (D × D)} : H a = some (.ins C dx fs) → RpF K H fs ds → Rp K H (.ref a) (.dict ((.none, .int (Int.ofNat C)) :: ds))
  /-- a dict that stays as it is -/
  | fdc {a : Addr} {o : Obj} {kvs : List (Key × V)} {ds : List (D × D)} : H a = some (.frz o (.dK kvs)) → RpK K H kvs ds → Rp K H (.ref a) (.dict ((.none, .none) :: ds))
  | fnc {a : Addr} : Rp K H (.ref a) (.dict [(.bool true, .int (Int.ofNat a))])
  /-- a thing that may change: its address -/
  | ref {a : Addr} : Rp K H (.ref a) (.dict [(.bool false, .int (Int.ofNat a))])
  /-- a caught exception: its dict, its class -/
  | exc {a dx C : Addr} {fs : List (Str × V)} {ds : List (D × D)} : H dx = some (.xd fs) → RpF K H fs ds → Rp K H (.ref a) (.dict ((.bool true, .tuple [.int (Int.ofNat a), .int (Int.ofNat dx), .int (Int.ofNat C)]) :: ds))
inductive RpL (K : Frag) (H : Hp) : List V → List D → Prop
  | nil : RpL K H [] []
  | cons {v : V} {vs : List V} {d : D} {ds : List D} : Rp K H v d → RpL K H vs ds → RpL K H (v :: vs) (d :: ds)
inductive RpK (K : Frag) (H : Hp) : List (Key × V) → List (D × D) → Prop
  | nil : RpK K H [] []
  | cons {k : Key} {v : V} {vs : List (Key × V)} {d : D} {ds : List (D × D)} : Rp K H v d → RpK K H vs ds → RpK K H ((k, v) :: vs) ((kD k, d) :: ds)
inductive RpF (K : Frag) (H : Hp) : List (Str × V) → List (D × D) → Prop
  | nil : RpF K H [] []
  | cons {f : Str} {v : V} {vs : List (Str × V)} {d : D} {ds : List (D × D)} : Rp K H v d → RpF K H vs ds → RpF K H ((f, v) :: vs) ((.str f, d) :: ds)
end
theorem sub_rd {H H' : Hp} {a : Addr} {u : HO} (e : Sub H H') (h : Rd H a u) : Rd H' a u := by
  rcases h with h | ⟨o, h⟩
  · exact Or.inl (e a _ h)
  · exact Or.inr ⟨o, e a _ h⟩
theorem sub_l {K : Frag} {H H' : Hp} {a : Addr} {xs : List V} (e : Sub H H') (h : SqL K H a xs) : SqL K H' a xs := by
  rcases h with h | h
  · exact Or.inl (sub_rd e h)
  · exact Or.inr h
theorem sub_t {K : Frag} {H H' : Hp} {a : Addr} {xs : List V} (e : Sub H H') (h : SqT K H a xs) : SqT K H' a xs := by
  rcases h with h | h
  · exact Or.inl (sub_rd e h)
  · exact Or.inr h
mutual
theorem Rp.mono {K : Frag} {H H' : Hp} (e : Sub H H') : ∀ {v : V} {d : D}, Rp K H v d → Rp K H' v d
  | _, _, .non => .non
  | _, _, .bl b => .bl b
  | _, _, .int i => .int i
  | _, _, .str x => .str x
  | _, _, .lst h r => .lst (sub_l e h) (RpL.mono e r)
  | _, _, .tup h r x => .tup (sub_t e h) (RpL.mono e r) fun n => (x n).mono e
  | _, _, .dct h r => .dct (sub_rd e h) (RpK.mono e r)
  | _, _, .obj h r => .obj (e _ _ h) (RpF.mono e r)
  | _, _, .fdc h r => .fdc (e _ _ h) (RpK.mono e r)
  | _, _, .fnc => .fnc
  | _, _, .ref => .ref
  | _, _, .exc h r => .exc (e _ _ h) (RpF.mono e r)
theorem RpL.mono {K : Frag} {H H' : Hp} (e : Sub H H') : ∀ {v : List V} {d : List D}, RpL K H v d → RpL K H' v d
  | _, _, .nil => .nil
  | _, _, .cons h r => .cons (Rp.mono e h) (RpL.mono e r)
theorem RpK.mono {K : Frag} {H H' : Hp} (e : Sub H H') : ∀ {v : List (Key × V)} {d : List (D × D)}, RpK K H v d → RpK K H' v d
  | _, _, .nil => .nil
  | _, _, .cons h r => .cons (Rp.mono e h) (RpK.mono e r)
theorem RpF.mono {K : Frag} {H H' : Hp} (e : Sub H H') : ∀ {v : List (Str × V)} {d : List (D × D)}, RpF K H v d → RpF K H' v d
  | _, _, .nil => .nil
  | _, _, .cons h r => .cons (Rp.mono e h) (RpF.mono e r)
end
theorem RpL.length {K : Frag} {H : Hp} : ∀ {vs : List V} {ds : List D}, RpL K H vs ds → vs.length = ds.length
  | _, _, .nil => rfl
  | _, _, .cons _ r => by rw [List.length_cons, List.length_cons, RpL.length r]
theorem RpL.get {K : Frag} {H : Hp} : ∀ {vs : List V} {ds : List D} {i : Nat} {v : V}, RpL K H vs ds → vs[i]? = some v → ∃ d, ds[i]? = some d ∧ Rp K H v d
  | _, _, _, _, .nil, e => by simp at e
  | _, _, 0, _, .cons h r, e => by
    simp at e
    subst e
    exact ⟨_, rfl, h⟩
  | _, _, i + 1, v, .cons h r, e => by
    obtain ⟨d, h1, h2⟩ := RpL.get (i := i) (v := v) r (by simpa using e)
    exact ⟨d, by simpa using h1, h2⟩
theorem RpL.get' {K : Frag} {H : Hp} : ∀ {vs : List V} {ds : List D} {i : Nat} {d : D}, RpL K H vs ds → ds[i]? = some d → ∃ v, vs[i]? = some v ∧ Rp K H v d
  | _, _, _, _, .nil, e => by simp at e
  | _, _, 0, _, .cons h r, e => by
    simp at e
    subst e
    exact ⟨_, rfl, h⟩
  | _, _, i + 1, v, .cons h r, e => by
    obtain ⟨d, h1, h2⟩ := RpL.get' (i := i) (d := v) r (by simpa using e)
    exact ⟨d, by simpa using h1, h2⟩
theorem RpL.append {K : Frag} {H : Hp} : ∀ {vs us : List V} {ds es : List D}, RpL K H vs ds → RpL K H us es → RpL K H (vs ++ us) (ds ++ es)
  | _, _, _, _, .nil, s => s
  | _, _, _, _, .cons h r, s => .cons h (RpL.append r s)
theorem RpL.set {K : Frag} {H : Hp} {v : V} {d : D} (q : Rp K H v d) : ∀ {vs : List V} {ds : List D} (i : Nat), RpL K H vs ds → RpL K H (vs.set i v) (ds.set i d)
  | _, _, _, .nil => .nil
  | _, _, 0, .cons _ r => .cons q r
  | _, _, i + 1, .cons h r => .cons h (RpL.set q i r)
theorem RpL.take {K : Frag} {H : Hp} : ∀ {vs : List V} {ds : List D} (n : Nat), RpL K H vs ds → RpL K H (vs.take n) (ds.take n)
  | _, _, 0, _ => .nil
  | _, _, _ + 1, .nil => .nil
  | _, _, n + 1, .cons h r => .cons h (RpL.take n r)
theorem RpL.drop {K : Frag} {H : Hp} : ∀ {vs : List V} {ds : List D} (n : Nat), RpL K H vs ds → RpL K H (vs.drop n) (ds.drop n)
  | _, _, 0, r => r
  | _, _, _ + 1, .nil => .nil
  | _, _, n + 1, .cons _ r => RpL.drop n r
theorem RpL.ints {K : Frag} {H : Hp} : ∀ ns : List Int, RpL K H (ns.map V.int) (ns.map PyData.int)
  | [] => .nil
  | n :: ns => .cons (.int n) (RpL.ints ns)
theorem RpL.of_ints {K : Frag} {H : Hp} : ∀ {ns : List Int} {vs : List V}, RpL K H vs (ns.map PyData.int) → vs = ns.map V.int
  | [], _, h => by cases h; rfl
  | n :: ns, _, h => by
    cases h with
    | cons a b =>
      cases a
      rw [RpL.of_ints b]
      rfl
theorem RpL.of_strs {K : Frag} {H : Hp} : ∀ {ns : List Str} {vs : List V}, RpL K H vs (ns.map PyData.str) → vs = ns.map V.str
  | [], _, h => by cases h; rfl
  | n :: ns, _, h => by
    cases h with
    | cons a b =>
      cases a
      rw [RpL.of_strs b]
      rfl
theorem RpL.strs {K : Frag} {H : Hp} : ∀ ns : List Str, RpL K H (ns.map V.str) (ns.map PyData.str)
  | [] => .nil
  | n :: ns => .cons (.str n) (RpL.strs ns)
/-- a value that may be read: its own node may be hidden, its parts are not -/
inductive Rs (K : Frag) (B : Addr → Bool) (H : Hp) : V → D → Prop
  | vis {v : V} {d : D} : Rp K (hide B H) v d → Rs K B H v d
  | lst {a : Addr} {xs : List V} {ds : List D} : SqL K H a xs → RpL K (hide B H) xs ds → Rs K B H (.ref a) (.list ds)
  | dct {a : Addr} {kvs : List (Key × V)} {ds : List (D × D)} : Rd H a (.dK kvs) → RpK K (hide B H) kvs ds → Rs K B H (.ref a) (.dict ds)
  | obj {a C dx : Addr} {fs : List (Str × V)} {ds : List (D × D)} : H a = some (.ins C dx fs) → RpF K (hide B H) fs ds → Rs K B H (.ref a) (.dict ((.none, .int (Int.ofNat C)) :: ds))
theorem Rs.rp {K : Frag} {B : Addr → Bool} {H : Hp} {v : V} {d : D} (h : Rs K B H v d) : Rp K H v d := by
  cases h with
  | vis h => exact h.mono (hide_sub B H)
  | lst h r => exact .lst h (r.mono (hide_sub B H))
  | dct h r => exact .dct h (r.mono (hide_sub B H))
  | obj h r => exact .obj h (r.mono (hide_sub B H))
theorem Rs.list {K : Frag} {B : Addr → Bool} {H : Hp} {v : V} {ds : List D} (h : Rs K B H v (.list ds)) : ∃ a xs, v = .ref a ∧ SqL K H a xs ∧ RpL K (hide B H) xs ds := by
  cases h with
  | vis h =>
    cases h with
    | lst h r => exact ⟨_, _, rfl, sub_l (hide_sub B H) h, r⟩
  | lst h r => exact ⟨_, _, rfl, h, r⟩
theorem Rs.tuple {K : Frag} {B : Addr → Bool} {H : Hp} {v : V} {ds : List D} (h : Rs K B H v (.tuple ds)) : ∃ a xs, v = .ref a ∧ SqT K H a xs ∧ RpL K (hide B H) xs ds := by
  cases h with
  | vis h =>
    cases h with
    | tup h r x => exact ⟨_, _, rfl, sub_t (hide_sub B H) h, r⟩
theorem Rs.int {K : Frag} {B : Addr → Bool} {H : Hp} {v : V} {i : Int} (h : Rs K B H v (.int i)) : v = .int i := by
  cases h with
  | vis h => cases h; rfl
theorem Rs.bool {K : Frag} {B : Addr → Bool} {H : Hp} {v : V} {i : Bool} (h : Rs K B H v (.bool i)) : v = .bl i := by
  cases h with
  | vis h => cases h; rfl
theorem Rs.str {K : Frag} {B : Addr → Bool} {H : Hp} {v : V} {i : Str} (h : Rs K B H v (.str i)) : v = .str i := by
  cases h with
  | vis h => cases h; rfl
theorem Rs.none {K : Frag} {B : Addr → Bool} {H : Hp} {v : V} (h : Rs K B H v .none) : v = .non := by
  cases h with
  | vis h => cases h; rfl
theorem Rp.inti {K : Frag} {H : Hp} {v : V} {i : Int} (h : Rp K H v (.int i)) : v = .int i := by cases h; rfl
theorem Rp.booli {K : Frag} {H : Hp} {v : V} {i : Bool} (h : Rp K H v (.bool i)) : v = .bl i := by cases h; rfl
theorem Rp.stri {K : Frag} {H : Hp} {v : V} {i : Str} (h : Rp K H v (.str i)) : v = .str i := by cases h; rfl
theorem Rp.nonei {K : Frag} {H : Hp} {v : V} (h : Rp K H v .none) : v = .non := by cases h; rfl
mutual
def plain : D → Bool
  | .dict _ => false
  | .list ds => plains ds
  | .tuple ds => plains ds
  | _ => true
def plains : List D → Bool
  | [] => true
  | d :: ds => plain d && plains ds
end
mutual
theorem Rp.dp {K : Frag} {H : Hp} : ∀ {v : V} {d : D}, Rp K H v d → plain d = true → Dp K H v d
  | _, _, .non, _ => .non
  | _, _, .bl b, _ => .bl b
  | _, _, .int i, _ => .int i
  | _, _, .str x, _ => .str x
  | _, _, .lst h r, p => .lst h (RpL.dp r (by simpa [plain] using p))
  | _, _, .tup h r _, p => .tup h (RpL.dp r (by simpa [plain] using p))
  | _, _, .dct h r, p => by simp [plain] at p
  | _, _, .obj h r, p => by simp [plain] at p
  | _, _, .fdc h r, p => by simp [plain] at p
  | _, _, .fnc, p => by simp [plain] at p
  | _, _, .ref, p => by simp [plain] at p
  | _, _, .exc _ _, p => by simp [plain] at p
theorem RpL.dp {K : Frag} {H : Hp} : ∀ {v : List V} {d : List D}, RpL K H v d → plains d = true → DpAll K H v d
  | _, _, .nil, _ => .nil
  | _, _, .cons (d := d) (ds := ds) h r, p => by
    have q : plain d = true ∧ plains ds = true := by simpa [plains] using p
    exact .cons (Rp.dp h q.1) (RpL.dp r q.2)
end
end Hz
namespace Hz
open PySem L2
def OwnAt (K : Frag) (Hh : Hp) (o : Option HO) : D → Prop
  | .list ds => ∃ vs, o = some (.lst vs) ∧ RpL K Hh vs ds
  | .dict ds => ∃ kvs, o = some (.dK kvs) ∧ RpK K Hh kvs ds
  | _ => False
theorem OwnAt.mono {K : Frag} {H H' : Hp} {o : Option HO} {d : D} (e : Sub H H') (h : OwnAt K H o d) : OwnAt K H' o d := by
  cases d with
  | list ds => obtain ⟨vs, a, b⟩ := h; exact ⟨vs, a, b.mono e⟩
  | dict ds => obtain ⟨vs, a, b⟩ := h; exact ⟨vs, a, b.mono e⟩
  | _ => exact h.elim
theorem OwnAt.ne {K : Frag} {H : Hp} {o : Option HO} {d : D} (h : OwnAt K H o d) : ∃ u, o = some u := by
  cases d with
  | list ds => obtain ⟨vs, a, b⟩ := h; exact ⟨_, a⟩
  | dict ds => obtain ⟨vs, a, b⟩ := h; exact ⟨_, a⟩
  | _ => exact h.elim
/-- what stands at a cell -/
inductive CellAt (K : Frag) (Hh : Hp) : Option HO → D → Prop
  | own {o : Option HO} {d : D} : OwnAt K Hh o d → CellAt K Hh o d
  | obj {C dx : Addr} {fs : List (Str × V)} {ds : List (D × D)} : RpF K Hh fs ds → CellAt K Hh (some (.ins C dx fs)) (.dict ((.none, .int (Int.ofNat C)) :: ds))
theorem CellAt.mono {K : Frag} {H H' : Hp} {o : Option HO} {d : D} (e : Sub H H') (h : CellAt K H o d) : CellAt K H' o d := by
  cases h with
  | own h => exact .own (h.mono e)
  | obj h => exact .obj (h.mono e)
theorem CellAt.ne {K : Frag} {H : Hp} {o : Option HO} {d : D} (h : CellAt K H o d) : ∃ u, o = some u := by
  cases h with
  | own h => exact h.ne
  | obj h => exact ⟨_, rfl⟩
/-- a cell that is seen, as a datum -/
theorem CellAt.rp {K : Frag} {Hh : Hp} {l : Addr} {d : D} (h : CellAt K Hh (Hh l) d) : Rp K Hh (.ref l) d := by
  generalize e : Hh l = o at h
  cases h with
  | own h =>
    cases d with
    | list ds => obtain ⟨vs, a, b⟩ := h; exact .lst (.inl (.inl (e.trans a))) b
    | dict ds => obtain ⟨vs, a, b⟩ := h; exact .dct (.inl (e.trans a)) b
    | _ => exact h.elim
  | obj h => exact .obj e h
theorem CellAt.rs {K : Frag} {B : Addr → Bool} {H : Hp} {l : Addr} {d : D} (h : CellAt K (hide B H) (H l) d) : Rs K B H (.ref l) d := by
  generalize e : H l = o at h
  cases h with
  | own h =>
    cases d with
    | list ds => obtain ⟨vs, a, b⟩ := h; exact .lst (.inl (.inl (e.trans a))) b
    | dict ds => obtain ⟨vs, a, b⟩ := h; exact .dct (.inl (e.trans a)) b
    | _ => exact h.elim
  | obj h => exact .obj e h
abbrev En := List (Option D)
/-- what stands in the cells -/
abbrev AH := Addr → Option D
def aset (α : AH) (a : Addr) (c : D) : AH := fun b => if b = a then some c else α b
def adel (α : AH) (a : Addr) : AH := fun b => if b = a then none else α b
/-- the cells of α' that α has -/
def arst (α α' : AH) : AH := fun b => if (α b).isSome = true then α' b else none
theorem aset_same {α : AH} {a : Addr} {c : D} : aset α a c a = some c := if_pos rfl
theorem aset_ne {α : AH} {a b : Addr} {c : D} (h : b ≠ a) : aset α a c b = α b := if_neg h
theorem adel_same {α : AH} {a : Addr} : adel α a a = none := if_pos rfl
theorem adel_ne {α : AH} {a b : Addr} (h : b ≠ a) : adel α a b = α b := if_neg h
theorem adel_aset {α : AH} {a : Addr} {c : D} (h : α a = none) : adel (aset α a c) a = α := by
  funext b
  by_cases e : b = a
  · rw [e, adel_same, h]
  · rw [adel_ne e, aset_ne e]
theorem aset_aset {α : AH} {a : Addr} {c d : D} : aset (aset α a c) a d = aset α a d := by
  funext b
  by_cases e : b = a
  · rw [e, aset_same, aset_same]
  · rw [aset_ne e, aset_ne e, aset_ne e]
theorem aset_id {α : AH} {a : Addr} {c : D} (h : α a = some c) : aset α a c = α := by
  funext b
  by_cases e : b = a
  · rw [e, aset_same, h]
  · rw [aset_ne e]
theorem arst_self {α : AH} : arst α α = α := by
  funext b
  unfold arst
  split
  · rfl
  · rename_i h
    cases q : α b with
    | none => rfl
    | some c => rw [q] at h; exact absurd rfl h
theorem arst_old {α α' : AH} {a : Addr} {c : D} (h : ∃ d, α a = some d) : arst α (aset α' a c) = aset (arst α α') a c := by
  obtain ⟨d, h⟩ := h
  funext b
  by_cases e : b = a
  · rw [e, aset_same]
    unfold arst
    rw [h, aset_same]
    rfl
  · rw [aset_ne e]
    unfold arst
    rw [aset_ne e]
def dref (a : Addr) : D := .dict [(.bool false, .int (Int.ofNat a))]
/-- a datum as it may be read: a cell by its content -/
def vw (α : AH) : D → Option D
  | .dict ((.bool false, .int n) :: _) => α n.toNat
  | d => some d
/-- the heap bears the cells; B hides all that may change -/
structure Bs (K : Frag) (B : Addr → Bool) (H : Hp) (α : AH) : Prop where
  cel : ∀ a c, α a = some c → B a = true ∧ CellAt K (hide B H) (H a) c
  bk : ∀ a, B a = true → ∃ o, H a = some o
structure SR (K : Frag) (B : Addr → Bool) (σ : St) (H : Hp) (ρ : En) (α : AH) : Prop where
  len : σ.length = ρ.length
  val : ∀ (i : Nat) d, ρ[i]? = some (some d) → ∃ v, σ[i]? = some (some v) ∧ Rp K (hide B H) v d
  bs : Bs K B H α
/-- from a state to a later one -/
structure Af (K : Frag) (B : Addr → Bool) (H : Hp) (α : AH) (B' : Addr → Bool) (H' : Hp) (α' : AH) : Prop where
  sub : Sub (hide B H) (hide B' H')
  bs : Bs K B' H' α'
  keep : ∀ b, B b = true → α b = none → B' b = true ∧ H' b = H b
  fr : ∀ b, α b = none → H b ≠ none → α' b = none
  grow : ∀ b o, H b = some o → ∃ o', H' b = some o'
def ins (l : Addr) (B : Addr → Bool) : Addr → Bool := fun a => decide (a = l) || B a
def del (l : Addr) (B : Addr → Bool) : Addr → Bool := fun a => !decide (a = l) && B a
theorem ins_self {l : Addr} {B : Addr → Bool} : ins l B l = true := by unfold ins; simp
theorem ins_or {l a : Addr} {B : Addr → Bool} (h : ins l B a = true) : a = l ∨ B a = true := by
  unfold ins at h
  simpa using h
theorem ins_of {l a : Addr} {B : Addr → Bool} (h : B a = true) : ins l B a = true := by unfold ins; simp [h]
theorem ins_ne {l a : Addr} {B : Addr → Bool} (h : a ≠ l) : ins l B a = B a := by unfold ins; simp [h]
theorem del_self {l : Addr} {B : Addr → Bool} : del l B l = false := by unfold del; simp
theorem del_ne {l a : Addr} {B : Addr → Bool} (h : a ≠ l) : del l B a = B a := by unfold del; simp [h]
theorem hide_mono {B B' : Addr → Bool} {H : Hp} (h : ∀ a, B' a = true → B a = true) : Sub (hide B H) (hide B' H) := fun a o e => by
  obtain ⟨e1, e2⟩ := hide_some e
  refine hide_of ?_ e2
  cases q : B' a with
  | false => rfl
  | true => rw [h a q] at e1; cases e1
theorem hsub {B : Addr → Bool} {H H' : Hp} (e : Sub H H') : Sub (hide B H) (hide B H') := fun b o q => hide_of (hide_some q).1 (e _ _ (hide_some q).2)
theorem sub_ins {l : Addr} {B : Addr → Bool} {H H' : Hp} (h : H l = none) (e : Sub (hide B H) (hide B H')) : Sub (hide B H) (hide (ins l B) H') := fun a o q => by
  obtain ⟨e1, e2⟩ := hide_some q
  refine hide_of ?_ (hide_some (e _ _ q)).2
  rw [ins_ne (fun z => by rw [z, h] at e2; cases e2)]
  exact e1
section
variable {K : Frag} {B B' B1 B2 : Addr → Bool} {σ σ' : St} {H H' H1 H2 : Hp} {ρ ρ' : En} {α α' α1 α2 : AH} {l : Addr} {c d : D} {v : V}
theorem Bs.fresh (S : Bs K B H α) (h : H l = none) : B l = false := by
  cases q : B l with
  | false => rfl
  | true =>
    obtain ⟨o, e⟩ := S.bk l q
    rw [h] at e
    cases e
theorem Bs.none (S : Bs K B H α) (h : B l = false) : α l = none := by
  cases q : α l with
  | none => rfl
  | some c => rw [(S.cel l c q).1] at h; cases h
theorem Bs.new (S : Bs K B H α) (h : H l = Option.none) : α l = Option.none := S.none (S.fresh h)
theorem Bs.at_ (S : Bs K B H α) (h : α l = some c) : ∃ o, H l = some o := S.bk l (S.cel l c h).1
theorem Af.refl (S : Bs K B H α) : Af K B H α B H α := ⟨Sub.refl _, S, fun _ h _ => ⟨h, rfl⟩, fun _ h _ => h, fun _ o e => ⟨o, e⟩⟩
theorem Af.trans (S : Bs K B H α) (a : Af K B H α B1 H1 α1) (b : Af K B1 H1 α1 B2 H2 α2) : Af K B H α B2 H2 α2 := by
  refine ⟨a.sub.trans b.sub, b.bs, fun c h n => ?_, fun c n h => ?_, fun c o e => ?_⟩
  · obtain ⟨h1, h2⟩ := a.keep c h n
    obtain ⟨o, e⟩ := S.bk c h
    obtain ⟨h3, h4⟩ := b.keep c h1 (a.fr c n (by rw [e]; exact fun z => nomatch z))
    exact ⟨h3, h4.trans h2⟩
  · cases q : H c with
    | none => exact absurd q h
    | some o =>
      obtain ⟨o', e'⟩ := a.grow c o q
      exact b.fr c (a.fr c n h) (by rw [e']; exact fun z => nomatch z)
  · obtain ⟨o', e'⟩ := a.grow c o e
    exact b.grow c o' e'
theorem SR.step (S : SR K B σ H ρ α) (a : Af K B H α B' H' α') : SR K B' σ H' ρ α' := ⟨S.len, fun i d e => by
  obtain ⟨v, g1, g2⟩ := S.val i d e
  exact ⟨v, g1, g2.mono a.sub⟩, a.bs⟩
/-- the heap only grew -/
theorem Bs.grow (S : Bs K B H α) (e : Sub H H') : Bs K B H' α := ⟨fun a c h => by
  obtain ⟨h1, h2⟩ := S.cel a c h
  obtain ⟨u, g⟩ := h2.ne
  refine ⟨h1, ?_⟩
  rw [g] at h2
  rw [e _ _ g]
  exact h2.mono (hsub e), fun a h => by
  obtain ⟨o, g⟩ := S.bk a h
  exact ⟨o, e _ _ g⟩⟩
theorem Af.of_sub (S : Bs K B H α) (e : Sub H H') : Af K B H α B H' α := ⟨hsub e, S.grow e, fun b h _ => ⟨h, by
  obtain ⟨o, g⟩ := S.bk b h
  rw [g, e _ _ g]⟩, fun _ h _ => h, fun b o g => ⟨o, e _ _ g⟩⟩
/-- a new cell -/
theorem Af.cell (S : Bs K B H α) (e : Sub H H') (h : H l = none) (o : CellAt K (hide (ins l B) H') (H' l) c) : Af K B H α (ins l B) H' (aset α l c) := by
  have hs : Sub (hide B H) (hide (ins l B) H') := sub_ins h (hsub e)
  refine ⟨hs, ⟨fun a d q => ?_, fun a q => ?_⟩, fun b hb n => ⟨ins_of hb, ?_⟩, fun b n hb => ?_, fun b o g => ⟨o, e _ _ g⟩⟩
  · by_cases z : a = l
    · subst z
      rw [aset_same] at q
      cases q
      exact ⟨ins_self, o⟩
    · rw [aset_ne z] at q
      obtain ⟨h1, h2⟩ := S.cel a d q
      obtain ⟨u, g⟩ := h2.ne
      refine ⟨ins_of h1, ?_⟩
      rw [g] at h2
      rw [e _ _ g]
      exact h2.mono hs
  · rcases ins_or q with z | z
    · subst z
      exact o.ne
    · obtain ⟨o', g⟩ := S.bk a z
      exact ⟨o', e _ _ g⟩
  · obtain ⟨o', g⟩ := S.bk b hb
    rw [g, e _ _ g]
  · by_cases z : b = l
    · subst z
      exact absurd h hb
    · rw [aset_ne z]
      exact n
/-- another content of a cell -/
theorem Af.write {o : HO} (S : Bs K B H α) (h : α l = some d) (hc : CellAt K (hide B H) (some o) c) : Af K B H α B (upd H l o) (aset α l c) := by
  have bl : B l = true := (S.cel l d h).1
  have hh : hide B (upd H l o) = hide B H := by
    funext a
    unfold hide
    by_cases q : a = l
    · rw [q, bl]
      rfl
    · rw [upd_ne q]
  have hs : Sub (hide B H) (hide B (upd H l o)) := by rw [hh]; exact Sub.refl _
  refine ⟨hs, ⟨fun a e q => ?_, fun a q => ?_⟩, fun b hb n => ⟨hb, ?_⟩, fun b n hb => ?_, fun b u g => ?_⟩
  · by_cases z : a = l
    · subst z
      rw [aset_same] at q
      cases q
      rw [upd_same, hh]
      exact ⟨bl, hc⟩
    · rw [aset_ne z] at q
      obtain ⟨h1, h2⟩ := S.cel a e q
      rw [upd_ne z, hh]
      exact ⟨h1, h2⟩
  · by_cases z : a = l
    · exact ⟨o, by rw [z, upd_same]⟩
    · rw [upd_ne z]
      exact S.bk a q
  · rw [upd_ne (fun z => by rw [z, h] at n; cases n)]
  · rw [aset_ne (fun z => by rw [z, h] at n; cases n)]
    exact n
  · by_cases z : b = l
    · exact ⟨o, by rw [z, upd_same]⟩
    · exact ⟨u, by rw [upd_ne z]; exact g⟩
/-- a cell becomes a datum -/
theorem Af.frz (S : Bs K B H α) (a : Af K B H α B' H' α') (h : α' l = some c) : Af K B H α (del l B') H' (adel α' l) ∧ Rp K (hide (del l B') H') (.ref l) c := by
  have hs : Sub (hide B' H') (hide (del l B') H') := hide_mono fun b hb => by
    by_cases z : b = l
    · subst z; rw [del_self] at hb; cases hb
    · rw [del_ne z] at hb; exact hb
  obtain ⟨bl, hc⟩ := a.bs.cel l c h
  refine ⟨⟨a.sub.trans hs, ⟨fun b e q => ?_, fun b q => ?_⟩, fun b hb n => ?_, fun b n hb => ?_, a.grow⟩, ?_⟩
  · have z : b ≠ l := fun z => by rw [z, adel_same] at q; cases q
    rw [adel_ne z] at q
    obtain ⟨h1, h2⟩ := a.bs.cel b e q
    exact ⟨by rw [del_ne z]; exact h1, h2.mono hs⟩
  · have z : b ≠ l := fun z => by rw [z, del_self] at q; cases q
    rw [del_ne z] at q
    exact a.bs.bk b q
  · obtain ⟨h1, h2⟩ := a.keep b hb n
    have z : b ≠ l := fun z => by
      subst z
      obtain ⟨o, g⟩ := S.bk b hb
      rw [a.fr b n (by rw [g]; exact fun z => nomatch z)] at h
      cases h
    exact ⟨by rw [del_ne z]; exact h1, h2⟩
  · by_cases z : b = l
    · rw [z, adel_same]
    · rw [adel_ne z]
      exact a.fr b n hb
  · refine CellAt.rp ?_
    obtain ⟨o, g⟩ := hc.ne
    rw [g] at hc
    rw [hide_of del_self g]
    exact hc.mono hs
/-- the new cells are forgotten -/
theorem Af.rst (S : Bs K B H α) (a : Af K B H α B' H' α') : ∃ B2, Af K B H α B2 H' (arst α α') ∧ Sub (hide B' H') (hide B2 H') := by
  have hs : Sub (hide B' H') (hide (fun b => B' b && ((α b).isSome || !(α' b).isSome)) H') := hide_mono fun b hb => by simp at hb; exact hb.1
  refine ⟨_, ⟨a.sub.trans hs, ⟨fun b e q => ?_, fun b q => a.bs.bk b (by simp at q; exact q.1)⟩, fun b hb n => ?_, fun b n hb => ?_, a.grow⟩, hs⟩
  · unfold arst at q
    split at q
    · rename_i z
      obtain ⟨h1, h2⟩ := a.bs.cel b e q
      exact ⟨by simp [h1, z], h2.mono hs⟩
    · cases q
  · obtain ⟨h1, h2⟩ := a.keep b hb n
    obtain ⟨o, g⟩ := S.bk b hb
    have z := a.fr b n (by rw [g]; exact fun z => nomatch z)
    exact ⟨by simp [h1, z], h2⟩
  · unfold arst
    rw [n]
    rfl
theorem vw_rs (S : Bs K B H α) (h : Rp K (hide B H) v c) (e : vw α c = some d) : Rs K B H v d := by
  have go : vw α c = some c → Rs K B H v d := fun z => by
    rw [z] at e
    cases e
    exact .vis h
  cases h with
  | ref => exact (S.cel _ _ e).2.rs
  | dct a r =>
    cases r with
    | nil => exact go rfl
    | @cons k _ _ _ _ r1 r2 => cases k <;> exact go rfl
  | _ => exact go rfl
theorem Rp.cell {a : Addr} {H : Hp} (h : Rp K H v (dref a)) : v = .ref a := by
  generalize e : dref a = z at h
  cases h with
  | ref =>
    have e1 := List.cons.inj (PyData.dict.inj e)
    have e2 : PyData.int (Int.ofNat a) = PyData.int (Int.ofNat _) := congrArg Prod.snd e1.1
    rw [Int.ofNat.inj (PyData.int.inj e2)]
  | dct _ r =>
    cases r with
    | nil => cases e
    | @cons k _ _ _ _ r1 r2 =>
      have e1 := (List.cons.inj (PyData.dict.inj e)).1
      have e2 : PyData.bool false = kD k := congrArg Prod.fst e1
      cases k <;> cases e2
  | _ => cases e
end
structure C0 where
  P : Program
  w : World
  K : Frag
  mg : Str → Option Value
  base : Heap
  k : Nat
  top : Bool
  cm : Bool := true
  xc : Option (Addr × Addr × Nat) := none
  oc : List Str := []
abbrev C0.at_ (c : C0) (k : Nat) : C0 := { c with k := k, top := true, cm := true, xc := none, oc := [] }
/-- the contexts of a block of a def: its names, its scope -/
structure In (c : C0) (N : List Str) (sc : Scope) (X : Cx) : Prop where
  P : X.prog = c.P
  w : X.w = c.w
  K : X.K = c.K
  mg : X.mg = c.mg
  base : X.base = c.base
  rm : c.cm = true → Room c.k X.A
  un : X.A.units + 200 < cLine
  N : X.N = N
  sc : X.env.scope = sc
  calm : c.cm = true → X.calm = true
  fn : c.top = true → X.fn = fun _ => true
  po : PassesOwn (model X.prog X.w) X.A X.env X.xe
  fs : c.top = true → X.stack = X.env :: X.outer ∧ X.env.frame = some X.env.locals
  xi : ∀ a dx C, c.xc = some (a, dx, C) → ∃ (Y : Cx) (oe : Obj) (pn : List (Addr × Obj)), X = Y.suite a ((a, oe) :: pn) ∧ Zc (.ref C) (some dx) oe ∧ ∃ vs, oe.data = .fields vs
  oc : ∀ x, c.oc.contains x = true → X.fn x = true
section
variable {c : C0} {N : List Str} {sc : Scope} {X : Cx}
theorem In.u64 (I : In c N sc X) : X.A.units + 64 < cLine := by have := I.un; omega
theorem In.u65 (I : In c N sc X) : X.A.units + 65 < cLine := by have := I.un; omega
theorem In.gl {x : Str} (I : In c N sc X) (h : sc.names.lookup x = some .globalImplicit) : Gl X x := by
  show X.env.scope.names.lookup x = _
  rw [I.sc]
  exact h
theorem In.vis {x : Str} (I : In c N sc X) (h : Vis sc x) : Vis X.env.scope x := by
  rw [I.sc]
  exact h
end
/-- an exception: its class, its attributes -/
structure Ex where
  C : Nat
  fs : List (D × D)
abbrev QD := D → AH → Prop
abbrev QX := Ex → AH → Prop
abbrev ME := En → AH → QD → QX → Prop
abbrev MT := En → AH → (Bool → AH → Prop) → QX → Prop
abbrev ML := En → AH → (List D → AH → Prop) → QX → Prop
def XR (K : Frag) (Hh : Hp) (cls : Value) (d : Option Addr) (x : Ex) : Prop := cls = .ref x.C ∧ ∃ dx fs, d = some dx ∧ Hh dx = some (.xd fs) ∧ RpF K Hh fs x.fs
theorem XR.mono {K : Frag} {H H' : Hp} {cls : Value} {d : Option Addr} {x : Ex} (e : Sub H H') (h : XR K H cls d x) : XR K H' cls d x := by
  obtain ⟨h1, dx, fs, h2, h3, h4⟩ := h
  exact ⟨h1, dx, fs, h2, e _ _ h3, h4.mono e⟩
/-- what the wish W grants: the exceptions that E takes -/
def SX (K : Frag) (W : WX) (B : Addr → Bool) (σ : St) (H : Hp) (α : AH) (E : QX) : Prop := ∀ x B' α' cls d H', Af K B H α B' H' α' → XR K (hide B' H') cls d x → E x α' → W cls d σ H'
theorem SX.after {K : Frag} {W : WX} {B B1 : Addr → Bool} {σ : St} {H H1 : Hp} {α α1 : AH} {E : QX} (S : Bs K B H α) (h : SX K W B σ H α E) (a : Af K B H α B1 H1 α1) : SX K W B1 σ H1 α1 E := fun x B' α' cls d H' b => h x B' α' cls d H' (a.trans S b)
theorem SX.never {K : Frag} {W : WX} {B : Addr → Bool} {σ : St} {H : Hp} {α : AH} : SX K W B σ H α (fun _ _ => False) := fun _ _ _ _ _ _ _ _ z => z.elim
/-- the reading of an expression grants what m wishes: a datum | a new list or dict, as a cell -/
def Sd (K : Frag) (W : WX) (t : TE) (m : ME) : Prop :=
  ∀ B σ H ρ α, SR K B σ H ρ α → ∀ Qm Em, m ρ α Qm Em → ∀ Q : VK, (∀ v d B' H' α', Af K B H α B' H' α' → Rp K (hide B' H') v d → Qm d α' → Q v H') → SX K W B σ H α Em → t σ H Q
def Sf (K : Frag) (W : WX) (t : TE) (m : ME) : Prop :=
  ∀ B σ H ρ α, SR K B σ H ρ α → ∀ Qm Em, m ρ α Qm Em → ∀ Q : VK, (∀ l c B' H' α', Af K B H α B' H' (aset α' l c) → α' l = none → Qm c α' → Q (.ref l) H') → SX K W B σ H α Em → t σ H Q
def Stt (K : Frag) (W : WX) (t : TT) (m : MT) : Prop :=
  ∀ B σ H ρ α, SR K B σ H ρ α → ∀ Qm Em, m ρ α Qm Em → ∀ Q : Bool → Hp → Prop, (∀ b B' H' α', Af K B H α B' H' α' → Qm b α' → Q b H') → SX K W B σ H α Em → t σ H Q
def SA (K : Frag) (W : WX) (t : TA) (m : ML) : Prop :=
  ∀ B σ H ρ α, SR K B σ H ρ α → ∀ Qm Em, m ρ α Qm Em → ∀ Q : List V → Hp → Prop, (∀ vs ds B' H' α', Af K B H α B' H' α' → RpL K (hide B' H') vs ds → Qm ds α' → Q vs H') → SX K W B σ H α Em → t σ H Q
def JE (c : C0) (N : List Str) (sc : Scope) (e : Expr) (m : ME) : Prop := ∃ t : WX → TE, (∀ X W, In c N sc X → Takes X W → PE X e (t W)) ∧ ∀ W, Sd c.K W (t W) m
def JF (c : C0) (N : List Str) (sc : Scope) (e : Expr) (m : ME) : Prop := ∃ t : WX → TE, (∀ X W, In c N sc X → Takes X W → PE X e (t W)) ∧ ∀ W, Sf c.K W (t W) m
def JT (c : C0) (N : List Str) (sc : Scope) (e : Expr) (m : MT) : Prop := ∃ t : WX → TT, (∀ X W, In c N sc X → Takes X W → PT X e (t W)) ∧ ∀ W, Stt c.K W (t W) m
def JW (c : C0) (N : List Str) (sc : Scope) (e : Expr) (m : MT) : Prop := ∃ t : WX → TT, (∀ X W, In c N sc X → Takes X W → PW X e (t W)) ∧ ∀ W, Stt c.K W (t W) m
def JL (c : C0) (N : List Str) (sc : Scope) (es : List Expr) (m : ML) : Prop := ∃ t : WX → TA, (∀ X W, In c N sc X → Takes X W → PA X es (t W)) ∧ ∀ W, SA c.K W (t W) m
end Hz
namespace Hz
open PySem L2
def oq {α : Type} (o : Option α) (Q : α → Prop) : Prop := ∃ z, o = some z ∧ Q z
def kC (d : D) : ME := fun ρ α Q E => Q d α
def kV (i : Nat) : ME := fun ρ α Q E => ∃ d, ρ[i]? = some (some d) ∧ Q d α
section
variable {c : C0} {N : List Str} {sc : Scope} {K : Frag} {W : WX}
theorem sd_c {v : V} {d : D} (h : ∀ H, Rp K H v d) : Sd K W (tC v) (kC d) := fun B σ H ρ α S Qm Em m Q q x => q v d B H α (Af.refl S.bs) (h _) m
theorem ce_int {i j pos} : JE c N sc (.Constant (.int i) j pos) (kC (.int i)) := ⟨_, fun _ _ _ _ => pe_int, fun _ => sd_c fun _ => .int i⟩
theorem ce_bl {i j pos} : JE c N sc (.Constant (.bool i) j pos) (kC (.bool i)) := ⟨_, fun _ _ _ _ => pe_bl, fun _ => sd_c fun _ => .bl i⟩
theorem ce_non {j pos} : JE c N sc (.Constant .none j pos) (kC .none) := ⟨_, fun _ _ _ _ => pe_non, fun _ => sd_c fun _ => .non⟩
theorem ce_str {i j pos} : JE c N sc (.Constant (.str i) j pos) (kC (.str i)) := ⟨_, fun _ _ _ _ => pe_str, fun _ => sd_c fun _ => .str i⟩
theorem sd_var {i : Nat} : Sd K W (tVar i) (kV i) := fun B σ H ρ α S Qm Em m Q q x => by
  obtain ⟨d, h, m⟩ := m
  obtain ⟨v, h1, h2⟩ := S.val i _ h
  exact ⟨v, h1, q v d B H α (Af.refl S.bs) h2 m⟩
theorem ce_var {i : Nat} {x : Str} {pos : Pos} (hN : N[i]? = some x) (hv : Vis sc x) (hd : (x == ("__debug__" : Str)) = false := by decide) (hcd : (x == ("__classdict__" : Str)) = false := by decide) : JE c N sc (.Name x pos) (kV i) :=
  ⟨fun _ => tVar i, fun X _ I _ => pe_var (by rw [I.N]; exact hN) (I.vis hv) hd hcd, fun _ => sd_var⟩
end
def newK (m : ME) : ME := fun ρ α Q E => m ρ α (fun c α1 => ∀ p, α1 p = none → Q (dref p) (aset α1 p c)) E
def frzK (m : ME) : ME := fun ρ α Q E => m ρ α (fun d α1 => ∃ p c, d = dref p ∧ α1 p = some c ∧ Q c (adel α1 p)) E
section
variable {c : C0} {N : List Str} {sc : Scope} {e : Expr} {m : ME}
theorem JF.je (h : JF c N sc e m) : JE c N sc e m := by
  obtain ⟨t, h1, h2⟩ := h
  refine ⟨t, h1, fun W B σ H ρ α S Qm Em mm Q q x => h2 W B σ H ρ α S Qm Em mm Q (fun l c' B' H' α' A hl qm => ?_) x⟩
  obtain ⟨A2, r⟩ := A.frz S.bs aset_same
  rw [adel_aset hl] at A2
  exact q _ c' _ H' α' A2 r qm
theorem JF.new (h : JF c N sc e m) : JE c N sc e (newK m) := by
  obtain ⟨t, h1, h2⟩ := h
  refine ⟨t, h1, fun W B σ H ρ α S Qm Em mm Q q x => h2 W B σ H ρ α S _ Em mm Q (fun l c' B' H' α' A hl qm => ?_) x⟩
  exact q _ _ _ H' _ A .ref (qm l hl)
theorem JE.frz (h : JE c N sc e m) : JE c N sc e (frzK m) := by
  obtain ⟨t, h1, h2⟩ := h
  refine ⟨t, h1, fun W B σ H ρ α S Qm Em mm Q q x => h2 W B σ H ρ α S _ Em mm Q (fun v d B' H' α' A r qm => ?_) x⟩
  obtain ⟨p, c', rfl, hp, qm⟩ := qm
  obtain ⟨A2, r2⟩ := A.frz S.bs hp
  rw [r.cell]
  exact q _ c' _ H' _ A2 r2 qm
end
/-- a two-place operation, by data -/
structure OpD (K : Frag) (XS : Cx → Prop) (f : Value → Value → Sem Value) (g : D → D → Option D) : Prop where
  ex : ∃ r : R2, (∀ X, XS X → OpR X f r) ∧ ∀ (B : Addr → Bool) (H : Hp) (x y : V) (d e z : D), (∀ a, B a = true → ∃ o, H a = some o) → Rs K B H x d → Rs K B H y e → g d e = some z →
    ∀ Q : VK, (∀ v H', Sub H H' → Rp K (hide B H') v z → Q v H') → r x y H Q
def bop (g : D → D → Option D) (ma mb : ME) : ME := fun ρ α Q E => ma ρ α (fun d α1 => mb ρ α1 (fun e α2 => oq (vw α2 d) fun d' => oq (vw α2 e) fun e' => oq (g d' e') fun z => Q z α2) E) E
section
variable {K : Frag} {W : WX} {r : R2} {ta tb : TE} {ma mb : ME} {g : D → D → Option D}
theorem sd_bop (ha : Sd K W ta ma) (hb : Sd K W tb mb) (hr : ∀ (B : Addr → Bool) (H : Hp) (x y : V) (d e z : D), (∀ a, B a = true → ∃ o, H a = some o) → Rs K B H x d → Rs K B H y e → g d e = some z →
    ∀ Q : VK, (∀ v H', Sub H H' → Rp K (hide B H') v z → Q v H') → r x y H Q) : Sd K W (tOp r ta tb) (bop g ma mb) := fun B σ H ρ α S Qm Em m Q q x => by
  refine ha B σ H ρ α S _ Em m _ (fun v d B1 H1 α1 A1 r1 m => ?_) x
  refine hb B1 σ H1 ρ α1 (S.step A1) _ Em m _ (fun u e B2 H2 α2 A2 r2 m => ?_) (x.after S.bs A1)
  obtain ⟨d', hd, e', he, z, hz, m⟩ := m
  refine hr B2 H2 v u d' e' z A2.bs.bk (vw_rs A2.bs (r1.mono A2.sub) hd) (vw_rs A2.bs r2 he) hz _ fun w H3 s3 r3 => ?_
  exact q w z B2 H3 α2 ((A1.trans S.bs A2).trans S.bs (Af.of_sub A2.bs s3)) r3 m
end
section
variable {c : C0} {N : List Str} {sc : Scope} {a b d : Expr} {ma mb md : ME} {g g' : D → D → Option D} {pos : Pos}
theorem ce_op {op : Operator} (ho : OpD c.K (In c N sc) (binaryOp op) g) (ha : JE c N sc a ma) (hb : JE c N sc b mb) : JE c N sc (.BinOp a op b pos) (bop g ma mb) := by
  obtain ⟨r, h1, h2⟩ := ho.ex
  obtain ⟨ta, p1, s1⟩ := ha
  obtain ⟨tb, p2, s2⟩ := hb
  exact ⟨_, fun X W I T => pe_op (h1 X I) (p1 X W I T) (p2 X W I T), fun W => sd_bop (s1 W) (s2 W) h2⟩
theorem ce_cmp {op : CmpOp} (ho : OpD c.K (In c N sc) (compareOp op) g) (ha : JE c N sc a ma) (hb : JE c N sc b mb) (hm : behindInMarks op b = false := by rfl) : JE c N sc (.Compare a [op] [b] pos) (bop g ma mb) := by
  obtain ⟨r, h1, h2⟩ := ho.ex
  obtain ⟨ta, p1, s1⟩ := ha
  obtain ⟨tb, p2, s2⟩ := hb
  exact ⟨_, fun X W I T => pe_cmpR (h1 X I) (p1 X W I T) (p2 X W I T) hm, fun W => sd_bop (s1 W) (s2 W) h2⟩
end
def tst (m : ME) : MT := fun ρ α Q E => m ρ α (fun d α1 => ∃ b, d = .bool b ∧ Q b α1) E
def valK (m : MT) : ME := fun ρ α Q E => m ρ α (fun b α1 => Q (.bool b) α1) E
def andK (ma mb : MT) : MT := fun ρ α Q E => ma ρ α (fun b α1 => if b = true then mb ρ α1 Q E else Q false α1) E
def orK (ma mb : MT) : MT := fun ρ α Q E => ma ρ α (fun b α1 => if b = true then Q true α1 else mb ρ α1 Q E) E
def notK (ma : MT) : MT := fun ρ α Q E => ma ρ α (fun b α1 => Q (!b) α1) E
/-- and, or as values: all but the last bools -/
def andV (ma : MT) (mb : ME) : ME := fun ρ α Q E => ma ρ α (fun b α1 => if b = true then mb ρ α1 Q E else Q (.bool false) α1) E
def orV (ma : MT) (mb : ME) : ME := fun ρ α Q E => ma ρ α (fun b α1 => if b = true then Q (.bool true) α1 else mb ρ α1 Q E) E
/-- a < b < c -/
def chainK (g g' : D → D → Option D) (ma mb md : ME) : ME := fun ρ α Q E => ma ρ α (fun d α1 => mb ρ α1 (fun e α2 => oq (g d e) fun z => ∃ b, z = .bool b ∧ if b = true then md ρ α2 (fun f α3 => oq (g' e f) fun z' => Q z' α3) E else Q (.bool false) α2) E) E
def ifK (mt : MT) (ma mb : ME) : ME := fun ρ α Q E => mt ρ α (fun b α1 => if b = true then ma ρ α1 Q E else mb ρ α1 Q E) E
section
variable {c : C0} {N : List Str} {sc : Scope} {e a b d : Expr} {ma mb md : ME} {ta tb : MT} {g g' : D → D → Option D} {pos : Pos} {rest : List Expr} {K : Frag} {W : WX}
theorem st_tst {te : TE} (h : Sd K W te ma) : Stt K W (tB te) (tst ma) := fun B σ H ρ α S Qm Em m Q q x => h B σ H ρ α S _ Em m _ (fun v d B' H' α' A r m => by
  obtain ⟨k, rfl, m⟩ := m
  exact ⟨k, r.booli, q k B' H' α' A m⟩) x
theorem st_tst2 {te : TE} (h : Sd K W te ma) : Stt K W (tTest te) (tst ma) := fun B σ H ρ α S Qm Em m Q q x => h B σ H ρ α S _ Em m _ (fun v d B' H' α' A r m => by
  obtain ⟨k, rfl, m⟩ := m
  exact ⟨k, r.booli, q k B' H' α' A m⟩) x
theorem jt_val (h : JE c N sc e ma) (he : ∀ (env : PySem.Env) (whole : Sem Value), isTrue e env whole = (do let v ← whole; standAt e.pos; holding [v] (truthy v)) := by intros; rfl) : JT c N sc e (tst ma) := by
  obtain ⟨t, h1, h2⟩ := h
  exact ⟨_, fun X W I T => pt_val (h1 X W I T) (fun w => he _ w), fun W => st_tst (h2 W)⟩
theorem jt_cmp {op : CmpOp} (ho : OpD c.K (In c N sc) (compareOp op) g) (ha : JE c N sc a ma) (hb : JE c N sc b mb) (hm : behindInMarks op b = false := by rfl) : JT c N sc (.Compare a [op] [b] pos) (tst (bop g ma mb)) := by
  obtain ⟨r, h1, h2⟩ := ho.ex
  obtain ⟨ta, p1, s1⟩ := ha
  obtain ⟨tb, p2, s2⟩ := hb
  exact ⟨_, fun X W I T => pt_cmpR (h1 X I) (p1 X W I T) (p2 X W I T) hm, fun W => st_tst2 (sd_bop (s1 W) (s2 W) h2)⟩
theorem st_and {t u : TT} (h1 : Stt K W t ta) (h2 : Stt K W u tb) : Stt K W (tAnd t u) (andK ta tb) := fun B σ H ρ α S Qm Em m Q q x =>
  h1 B σ H ρ α S _ Em m _ (fun b B1 H1 α1 A1 m => by
    cases b with
    | true => exact h2 B1 σ H1 ρ α1 (S.step A1) _ Em m Q (fun b B2 H2 α2 A2 m => q b B2 H2 α2 (A1.trans S.bs A2) m) (x.after S.bs A1)
    | false => exact q false B1 H1 α1 A1 m) x
theorem st_or {t u : TT} (h1 : Stt K W t ta) (h2 : Stt K W u tb) : Stt K W (tOr t u) (orK ta tb) := fun B σ H ρ α S Qm Em m Q q x =>
  h1 B σ H ρ α S _ Em m _ (fun b B1 H1 α1 A1 m => by
    cases b with
    | false => exact h2 B1 σ H1 ρ α1 (S.step A1) _ Em m Q (fun b B2 H2 α2 A2 m => q b B2 H2 α2 (A1.trans S.bs A2) m) (x.after S.bs A1)
    | true => exact q true B1 H1 α1 A1 m) x
theorem st_not {t : TT} (h1 : Stt K W t ta) : Stt K W (tNot t) (notK ta) := fun B σ H ρ α S Qm Em m Q q x => h1 B σ H ρ α S _ Em m _ (fun b B1 H1 α1 A1 m => q _ B1 H1 α1 A1 m) x
theorem jw_and1 (h : JT c N sc a ta) : JW c N sc (.BoolOp .And [a] pos) ta := by
  obtain ⟨t, h1, h2⟩ := h
  exact ⟨t, fun X W I T => pw_and1 (h1 X W I T), h2⟩
theorem jw_or1 (h : JT c N sc a ta) : JW c N sc (.BoolOp .Or [a] pos) ta := by
  obtain ⟨t, h1, h2⟩ := h
  exact ⟨t, fun X W I T => pw_or1 (h1 X W I T), h2⟩
theorem jw_and (h : JT c N sc a ta) (k : JW c N sc (.BoolOp .And (b :: rest) pos) tb) : JW c N sc (.BoolOp .And (a :: b :: rest) pos) (andK ta tb) := by
  obtain ⟨t, h1, h2⟩ := h
  obtain ⟨u, k1, k2⟩ := k
  exact ⟨_, fun X W I T => pw_and (h1 X W I T) (k1 X W I T), fun W => st_and (h2 W) (k2 W)⟩
theorem jw_or (h : JT c N sc a ta) (k : JW c N sc (.BoolOp .Or (b :: rest) pos) tb) : JW c N sc (.BoolOp .Or (a :: b :: rest) pos) (orK ta tb) := by
  obtain ⟨t, h1, h2⟩ := h
  obtain ⟨u, k1, k2⟩ := k
  exact ⟨_, fun X W I T => pw_or (h1 X W I T) (k1 X W I T), fun W => st_or (h2 W) (k2 W)⟩
theorem jt_w (h : JW c N sc a ta) : JT c N sc a ta := by
  obtain ⟨t, h1, h2⟩ := h
  exact ⟨t, fun X W I T => (h1 X W I T).pt, h2⟩
theorem jt_not (h : JT c N sc a ta) : JT c N sc (.UnaryOp .Not a pos) (notK ta) := by
  obtain ⟨t, h1, h2⟩ := h
  exact ⟨_, fun X W I T => pt_not (h1 X W I T), fun W => st_not (h2 W)⟩
theorem je_one {op} (h : JE c N sc a ma) : JE c N sc (.BoolOp op [a] pos) ma := by
  obtain ⟨t, h1, h2⟩ := h
  exact ⟨t, fun X W I T => pe_one (h1 X W I T), h2⟩
theorem je_and (h : JE c N sc a ma) (k : JE c N sc (.BoolOp .And (b :: rest) pos) mb) : JE c N sc (.BoolOp .And (a :: b :: rest) pos) (andV (tst ma) mb) := by
  obtain ⟨t, h1, h2⟩ := h
  obtain ⟨u, k1, k2⟩ := k
  refine ⟨_, fun X W I T => pe_and (h1 X W I T) (k1 X W I T), fun W B σ H ρ α S Qm Em m Q q x => ?_⟩
  refine h2 W B σ H ρ α S _ Em m _ (fun v d B1 H1 α1 A1 r m => ?_) x
  obtain ⟨k, rfl, m⟩ := m
  refine ⟨k, r.booli, ?_⟩
  cases k with
  | true => exact k2 W B1 σ H1 ρ α1 (S.step A1) _ Em m Q (fun v d B2 H2 α2 A2 r2 m => q v d B2 H2 α2 (A1.trans S.bs A2) r2 m) (x.after S.bs A1)
  | false => exact q _ _ B1 H1 α1 A1 (.bl false) m
theorem je_not (h : JE c N sc a ma) : JE c N sc (.UnaryOp .Not a pos) (valK (notK (tst ma))) := by
  obtain ⟨t, h1, h2⟩ := h
  refine ⟨_, fun X W I T => pe_not (h1 X W I T), fun W B σ H ρ α S Qm Em m Q q x => ?_⟩
  refine h2 W B σ H ρ α S _ Em m _ (fun v d B1 H1 α1 A1 r m => ?_) x
  obtain ⟨k, rfl, m⟩ := m
  exact ⟨k, r.booli, q _ _ B1 H1 α1 A1 (.bl _) m⟩
end
def nilK : ML := fun ρ α Q E => Q [] α
def consK (ma : ME) (mr : ML) : ML := fun ρ α Q E => ma ρ α (fun d α1 => mr ρ α1 (fun ds α2 => Q (d :: ds) α2) E) E
def tupK (m : ML) : ME := fun ρ α Q E => m ρ α (fun ds α1 => ds.length ≤ 100000 ∧ Q (.tuple ds) α1) E
def lstK (m : ML) : ME := fun ρ α Q E => m ρ α (fun ds α1 => ds.length ≤ 100000 ∧ Q (.list ds) α1) E
section
variable {c : C0} {N : List Str} {sc : Scope} {e : Expr} {es : List Expr} {ma : ME} {mr : ML} {pos : Pos} {K : Frag} {W : WX}
theorem sa_nil : SA K W tNil nilK := fun B σ H ρ α S Qm Em m Q q x => q [] [] B H α (Af.refl S.bs) .nil m
theorem jl_nil : JL c N sc [] nilK := ⟨_, fun _ _ _ _ => pa_nil, fun _ => sa_nil⟩
theorem sa_cons {te : TE} {t : TA} (h : Sd K W te ma) (k : SA K W t mr) : SA K W (tCons te t) (consK ma mr) := fun B σ H ρ α S Qm Em m Q q x =>
  h B σ H ρ α S _ Em m _ (fun v d B1 H1 α1 A1 r1 m => k B1 σ H1 ρ α1 (S.step A1) _ Em m _ (fun vs ds B2 H2 α2 A2 r2 m => q (v :: vs) (d :: ds) B2 H2 α2 (A1.trans S.bs A2) (.cons (r1.mono A2.sub) r2) m) (x.after S.bs A1)) x
theorem jl_cons (h : JE c N sc e ma) (k : JL c N sc es mr) (hs : ∀ env, starEach (e :: es) env = (false, eval e env) :: starEach es env := by intros; rfl) : JL c N sc (e :: es) (consK ma mr) := by
  obtain ⟨t, h1, h2⟩ := h
  obtain ⟨u, k1, k2⟩ := k
  exact ⟨_, fun X W I T => pa_cons (h1 X W I T) (k1 X W I T) (hs _), fun W => sa_cons (h2 W) (k2 W)⟩
theorem own_new {H : Hp} {B : Addr → Bool} {p : Addr} {vs : List V} {ds : List D} (h : H p = none) (r : RpL K (hide B H) vs ds) : OwnAt K (hide (ins p B) (upd H p (.lst vs))) (upd H p (.lst vs) p) (.list ds) :=
  ⟨vs, upd_same, r.mono (sub_ins h (hsub (Sub.new h)))⟩
theorem sz5 {n : Nat} (h : n ≤ 100000) : n ≤ sizeLine := Nat.le_trans h (by decide)
/-- a new tuple, its object known -/
theorem tnew {X : Cx} {pins : List (Addr × Obj)} {σ : L2.St} {H : Hp} {s : Shared} {xs : List V} {us : List Value} (I : Inv X pins σ H s) (r : Vals xs us) (z : xs.length ≤ sizeLine) :
    Inv X pins σ (upd H s.heap.objs.size (.frz { cls := .type "tuple", data := .seq us.toArray } (.tup xs))) { s with heap := s.heap.push { cls := .type "tuple", data := .seq us.toArray } } :=
  I.laid (t' := s.toks) (fun b u e => Heap.get?_push_of_some _ e) (Nat.le_refl _) ⟨Heap.get?_push_size _ rfl, z, us, r, ⟨_, Heap.get?_push_size _ rfl, rfl, _, rfl⟩⟩
def tTupX (t : TA) : TE := fun σ H Q => t σ H fun xs H1 => xs.length ≤ sizeLine ∧ ∀ p o, ExT o → H1 p = none → Q (.ref p) (upd H1 p (.frz o (.tup xs)))
theorem pe_tupX {X : Cx} {es : List Expr} {t : TA} {x1} {pos : Pos} (h : PA X es t) : PE X (.Tuple es x1 pos) (tTupX t) := by
  refine ⟨fun pins s σ H Q I hq => ?_⟩
  refine wpAny_Tuple_spliced (thn (h.run pos pins s σ H _ I hq) fun us s1 ⟨xs, H1, I1, r, z, q⟩ => ⟨by rw [← r.length]; exact z, ?_⟩)
  exact ⟨.ref s1.heap.objs.size, _, tnew I1 r z, rfl, q _ _ ⟨rfl, rfl⟩ (I1.hok.fresh (Nat.le_refl _))⟩
theorem tup_new {K : Frag} {B : Addr → Bool} {H : Hp} {p : Addr} {o : Obj} {vs : List V} {ds : List D} (bk : ∀ a, B a = true → ∃ o, H a = some o) (x : ExT o) (h : H p = none) (r : RpL K (hide B H) vs ds) : Sub H (upd H p (.frz o (.tup vs))) ∧ Rp K (hide B (upd H p (.frz o (.tup vs)))) (.ref p) (.tuple ds) := by
  have bp : B p = false := by
    cases q : B p with
    | false => rfl
    | true => obtain ⟨o, e⟩ := bk p q; rw [h] at e; cases e
  exact ⟨Sub.new h, .tup (.inl (.inr ⟨o, hide_of bp upd_same⟩)) (r.mono (hsub (Sub.new h))) fun _ => ⟨o, _, hide_of bp upd_same, x⟩⟩
theorem je_tup {x1} (h : JL c N sc es mr) : JE c N sc (.Tuple es x1 pos) (tupK mr) := by
  obtain ⟨t, h1, h2⟩ := h
  refine ⟨_, fun X W I T => pe_tupX (h1 X W I T), fun W B σ H ρ α S Qm Em m Q q x => ?_⟩
  refine h2 W B σ H ρ α S _ Em m _ (fun vs ds B1 H1 α1 A1 r1 m => ⟨by rw [r1.length]; exact sz5 m.1, fun p o ho hp => ?_⟩) x
  obtain ⟨s1, r2⟩ := tup_new A1.bs.bk ho hp r1
  exact q _ _ _ _ _ (A1.trans S.bs (Af.of_sub A1.bs s1)) r2 m.2
theorem jf_lst (h : JL c N sc es mr) : JF c N sc (.List es pos) (lstK mr) := by
  obtain ⟨t, h1, h2⟩ := h
  refine ⟨_, fun X W I T => pe_lst (h1 X W I T), fun W B σ H ρ α S Qm Em m Q q x => ?_⟩
  refine h2 W B σ H ρ α S _ Em m _ (fun vs ds B1 H1 α1 A1 r1 m => ⟨by rw [r1.length]; exact sz5 m.1, fun p hp => ?_⟩) x
  exact q p _ _ _ α1 (A1.trans S.bs (Af.cell A1.bs (Sub.new hp) hp (.own (own_new hp r1)))) (A1.bs.new hp) m.2
end
abbrev Fm := List D → AH → QD → QX → Prop
/-- what a def promises -/
def spD (K : Frag) (fm : Fm) : Sp := fun vs H Q E => ∃ (B : Addr → Bool) (α : AH) (ds : List D) (Qm : QD) (Em : QX), Bs K B H α ∧ RpL K (hide B H) vs ds ∧ fm ds α Qm Em ∧
  (∀ v d B' H' α', Af K B H α B' H' α' → Rp K (hide B' H') v d → Qm d α' → Q v H') ∧ ∀ x B' α' cls d H', Af K B H α B' H' α' → XR K (hide B' H') cls d x → Em x α' → E cls d H'
/-- a def of the text as its data say -/
abbrev FnD (c : C0) (k : Nat) (x : Str) (np : Nat) (ds : List D) (fm : Fm) : Prop := ∃ (f : Addr) (fd : FuncData) (ps : List Str) (dV : List Value) (dvs : List V), FnOk c.P c.w c.K c.mg c.base (L2.CX c.P c.w) k f fd ps (fun vs H Q E => vs.length = ps.length ∧ spD c.K fm vs H Q E) ∧ c.mg x = some (.ref f) ∧ PySem.W.keepIn c.K (.ref f) = true ∧ Binds c.K fd ps dV ∧ Vals dvs dV ∧ (∀ H, RpL c.K H dvs ds) ∧ ps.length = np + ds.length
theorem FnD.ex {c : C0} {k : Nat} {x : Str} {np : Nat} {ds : List D} {fm : Fm} (h : FnD c k x np ds fm) : ∃ (f : Addr) (fd : FuncData) (ps : List Str) (dV : List Value) (dvs : List V), FnOk c.P c.w c.K c.mg c.base (L2.CX c.P c.w) k f fd ps (fun vs H Q E => vs.length = ps.length ∧ spD c.K fm vs H Q E) ∧ c.mg x = some (.ref f) ∧ PySem.W.keepIn c.K (.ref f) = true ∧ Binds c.K fd ps dV ∧ Vals dvs dV ∧ (∀ H, RpL c.K H dvs ds) ∧ ps.length = np + ds.length := h
section
variable {c : C0} {N : List Str} {sc : Scope} {e : Expr} {es : List Expr} {mr : ML} {pos p : Pos} {K : Frag} {W : WX} {x : Str}
/-- the number of arguments is asked -/
def callN (np : Nat) (fm : Fm) (ds : List D) (m : ML) : ME := fun ρ α Q E => m ρ α (fun as α1 => as.length = np ∧ fm (as ++ ds) α1 Q E) E
theorem sd_call {ta : TA} {fm : Fm} {np n : Nat} {ds : List D} {dvs : List V} (hd : ∀ H, RpL K H dvs ds) (hn : n = np + ds.length) (h : SA K W ta mr) : Sd K W (tCallSD (fun vs H Q E => vs.length = n ∧ spD K fm vs H Q E) dvs (WE W) ta) (callN np fm ds mr) := fun B σ H ρ α S Qm Em m Q q x => by
  refine h B σ H ρ α S _ Em m _ (fun vs as B1 H1 α1 A1 ra m => ?_) x
  refine ⟨by rw [List.length_append, ra.length, m.1, hn, (hd H1).length], B1, α1, as ++ ds, Qm, Em, A1.bs, ra.append (hd _), m.2, fun v d B2 H2 α2 A2 r2 m => q v d B2 H2 α2 (A1.trans S.bs A2) r2 m, fun y B2 α2 cls d H2 A2 r2 m => x y B2 α2 cls d H2 (A1.trans S.bs A2) r2 m⟩
theorem je_call {fm : Fm} {np k : Nat} {ds : List D} (F : FnD c k x np ds fm) (hk : k ≤ c.k) (hg : sc.names.lookup x = some .globalImplicit) (ha : JL c N sc (e :: es) mr) (hc : c.cm = true := by rfl)
    (hdb : (x == ("__debug__" : Str)) = false := by decide) (he : ∀ env, starEach (e :: es) env = (false, eval e env) :: starEach es env := by intros; rfl) (hpl : ∀ env, (backTo pos (starEach es env)).any (·.1) = false := by intros; rfl) :
    JE c N sc (.Call (.Name x p) (e :: es) [] pos) (callN np fm ds mr) := by
  obtain ⟨f, fd, ps, dV, dvs, F, h1, h2, h3, h4, h5, h6⟩ := F.ex
  obtain ⟨t, p1, s1⟩ := ha
  refine ⟨fun W => tCallSD (fun vs H Q E => vs.length = ps.length ∧ spD c.K fm vs H Q E) dvs (WE W) (t W), fun X W I T => ?_, fun W => sd_call h5 h6 (s1 W)⟩
  have F' : FnOk X.prog X.w X.K X.mg X.base (L2.CX X.prog X.w) k f fd ps (fun vs H Q E => vs.length = ps.length ∧ spD c.K fm vs H Q E) := by
    rw [I.P, I.w, I.K, I.mg, I.base]
    exact F
  exact pe_callSD F' ((I.rm hc).mono hk) (I.gl hg) (by rw [I.mg]; exact h1) (by rw [I.K]; exact h2) (by rw [I.K]; exact h3) h4 (fun σ => passAt T σ) (p1 X W I T) hdb (he _) (hpl _)
end
end Hz
namespace Hz
open PySem L2
/-- what is wished behind a statement -/
structure Md where
  nx : En → AH → Prop
  rt : D → AH → Prop
  bk : En → AH → Prop
  ct : En → AH → Prop
  ex : Ex → En → AH → Prop
abbrev MS := En → AH → Md → Prop
structure Fi (K : Frag) (B : Addr → Bool) (H : Hp) (α : AH) (D : Md) (Dn : Ends) : Prop where
  nx : ∀ B' σ' H' ρ' α', Af K B H α B' H' α' → SR K B' σ' H' ρ' α' → D.nx ρ' α' → Dn.nx σ' H'
  rt : ∀ v d B' H' α', Af K B H α B' H' α' → Rp K (hide B' H') v d → D.rt d α' → Dn.rt v H'
  bk : ∀ B' σ' H' ρ' α', Af K B H α B' H' α' → SR K B' σ' H' ρ' α' → D.bk ρ' α' → Dn.bk σ' H'
  ct : ∀ B' σ' H' ρ' α', Af K B H α B' H' α' → SR K B' σ' H' ρ' α' → D.ct ρ' α' → Dn.ct σ' H'
def FX (K : Frag) (W : WX) (B : Addr → Bool) (H : Hp) (α : AH) (D : Md) : Prop := ∀ x B' σ' ρ' α' cls d H', Af K B H α B' H' α' → SR K B' σ' H' ρ' α' → XR K (hide B' H') cls d x → D.ex x ρ' α' → W cls d σ' H'
def SS (K : Frag) (W : WX) (t : TS) (m : MS) : Prop := ∀ B σ H ρ α, SR K B σ H ρ α → ∀ D, m ρ α D → ∀ Dn : Ends, Fi K B H α D Dn → FX K W B H α D → t Dn σ H
def JS (c : C0) (N : List Str) (sc : Scope) (s : Stmt) (m : MS) : Prop := ∃ t : WX → TS, (∀ X W, In c N sc X → Takes X W → PS X s (t W)) ∧ ∀ W, SS c.K W (t W) m
def JB (c : C0) (N : List Str) (sc : Scope) (s : List Stmt) (m : MS) : Prop := ∃ t : WX → TS, (∀ X W, In c N sc X → Takes X W → PSs X s (t W)) ∧ ∀ W, SS c.K W (t W) m
section
variable {K : Frag} {W : WX} {B B1 : Addr → Bool} {σ : St} {H H1 : Hp} {ρ : En} {α α1 : AH} {D : Md} {Dn : Ends}
theorem Fi.after (S : Bs K B H α) (h : Fi K B H α D Dn) (a : Af K B H α B1 H1 α1) : Fi K B1 H1 α1 D Dn :=
  ⟨fun B' σ' H' ρ' α' b => h.nx B' σ' H' ρ' α' (a.trans S b), fun v d B' H' α' b => h.rt v d B' H' α' (a.trans S b), fun B' σ' H' ρ' α' b => h.bk B' σ' H' ρ' α' (a.trans S b), fun B' σ' H' ρ' α' b => h.ct B' σ' H' ρ' α' (a.trans S b)⟩
theorem FX.after (S : Bs K B H α) (h : FX K W B H α D) (a : Af K B H α B1 H1 α1) : FX K W B1 H1 α1 D := fun x B' σ' ρ' α' cls d H' b => h x B' σ' ρ' α' cls d H' (a.trans S b)
/-- an expression of a statement raises at the statement's slots -/
theorem FX.sx (S : SR K B σ H ρ α) (h : FX K W B H α D) : SX K W B σ H α (fun x α' => D.ex x ρ α') := fun x B' α' cls d H' a r e => h x B' σ ρ α' cls d H' a (S.step a) r e
end
def nextS : MS := fun ρ α D => D.nx ρ α
def seqS (m1 m2 : MS) : MS := fun ρ α D => m1 ρ α { D with nx := fun ρ1 α1 => m2 ρ1 α1 D }
def breakS : MS := fun ρ α D => D.bk ρ α
def contS : MS := fun ρ α D => D.ct ρ α
def dropS (m : ME) : MS := fun ρ α D => m ρ α (fun _ α1 => D.nx ρ α1) (fun x α1 => D.ex x ρ α1)
def retS (m : ME) : MS := fun ρ α D => m ρ α (fun d α1 => D.rt d α1) (fun x α1 => D.ex x ρ α1)
def retN : MS := fun ρ α D => D.rt .none α
def ifS (mt : MT) (m1 m2 : MS) : MS := fun ρ α D => mt ρ α (fun b α1 => if b = true then m1 ρ α1 D else m2 ρ α1 D) (fun x α1 => D.ex x ρ α1)
def setv (i : Nat) (d : D) (ρ : En) : Option En := some (ρ.set i (some d))
def asgS (m : ME) (g : D → En → Option En) : MS := fun ρ α D => m ρ α (fun d α1 => oq (g d ρ) fun ρ1 => D.nx ρ1 α1) (fun x α1 => D.ex x ρ α1)
/-- the cell in a slot becomes a datum -/
def frzS (i : Nat) (m : MS) : MS := fun ρ α D => ∃ p c, ρ[i]? = some (some (dref p)) ∧ α p = some c ∧ m (ρ.set i (some c)) (adel α p) D
section
variable {c : C0} {N : List Str} {sc : Scope} {K : Frag} {W : WX} {t u : TS} {m m1 m2 : MS} {s : Stmt} {rest b1 b2 : List Stmt} {me : ME} {mt : MT} {e : Expr} {pos p1 : Pos} {i : Nat} {x : Str}
theorem ss_next : SS K W tNext nextS := fun B σ H ρ α S D m Dn h x => h.nx B σ H ρ α (Af.refl S.bs) S m
theorem ss_seq (h1 : SS K W t m1) (h2 : SS K W u m2) : SS K W (tSeq t u) (seqS m1 m2) := fun B σ H ρ α S D m Dn h x =>
  h1 B σ H ρ α S _ m _ ⟨fun B' σ' H' ρ' α' a S' m' => h2 B' σ' H' ρ' α' S' D m' Dn (h.after S.bs a) (x.after S.bs a), h.rt, h.bk, h.ct⟩ x
theorem jb_nil : JB c N sc [] nextS := ⟨_, fun _ _ _ _ => pss_nil, fun _ => ss_next⟩
theorem jb_cons (h : JS c N sc s m1) (k : JB c N sc rest m2) : JB c N sc (s :: rest) (seqS m1 m2) := by
  obtain ⟨t, h1, h2⟩ := h
  obtain ⟨u, k1, k2⟩ := k
  exact ⟨_, fun X W I T => pss_cons (h1 X W I T) (k1 X W I T), fun W => ss_seq (h2 W) (k2 W)⟩
theorem jb_one (h : JS c N sc s m1) : JB c N sc [s] m1 := by
  obtain ⟨t, h1, h2⟩ := h
  exact ⟨_, fun X W I T => pss_one (h1 X W I T), h2⟩
theorem js_expr (h : JE c N sc e me) (hs : ∀ env, swapsWith e none pos.line env = pure false := by intros; rfl) : JS c N sc (.Expr e pos) (dropS me) := by
  obtain ⟨t, h1, h2⟩ := h
  exact ⟨_, fun X W I T => ps_expr (h1 X W I T) (hs _), fun W B σ H ρ α S D m Dn h x => h2 W B σ H ρ α S _ _ m _ (fun v d B' H' α' A r q => h.nx B' σ H' ρ α' A (S.step A) q) (x.sx S)⟩
theorem js_ret (h : JE c N sc e me) : JS c N sc (.Return (some e) pos) (retS me) := by
  obtain ⟨t, h1, h2⟩ := h
  exact ⟨_, fun X W I T => ps_ret (h1 X W I T), fun W B σ H ρ α S D m Dn h x => h2 W B σ H ρ α S _ _ m _ (fun v d B' H' α' A r q => h.rt v d B' H' α' A r q) (x.sx S)⟩
theorem js_if (ht : JT c N sc e mt) (h1 : JB c N sc b1 m1) (h2 : JB c N sc b2 m2) : JS c N sc (.If e b1 b2 pos) (ifS mt m1 m2) := by
  obtain ⟨t, p1, s1⟩ := ht
  obtain ⟨u, p2, s2⟩ := h1
  obtain ⟨w, p3, s3⟩ := h2
  refine ⟨_, fun X W I T => ps_if (p1 X W I T) (p2 X W I T) (p3 X W I T), fun W B σ H ρ α S D m Dn h x => s1 W B σ H ρ α S _ _ m _ (fun b B' H' α' A q => ?_) (x.sx S)⟩
  cases b with
  | true => exact s2 W B' σ H' ρ α' (S.step A) D q Dn (h.after S.bs A) (x.after S.bs A)
  | false => exact s3 W B' σ H' ρ α' (S.step A) D q Dn (h.after S.bs A) (x.after S.bs A)
end
/-- a target at the slots js -/
def SgT (K : Frag) (js : List Nat) (g : TG) (mg : D → En → Option En) : Prop :=
  ∀ B σ H ρ α v d ρ', SR K B σ H ρ α → Rp K (hide B H) v d → mg d ρ = some ρ' → ∀ Q : St → Hp → Prop, (∀ σ', SR K B σ' H ρ' α → (∀ j, j ∉ js → σ'[j]? = σ[j]? ∧ ρ'[j]? = ρ[j]?) → σ'.length = σ.length → Q σ' H) → g v σ H Q
def SgTs (K : Frag) (js : List Nat) (g : TGs) (mg : List D → En → Option En) : Prop :=
  ∀ B σ H ρ α vs ds ρ', SR K B σ H ρ α → RpL K (hide B H) vs ds → mg ds ρ = some ρ' → ∀ Q : St → Hp → Prop, (∀ σ', SR K B σ' H ρ' α → (∀ j, j ∉ js → σ'[j]? = σ[j]? ∧ ρ'[j]? = ρ[j]?) → σ'.length = σ.length → Q σ' H) → g vs σ H Q
theorem SR.set {K : Frag} {B : Addr → Bool} {σ : St} {H : Hp} {ρ : En} {α : AH} {i : Nat} {v : V} {d : D} (S : SR K B σ H ρ α) (r : Rp K (hide B H) v d) : SR K B (σ.set i (some v)) H (ρ.set i (some d)) α := by
  refine ⟨by simpa using S.len, fun j d' e => ?_, S.bs⟩
  by_cases q : i = j
  · subst q
    have hl : i < ρ.length := by simpa using (List.getElem?_eq_some_iff.mp e).1
    rw [List.getElem?_set_self hl] at e
    cases e
    exact ⟨v, List.getElem?_set_self (by rw [S.len]; exact hl), r⟩
  · rw [List.getElem?_set_ne q] at e
    obtain ⟨w, a, b⟩ := S.val j d' e
    exact ⟨w, by rw [List.getElem?_set_ne q]; exact a, b⟩
theorem sgt_name {K : Frag} {i : Nat} : SgT K [i] (gName i) (setv i) := fun B σ H ρ α v d ρ' S r e Q q => by
  cases e
  refine q _ (S.set r) (fun j hj => ?_) (by simp)
  have z : i ≠ j := fun z => hj (by simp [z])
  exact ⟨List.getElem?_set_ne z, List.getElem?_set_ne z⟩
def tgNil : List D → En → Option En := fun ds ρ => match ds with
  | [] => some ρ
  | _ => none
def tgCons (mg : D → En → Option En) (mr : List D → En → Option En) : List D → En → Option En := fun ds ρ => match ds with
  | d :: r => (mg d ρ).bind (mr r)
  | [] => none
def tgTup (n : Nat) (mr : List D → En → Option En) : D → En → Option En := fun d ρ => match d with
  | .tuple ds => if ds.length = n then mr ds ρ else none
  | _ => none
def JTg (c : C0) (N : List Str) (sc : Scope) (e : Expr) (js : List Nat) (mg : D → En → Option En) : Prop := ∃ g, (∀ X, In c N sc X → PG X e g) ∧ SgT c.K js g mg
def JTgs (c : C0) (N : List Str) (sc : Scope) (es : List Expr) (js : List Nat) (mg : List D → En → Option En) : Prop := ∃ g, (∀ X, In c N sc X → PGs X es g) ∧ SgTs c.K js g mg
section
variable {K : Frag} {mg : D → En → Option En} {mr : List D → En → Option En} {js ks : List Nat} {n : Nat}
theorem sgts_nil : SgTs K [] gNil tgNil := fun B σ H ρ α vs ds ρ' S r e Q q => by
  cases r with
  | nil =>
    cases e
    exact ⟨rfl, q σ S (fun _ _ => ⟨rfl, rfl⟩) rfl⟩
  | cons _ _ => cases e
theorem sgts_cons {g : TG} {u : TGs} (h : SgT K js g mg) (k : SgTs K ks u mr) : SgTs K (js ++ ks) (gCons g u) (tgCons mg mr) := fun B σ H ρ α vs ds ρ' S r e Q q => by
  cases r with
  | nil => cases e
  | cons r1 r2 =>
    rename_i v vs d ds
    unfold tgCons at e
    cases z : mg d ρ with
    | none => simp [z] at e
    | some ρ1 =>
      simp only [z, Option.bind_some] at e
      refine ⟨v, vs, rfl, h B σ H ρ α v d ρ1 S r1 z _ fun σ1 b1 l1 n1 => ?_⟩
      refine k B σ1 H ρ1 α vs ds ρ' b1 r2 e _ fun σ2 b2 l2 n2 => q σ2 b2 (fun j hj => ?_) (n2.trans n1)
      rw [List.mem_append, not_or] at hj
      obtain ⟨a1, a2⟩ := l1 j hj.1
      obtain ⟨a3, a4⟩ := l2 j hj.2
      exact ⟨a3.trans a1, a4.trans a2⟩
theorem sgt_tup {u : TGs} (k : SgTs K ks u mr) : SgT K ks (gTup K n u) (tgTup n mr) := fun B σ H ρ α v d ρ' S r e Q q => by
  unfold tgTup at e
  split at e
  · rename_i ds
    split at e
    · rename_i hn
      cases r with
      | tup ht rr _ =>
        refine ⟨_, _, rfl, sub_t (hide_sub B H) ht, ?_, ?_⟩
        · rw [rr.length]; exact hn
        · exact k B σ H ρ α _ ds ρ' S rr e Q q
    · cases e
  · cases e
end
/-- a name that may be stored -/
def Sto (c : C0) (sc : Scope) (x : Str) : Prop := sc.names.lookup x = some .local ∨ ((c.top || c.oc.contains x) = true ∧ sc.names.lookup x = some .cell)
section
variable {c : C0} {N : List Str} {sc : Scope} {e value : Expr} {es : List Expr} {js ks : List Nat} {mg : D → En → Option En} {mr : List D → En → Option En} {pos p1 p2 : Pos} {i j n k : Nat} {x : Str} {me mi : ME} {K : Frag} {W : WX}
theorem Sto.loc {X : Cx} (h : Sto c sc x) (I : In c N sc X) : Loc X.env.scope x := by
  rw [I.sc]
  rcases h with h | ⟨_, h⟩
  · exact .inl h
  · exact .inr h
theorem Sto.vis (h : Sto c sc x) : Vis sc x := by
  rcases h with h | ⟨_, h⟩
  · exact .inl h
  · exact .inr (.inl h)
theorem Sto.fn {X : Cx} (h : Sto c sc x) (I : In c N sc X) : X.fn x = true ∨ X.env.scope.names.lookup x = some .local := by
  rw [I.sc]
  rcases h with h | ⟨h, _⟩
  · exact .inr h
  · rcases Bool.or_eq_true _ _ ▸ h with h | h
    · rw [I.fn h]; exact .inl rfl
    · exact .inl (I.oc _ h)
theorem jtg_name (nd : N.Nodup) (hN : N[i]? = some x) (hs : Sto c sc x) : JTg c N sc (.Name x pos) [i] (setv i) :=
  ⟨_, fun X I => pg_name (by rw [I.N]; exact nd) (by rw [I.N]; exact hN) (hs.loc I) (hs.fn I), sgt_name⟩
theorem jtgs_nil : JTgs c N sc [] [] tgNil := ⟨_, fun _ _ => pgs_nil, sgts_nil⟩
theorem jtgs_cons (h : JTg c N sc e js mg) (k : JTgs c N sc es ks mr) (hs : ∀ env, (assignEach (e :: es) env).map (·.2) = assign e env :: (assignEach es env).map (·.2) := by intros; rfl) : JTgs c N sc (e :: es) (js ++ ks) (tgCons mg mr) := by
  obtain ⟨g, h1, h2⟩ := h
  obtain ⟨u, k1, k2⟩ := k
  exact ⟨_, fun X I => pgs_cons (h1 X I) (k1 X I) (hs _), sgts_cons h2 k2⟩
theorem jtg_tup (h : JTgs c N sc es js mr) (hc : c.cm = true := by rfl) (hn : ∀ env, (assignEach es env).length = n := by intros; rfl) (hst : ∀ env, (assignEach es env).findIdx? (·.1) = none := by intros; rfl) : JTg c N sc (.Tuple es k pos) js (tgTup n mr) := by
  obtain ⟨u, k1, k2⟩ := h
  refine ⟨gTup c.K n u, fun X I => ?_, sgt_tup k2⟩
  have q := pg_tup (k := k) (pos := pos) (I.calm hc) (k1 X I) (hn _) (hst _)
  rw [I.K] at q
  exact q
theorem ss_asg {te : TE} {g : TG} (h : Sd K W te me) (k : SgT K js g mg) : SS K W (tAsg te g) (asgS me mg) := fun B σ H ρ α S D m Dn h' x =>
  h B σ H ρ α S _ _ m _ (fun v d B' H' α' A r q => by
    obtain ⟨ρ', e, q⟩ := q
    exact k B' σ H' ρ α' v d ρ' (S.step A) r e _ fun σ' S' _ _ => h'.nx B' σ' H' ρ' α' A S' q) (x.sx S)
theorem js_set (nd : N.Nodup) (hN : N[i]? = some x) (hs : Sto c sc x) (h : JE c N sc e me) (hw : ∀ env, swapsWith e (some (.Name x p1)) pos.line env = pure false := by intros; rfl) : JS c N sc (.Assign [.Name x p1] e pos) (asgS me (setv i)) := by
  obtain ⟨t, h1, h2⟩ := h
  exact ⟨_, fun X W I T => ps_set (by rw [I.N]; exact nd) (by rw [I.N]; exact hN) (hs.loc I) (h1 X W I T) (hw _) (hs.fn I), fun W => ss_asg (h2 W) sgt_name⟩
theorem js_asg (h : JE c N sc value me) (g : JTg c N sc e js mg) (hs : ∀ env, swapsWithSole [e] value pos.line env = pure false := by intros; rfl) (hw : ∀ env, swappedStores [e] value env = pure none := by intros; rfl)
    (h1 : ∀ env, (assignEach [e] env).map (·.2) = [assign e env] := by intros; rfl) : JS c N sc (.Assign [e] value pos) (asgS me mg) := by
  obtain ⟨t, a1, a2⟩ := h
  obtain ⟨u, b1, b2⟩ := g
  exact ⟨_, fun X W I T => ps_asg (a1 X W I T) (b1 X I) (hs _) (hw _) (h1 _), fun W => ss_asg (a2 W) b2⟩
end
def augS (g : D → D → Option D) (i : Nat) (me : ME) : MS := fun ρ α D => ∃ d, ρ[i]? = some (some d) ∧ me ρ α (fun e α1 => oq (g d e) fun z => D.nx (ρ.set i (some z)) α1) (fun x α1 => D.ex x ρ α1)
section
variable {c : C0} {N : List Str} {sc : Scope} {e : Expr} {pos p1 : Pos} {x : Str} {me : ME} {g : D → D → Option D}
/-- a, b = x, y -/
def parS (i j : Nat) (ml : ML) : MS := fun ρ α D => ml ρ α (fun ds α1 => ∃ d e, ds = [d, e] ∧ D.nx ((ρ.set i (some d)).set j (some e)) α1) (fun x α1 => D.ex x ρ α1)
theorem js_aug {op : Operator} {i : Nat} (nd : N.Nodup) (ho : OpD c.K (In c N sc) (inplaceOp op) g) (h : JE c N sc e me) (hN : N[i]? = some x := by rfl) (hs : Sto c sc x := by first | exact Or.inl rfl | exact Or.inr ⟨rfl, rfl⟩) : JS c N sc (.AugAssign (.Name x p1) op e pos) (augS g i me) := by
  obtain ⟨r, h1, h2⟩ := ho.ex
  obtain ⟨t, a1, a2⟩ := h
  refine ⟨_, fun X W I T => ps_aug (by rw [I.N]; exact nd) (by rw [I.N]; exact hN) (hs.loc I) (a1 X W I T) (h1 X I) (hs.fn I), fun W B σ H ρ α S D m Dn h' x => ?_⟩
  obtain ⟨d, e0, m⟩ := m
  obtain ⟨v, g1, g2⟩ := S.val i d e0
  refine ⟨v, g1, a2 W B σ H ρ α S _ _ m _ (fun w d1 B1 H1 α1 A1 r1 m => ?_) (x.sx S)⟩
  obtain ⟨z, hz, m⟩ := m
  refine h2 B1 H1 v w d d1 z A1.bs.bk (.vis (g2.mono A1.sub)) (.vis r1) hz _ fun y H2 s2 r2 => ?_
  have A2 := A1.trans S.bs (Af.of_sub A1.bs s2)
  exact h'.nx _ _ _ _ _ A2 ((S.step A2).set r2) m
end
structure MuD (K : Frag) (XS : Cx → Prop) (id : String) (f : List D → List D → Option (D × List D)) : Prop where
  ex : ∃ r : V → List V → Hp → VK → Prop, (∀ X, XS X → MtR X id r) ∧ ∀ (B : Addr → Bool) (H : Hp) (l : Addr) (vs : List V) (ds : List D) (us : List V) (as : List D) (z : D) (ds' : List D),
    (∀ a, B a = true → ∃ o, H a = some o) → B l = true → H l = some (.lst vs) → RpL K (hide B H) vs ds → RpL K (hide B H) us as → f ds as = some (z, ds') →
    ∀ Q : VK, (∀ y vs', RpL K (hide B H) vs' ds' → Rp K (hide B H) y z → Q y (upd H l (.lst vs'))) → r (.ref l) us H Q
/-- a cell that holds a list -/
def cellL (α : AH) (o : D) (Q : Addr → List D → Prop) : Prop := ∃ a ds, o = dref a ∧ α a = some (.list ds) ∧ Q a ds
/-- vs: are the arguments read through their cells? -/
def mapV (α : AH) : List D → Option (List D)
  | [] => some []
  | d :: ds => (vw α d).bind fun z => (mapV α ds).map fun r => z :: r
def mutK (f : List D → List D → Option (D × List D)) (mo : ME) (ma : ML) : ME := fun ρ α Q E => mo ρ α (fun o α1 => cellL α1 o fun _ _ => ma ρ α1 (fun as α2 => cellL α2 o fun a ds => oq (f ds as) fun z => Q z.1 (aset α2 a (.list z.2))) E) E
section
variable {c : C0} {N : List Str} {sc : Scope} {e e2 o : Expr} {es : List Expr} {pos p1 p2 p3 : Pos} {i : Nat} {x m : Str} {me mi mo : ME} {ma : ML} {K : Frag} {W : WX} {id : String} {f : List D → List D → Option (D × List D)} {r : V → List V → Hp → VK → Prop}
theorem Bs.list {B : Addr → Bool} {H : Hp} {α : AH} {l : Addr} {ds : List D} (S : Bs K B H α) (h : α l = some (.list ds)) : B l = true ∧ ∃ vs, H l = some (.lst vs) ∧ RpL K (hide B H) vs ds := by
  obtain ⟨h1, h2⟩ := S.cel l _ h
  refine ⟨h1, ?_⟩
  generalize ez : PyData.list ds = z at h2
  generalize eo : H l = o at h2
  cases h2 with
  | own h =>
    subst ez
    exact h
  | obj h => cases ez
theorem dref_inj {a b : Addr} (h : dref a = dref b) : a = b := by
  have e1 := List.cons.inj (PyData.dict.inj h)
  have e2 : PyData.int (Int.ofNat a) = PyData.int (Int.ofNat b) := congrArg Prod.snd e1.1
  exact Int.ofNat.inj (PyData.int.inj e2)
theorem sd_mut {to : TE} {ta : TA} (ho : Sd K W to mo) (h : SA K W ta ma) (hr : ∀ (B : Addr → Bool) (H : Hp) (l : Addr) (vs : List V) (ds : List D) (us : List V) (as : List D) (z : D) (ds' : List D),
    (∀ a, B a = true → ∃ o, H a = some o) → B l = true → H l = some (.lst vs) → RpL K (hide B H) vs ds → RpL K (hide B H) us as → f ds as = some (z, ds') →
    ∀ Q : VK, (∀ y vs', RpL K (hide B H) vs' ds' → Rp K (hide B H) y z → Q y (upd H l (.lst vs'))) → r (.ref l) us H Q) : Sd K W (tBM K "list" r to ta) (mutK f mo ma) := fun B σ H ρ α S Qm Em m Q q x => by
  refine ho B σ H ρ α S _ Em m _ (fun v o B1 H1 α1 A1 r1 m => ?_) x
  obtain ⟨a, ds, rfl, e1, m⟩ := m
  obtain ⟨b1, vs, g1, g2⟩ := A1.bs.list e1
  have hv := r1.cell
  subst hv
  refine ⟨.inl ⟨rfl, vs, .inl (.inl g1)⟩, ?_⟩
  refine h B1 σ H1 ρ α1 (S.step A1) _ Em m _ (fun us as B2 H2 α2 A2 ra m => ?_) (x.after S.bs A1)
  obtain ⟨a', ds', ea, e2, z, hz, m⟩ := m
  have ea' := dref_inj ea
  subst ea'
  obtain ⟨b2, vs', g3, g4⟩ := A2.bs.list e2
  obtain ⟨z1, z2⟩ := z
  refine hr B2 H2 a vs' ds' us as z1 z2 A2.bs.bk b2 g3 g4 ra hz _ fun y ws k1 k2 => ?_
  have w := Af.write (o := .lst ws) (c := .list z2) A2.bs e2 (.own ⟨_, rfl, k1⟩)
  exact q y z1 B2 _ _ ((A1.trans S.bs A2).trans S.bs w) (k2.mono w.sub) m
theorem je_mut (ho : MuD c.K (In c N sc) id f) (slot : Slot "list" m id) (hty : typeOf (.builtin id) = pure (.type "method_descriptor")) (h1 : JE c N sc o mo) (h : JL c N sc (e :: es) ma)
    (hbase : ∀ env, attributeBase o m env (eval o env) = eval o env := by intros; rfl)
    (hfew : ∀ env, ((backTo p3 (starEach (e :: es) env)).all (fun x => !x.1) && (backToKw p3 (keywordEach [] env)).all (fun x => x.1.isSome) && decide ((e :: es).length + ([] : List Keyword).length + (if ([] : List Keyword).isEmpty then 0 else 1) < 30)) = true := by intros; rfl)
    (hline : (p2.endLine == p3.line) = true := by rfl) (hs : ∀ env, starEach (e :: es) env = (false, eval e env) :: starEach es env := by intros; rfl) (hplain : ∀ env, (backTo p3 (starEach es env)).any (·.1) = false := by intros; rfl) :
    JE c N sc (.Call (.Attribute o m p2) (e :: es) [] p3) (mutK f mo ma) := by
  obtain ⟨t, a1, a2⟩ := h
  obtain ⟨u, b1, b2⟩ := h1
  obtain ⟨r, hr1, hr2⟩ := ho.ex
  refine ⟨fun W => tBM c.K "list" r (u W) (t W), fun X W I T => ?_, fun W => sd_mut (b2 W) (a2 W) hr2⟩
  have q := pe_bm (cpos := p3) (apos := p2) PySem.F.plainAttrs_list slot hty (hr1 X I) (b1 X W I T) (a1 X W I T) (hbase _) (hfew _) hline (hs _) (hplain _)
  rw [I.K] at q
  exact q
def muAppend (ds as : List D) : Option (D × List D) := match as with
  | [d] => if ds.length < 100000 then some (.none, ds ++ [d]) else none
  | _ => none
theorem mu_append {XS : Cx → Prop} : MuD K XS "list.append" muAppend := ⟨_, fun X _ => mt_append, fun B H l vs ds us as z ds' bk bl hl r ra e Q q => by
  unfold muAppend at e
  split at e
  · rename_i d
    split at e
    · rename_i hn
      cases e
      cases ra with
      | cons r1 r2 =>
        cases r2
        exact ⟨l, vs, _, rfl, rfl, hl, Nat.lt_of_lt_of_le (by rw [r.length]; exact hn) (by decide), q _ _ (r.append (.cons r1 .nil)) .non⟩
    · cases e
  · cases e⟩
/-- o[k] = e, o a list that changes -/
def setiS (me mo mi : ME) : MS := fun ρ α D => me ρ α (fun d α1 => mo ρ α1 (fun o α2 => mi ρ α2 (fun k α3 => cellL α3 o fun a ds => ∃ i, k = .int i ∧ oq (ixN ds.length i) fun j => D.nx ρ (aset α3 a (.list (ds.set j d)))) (fun x α1 => D.ex x ρ α1)) (fun x α1 => D.ex x ρ α1)) (fun x α1 => D.ex x ρ α1)
theorem ss_seti {te to ti : TE} (h : Sd K W te me) (ho : Sd K W to mo) (hi : Sd K W ti mi) : SS K W (tAsg te (gSub to ti rSetL)) (setiS me mo mi) := fun B σ H ρ α S D m Dn h' x => by
  refine h B σ H ρ α S _ _ m _ (fun v d B1 H1 α1 A1 r1 m => ?_) (x.sx S)
  have S1 := S.step A1
  refine ho B1 σ H1 ρ α1 S1 _ _ m _ (fun w o B2 H2 α2 A2 r2 m => ?_) ((x.sx S).after S.bs A1)
  have A12 := A1.trans S.bs A2
  refine hi B2 σ H2 ρ α2 (S.step A12) _ _ m _ (fun y k B3 H3 α3 A3 r3 m => ?_) ((x.sx S).after S.bs A12)
  obtain ⟨a, ds, rfl, e, i, rfl, j, hj, m⟩ := m
  obtain ⟨b1, vs, g1, g2⟩ := A3.bs.list e
  have hw := r2.cell
  subst hw
  refine ⟨a, vs, i, j, rfl, r3.inti, g1, by rw [g2.length]; exact hj, ?_⟩
  have w := Af.write (o := .lst (vs.set j v)) (c := .list (ds.set j d)) A3.bs e (.own ⟨_, rfl, g2.set (r1.mono (A2.sub.trans A3.sub)) j⟩)
  have A := (A12.trans S.bs A3).trans S.bs w
  exact h'.nx _ _ _ _ _ A (S.step A) m
theorem js_seti (h : JE c N sc e me) (ho : JE c N sc o mo) (hi : JE c N sc e2 mi)
    (ha : ∀ env v, assign (.Subscript o e2 p2) env v = (do
      let ov ← holding [v] (eval o env)
      let iv ← holding [v, ov] (eval e2 env)
      standAt p2
      holding [v, ov, iv] (setItem ov iv v)
      release [v, ov, iv] []) := by intros; rfl)
    (hs : ∀ env, swapsWithSole [.Subscript o e2 p2] e pos.line env = pure false := by intros; rfl) (hw : ∀ env, swappedStores [.Subscript o e2 p2] e env = pure none := by intros; rfl)
    (h1 : ∀ env, (assignEach [.Subscript o e2 p2] env).map (·.2) = [assign (.Subscript o e2 p2) env] := by intros; rfl) :
    JS c N sc (.Assign [.Subscript o e2 p2] e pos) (setiS me mo mi) := by
  obtain ⟨t, a1, a2⟩ := h
  obtain ⟨w, d1, d2⟩ := ho
  obtain ⟨u, b1, b2⟩ := hi
  exact ⟨_, fun X W I T => ps_asg (a1 X W I T) (pg_sub (d1 X W I T) (b1 X W I T) set_list (ha _)) (hs _) (hw _) (h1 _), fun W => ss_seti (a2 W) (d2 W) (b2 W)⟩
end
end Hz
namespace Hz
open PySem L2
/-- what is walked: its data, what must stay so while it is walked -/
abbrev MI := En → AH → (List D → (AH → Prop) → AH → Prop) → QX → Prop
def ItOk (K : Frag) (J : It) (G : AH → Prop) (B : Addr → Bool) (H : Hp) (ds : List D) : Prop := ∀ B' H' α', Sub (hide B H) (hide B' H') → Bs K B' H' α' → G α' →
  (∀ (i : Nat) d, ds[i]? = some d → J.go i H' ∧ ∀ x H'', J.yld i H' x H'' → Sub H' H'' ∧ Rp K (hide B' H'') x d) ∧ J.stop ds.length H'
def SI (K : Frag) (W : WX) (wi : TI) (m : MI) : Prop :=
  ∀ B σ H ρ α, SR K B σ H ρ α → ∀ Qm Em, m ρ α Qm Em → ∀ R : It → Hp → Prop, (∀ J ds G B' H' α', Af K B H α B' H' α' → ItOk K J G B' H' ds → Qm ds G α' → R J H') → SX K W B σ H α Em → wi σ H R
def JI (c : C0) (N : List Str) (sc : Scope) (tg iter : Expr) (m : MI) : Prop := ∃ wi : WX → TI, (∀ X W, In c N sc X → Takes X W → PI X tg iter (wi W)) ∧ ∀ W, SI c.K W (wi W) m
def listK (m : ME) : MI := fun ρ α Q E => m ρ α (fun d α1 => ∃ ds, vw α1 d = some (.list ds) ∧ Q ds (fun α' => vw α' d = some (.list ds)) α1) E
def tupleK (m : ME) : MI := fun ρ α Q E => m ρ α (fun d α1 => ∃ ds, d = .tuple ds ∧ Q ds (fun _ => True) α1) E
/-- lo, lo + 1, .., n of them -/
def nums (lo : Int) : Nat → List D
  | 0 => []
  | n + 1 => .int lo :: nums (lo + 1) n
theorem nums_length : ∀ (n : Nat) (lo : Int), (nums lo n).length = n
  | 0, _ => rfl
  | n + 1, lo => by
    show (nums (lo + 1) n).length + 1 = n + 1
    rw [nums_length n]
theorem nums_get : ∀ (n : Nat) (lo : Int) (i : Nat) (d : D), (nums lo n)[i]? = some d → i < n ∧ d = .int (lo + i)
  | 0, _, i, d, h => by simp [nums] at h
  | n + 1, lo, 0, d, h => by
    simp [nums] at h
    exact ⟨by omega, by rw [← h]; simp⟩
  | n + 1, lo, i + 1, d, h => by
    have h' : (nums (lo + 1) n)[i]? = some d := h
    obtain ⟨a, b⟩ := nums_get n (lo + 1) i d h'
    refine ⟨by omega, ?_⟩
    rw [b]
    congr 1
    omega
def rangeK1 (m : ML) : MI := fun ρ α Q E => m ρ α (fun ds α1 => ∃ n : Int, ds = [.int n] ∧ (-(2 ^ 62) ≤ n ∧ n < 2 ^ 62) ∧ Q (nums 0 n.toNat) (fun _ => True) α1) E
def rangeK2 (m : ML) : MI := fun ρ α Q E => m ρ α (fun ds α1 => ∃ a b : Int, ds = [.int a, .int b] ∧ (-(2 ^ 62) ≤ a ∧ a < 2 ^ 62 ∧ -(2 ^ 62) ≤ b ∧ b < 2 ^ 62) ∧ Q (nums a (b - a).toNat) (fun _ => True) α1) E
section
variable {c : C0} {N : List Str} {sc : Scope} {e a b tg : Expr} {pos p : Pos} {me : ME} {ma : ML} {K : Frag} {W : WX}
theorem si_list {te : TE} (h : Sd K W te me) : SI K W (iList K te) (listK me) := fun B σ H ρ α S Qm Em m R q x => by
  refine h B σ H ρ α S _ Em m _ (fun v d B1 H1 α1 A r m => ?_) x
  obtain ⟨ds, hd, m⟩ := m
  cases r with
  | lst hs rr =>
    cases hd
    refine ⟨_, rfl, ⟨_, sub_l (hide_sub B1 H1) hs⟩, q _ ds _ B1 H1 α1 A (fun B' H' α' sb bs g => ⟨fun i d hi => ?_, ?_⟩) m⟩
    · obtain ⟨v, g1, g2⟩ := rr.get' hi
      refine ⟨⟨_, v, sub_l ((sb.trans (hide_sub B' H'))) hs, g1⟩, fun x H'' y => ?_⟩
      obtain ⟨rfl, y⟩ := y
      refine ⟨Sub.refl _, ?_⟩
      have := y _ (sub_l (sb.trans (hide_sub B' _)) hs)
      rw [g1] at this
      cases this
      exact g2.mono sb
    · exact ⟨_, sub_l ((sb.trans (hide_sub B' H'))) hs, by rw [rr.length]; exact Nat.le_refl _⟩
  | @ref a =>
    obtain ⟨b1, vs, g1, g2⟩ := A.bs.list (show α1 a = some (.list ds) from hd)
    refine ⟨a, rfl, ⟨vs, .inl (.inl g1)⟩, q _ ds _ B1 H1 α1 A (fun B' H' α' sb bs g => ?_) m⟩
    obtain ⟨b2, us, k1, k2⟩ := bs.list (show α' a = some (.list ds) from g)
    refine ⟨fun i d hi => ?_, ⟨us, .inl (.inl k1), by rw [k2.length]; exact Nat.le_refl _⟩⟩
    obtain ⟨v, l1, l2⟩ := k2.get' hi
    refine ⟨⟨us, v, .inl (.inl k1), l1⟩, fun x H'' y => ?_⟩
    obtain ⟨rfl, y⟩ := y
    refine ⟨Sub.refl _, ?_⟩
    have := y _ (.inl (.inl k1))
    rw [l1] at this
    cases this
    exact l2
  | dct _ r =>
    cases r with
    | nil => cases hd
    | @cons k _ _ _ _ r1 r2 => cases k <;> cases hd
  | _ => cases hd
theorem ji_list (h : JE c N sc e me) : JI c N sc tg e (listK me) := by
  obtain ⟨t, h1, h2⟩ := h
  refine ⟨fun W => iList c.K (t W), fun X W I T => ?_, fun W => si_list (h2 W)⟩
  have q := pi_list (tg := tg) (h1 X W I T)
  rw [I.K] at q
  exact q
theorem it_range {B : Addr → Bool} {H : Hp} {G : AH → Prop} {lo : Int} {n : Nat} : ItOk K (Itr lo n) G B H (nums lo n) := fun B' H' α' sb bk g => ⟨fun i d hi => by
  obtain ⟨a, b⟩ := nums_get n lo i d hi
  refine ⟨a, fun x H'' y => ?_⟩
  obtain ⟨rfl, rfl⟩ := y
  refine ⟨Sub.refl _, ?_⟩
  rw [b]
  exact .int _, by rw [nums_length]; exact Nat.le_refl n⟩
theorem ji_range1 (hg : sc.names.lookup ("range" : Str) = some .globalImplicit) (hm : c.mg ("range" : Str) = none) (h : JL c N sc [a] ma) (hs : ∀ env, starEach [a] env = [(false, eval a env)] := by intros; rfl) : JI c N sc tg (.Call (.Name "range" p) [a] [] pos) (rangeK1 ma) := by
  obtain ⟨t, h1, h2⟩ := h
  refine ⟨fun W => iRng1 (t W), fun X W I T => pi_range1 (I.gl hg) (by rw [I.mg]; exact hm) (h1 X W I T) (hs _), fun W B σ H ρ α S Qm Em m R q x => ?_⟩
  refine h2 W B σ H ρ α S _ Em m _ (fun vs ds B1 H1 α1 A r m => ?_) x
  obtain ⟨n, rfl, hb, m⟩ := m
  cases r with
  | cons r1 r2 =>
    cases r2
    cases r1
    exact ⟨n, rfl, hb.1, hb.2, q _ _ _ B1 H1 α1 A it_range m⟩
end
def forD (mg : D → En → Option En) (mb : MS) (G : AH → Prop) (D0 : Md) : List D → En → AH → Prop
  | [], ρ, α => G α ∧ D0.nx ρ α
  | d :: ds, ρ, α => G α ∧ oq (mg d ρ) fun ρ1 => mb ρ1 α { D0 with nx := fun ρ2 α2 => forD mg mb G D0 ds ρ2 α2, ct := fun ρ2 α2 => forD mg mb G D0 ds ρ2 α2, bk := D0.nx }
def forS (mi : MI) (mg : D → En → Option En) (mb : MS) : MS := fun ρ α D => mi ρ α (fun ds G α1 => forD mg mb G D ds ρ α1) (fun x α1 => D.ex x ρ α1)
def whileS (mt : MT) (mb : MS) : MS := fun ρ α D => ∃ V : Nat → En → AH → Prop, (∃ m, V m ρ α) ∧ ∀ m ρ α, V m ρ α → mt ρ α (fun b α1 => if b = true then mb ρ α1 { D with nx := fun ρ2 α2 => ∃ m', m' < m ∧ V m' ρ2 α2, ct := fun ρ2 α2 => ∃ m', m' < m ∧ V m' ρ2 α2, bk := D.nx } else D.nx ρ α1) (fun x α1 => D.ex x ρ α1)
section
variable {c : C0} {N : List Str} {sc : Scope} {e a b tg iter : Expr} {body : List Stmt} {pos p : Pos} {mi : MI} {mg : D → En → Option En} {mb : MS} {mt : MT} {K : Frag} {W : WX} {js : List Nat} {tb : TS} {wi : TI} {g : TG} {tt : TT}
theorem ss_for (hi : SI K W wi mi) (hg : SgT K js g mg) (hb : SS K W tb mb) : SS K W (tFor wi g tb) (forS mi mg mb) := fun B σ H ρ α S D0 m Dn h' x => by
  refine hi B σ H ρ α S _ _ m _ (fun J ds G B1 H1 α1 A ok m => ?_) (x.sx S)
  have S1 := S.step A
  have h1 := h'.after S.bs A
  have x1 := x.after S.bs A
  refine ⟨fun i n σ' H' => ∃ B' ρ' α', Af K B1 H1 α1 B' H' α' ∧ SR K B' σ' H' ρ' α' ∧ n = ds.length - i ∧ i ≤ ds.length ∧ forD mg mb G D0 (ds.drop i) ρ' α', ⟨ds.length, B1, ρ, α1, Af.refl S1.bs, S1, by simp, Nat.zero_le _, by simpa using m⟩, ?_⟩
  rintro i n σ' H' ⟨B', ρ', α', A', S', rfl, hle, hf⟩
  have hG : G α' := by
    cases q : ds.drop i with
    | nil => rw [q] at hf; exact hf.1
    | cons _ _ => rw [q] at hf; exact hf.1
  obtain ⟨go, stop⟩ := ok B' H' α' A'.sub S'.bs hG
  by_cases hlt : i < ds.length
  · obtain ⟨d, hd⟩ : ∃ d, ds[i]? = some d := ⟨_, List.getElem?_eq_getElem hlt⟩
    have dr : ds.drop i = d :: ds.drop (i + 1) := by
      rw [List.drop_eq_getElem_cons hlt]
      rw [List.getElem?_eq_getElem hlt] at hd
      cases hd
      rfl
    rw [dr] at hf
    obtain ⟨_, ρ2, e2, hf⟩ := hf
    obtain ⟨g1, g2⟩ := go i d hd
    refine .inr ⟨g1, fun σ2 H2 => ∃ B2 ρ2 α2, Af K B1 H1 α1 B2 H2 α2 ∧ SR K B2 σ2 H2 ρ2 α2 ∧ forD mg mb G D0 (ds.drop (i + 1)) ρ2 α2, fun σ2 H2 ⟨B2, ρ2, α2, k1, k2, k3⟩ => ⟨ds.length - (i + 1), by omega, B2, ρ2, α2, k1, k2, rfl, hlt, k3⟩, fun x H2 y => ?_⟩
    obtain ⟨sb, rx⟩ := g2 x H2 y
    have A2 := A'.trans S1.bs (Af.of_sub S'.bs sb)
    refine hg B' σ' H2 ρ' α' x d ρ2 (S'.step (Af.of_sub S'.bs sb)) rx e2 _ fun σ3 S3 _ _ => ?_
    have nx : ∀ B4 σ4 H4 ρ4 α4, Af K B' H2 α' B4 H4 α4 → SR K B4 σ4 H4 ρ4 α4 → forD mg mb G D0 (ds.drop (i + 1)) ρ4 α4 → ∃ B2 ρ2 α2, Af K B1 H1 α1 B2 H4 α2 ∧ SR K B2 σ4 H4 ρ2 α2 ∧ forD mg mb G D0 (ds.drop (i + 1)) ρ2 α2 := fun B4 σ4 H4 ρ4 α4 a s f => ⟨B4, ρ4, α4, A2.trans S1.bs a, s, f⟩
    refine hb B' σ3 H2 ρ2 α' S3 _ hf _ ⟨nx, fun v d B4 H4 α4 a r z => h1.rt v d B4 H4 α4 (A2.trans S1.bs a) r z, fun B4 σ4 H4 ρ4 α4 a s z => h1.nx B4 σ4 H4 ρ4 α4 (A2.trans S1.bs a) s z, nx⟩ (x1.after S1.bs A2)
  · have ei : i = ds.length := by omega
    subst ei
    rw [List.drop_length] at hf
    exact .inl ⟨stop, h1.nx B' σ' H' ρ' α' A' S' hf.2⟩
theorem js_for (hi : JI c N sc tg iter mi) (hg : JTg c N sc tg js mg) (hb : JB c N sc body mb) (hc : c.cm = true := by rfl) (hs : ∀ env x, foldedSetIterable iter env x = pure x := by intros; rfl) : JS c N sc (.For tg iter body [] pos) (forS mi mg mb) := by
  obtain ⟨wi, a1, a2⟩ := hi
  obtain ⟨g, b1, b2⟩ := hg
  obtain ⟨t, c1, c2⟩ := hb
  exact ⟨_, fun X W I T => ps_for I.po (I.calm hc) (a1 X W I T) (b1 X I) (c1 X W I T) (hs _), fun W => ss_for (a2 W) b2 (c2 W)⟩
theorem ss_while (ht : Stt K W tt mt) (hb : SS K W tb mb) : SS K W (tWhile tt tb) (whileS mt mb) := fun B σ H ρ α S D0 m Dn h' x => by
  obtain ⟨V, ⟨n, hn⟩, step⟩ := m
  refine ⟨fun n σ' H' => ∃ B' ρ' α', Af K B H α B' H' α' ∧ SR K B' σ' H' ρ' α' ∧ V n ρ' α', ⟨n, B, ρ, α, Af.refl S.bs, S, hn⟩, ?_⟩
  rintro n σ' H' ⟨B', ρ', α', A', S', hv⟩
  refine ht B' σ' H' ρ' α' S' _ _ (step n ρ' α' hv) _ (fun b B2 H2 α2 A2 m => ?_) ((x.after S.bs A').sx S')
  have A3 := A'.trans S.bs A2
  have S2 := S'.step A2
  cases b with
  | false => exact h'.nx B2 σ' H2 ρ' α2 A3 S2 m
  | true =>
    show ∃ N : L2.St → Hp → Prop, _
    refine ⟨fun σ2 H2 => ∃ m', m' < n ∧ ∃ B2 ρ2 α2, Af K B H α B2 H2 α2 ∧ SR K B2 σ2 H2 ρ2 α2 ∧ V m' ρ2 α2, fun σ2 H2 z => z, ?_⟩
    have nx : ∀ B4 σ4 H4 ρ4 α4, Af K B2 H2 α2 B4 H4 α4 → SR K B4 σ4 H4 ρ4 α4 → (∃ m', m' < n ∧ V m' ρ4 α4) → ∃ m', m' < n ∧ ∃ B2 ρ2 α2, Af K B H α B2 H4 α2 ∧ SR K B2 σ4 H4 ρ2 α2 ∧ V m' ρ2 α2 := fun B4 σ4 H4 ρ4 α4 a s ⟨m', hm, f⟩ => ⟨m', hm, B4, ρ4, α4, A3.trans S.bs a, s, f⟩
    exact hb B2 σ' H2 ρ' α2 S2 _ m _ ⟨nx, fun v d B4 H4 α4 a r z => h'.rt v d B4 H4 α4 (A3.trans S.bs a) r z, fun B4 σ4 H4 ρ4 α4 a s z => h'.nx B4 σ4 H4 ρ4 α4 (A3.trans S.bs a) s z, nx⟩ (x.after S.bs A3)
theorem js_while (ht : JT c N sc e mt) (hb : JB c N sc body mb) : JS c N sc (.While e body [] pos) (whileS mt mb) := by
  obtain ⟨t, a1, a2⟩ := ht
  obtain ⟨u, b1, b2⟩ := hb
  exact ⟨_, fun X W I T => ps_while I.po (a1 X W I T) (b1 X W I T), fun W => ss_while (a2 W) (b2 W)⟩
end
def wipeA {α : Type} (l : List (Option α)) : List Nat → List (Option α)
  | [] => l
  | v :: vs => (wipeA l vs).set v none
theorem wipe_eq (σ : L2.St) : ∀ vs, wipe σ vs = wipeA σ vs
  | [] => rfl
  | v :: vs => by
    show (wipe σ vs).set v none = _
    rw [wipe_eq σ vs]
    rfl
theorem wipeA_length {α : Type} (l : List (Option α)) : ∀ vs, (wipeA l vs).length = l.length
  | [] => rfl
  | v :: vs => by
    show ((wipeA l vs).set v none).length = _
    rw [List.length_set, wipeA_length l vs]
theorem wipeA_out {α : Type} {l : List (Option α)} {j : Nat} : ∀ {vs : List Nat}, j ∉ vs → (wipeA l vs)[j]? = l[j]?
  | [], _ => rfl
  | v :: vs, h => by
    rw [List.mem_cons, not_or] at h
    show ((wipeA l vs).set v none)[j]? = _
    rw [List.getElem?_set_ne (Ne.symm h.1), wipeA_out h.2]
theorem wipeA_in {α : Type} {l : List (Option α)} {j : Nat} : ∀ {vs : List Nat}, j ∈ vs → j < l.length → (wipeA l vs)[j]? = some none
  | v :: vs, h, hl => by
    show ((wipeA l vs).set v none)[j]? = _
    by_cases e : v = j
    · subst e
      rw [List.getElem?_set_self (by rw [wipeA_length]; exact hl)]
    · rw [List.getElem?_set_ne e]
      rcases List.mem_cons.mp h with z | z
      · exact absurd z.symm e
      · exact wipeA_in z hl
theorem wipeA_some {α : Type} {l : List (Option α)} {j : Nat} {x : α} {vs : List Nat} (h : (wipeA l vs)[j]? = some (some x)) : j ∉ vs ∧ l[j]? = some (some x) := by
  by_cases q : j ∈ vs
  · have hl : j < l.length := by
      have := (List.getElem?_eq_some_iff.mp h).1
      rwa [wipeA_length] at this
    rw [wipeA_in q hl] at h
    cases h
  · rw [wipeA_out q] at h
    exact ⟨q, h⟩
theorem SR.wipe {K : Frag} {B : Addr → Bool} {σ : L2.St} {H : Hp} {ρ : En} {α : AH} {vs : List Nat} (S : SR K B σ H ρ α) : SR K B (wipe σ vs) H (wipeA ρ vs) α := by
  refine ⟨by rw [wipe_eq, wipeA_length, wipeA_length]; exact S.len, fun i d e => ?_, S.bs⟩
  obtain ⟨a, b⟩ := wipeA_some e
  obtain ⟨v, c, d⟩ := S.val i d b
  exact ⟨v, by rw [wipe_eq, wipeA_out a]; exact c, d⟩
theorem wipe_back {σ σ2 : L2.St} {vs js : List Nat} (loc : ∀ j, j ∉ js → σ2[j]? = (wipe σ vs)[j]?) (hj : ∀ j, j ∈ js → j ∈ vs) (hl : σ2.length = (wipe σ vs).length) : wipe σ2 vs = wipe σ vs := by
  rw [wipe_eq, wipe_eq]
  rw [wipe_eq] at loc hl
  refine List.ext_getElem? fun j => ?_
  by_cases q : j ∈ vs
  · by_cases l : j < σ.length
    · rw [wipeA_in q l, wipeA_in q (by rw [hl, wipeA_length]; exact l)]
    · exact (List.getElem?_eq_none (by rw [wipeA_length, hl, wipeA_length]; omega)).trans (List.getElem?_eq_none (by rw [wipeA_length]; omega)).symm
  · rw [wipeA_out q, loc j fun z => q (hj j z)]
/-- a new thing that is hidden, no cell -/
theorem Af.hid {K : Frag} {B : Addr → Bool} {H : Hp} {α : AH} {l : Addr} {o : HO} (S : Bs K B H α) (h : H l = none) : Af K B H α (ins l B) (upd H l o) α := by
  have hs : Sub (hide B H) (hide (ins l B) (upd H l o)) := sub_ins h (hsub (Sub.new h))
  refine ⟨hs, ⟨fun a d q => ?_, fun a q => ?_⟩, fun b hb n => ⟨ins_of hb, ?_⟩, fun b n _ => n, fun b u g => ⟨u, Sub.new h _ _ g⟩⟩
  · obtain ⟨h1, h2⟩ := S.cel a d q
    obtain ⟨u, g⟩ := h2.ne
    refine ⟨ins_of h1, ?_⟩
    rw [g] at h2
    rw [Sub.new h _ _ g]
    exact h2.mono hs
  · rcases ins_or q with z | z
    · exact ⟨o, by rw [z, upd_same]⟩
    · obtain ⟨o', g⟩ := S.bk a z
      exact ⟨o', Sub.new h _ _ g⟩
  · rw [upd_ne (fun z => by
      obtain ⟨o', g⟩ := S.bk b hb
      rw [z, h] at g
      cases g)]
theorem Af.hidW {K : Frag} {B B' : Addr → Bool} {H H' : Hp} {α α' : AH} {l : Addr} {o : HO} (S : Bs K B H α) (a : Af K B H α B' H' α') (h : H l = none) (b : B' l = true) (n : α' l = none) : Af K B H α B' (upd H' l o) α' ∧ Sub (hide B' H') (hide B' (upd H' l o)) := by
  have hh : hide B' (upd H' l o) = hide B' H' := by
    funext x
    unfold hide
    by_cases q : x = l
    · rw [q, b]
      rfl
    · rw [upd_ne q]
  refine ⟨⟨by rw [hh]; exact a.sub, ⟨fun x d q => ?_, fun x q => ?_⟩, fun x hx nx => ?_, a.fr, fun x u g => ?_⟩, by rw [hh]; exact Sub.refl _⟩
  · rw [hh, upd_ne (fun z => by rw [z, n] at q; cases q)]
    exact a.bs.cel x d q
  · by_cases z : x = l
    · exact ⟨o, by rw [z, upd_same]⟩
    · rw [upd_ne z]
      exact a.bs.bk x q
  · have z : x ≠ l := fun z => by
      obtain ⟨o', g⟩ := S.bk x hx
      rw [z, h] at g
      cases g
    rw [upd_ne z]
    exact a.keep x hx nx
  · by_cases z : x = l
    · exact ⟨o, by rw [z, upd_same]⟩
    · rw [upd_ne z]
      exact a.grow x u g
/-- the hidden thing becomes a cell -/
theorem Af.hidC {K : Frag} {B B' : Addr → Bool} {H H' : Hp} {α α' : AH} {l : Addr} {d : D} (a : Af K B H α B' H' α') (h : H l = none) (b : B' l = true) (c : CellAt K (hide B' H') (H' l) d) : Af K B H α B' H' (aset α' l d) := by
  refine ⟨a.sub, ⟨fun x e q => ?_, a.bs.bk⟩, a.keep, fun x n hx => ?_, a.grow⟩
  · by_cases z : x = l
    · subst z
      rw [aset_same] at q
      cases q
      exact ⟨b, c⟩
    · rw [aset_ne z] at q
      exact a.bs.cel x e q
  · rw [aset_ne (fun z => by rw [z] at hx; exact hx h)]
    exact a.fr x n hx
abbrev NX : QX := fun _ _ => False
def yesK : MT := fun _ α Q _ => Q true α
def lcD (vs : List Nat) (mg : D → En → Option En) (mt : MT) (me : ME) (G : AH → Prop) (ρ : En) (Q : D → AH → Prop) : List D → List D → AH → Prop
  | [], acc, α => G α ∧ Q (.list acc) α
  | d :: ds, acc, α => G α ∧ oq (mg d (wipeA ρ vs)) fun ρ1 => mt ρ1 α (fun b α1 => if b = true then me ρ1 α1 (fun y α2 => acc.length < 100000 ∧ lcD vs mg mt me G ρ Q ds (acc ++ [y]) α2) NX else lcD vs mg mt me G ρ Q ds acc α1) NX
def lcK (vs : List Nat) (mi : MI) (mg : D → En → Option En) (mt : MT) (me : ME) : ME := fun ρ α Q E => mi ρ α (fun ds G α1 => lcD vs mg mt me G ρ Q ds [] α1) E
section
variable {K : Frag} {W : WX} {vs js : List Nat} {mi : MI} {mg : D → En → Option En} {mt : MT} {me : ME} {wi : TI} {g : TG} {tt : TT} {te : TE}
theorem sf_lc (hi : SI K W wi mi) (hg : SgT K js g mg) (hj : ∀ j, j ∈ js → j ∈ vs) (ht : Stt K (fun _ _ _ _ => False) tt mt) (he : Sd K (fun _ _ _ _ => False) te me) : Sf K W (tLc wi g tt te vs) (lcK vs mi mg mt me) := fun B σ H ρ α S Qm Em m Q q x => by
  refine hi B σ H ρ α S _ Em m _ (fun J ds G B1 H1 α1 A ok m => ?_) x
  have S1 := S.step A
  intro l hl
  refine ⟨fun i n H' => ∃ B' α' vacc acc, Af K B1 H1 α1 B' H' α' ∧ B' l = true ∧ α' l = none ∧ H' l = some (.lst vacc) ∧ RpL K (hide B' H') vacc acc ∧ n = ds.length - i ∧ i ≤ ds.length ∧ lcD vs mg mt me G ρ Qm (ds.drop i) acc α',
    ⟨ds.length, ins l B1, α1, [], [], Af.hid S1.bs hl, ins_self, S1.bs.new hl, upd_same, .nil, by simp, Nat.zero_le _, by simpa using m⟩, ?_⟩
  rintro i n H' ⟨B', α', vacc, acc, A', bl, nl, el, rl, rfl, hle, hf⟩
  have hG : G α' := by
    cases q : ds.drop i with
    | nil => rw [q] at hf; exact hf.1
    | cons _ _ => rw [q] at hf; exact hf.1
  obtain ⟨go, stop⟩ := ok B' H' α' A'.sub A'.bs hG
  by_cases hlt : i < ds.length
  · obtain ⟨d, hd⟩ : ∃ d, ds[i]? = some d := ⟨_, List.getElem?_eq_getElem hlt⟩
    have dr : ds.drop i = d :: ds.drop (i + 1) := by
      rw [List.drop_eq_getElem_cons hlt]
      rw [List.getElem?_eq_getElem hlt] at hd
      cases hd
      rfl
    rw [dr] at hf
    obtain ⟨_, ρ2, e2, hf⟩ := hf
    obtain ⟨g1, g2⟩ := go i d hd
    refine .inr ⟨g1, fun H2 => ∃ B2 α2 vacc acc, Af K B1 H1 α1 B2 H2 α2 ∧ B2 l = true ∧ α2 l = none ∧ H2 l = some (.lst vacc) ∧ RpL K (hide B2 H2) vacc acc ∧ lcD vs mg mt me G ρ Qm (ds.drop (i + 1)) acc α2,
      fun H2 ⟨B2, α2, va, ac, k1, k2, k3, k4, k5, k6⟩ => ⟨ds.length - (i + 1), by omega, B2, α2, va, ac, k1, k2, k3, k4, k5, rfl, hlt, k6⟩, fun x H2 y => ?_⟩
    obtain ⟨sb, rx⟩ := g2 x H2 y
    have Ab := Af.of_sub A'.bs sb
    have A2 := A'.trans S1.bs Ab
    have Sw : SR K B' (wipe σ vs) H2 (wipeA ρ vs) α' := (S1.step A2).wipe
    refine hg B' _ H2 _ α' x d ρ2 Sw rx e2 _ fun σ3 S3 loc len => ⟨wipe_back (fun j h => (loc j h).1) hj len, ?_⟩
    have el2 : H2 l = some (.lst vacc) := sb _ _ el
    refine ht B' σ3 H2 ρ2 α' S3 _ NX hf _ (fun b B3 H3 α3 A3 m => ?_) SX.never
    obtain ⟨b3, h3⟩ := A3.keep l bl nl
    have n3 : α3 l = none := A3.fr l nl (by rw [el2]; exact fun z => nomatch z)
    have r3 := rl.mono (hsub sb |>.trans A3.sub)
    have A13 := A2.trans S1.bs A3
    cases b with
    | false => exact ⟨B3, α3, vacc, acc, A13, b3, n3, h3.trans el2, r3, m⟩
    | true =>
      refine he B3 σ3 H3 ρ2 α3 (S3.step A3) _ NX m _ (fun v d4 B4 H4 α4 A4 r4 m => ?_) SX.never
      obtain ⟨b4, h4⟩ := A4.keep l b3 n3
      have e4 : H4 l = some (.lst vacc) := h4.trans (h3.trans el2)
      have n4 : α4 l = none := A4.fr l n3 (by rw [h3, el2]; exact fun z => nomatch z)
      have A14 := A13.trans S1.bs A4
      have ra := r3.mono A4.sub
      obtain ⟨w1, w2⟩ := Af.hidW (o := .lst (vacc ++ [v])) S1.bs A14 hl b4 n4
      exact ⟨vacc, e4, by rw [ra.length]; exact Nat.lt_of_lt_of_le m.1 (by decide), B4, α4, vacc ++ [v], acc ++ [d4], w1, b4, n4, upd_same, (ra.append (.cons r4 .nil)).mono w2, m.2⟩
  · have ei : i = ds.length := by omega
    subst ei
    rw [List.drop_length] at hf
    refine .inl ⟨stop, ?_⟩
    exact q l (.list acc) B' H' α' (A.trans S.bs (A'.hidC hl bl (.own ⟨vacc, el, rl⟩))) nl hf.2
theorem Sf.sd {m : ME} (h : Sf K W te m) : Sd K W te m := fun B σ H ρ α S Qm Em mm Q q x => h B σ H ρ α S Qm Em mm Q (fun l c' B' H' α' A hl qm => by
  obtain ⟨A2, r⟩ := A.frz S.bs aset_same
  rw [adel_aset hl] at A2
  exact q _ c' _ H' α' A2 r qm) x
theorem Sf.new {m : ME} (h : Sf K W te m) : Sd K W te (newK m) := fun B σ H ρ α S Qm Em mm Q q x => h B σ H ρ α S _ Em mm Q (fun l c' B' H' α' A hl qm => q _ _ _ H' _ A .ref (qm l hl)) x
end
/-- the contexts of a block within -/
abbrev C0.inO (c : C0) (oc : List Str) : C0 := { c with top := false, xc := none, oc := oc }
def JTs (c : C0) (N : List Str) (sc : Scope) (es : List Expr) (m : MT) : Prop := ∃ t : WX → TT, (∀ X W, In c N sc X → Takes X W → PTs X es (t W)) ∧ ∀ W, Stt c.K W (t W) m
section
variable {c : C0} {N : List Str} {sc scope : Scope} {elt tg iter : Expr} {ifs : List Expr} {pos p1 spos : Pos} {own : List (Str × Nat)} {js : List Nat} {mi : MI} {mg : D → En → Option En} {mt : MT} {me : ME} {i : Nat} {x : Str}
theorem In.blk {oc : List Str} (ho : (oc.all fun x => scope.names.lookup x == some .cell) = true) {X : Cx} (I : In c N sc X) (s : Shared) (H : Hp) (C : Addr) (cl : List (Str × Addr)) (fp : List Addr) : In (c.inO oc) N (relS scope sc) (X.blk s H scope (compEnvC scope cl C X.env) fp) :=
  ⟨I.P, I.w, I.K, I.mg, I.base, I.rm, I.un, I.N, by
    show relS scope X.env.scope = _
    rw [I.sc], I.calm, fun h => (by cases h), PassesOwn.never, fun h => (by cases h), fun _ _ _ h => (by cases h), fun x h => by
      have h' := List.all_eq_true.mp ho x (List.contains_iff_mem.mp h)
      exact h'⟩
theorem jts_nil : JTs c N sc [] yesK := ⟨_, fun _ _ _ _ => pts_nil, fun _ B σ H ρ α S Qm Em m Q q x => q true B H α (Af.refl S.bs) m⟩
theorem jts_one {e : Expr} (h : JT c N sc e mt) : JTs c N sc [e] mt := by
  obtain ⟨t, h1, h2⟩ := h
  exact ⟨t, fun X W I T => pts_one (h1 X W I T), h2⟩
theorem jf_lc {oc : List Str} (nd : N.Nodup) (hi : JI c N sc tg iter mi) (ok : BlkOk N sc scope own) (hg : JTg (c.inO oc) N (relS scope sc) tg js mg) (ht : JTs (c.inO oc) N (relS scope sc) ifs mt) (he : JE (c.inO oc) N (relS scope sc) elt me)
    (hj : (js.all fun j => (own.map (·.2)).contains j) = true := by rfl) (hc : c.cm = true := by rfl) (ho : (oc.all fun x => scope.names.lookup x == some .cell) = true := by rfl) (hs : ∀ env x, foldedSetIterable iter env x = pure x := by intros; rfl) : JF c N sc (.ListComp elt [⟨tg, iter, ifs, 0⟩] scope pos) (lcK (own.map (·.2)) mi mg mt me) := by
  obtain ⟨wi, a1, a2⟩ := hi
  obtain ⟨g, b1, b2⟩ := hg
  obtain ⟨tt, c1, c2⟩ := ht
  obtain ⟨te, d1, d2⟩ := he
  refine ⟨fun W => tLc (wi W) g (tt fun _ _ _ _ => False) (te fun _ _ _ _ => False) (own.map (·.2)), fun X W I T => pe_lc (I.calm hc) (by rw [I.N]; exact nd) (a1 X W I T) (by rw [I.N, I.sc]; exact ok) (fun s H C cl fp => b1 _ (I.blk ho s H C cl fp)) (fun s H C cl fp => c1 _ _ (I.blk ho s H C cl fp) takes0) (fun s H C cl fp => d1 _ _ (I.blk ho s H C cl fp) takes0) (hs _), fun W => sf_lc (a2 W) b2 (fun j h => ?_) (c2 _) (d2 _)⟩
  have := (List.all_eq_true.mp hj) j h
  simpa using this
/-- name = [..] on one line: a datum (f the identity) or a cell (f newK) -/
theorem js_lc {oc : List Str} {f : ME → ME} (hf : ∀ K W te m, Sf K W te m → Sd K W te (f m)) (nd : N.Nodup) (hN : N[i]? = some x) (hx : sc.names.lookup x = some .local) (hk : sc.kind = .function) (hl : (p1.line == pos.line) = true) (hn : (scope.names.any fun (n, k) => n == x && (k == .local || k == .cell)) = false)
    (hi : JI c N sc tg iter mi) (ok : BlkOk N sc scope own) (hg : JTg (c.inO oc) N (relS scope sc) tg js mg) (ht : JTs (c.inO oc) N (relS scope sc) ifs mt) (he : JE (c.inO oc) N (relS scope sc) elt me)
    (hj : (js.all fun j => (own.map (·.2)).contains j) = true := by rfl) (hc : c.cm = true := by rfl) (ho : (oc.all fun x => scope.names.lookup x == some .cell) = true := by rfl) (hs : ∀ env x, foldedSetIterable iter env x = pure x := by intros; rfl) : JS c N sc (.Assign [.Name x p1] (.ListComp elt [⟨tg, iter, ifs, 0⟩] scope pos) spos) (asgS (f (lcK (own.map (·.2)) mi mg mt me)) (setv i)) := by
  obtain ⟨wi, a1, a2⟩ := hi
  obtain ⟨g, b1, b2⟩ := hg
  obtain ⟨tt, c1, c2⟩ := ht
  obtain ⟨te, d1, d2⟩ := he
  refine ⟨_, fun X W I T => ps_setLc (I.calm hc) (by rw [I.N]; exact nd) (by rw [I.N]; exact hN) (by rw [I.sc]; exact hx) (sw_true (by rw [I.sc]; exact hk) (by rw [I.sc]; exact hx) hl hn) (a1 X W I T) (by rw [I.N, I.sc]; exact ok) (fun s H C cl fp => b1 _ (I.blk ho s H C cl fp)) (fun s H C cl fp => c1 _ _ (I.blk ho s H C cl fp) takes0) (fun s H C cl fp => d1 _ _ (I.blk ho s H C cl fp) takes0) (hs _), fun W => ss_asg (hf _ _ _ _ (sf_lc (a2 W) b2 (fun j h => ?_) (c2 _) (d2 _))) sgt_name⟩
  have := (List.all_eq_true.mp hj) j h
  simpa using this
end
/-- p parameters, n slots -/
def runF (p n : Nat) (m : MS) : Fm := fun ds α Q E => ds.length = p ∧ m (ds.map some ++ List.replicate (n - p) none) α { nx := fun _ α' => Q .none α', rt := Q, bk := fun _ _ => False, ct := fun _ _ => False, ex := fun x _ α' => E x α' }
/-- .. that leaves no cell behind but those that were there -/
def runP (p n : Nat) (m : MS) : Fm := fun ds α Q E => runF p n m ds α (fun d α' => Q d (arst α α')) (fun x α' => E x (arst α α'))
section
variable {K : Frag} {B : Addr → Bool} {H : Hp} {α : AH} {vs : List V} {ds : List D} {n : Nat}
theorem entry_sr (S : Bs K B H α) (r : RpL K (hide B H) vs ds) : SR K B (vs.map some ++ List.replicate n none) H (ds.map some ++ List.replicate n none) α := by
  refine ⟨by simp [r.length], fun i d e => ?_, S⟩
  rcases Nat.lt_or_ge i ds.length with hi | hi
  · rw [List.getElem?_append_left (by simpa using hi), List.getElem?_map] at e
    cases q : ds[i]? with
    | none => rw [q] at e; cases e
    | some d' =>
      rw [q] at e
      cases e
      obtain ⟨v, h1, h2⟩ := r.get' q
      refine ⟨v, ?_, h2⟩
      rw [List.getElem?_append_left (by rw [List.length_map, r.length]; exact hi), List.getElem?_map, h1]
      rfl
  · rw [List.getElem?_append_right (by simpa using hi), List.getElem?_replicate] at e
    split at e <;> cases e
theorem Fi.none_ {D : Md} {Q : VK} (h1 : ∀ B' H' ρ' α', Af K B H α B' H' α' → D.nx ρ' α' → Q .non H') (h2 : ∀ v d B' H' α', Af K B H α B' H' α' → Rp K (hide B' H') v d → D.rt d α' → Q v H') (h3 : ∀ ρ' α', ¬ D.bk ρ' α') (h4 : ∀ ρ' α', ¬ D.ct ρ' α') : Fi K B H α D { nx := fun _ H' => Q .non H', rt := Q } :=
  ⟨fun B' σ' H' ρ' α' a _ z => h1 B' H' ρ' α' a z, h2, fun _ _ _ ρ' α' _ _ z => (h3 ρ' α' z).elim, fun _ _ _ ρ' α' _ _ z => (h4 ρ' α' z).elim⟩
end
theorem spD_pure {K : Frag} {p n : Nat} {m : MS} {vs : List V} {H : Hp} {Q : VK} {E : XK} (h : spD K (runP p n m) vs H Q E) : spD K (runF p n m) vs H Q E := by
  obtain ⟨B, α, ds, Qm, Em, S0, r, mm, q, y⟩ := h
  refine ⟨B, α, ds, _, _, S0, r, mm, fun v d B' H' α' a r z => ?_, fun x B' α' cls d H' a xr z => ?_⟩
  · obtain ⟨B2, a2, s2⟩ := a.rst S0
    exact q v d B2 H' _ a2 (r.mono s2) z
  · obtain ⟨B2, a2, s2⟩ := a.rst S0
    exact y x B2 _ cls d H' a2 (xr.mono s2) z
end Hz
namespace Hz
open PySem L2
variable {c : C0} {N : List Str} {sc : Scope}
def okD : Nat → D → Bool
  | _, .none => true
  | _, .bool _ => true
  | _, .int _ => true
  | _, .str x => PyData.strOk x
  | k + 1, .list ds => ds.all (okD k)
  | k + 1, .tuple ds => ds.all (okD k)
  | _, _ => false
theorem okD_all {k : Nat} (h : ∀ d, okD k d = true → d.canLay0 = true ∧ d.depth ≤ k ∧ plain d = true) : ∀ ds : List D, ds.all (okD k) = true → PyData.canLayAll0 ds = true ∧ PyData.depthAll ds ≤ k ∧ plains ds = true
  | [], _ => ⟨rfl, Nat.zero_le _, rfl⟩
  | d :: ds, q => by
    have q' : okD k d = true ∧ ds.all (okD k) = true := by simpa using q
    obtain ⟨a1, a2, a3⟩ := h d q'.1
    obtain ⟨b1, b2, b3⟩ := okD_all h ds q'.2
    refine ⟨by simp [PyData.canLayAll0, a1, b1], ?_, by simp [plains, a3, b3]⟩
    show max d.depth (PyData.depthAll ds) ≤ k
    omega
theorem okD_ok : ∀ (k : Nat) (d : D), okD k d = true → d.canLay0 = true ∧ d.depth ≤ k ∧ plain d = true
  | k, .none, _ => ⟨rfl, by cases k <;> exact Nat.zero_le _, rfl⟩
  | k, .bool _, _ => ⟨rfl, by cases k <;> exact Nat.zero_le _, rfl⟩
  | k, .int _, _ => ⟨rfl, by cases k <;> exact Nat.zero_le _, rfl⟩
  | k, .str x, h => ⟨by cases k <;> exact h, by cases k <;> exact Nat.zero_le _, rfl⟩
  | 0, .list ds, h => by cases h
  | 0, .tuple ds, h => by cases h
  | k + 1, .list ds, h => by
    obtain ⟨a, b, c⟩ := okD_all (okD_ok k) ds h
    exact ⟨a, Nat.succ_le_succ b, c⟩
  | k + 1, .tuple ds, h => by
    obtain ⟨a, b, c⟩ := okD_all (okD_ok k) ds h
    exact ⟨a, Nat.succ_le_succ b, c⟩
  | 0, .dict _, h => by cases h
  | k + 1, .dict _, h => by cases h
theorem okD_shaped {k : Nat} {d : D} (h : okD k d = true) (hk : k ≤ 64) : SeqAt.shaped d = true ∧ plain d = true := by
  obtain ⟨a, b, e⟩ := okD_ok k d h
  exact ⟨by unfold SeqAt.shaped; simp [a]; omega, e⟩
theorem lst_new {K : Frag} {B : Addr → Bool} {H : Hp} {p : Addr} {vs : List V} {ds : List D} (bk : ∀ a, B a = true → ∃ o, H a = some o) (h : H p = none) (r : RpL K (hide B H) vs ds) : Sub H (upd H p (.lst vs)) ∧ Rp K (hide B (upd H p (.lst vs))) (.ref p) (.list ds) := by
  have bp : B p = false := by
    cases q : B p with
    | false => rfl
    | true => obtain ⟨o, e⟩ := bk p q; rw [h] at e; cases e
  exact ⟨Sub.new h, .lst (.inl (.inl (hide_of bp upd_same))) (r.mono (hsub (Sub.new h)))⟩
/-- t + u, its object known -/
def rCatX (K : Frag) : R2 := fun x y H Q => ∃ a b xs ys, x = .ref a ∧ y = .ref b ∧ SqT K H a xs ∧ SqT K H b ys ∧ xs.length + ys.length ≤ sizeLine ∧
  (xs = [] → Q (.ref b) H) ∧ (xs ≠ [] → ys = [] → Q (.ref a) H) ∧ (xs ≠ [] → ys ≠ [] → ∀ p o, ExT o → H p = none → Q (.ref p) (upd H p (.frz o (.tup (xs ++ ys)))))
theorem op_catX {X : Cx} : OpR X (binaryOp .Add) (rCatX X.K) := by
  intro pins s σ H x y v u Q I rx ry h
  obtain ⟨a, b, xs, ys, rfl, rfl, ha, hb, hz, q0, q1, q2⟩ := h
  cases rx
  cases ry
  obtain ⟨its, r1, p1, _⟩ := I.tuple ha
  obtain ⟨its2, r2, p2, _⟩ := I.tuple hb
  by_cases hx : xs = []
  · subst hx
    cases r1
    exact cat_tup0 p1 p2 ⟨.ref b, H, I, rfl, q0 rfl⟩
  · refine HT.cat_tup p1 p2 (fun z => hx (r1.nil_iff.mp z)) (fun z => ⟨.ref a, H, I, rfl, q1 hx (r2.nil_iff.mp z)⟩) (fun z => ?_) (by rw [← r1.length, ← r2.length]; exact hz)
    exact ⟨.ref s.heap.objs.size, _, tnew I (r1.append r2) (by rw [List.length_append]; exact hz), rfl, q2 hx (fun w => z (r2.nil_iff.mpr w)) _ _ ⟨rfl, rfl⟩ (I.hok.fresh (Nat.le_refl _))⟩
/-- list + list, whatever the lists are -/
def rCatL (K : Frag) : R2 := fun x y H Q => ∃ a b xs ys, x = .ref a ∧ y = .ref b ∧ SqL K H a xs ∧ SqL K H b ys ∧ xs.length + ys.length ≤ sizeLine ∧ ∀ p, H p = none → Q (.ref p) (upd H p (.lst (xs ++ ys)))
theorem op_catL {X : Cx} : OpR X (binaryOp .Add) (rCatL X.K) := by
  intro pins s σ H x y v u Q I rx ry h
  obtain ⟨l, b, xs, zs, rfl, rfl, hH, hB, hz, q⟩ := h
  cases rx
  cases ry
  obtain ⟨its, r, pl, z1⟩ := I.list hH
  obtain ⟨its2, r2, pl2, z2⟩ := I.list hB
  have l1 := r.length
  have l2 := r2.length
  obtain ⟨⟨cls, dd, data, sl⟩, ho, hc, n, hd⟩ := pl.isList
  obtain ⟨⟨cls2, dd2, data2, sl2⟩, ho2, hc2, n2, hd2⟩ := pl2.isList
  simp only at hc hd hc2 hd2
  subst hc hd hc2 hd2
  have e : its.toArray ++ its2.toArray = (its ++ its2).toArray := by simp
  refine concat_meets ⟨_, ho, rfl⟩ ⟨_, ho2, rfl⟩ noFill_list_add seq_list_add PySem.F.slot_list_add PySem.F.entry_list_add (PySem.F.args_list_add_2 _ _) (PyProof.Rows.list_addW l b its.toArray its2.toArray n n2 dd dd2 sl sl2 (by rw [List.size_toArray, List.size_toArray]; omega)) ⟨ho, ho2, ?_⟩
  rw [e]
  exact ⟨.ref _, _, I.lnew (t' := s.toks) (r.append r2) (by rw [List.length_append]; omega), rfl, q _ I.fresh⟩
def dAdd : D → D → Option D
  | .int a, .int b => some (.int (a + b))
  | .str a, .str b => if a.length + b.length ≤ 100000 then some (.str (a ++ b)) else none
  | .list a, .list b => if a.length + b.length ≤ 100000 then some (.list (a ++ b)) else none
  | .tuple a, .tuple b => if a.length + b.length ≤ 100000 then some (.tuple (a ++ b)) else none
  | _, _ => none
theorem o_add : OpD c.K (In c N sc) (binaryOp .Add) dAdd := by
  refine ⟨_, fun X I => by
    have h := OpR.or (X := X) op_add (OpR.or op_add_str (OpR.or op_catL op_catX))
    rw [I.K] at h
    exact h, fun B H x y d e z bk hx hy hz Q q => ?_⟩
  unfold dAdd at hz
  split at hz
  · cases hz
    exact .inl ⟨_, _, hx.int, hy.int, q _ H (Sub.refl H) (.int _)⟩
  · split at hz
    · rename_i hl
      cases hz
      exact .inr (.inl ⟨_, _, hx.str, hy.str, sz5 hl, q _ H (Sub.refl H) (.str _)⟩)
    · cases hz
  · split at hz
    · rename_i hl
      cases hz
      obtain ⟨a, xs, rfl, h1, r1⟩ := hx.list
      obtain ⟨b, ys, rfl, h2, r2⟩ := hy.list
      refine .inr (.inr (.inl ⟨a, b, xs, ys, rfl, rfl, h1, h2, by rw [r1.length, r2.length]; exact sz5 hl, fun p hp => ?_⟩))
      obtain ⟨s1, r3⟩ := lst_new bk hp (r1.append r2)
      exact q _ _ s1 r3
    · cases hz
  · split at hz
    · rename_i a b hl
      cases hz
      obtain ⟨a, xs, rfl, h1, r1⟩ := hx.tuple
      obtain ⟨b, ys, rfl, h2, r2⟩ := hy.tuple
      have sub : ∀ {w : Addr} {us : List V} {ds : List D}, Rs c.K B H (.ref w) (.tuple ds) → Rp c.K (hide B H) (.ref w) (.tuple ds) := fun h => by
        cases h with
        | vis h => exact h
      refine .inr (.inr (.inr ⟨a, b, xs, ys, rfl, rfl, h1, h2, by rw [r1.length, r2.length]; exact sz5 hl, fun e => ?_, fun _ e => ?_, fun _ _ p o ho hp => ?_⟩))
      · subst e
        cases r1
        exact q _ H (Sub.refl H) (sub (us := ys) hy)
      · subst e
        cases r2
        rw [List.append_nil] at q
        exact q _ H (Sub.refl H) (sub (us := xs) hx)
      · obtain ⟨s1, r3⟩ := tup_new bk ho hp (r1.append r2)
        exact q _ _ s1 r3
    · cases hz
  · cases hz
/-- list + list, a new list of the def's own -/
def dCat : D → D → Option D
  | .list a, .list b => if a.length + b.length ≤ 100000 then some (.list (a ++ b)) else none
  | _, _ => none
def dSub : D → D → Option D
  | .int a, .int b => some (.int (a - b))
  | _, _ => none
theorem o_sub : OpD c.K (In c N sc) (binaryOp .Sub) dSub := by
  refine ⟨_, fun X I => op_sub, fun B H x y d e z bk hx hy hz Q q => ?_⟩
  unfold dSub at hz
  split at hz
  · cases hz
    exact ⟨_, _, hx.int, hy.int, q _ H (Sub.refl H) (.int _)⟩
  · cases hz
/-- one factor below 2^64 -/
def dMul : D → D → Option D
  | .int a, .int b => if (-(2 ^ 64) < a ∧ a < 2 ^ 64) ∨ (-(2 ^ 64) < b ∧ b < 2 ^ 64) then some (.int (a * b)) else none
  | _, _ => none
theorem o_mul : OpD c.K (In c N sc) (binaryOp .Mult) dMul := by
  refine ⟨_, fun X I => op_mul, fun B H x y d e z bk hx hy hz Q q => ?_⟩
  unfold dMul at hz
  split at hz
  · split at hz
    · rename_i hc
      cases hz
      exact ⟨_, _, hx.int, hy.int, hc, q _ H (Sub.refl H) (.int _)⟩
    · cases hz
  · cases hz
def dMod : D → D → Option D
  | .int a, .int b => if 0 < b then some (.int (a % b)) else none
  | _, _ => none
theorem o_mod : OpD c.K (In c N sc) (binaryOp .Mod) dMod := by
  refine ⟨_, fun X I => op_mod, fun B H x y d e z bk hx hy hz Q q => ?_⟩
  unfold dMod at hz
  split at hz
  · split at hz
    · rename_i hc
      cases hz
      exact ⟨_, _, hx.int, hy.int, hc, q _ H (Sub.refl H) (.int _)⟩
    · cases hz
  · cases hz
/-- a divisor below 2^9000 -/
def dDiv : D → D → Option D
  | .int a, .int b => if 0 < b ∧ b < 2 ^ 80 then some (.int (a / b)) else none
  | _, _ => none
theorem o_div : OpD c.K (In c N sc) (binaryOp .FloorDiv) dDiv := by
  refine ⟨_, fun X I => op_fdivW, fun B H x y d e z bk hx hy hz Q q => ?_⟩
  unfold dDiv at hz
  split at hz
  · split at hz
    · rename_i hc
      cases hz
      exact ⟨_, _, hx.int, hy.int, wide_div (b := 80) hc.1 (by omega) (by decide) (by decide), q _ H (Sub.refl H) (.int _)⟩
    · cases hz
  · cases hz
def dPow : D → D → Option D
  | .int a, .int b => if 0 ≤ b ∧ b ≤ 1000000 ∧ a.natAbs < 2 ^ 64 then some (.int (a ^ b.toNat)) else none
  | _, _ => none
theorem o_pow : OpD c.K (In c N sc) (binaryOp .Pow) dPow := by
  refine ⟨_, fun X I => op_pow, fun B H x y d e z bk hx hy hz Q q => ?_⟩
  unfold dPow at hz
  split at hz
  · split at hz
    · rename_i hc
      cases hz
      exact ⟨_, _, hx.int, hy.int, hc, q _ H (Sub.refl H) (.int _)⟩
    · cases hz
  · cases hz
def dShl : D → D → Option D
  | .int a, .int b => if 0 ≤ b ∧ b ≤ 1000000 ∧ a.natAbs < 2 ^ 64 then some (.int (a * 2 ^ b.toNat)) else none
  | _, _ => none
def dShr : D → D → Option D
  | .int a, .int b => if 0 ≤ b then some (.int (a / 2 ^ b.toNat)) else none
  | _, _ => none
/-- data that are alike, in order -/
def okC (d e : D) : Bool := okD 60 d && okD 60 e && PySem.W.alike d e && (match d with
  | .none => false
  | _ => true)
theorem okC_all {d e : D} (h : okC d e = true) : okD 60 d = true ∧ okD 60 e = true ∧ PySem.W.alike d e = true ∧ d ≠ .none := by
  unfold okC at h
  simp only [Bool.and_eq_true] at h
  refine ⟨h.1.1.1, h.1.1.2, h.1.2, fun z => ?_⟩
  rw [z] at h
  cases h.2
def rCmpLt (K : Frag) : R2 := fun x y H Q => ∃ d e, Dp K H x d ∧ Dp K H y e ∧ okC d e = true ∧ Q (.bl (PySem.W.dataLt d e)) H
theorem op_cmpLt {X : Cx} (hu : X.A.units + 64 < cLine) : OpR X (compareOp .Lt) (rCmpLt X.K) := by
  intro pins s σ H x y v u Q I rx ry h
  obtain ⟨d, e, hd, he, ok, q⟩ := h
  obtain ⟨k1, k2, k3, k4⟩ := okC_all ok
  obtain ⟨as, r1⟩ := Dp.reads I d x v hd rx
  obtain ⟨bs, r2⟩ := Dp.reads I e y u he ry
  have z := (okD_ok 60 d k1).2.1
  exact PySem.W.lt_data r1 r2 k3 k4 (by omega) ⟨.bl _, H, I, rfl, q⟩
def dLt (d e : D) : Option D := match d, e with
  | .int a, .int b => some (.bool (decide (a < b)))
  | .str a, .str b => some (.bool (decide (a.cps.toList < b.cps.toList)))
  | d, e => if okC d e = true then some (.bool (PySem.W.dataLt d e)) else none
theorem o_lt : OpD c.K (In c N sc) (compareOp .Lt) dLt := by
  refine ⟨_, fun X I => by
    have h := OpR.or (X := X) op_lt (OpR.or op_lt_str (op_cmpLt I.u64))
    rw [I.K] at h
    exact h, fun B H x y d e z bk hx hy hz Q q => ?_⟩
  unfold dLt at hz
  split at hz
  · cases hz
    exact .inl ⟨_, _, hx.int, hy.int, q _ H (Sub.refl H) (.bl _)⟩
  · cases hz
    exact .inr (.inl ⟨_, _, hx.str, hy.str, q _ H (Sub.refl H) (.bl _)⟩)
  · split at hz
    · rename_i ok
      cases hz
      obtain ⟨k1, k2, k3, k4⟩ := okC_all ok
      exact .inr (.inr ⟨_, _, hx.rp.dp (okD_ok 60 _ k1).2.2, hy.rp.dp (okD_ok 60 _ k2).2.2, ok, q _ H (Sub.refl H) (.bl _)⟩)
    · cases hz
def rCmpGt (K : Frag) : R2 := fun x y H Q => ∃ d e, Dp K H x d ∧ Dp K H y e ∧ okC d e = true ∧ Q (.bl (PySem.W.dataLt e d)) H
theorem op_cmpGt {X : Cx} (hu : X.A.units + 64 < cLine) : OpR X (compareOp .Gt) (rCmpGt X.K) := by
  intro pins s σ H x y v u Q I rx ry h
  obtain ⟨d, e, hd, he, ok, q⟩ := h
  obtain ⟨k1, k2, k3, k4⟩ := okC_all ok
  obtain ⟨as, r1⟩ := Dp.reads I d x v hd rx
  obtain ⟨bs, r2⟩ := Dp.reads I e y u he ry
  have z := (okD_ok 60 d k1).2.1
  exact PySem.W.gt_data r1 r2 k3 k4 (by omega) ⟨.bl _, H, I, rfl, q⟩
def dGt (d e : D) : Option D := match d, e with
  | .int a, .int b => some (.bool (decide (b < a)))
  | .str a, .str b => some (.bool (decide (b.cps.toList < a.cps.toList)))
  | d, e => if okC d e = true then some (.bool (PySem.W.dataLt e d)) else none
theorem o_gt : OpD c.K (In c N sc) (compareOp .Gt) dGt := by
  refine ⟨_, fun X I => by
    have h := OpR.or (X := X) op_gt (OpR.or op_gt_str (op_cmpGt I.u64))
    rw [I.K] at h
    exact h, fun B H x y d e z bk hx hy hz Q q => ?_⟩
  unfold dGt at hz
  split at hz
  · cases hz
    exact .inl ⟨_, _, hx.int, hy.int, q _ H (Sub.refl H) (.bl _)⟩
  · cases hz
    exact .inr (.inl ⟨_, _, hx.str, hy.str, q _ H (Sub.refl H) (.bl _)⟩)
  · split at hz
    · rename_i ok
      cases hz
      obtain ⟨k1, k2, k3, k4⟩ := okC_all ok
      exact .inr (.inr ⟨_, _, hx.rp.dp (okD_ok 60 _ k1).2.2, hy.rp.dp (okD_ok 60 _ k2).2.2, ok, q _ H (Sub.refl H) (.bl _)⟩)
    · cases hz
def dLe (d e : D) : Option D := match d, e with
  | .int a, .int b => some (.bool (decide (a ≤ b)))
  | d, e => if okC d e = true then some (.bool (!PySem.W.dataLt e d)) else none
def rCmpGtE (K : Frag) : R2 := fun x y H Q => ∃ d e, Dp K H x d ∧ Dp K H y e ∧ okC d e = true ∧ Q (.bl (!PySem.W.dataLt d e)) H
theorem op_cmpGtE {X : Cx} (hu : X.A.units + 64 < cLine) : OpR X (compareOp .GtE) (rCmpGtE X.K) := by
  intro pins s σ H x y v u Q I rx ry h
  obtain ⟨d, e, hd, he, ok, q⟩ := h
  obtain ⟨k1, k2, k3, k4⟩ := okC_all ok
  obtain ⟨as, r1⟩ := Dp.reads I d x v hd rx
  obtain ⟨bs, r2⟩ := Dp.reads I e y u he ry
  have z := (okD_ok 60 d k1).2.1
  exact PySem.W.ge_data r1 r2 k3 k4 (by omega) ⟨.bl _, H, I, rfl, q⟩
def dGe (d e : D) : Option D := match d, e with
  | .int a, .int b => some (.bool (decide (b ≤ a)))
  | d, e => if okC d e = true then some (.bool (!PySem.W.dataLt d e)) else none
theorem o_ge : OpD c.K (In c N sc) (compareOp .GtE) dGe := by
  refine ⟨_, fun X I => by
    have h := OpR.or (X := X) op_ge (op_cmpGtE I.u64)
    rw [I.K] at h
    exact h, fun B H x y d e z bk hx hy hz Q q => ?_⟩
  unfold dGe at hz
  split at hz
  · cases hz
    exact .inl ⟨_, _, hx.int, hy.int, q _ H (Sub.refl H) (.bl _)⟩
  · split at hz
    · rename_i ok
      cases hz
      obtain ⟨k1, k2, k3, k4⟩ := okC_all ok
      exact .inr (⟨_, _, hx.rp.dp (okD_ok 60 _ k1).2.2, hy.rp.dp (okD_ok 60 _ k2).2.2, ok, q _ H (Sub.refl H) (.bl _)⟩)
    · cases hz
def dEqB (d e : D) : Option Bool := match d, e with
  | .str a, .str b => some (a == b)
  | _, _ => if okD 60 d = true ∧ okD 60 e = true then some (PyData.eqv d e) else none
def dEq (d e : D) : Option D := (dEqB d e).map .bool
def dNe (d e : D) : Option D := (dEqB d e).map fun b => .bool (!b)
theorem o_eq : OpD c.K (In c N sc) (compareOp .Eq) dEq := by
  refine ⟨_, fun X I => by
    have h := OpR.or (X := X) op_eq (op_eqD I.u64)
    rw [I.K] at h
    exact h, fun B H x y d e z bk hx hy hz Q q => ?_⟩
  unfold dEq dEqB at hz
  split at hz
  · simp at hz
    subst hz
    refine .inl ⟨?_, ?_⟩
    · rw [hx.str, hy.str]; rfl
    · rw [hx.str, hy.str, dec_str]
      exact q _ H (Sub.refl H) (.bl _)
  · split at hz
    · rename_i ho
      simp at hz
      subst hz
      obtain ⟨a1, a2⟩ := okD_shaped ho.1 (by decide)
      obtain ⟨b1, b2⟩ := okD_shaped ho.2 (by decide)
      exact .inr ⟨d, e, hx.rp.dp a2, hy.rp.dp b2, a1, b1, q _ H (Sub.refl H) (.bl _)⟩
    · simp at hz
theorem o_ne : OpD c.K (In c N sc) (compareOp .NotEq) dNe := by
  refine ⟨_, fun X I => by
    have h := OpR.or (X := X) op_ne (op_neD I.u64)
    rw [I.K] at h
    exact h, fun B H x y d e z bk hx hy hz Q q => ?_⟩
  unfold dNe dEqB at hz
  split at hz
  · simp at hz
    subst hz
    refine .inl ⟨?_, ?_⟩
    · rw [hx.str, hy.str]; rfl
    · rw [hx.str, hy.str, dec_str]
      exact q _ H (Sub.refl H) (.bl _)
  · split at hz
    · rename_i ho
      simp at hz
      subst hz
      obtain ⟨a1, a2⟩ := okD_shaped ho.1 (by decide)
      obtain ⟨b1, b2⟩ := okD_shaped ho.2 (by decide)
      exact .inr ⟨d, e, hx.rp.dp a2, hy.rp.dp b2, a1, b1, q _ H (Sub.refl H) (.bl _)⟩
    · simp at hz
def isNoneD : D → Bool
  | .none => true
  | _ => false
def dIs : D → D → Option D := fun d e => if isNoneD e then some (.bool (isNoneD d)) else none
def dIsNot : D → D → Option D := fun d e => if isNoneD e then some (.bool (!isNoneD d)) else none
theorem rs_none {K : Frag} {B : Addr → Bool} {H : Hp} {v : V} {d : D} (h : Rs K B H v d) : decide (v = .non) = isNoneD d := by
  have h := h.rp
  cases h <;> rfl
theorem o_isNot : OpD c.K (In c N sc) (compareOp .IsNot) dIsNot := by
  refine ⟨_, fun X I => op_notN, fun B H x y d e z bk hx hy hz Q q => ?_⟩
  unfold dIsNot at hz
  split at hz
  · rename_i he
    cases hz
    have : e = .none := by
      cases e <;> first | rfl | cases he
    subst this
    refine ⟨hy.none, ?_⟩
    rw [rs_none hx]
    exact q _ H (Sub.refl H) (.bl _)
  · cases hz
/-- x in a text (one sign) | a list of any data | a tuple of flat data -/
def flatD : D → Bool
  | .none => true
  | .bool _ => true
  | .int _ => true
  | .str _ => true
  | _ => false
theorem flatD_v {K : Frag} {H : Hp} {v : V} {d : D} (h : Rp K H v d) (f : flatD d = true) : flatV v = true := by
  cases h <;> first | rfl | cases f
theorem flatD_all {K : Frag} {H : Hp} : ∀ {vs : List V} {ds : List D}, RpL K H vs ds → ds.all flatD = true → vs.all flatV = true
  | _, _, .nil, _ => rfl
  | _, _, .cons h r, f => by
    simp at f ⊢
    exact ⟨flatD_v h f.1, by simpa using flatD_all r (by simpa using f.2)⟩
theorem eqV_eqv {K : Frag} {H H' : Hp} {v u : V} {d e : D} (h : Rp K H v d) (k : Rp K H' u e) (f : flatD d = true) (g : flatD e = true) : eqV v u = PyData.eqv d e := by
  cases h <;> first | (cases f; done) | (cases k <;> first | (cases g; done) | rfl)
theorem inV_any {K : Frag} {H H' : Hp} {x : V} {d : D} (h : Rp K H' x d) (f : flatD d = true) : ∀ {vs : List V} {ds : List D}, RpL K H vs ds → ds.all flatD = true → inV x vs = ds.any fun z => PyData.eqv z d
  | _, _, .nil, _ => rfl
  | _, _, .cons r rr, g => by
    simp at g
    have ih := inV_any h f rr (by simpa using g.2)
    unfold inV at ih ⊢
    rw [List.any_cons, List.any_cons, ih, eqV_eqv r h g.1 f]
def dInB (d e : D) : Option Bool := match d, e with
  | .str ⟨⟨[c]⟩⟩, .str z => some (decide (c ∈ z.cps.toList))
  | d, .list ds => if okD 60 d = true ∧ okD 60 (.list ds) = true then some (ds.any fun z => PyData.eqv z d) else none
  | d, .tuple ds => if flatD d = true ∧ ds.all flatD = true then some (ds.any fun z => PyData.eqv z d) else none
  | _, _ => none
def dIn (d e : D) : Option D := (dInB d e).map .bool
def dNotIn (d e : D) : Option D := (dInB d e).map fun b => .bool (!b)
theorem o_in : OpD c.K (In c N sc) (compareOp .In) dIn := by
  refine ⟨_, fun X I => by
    have h := OpR.or (X := X) op_in_sign (OpR.or (op_inD (I.u65)) op_in_seq)
    rw [I.K] at h
    exact h, fun B H x y d e z bk hx hy hz Q q => ?_⟩
  unfold dIn dInB at hz
  split at hz
  · simp at hz
    subst hz
    exact .inl ⟨_, _, hx.str, hy.str, by simpa using q _ H (Sub.refl H) (.bl _)⟩
  · split at hz
    · rename_i ho
      simp at hz
      subst hz
      obtain ⟨a1, a2⟩ := okD_shaped ho.1 (by decide)
      obtain ⟨b1, b2⟩ := okD_shaped ho.2 (by decide)
      exact .inr (.inl ⟨_, _, hx.rp.dp a2, hy.rp.dp b2, a1, b1, q _ H (Sub.refl H) (.bl _)⟩)
    · simp at hz
  · split at hz
    · rename_i ho
      simp at hz
      subst hz
      obtain ⟨a, xs, rfl, h1, r1⟩ := hy.tuple
      refine .inr (.inr ⟨a, xs, rfl, .inr h1, flatD_v hx.rp ho.1, flatD_all r1 ho.2, ?_⟩)
      rw [if_neg Bool.false_ne_true, inV_any hx.rp ho.1 r1 ho.2]
      exact q _ H (Sub.refl H) (.bl _)
    · simp at hz
  · simp at hz
theorem o_notIn : OpD c.K (In c N sc) (compareOp .NotIn) dNotIn := by
  refine ⟨_, fun X I => by
    have h := OpR.or (X := X) op_notIn_sign (OpR.or (op_notInD (I.u65)) op_notIn_seq)
    rw [I.K] at h
    exact h, fun B H x y d e z bk hx hy hz Q q => ?_⟩
  unfold dNotIn dInB at hz
  split at hz
  · simp at hz
    subst hz
    exact .inl ⟨_, _, hx.str, hy.str, by simpa using q _ H (Sub.refl H) (.bl _)⟩
  · split at hz
    · rename_i ho
      simp at hz
      subst hz
      obtain ⟨a1, a2⟩ := okD_shaped ho.1 (by decide)
      obtain ⟨b1, b2⟩ := okD_shaped ho.2 (by decide)
      exact .inr (.inl ⟨_, _, hx.rp.dp a2, hy.rp.dp b2, a1, b1, q _ H (Sub.refl H) (.bl _)⟩)
    · simp at hz
  · split at hz
    · rename_i ho
      simp at hz
      subst hz
      obtain ⟨a, xs, rfl, h1, r1⟩ := hy.tuple
      refine .inr (.inr ⟨a, xs, rfl, .inr h1, flatD_v hx.rp ho.1, flatD_all r1 ho.2, ?_⟩)
      rw [if_pos rfl, inV_any hx.rp ho.1 r1 ho.2]
      exact q _ H (Sub.refl H) (.bl _)
    · simp at hz
  · simp at hz
end Hz
namespace Hz
open PySem L2
def negK (m : ME) : ME := fun ρ α Q E => m ρ α (fun d α1 => ∃ i : Int, d = .int i ∧ Q (.int (-i)) α1) E
section
variable {c : C0} {N : List Str} {sc : Scope} {a b : Expr} {ma mb : ME} {g : D → D → Option D} {i : Nat} {pos p1 : Pos} {x : Str}
structure IxD (K : Frag) (XS : Cx → Prop) (g : D → D → Option D) : Prop where
  ex : ∃ r : R2, (∀ X, XS X → IxR X r) ∧ ∀ (B : Addr → Bool) (H : Hp) (x y : V) (d e z : D), (∀ a, B a = true → ∃ o, H a = some o) → Rs K B H x d → Rs K B H y e → g d e = some z →
    ∀ Q : VK, (∀ v H', Sub H H' → Rp K (hide B H') v z → Q v H') → r x y H Q
def dIx : D → D → Option D
  | .list ds, .int i => (ixN ds.length i).bind fun j => ds[j]?
  | .tuple ds, .int i => (ixN ds.length i).bind fun j => ds[j]?
  | .str z, .int i => if z.length ≤ 100000 then (ixN z.cps.toList.length i).bind fun j => (z.cps.toList[j]?).map fun k => .str ⟨#[k]⟩ else none
  | _, _ => none
theorem o_ix : IxD c.K (In c N sc) dIx := by
  refine ⟨_, fun X I => by
    have h := IxR.or (X := X) ix_list (IxR.or ix_tup ix_str)
    rw [I.K] at h
    exact h, fun B H x y d e z bk hx hy hz Q q => ?_⟩
  unfold dIx at hz
  split at hz
  · rename_i ds k
    obtain ⟨a, xs, rfl, h1, r1⟩ := hx.list
    cases hj : ixN ds.length k with
    | none => simp [hj] at hz
    | some j =>
      simp [hj] at hz
      obtain ⟨v, g1, g2⟩ := r1.get' hz
      refine .inl ⟨a, xs, k, v, rfl, hy.int, h1, ?_, q v H (Sub.refl H) g2⟩
      unfold atI
      rw [r1.length, hj]
      exact g1
  · rename_i ds k
    obtain ⟨a, xs, rfl, h1, r1⟩ := hx.tuple
    cases hj : ixN ds.length k with
    | none => simp [hj] at hz
    | some j =>
      simp [hj] at hz
      obtain ⟨v, g1, g2⟩ := r1.get' hz
      refine .inr (.inl ⟨a, xs, k, v, rfl, hy.int, h1, ?_, q v H (Sub.refl H) g2⟩)
      unfold atI
      rw [r1.length, hj]
      exact g1
  · rename_i s k
    split at hz
    · rename_i hl
      cases hj : ixN s.cps.toList.length k with
      | none => rw [hj] at hz; cases hz
      | some j =>
        rw [hj, Option.bind_some] at hz
        cases hk : s.cps.toList[j]? with
        | none => rw [hk] at hz; cases hz
        | some w =>
          rw [hk] at hz
          cases hz
          refine .inr (.inr ⟨s, k, w, hx.str, hy.int, sz5 hl, ?_, q _ H (Sub.refl H) (.str _)⟩)
          unfold atI
          rw [hj]
          exact hk
    · cases hz
  · cases hz
theorem je_ix (ho : IxD c.K (In c N sc) g) (ha : JE c N sc a ma) (hb : JE c N sc b mb) (hs : PlainIx b := by intro _ _; rfl) : JE c N sc (.Subscript a b pos) (bop g ma mb) := by
  obtain ⟨r, h1, h2⟩ := ho.ex
  obtain ⟨ta, p1, s1⟩ := ha
  obtain ⟨tb, p2, s2⟩ := hb
  exact ⟨_, fun X W I T => pe_ix (h1 X I) (p1 X W I T) (p2 X W I T) hs, fun W => sd_bop (s1 W) (s2 W) h2⟩
end
abbrev MP := En → AH → (Option Int → AH → Prop) → QX → Prop
def SP_ (K : Frag) (W : WX) (t : TO) (m : MP) : Prop :=
  ∀ B σ H ρ α, SR K B σ H ρ α → ∀ Qm Em, m ρ α Qm Em → ∀ Q : Option Int → Hp → Prop, (∀ o B' H' α', Af K B H α B' H' α' → Qm o α' → Q o H') → SX K W B σ H α Em → t σ H Q
def JP (c : C0) (N : List Str) (sc : Scope) (e : Option Expr) (m : MP) : Prop := ∃ t : WX → TO, (∀ X W, In c N sc X → Takes X W → PO X e (t W)) ∧ ∀ W, SP_ c.K W (t W) m
def pnone : MP := fun _ α Q _ => Q none α
def psome (m : ME) : MP := fun ρ α Q E => m ρ α (fun d α1 => ∃ i : Int, d = .int i ∧ Q (some i) α1) E
def cutD (xs : List D) (lo hi : Option Int) : List D := (xs.drop (HT.sIx xs.length 0 lo)).take (HT.sIx xs.length xs.length hi - HT.sIx xs.length 0 lo)
def dCut : D → Option Int → Option Int → Option D
  | .list ds, lo, hi => some (.list (cutD ds lo hi))
  | .tuple ds, lo, hi => some (.tuple (cutD ds lo hi))
  | .str z, lo, hi => if z.length ≤ 100000 then some (.str (cutS z lo hi)) else none
  | _, _, _ => none
def cutK (ma : ME) (ml mh : MP) : ME := fun ρ α Q E => ma ρ α (fun d α1 => ml ρ α1 (fun l α2 => mh ρ α2 (fun h α3 => oq (vw α3 d) fun d' => oq (dCut d' l h) fun z => Q z α3) E) E) E
theorem RpL.cut {K : Frag} {H : Hp} {vs : List V} {ds : List D} (r : RpL K H vs ds) (lo hi : Option Int) : RpL K H (cutV vs lo hi) (cutD ds lo hi) := by
  unfold cutV cutD
  rw [r.length]
  exact (r.drop _).take _
section
variable {c : C0} {N : List Str} {sc : Scope} {a : Expr} {lo hi : Option Expr} {ma : ME} {ml mh : MP} {i : Nat} {pos p1 p2 : Pos} {x : Str} {K : Frag} {W : WX}
theorem jp_none : JP c N sc none pnone := ⟨_, fun _ _ _ _ => po_none, fun W B σ H ρ α S Qm Em m Q q x => q _ B H α (Af.refl S.bs) m⟩
theorem jp_some (h : JE c N sc a ma) : JP c N sc (some a) (psome ma) := by
  obtain ⟨t, h1, h2⟩ := h
  refine ⟨_, fun X W I T => po_some (h1 X W I T), fun W B σ H ρ α S Qm Em m Q q x => h2 W B σ H ρ α S _ Em m _ (fun v d B1 H1 α1 A r m => ?_) x⟩
  obtain ⟨z, rfl, m⟩ := m
  exact ⟨z, r.inti, q _ B1 H1 α1 A m⟩
/-- t[lo:hi], its object known -/
def rSlX (K : Frag) : V → Option Int → Option Int → Hp → VK → Prop := fun x lo hi H Q => ∃ a xs, x = .ref a ∧ SqT K H a xs ∧
  (HT.sIx xs.length 0 lo = 0 ∧ HT.sIx xs.length xs.length hi = xs.length → Q (.ref a) H) ∧ (¬ (HT.sIx xs.length 0 lo = 0 ∧ HT.sIx xs.length xs.length hi = xs.length) → ∀ p o, ExT o → H p = none → Q (.ref p) (upd H p (.frz o (.tup (cutV xs lo hi)))))
theorem sl_tupX {X : Cx} : SlR X (rSlX X.K) := by
  intro pins s σ H x v vl vu lo hi sl Q I rx hs pl pu h
  obtain ⟨a, xs, rfl, hx, q1, q2⟩ := h
  cases rx
  obtain ⟨its, r, ht, hz⟩ := I.tuple hx
  have hlen : its.toArray.size = xs.length := by rw [List.size_toArray]; exact r.length.symm
  refine ⟨"tuple", _, PyProof.Rows.slot_tuple_getitem.lookup, ht.typeIs, ?_⟩
  by_cases hw : HT.sIx xs.length 0 lo = 0 ∧ HT.sIx xs.length xs.length hi = xs.length
  · exact getItem_tuple_whole ht hs pl pu (by rw [hlen]; exact hw) ⟨.ref a, H, I, rfl, q1 hw⟩
  · refine HT.getItem_tuple_cut ht hs pl pu (by rw [hlen]; exact hw) ?_ (by rw [hlen]; exact hz)
    rw [hlen]
    exact ⟨.ref s.heap.objs.size, _, tnew I ((r.drop (HT.sIx xs.length 0 lo)).take (HT.sIx xs.length xs.length hi - HT.sIx xs.length 0 lo)) (Nat.le_trans (cutV_length xs lo hi) hz), rfl, q2 hw _ _ ⟨rfl, rfl⟩ (I.hok.fresh (Nat.le_refl _))⟩
def rCutR (K : Frag) : V → Option Int → Option Int → Hp → VK → Prop := fun x lo hi H Q => rSlL K x lo hi H Q ∨ (rSlX K x lo hi H Q ∨ rSlS x lo hi H Q)
theorem cut_read {B : Addr → Bool} {H : Hp} {x : V} {d z : D} {l h : Option Int} (bk : ∀ a, B a = true → ∃ o, H a = some o) (hx : Rs K B H x d) (hz : dCut d l h = some z) : ∀ Q : VK, (∀ v H', Sub H H' → Rp K (hide B H') v z → Q v H') → rCutR K x l h H Q := fun Q q => by
  unfold dCut at hz
  split at hz
  · cases hz
    obtain ⟨a, xs, rfl, h1, r1⟩ := hx.list
    refine .inl ⟨a, xs, rfl, h1, fun p hp => ?_⟩
    obtain ⟨s1, r2⟩ := lst_new bk hp (r1.cut l h)
    exact q _ _ s1 r2
  · rename_i ds
    cases hz
    obtain ⟨a, xs, rfl, h1, r1⟩ := hx.tuple
    refine .inr (.inl ⟨a, xs, rfl, h1, fun w => ?_, fun _ p o ho hp => ?_⟩)
    · have e : cutD ds l h = ds := by
        unfold cutD
        rw [← r1.length, w.1, w.2, List.drop_zero, Nat.sub_zero, r1.length, List.take_length]
      rw [e] at q
      refine q _ H (Sub.refl H) ?_
      cases hx with
      | vis h => exact h
    · obtain ⟨s1, r2⟩ := tup_new bk ho hp (r1.cut l h)
      exact q _ _ s1 r2
  · split at hz
    · rename_i hl
      cases hz
      exact .inr (.inr ⟨_, hx.str, sz5 hl, q _ H (Sub.refl H) (.str _)⟩)
    · cases hz
  · cases hz
theorem sl_cut {X : Cx} : SlR X (rCutR X.K) := SlR.or sl_list (SlR.or sl_tupX sl_str)
theorem sd_cut {t : TE} {u w : TO} (a2 : Sd K W t ma) (b2 : SP_ K W u ml) (c2 : SP_ K W w mh) : Sd K W (tSl (rCutR K) t u w) (cutK ma ml mh) := fun B σ H ρ α S Qm Em m Q q x => by
  refine a2 B σ H ρ α S _ Em m _ (fun v d B1 H1 α1 A1 r1 m => ?_) x
  refine b2 B1 σ H1 ρ α1 (S.step A1) _ Em m _ (fun l B2 H2 α2 A2 m => ?_) (x.after S.bs A1)
  have A12 := A1.trans S.bs A2
  refine c2 B2 σ H2 ρ α2 (S.step A12) _ Em m _ (fun h B3 H3 α3 A3 m => ?_) (x.after S.bs A12)
  obtain ⟨d', hd, z, hz, m⟩ := m
  refine cut_read A3.bs.bk (vw_rs A3.bs (r1.mono (A2.sub.trans A3.sub)) hd) hz _ fun y H4 s4 r4 => ?_
  exact q y z B3 H4 α3 ((A12.trans S.bs A3).trans S.bs (Af.of_sub A3.bs s4)) r4 m
theorem je_cut (ha : JE c N sc a ma) (hl : JP c N sc lo ml) (hh : JP c N sc hi mh) : JE c N sc (.Subscript a (.Slice lo hi none p2) pos) (cutK ma ml mh) := by
  obtain ⟨t, a1, a2⟩ := ha
  obtain ⟨u, b1, b2⟩ := hl
  obtain ⟨w, c1, c2⟩ := hh
  refine ⟨fun W => tSl (rCutR c.K) (t W) (u W) (w W), fun X W I T => ?_, fun W => sd_cut (a2 W) (b2 W) (c2 W)⟩
  have h := pe_slice (p2 := p2) (pos := pos) (sl_cut (X := X)) (a1 X W I T) (b1 X W I T) (c1 X W I T)
  rw [I.K] at h
  exact h
end
inductive RsL (K : Frag) (B : Addr → Bool) (H : Hp) : List V → List D → Prop
  | nil : RsL K B H [] []
  | cons {v : V} {vs : List V} {d : D} {ds : List D} : Rs K B H v d → RsL K B H vs ds → RsL K B H (v :: vs) (d :: ds)
theorem RpL.rs {K : Frag} {B : Addr → Bool} {H : Hp} : ∀ {vs : List V} {ds : List D}, RpL K (hide B H) vs ds → RsL K B H vs ds
  | _, _, .nil => .nil
  | _, _, .cons h r => .cons (.vis h) (RpL.rs r)
theorem RsL.one {K : Frag} {B : Addr → Bool} {H : Hp} {vs : List V} {d : D} (h : RsL K B H vs [d]) : ∃ v, vs = [v] ∧ Rs K B H v d := by
  cases h with
  | cons a b => cases b; exact ⟨_, rfl, a⟩
theorem RsL.two {K : Frag} {B : Addr → Bool} {H : Hp} {vs : List V} {d e : D} (h : RsL K B H vs [d, e]) : ∃ v u, vs = [v, u] ∧ Rs K B H v d ∧ Rs K B H u e := by
  cases h with
  | cons a b =>
    obtain ⟨u, rfl, k⟩ := RsL.one b
    exact ⟨_, u, rfl, a, k⟩
structure CaD (K : Frag) (XS : Cx → Prop) (fv : Value) (f : List D → Option D) : Prop where
  ex : ∃ r : List V → Hp → VK → Prop, (∀ X, XS X → CallR X fv r) ∧ ∀ (B : Addr → Bool) (H : Hp) (vs : List V) (ds : List D) (z : D), (∀ a, B a = true → ∃ o, H a = some o) → RsL K B H vs ds → f ds = some z →
    ∀ Q : VK, (∀ v H', Sub H H' → Rp K (hide B H') v z → Q v H') → r vs H Q
structure CaF (K : Frag) (XS : Cx → Prop) (fv : Value) (f : List D → Option D) : Prop where
  ex : ∃ r : List V → Hp → VK → Prop, (∀ X, XS X → CallR X fv r) ∧ ∀ (B : Addr → Bool) (H : Hp) (vs : List V) (ds : List D) (z : D), (∀ a, B a = true → ∃ o, H a = some o) → RsL K B H vs ds → f ds = some z →
    ∀ Q : VK, (∀ l H', Sub H H' → H l = none → OwnAt K (hide (ins l B) H') (H' l) z → Q (.ref l) H') → r vs H Q
theorem mapV_rs {K : Frag} {B : Addr → Bool} {H : Hp} {α : AH} (S : Bs K B H α) : ∀ {vs : List V} {ds es : List D}, RpL K (hide B H) vs ds → mapV α ds = some es → RsL K B H vs es
  | _, _, es, .nil, e => by cases e; exact .nil
  | _, _, es, .cons (d := d) (ds := ds) h r, e => by
    unfold mapV at e
    cases q : vw α d with
    | none => simp [q] at e
    | some z =>
      cases q2 : mapV α ds with
      | none => simp [q, q2] at e
      | some zs =>
        simp [q, q2] at e
        subst e
        exact .cons (vw_rs S h q) (mapV_rs S r q2)
def b1K (f : List D → Option D) (m : ME) : ME := fun ρ α Q E => m ρ α (fun d α1 => oq (vw α1 d) fun d' => oq (f [d']) fun z => Q z α1) E
def bnK (f : List D → Option D) (m : ML) : ME := fun ρ α Q E => m ρ α (fun ds α1 => oq (mapV α1 ds) fun es => oq (f es) fun z => Q z α1) E
section
variable {c : C0} {N : List Str} {sc : Scope} {e : Expr} {es : List Expr} {me : ME} {ml : ML} {f : List D → Option D} {pos p : Pos} {x : Str} {id T : String} {K : Frag} {W : WX} {r : List V → Hp → VK → Prop}
theorem sd_b1 {te : TE} (h : Sd K W te me) (hr : ∀ (B : Addr → Bool) (H : Hp) (vs : List V) (ds : List D) (z : D), (∀ a, B a = true → ∃ o, H a = some o) → RsL K B H vs ds → f ds = some z → ∀ Q : VK, (∀ v H', Sub H H' → Rp K (hide B H') v z → Q v H') → r vs H Q) :
    Sd K W (tCB r (tCons te tNil)) (b1K f me) := fun B σ H ρ α S Qm Em m Q q x => h B σ H ρ α S _ Em m _ (fun v d B1 H1 α1 A1 r1 m => by
  obtain ⟨d', hd, z, hz, m⟩ := m
  exact hr B1 H1 [v] [d'] _ A1.bs.bk (.cons (vw_rs A1.bs r1 hd) .nil) hz _ fun w H2 s2 r2 => q w z B1 H2 α1 (A1.trans S.bs (Af.of_sub A1.bs s2)) r2 m) x
theorem sd_bn {ta : TA} (h : SA K W ta ml) (hr : ∀ (B : Addr → Bool) (H : Hp) (vs : List V) (ds : List D) (z : D), (∀ a, B a = true → ∃ o, H a = some o) → RsL K B H vs ds → f ds = some z → ∀ Q : VK, (∀ v H', Sub H H' → Rp K (hide B H') v z → Q v H') → r vs H Q) :
    Sd K W (tCB r ta) (bnK f ml) := fun B σ H ρ α S Qm Em m Q q x => h B σ H ρ α S _ Em m _ (fun vs ds B1 H1 α1 A1 r1 m => by
  obtain ⟨es, hd, z, hz, m⟩ := m
  exact hr B1 H1 vs es _ A1.bs.bk (mapV_rs A1.bs r1 hd) hz _ fun w H2 s2 r2 => q w z B1 H2 α1 (A1.trans S.bs (Af.of_sub A1.bs s2)) r2 m) x
theorem sf_b1 {te : TE} (h : Sd K W te me) (hr : ∀ (B : Addr → Bool) (H : Hp) (vs : List V) (ds : List D) (z : D), (∀ a, B a = true → ∃ o, H a = some o) → RsL K B H vs ds → f ds = some z → ∀ Q : VK, (∀ l H', Sub H H' → H l = none → OwnAt K (hide (ins l B) H') (H' l) z → Q (.ref l) H') → r vs H Q) :
    Sf K W (tCB r (tCons te tNil)) (b1K f me) := fun B σ H ρ α S Qm Em m Q q x => h B σ H ρ α S _ Em m _ (fun v d B1 H1 α1 A1 r1 m => by
  obtain ⟨d', hd, z, hz, m⟩ := m
  exact hr B1 H1 [v] [d'] _ A1.bs.bk (.cons (vw_rs A1.bs r1 hd) .nil) hz _ fun l H2 s2 hl r2 => q l z _ H2 α1 (A1.trans S.bs (Af.cell A1.bs s2 hl (.own r2))) (A1.bs.new hl) m) x
theorem je_b1 (ho : CaD c.K (In c N sc) (.builtin id) f) (hg : sc.names.lookup x = some .globalImplicit) (hm : c.mg x = none) (hv : bootBuiltins x = some (.builtin id)) (ha : JE c N sc e me) (hn : x ≠ "__name__" := by decide) (hdb : (x == ("__debug__" : Str)) = false := by decide)
    (he : ∀ env, starEach [e] env = (false, eval e env) :: starEach [] env := by intros; rfl) (hpl : ∀ env, (backTo pos (starEach [] env)).any (·.1) = false := by intros; rfl) : JE c N sc (.Call (.Name x p) [e] [] pos) (b1K f me) := by
  obtain ⟨r, h1, h2⟩ := ho.ex
  obtain ⟨t, a1, a2⟩ := ha
  exact ⟨_, fun X W I T => pe_callB (h1 X I) (I.gl hg) (by rw [I.mg]; exact hm) hv (pa_cons (a1 X W I T) pa_nil (he _)) hn hdb (he _) (hpl _), fun W => sd_b1 (a2 W) h2⟩
theorem je_bn (ho : CaD c.K (In c N sc) (.builtin id) f) (hg : sc.names.lookup x = some .globalImplicit) (hm : c.mg x = none) (hv : bootBuiltins x = some (.builtin id)) (ha : JL c N sc (e :: es) ml) (hn : x ≠ "__name__" := by decide) (hdb : (x == ("__debug__" : Str)) = false := by decide)
    (he : ∀ env, starEach (e :: es) env = (false, eval e env) :: starEach es env := by intros; rfl) (hpl : ∀ env, (backTo pos (starEach es env)).any (·.1) = false := by intros; rfl) : JE c N sc (.Call (.Name x p) (e :: es) [] pos) (bnK f ml) := by
  obtain ⟨r, h1, h2⟩ := ho.ex
  obtain ⟨t, a1, a2⟩ := ha
  exact ⟨_, fun X W I T => pe_callB (h1 X I) (I.gl hg) (by rw [I.mg]; exact hm) hv (a1 X W I T) hn hdb (he _) (hpl _), fun W => sd_bn (a2 W) h2⟩
theorem je_t1 (ho : CaD c.K (In c N sc) (.type T) f) (hg : sc.names.lookup x = some .globalImplicit) (hm : c.mg x = none) (hv : bootBuiltins x = some (.type T)) (ha : JE c N sc e me) (hn : x ≠ "__name__" := by decide) (hdb : (x == ("__debug__" : Str)) = false := by decide)
    (he : ∀ env, starEach [e] env = (false, eval e env) :: starEach [] env := by intros; rfl) (hpl : ∀ env, (backTo pos (starEach [] env)).any (·.1) = false := by intros; rfl) : JE c N sc (.Call (.Name x p) [e] [] pos) (b1K f me) := by
  obtain ⟨r, h1, h2⟩ := ho.ex
  obtain ⟨t, a1, a2⟩ := ha
  exact ⟨_, fun X W I T => pe_callTy (h1 X I) (I.gl hg) (by rw [I.mg]; exact hm) hv (pa_cons (a1 X W I T) pa_nil (he _)) hn hdb (he _) (hpl _), fun W => sd_b1 (a2 W) h2⟩
theorem jf_t1 (ho : CaF c.K (In c N sc) (.type T) f) (hg : sc.names.lookup x = some .globalImplicit) (hm : c.mg x = none) (hv : bootBuiltins x = some (.type T)) (ha : JE c N sc e me) (hn : x ≠ "__name__" := by decide) (hdb : (x == ("__debug__" : Str)) = false := by decide)
    (he : ∀ env, starEach [e] env = (false, eval e env) :: starEach [] env := by intros; rfl) (hpl : ∀ env, (backTo pos (starEach [] env)).any (·.1) = false := by intros; rfl) : JF c N sc (.Call (.Name x p) [e] [] pos) (b1K f me) := by
  obtain ⟨r, h1, h2⟩ := ho.ex
  obtain ⟨t, a1, a2⟩ := ha
  exact ⟨_, fun X W I T => pe_callTy (h1 X I) (I.gl hg) (by rw [I.mg]; exact hm) hv (pa_cons (a1 X W I T) pa_nil (he _)) hn hdb (he _) (hpl _), fun W => sf_b1 (a2 W) h2⟩
/-- isinstance(e, T), T a built-in class -/
def isiB (T : String) : D → Option Bool
  | .none => kitB "NoneType" T
  | .bool _ => kitB "bool" T
  | .int _ => kitB "int" T
  | .str _ => kitB "str" T
  | .list _ => kitB "list" T
  | .tuple _ => kitB "tuple" T
  | _ => none
def isiK (T : String) (m : ME) : ME := fun ρ α Q E => m ρ α (fun d α1 => oq (vw α1 d) fun d' => oq (isiB T d') fun b => Q (.bool b) α1) E
end
section
variable {c : C0} {N : List Str} {sc : Scope}
def dLen : List D → Option D
  | [.list ds] => some (.int ds.length)
  | [.tuple ds] => some (.int ds.length)
  | [.str z] => if z.length ≤ 100000 then some (.int z.length) else none
  | _ => none
theorem c_len : CaD c.K (In c N sc) (.builtin "len") dLen := by
  refine ⟨_, fun X I => by
    have h := call_len (X := X)
    rw [I.K] at h
    exact h, fun B H vs ds z bk hv hz Q q => ?_⟩
  unfold dLen at hz
  split at hz
  · cases hz
    obtain ⟨v, rfl, h⟩ := hv.one
    obtain ⟨a, xs, rfl, h1, r1⟩ := h.list
    exact ⟨_, _, rfl, .inl ⟨xs, h1, r1.length.symm⟩, q _ H (Sub.refl H) (.int _)⟩
  · cases hz
    obtain ⟨v, rfl, h⟩ := hv.one
    obtain ⟨a, xs, rfl, h1, r1⟩ := h.tuple
    exact ⟨_, _, rfl, .inr ⟨xs, h1, r1.length.symm⟩, q _ H (Sub.refl H) (.int _)⟩
  · split at hz
    · rename_i hl
      cases hz
      obtain ⟨v, rfl, h⟩ := hv.one
      rw [h.str]
      exact ⟨_, _, rfl, ⟨sz5 hl, rfl⟩, q _ H (Sub.refl H) (.int _)⟩
    · cases hz
  · cases hz
def dInt : List D → Option D
  | [.int i] => some (.int i)
  | [.bool b] => some (.int (if b then 1 else 0))
  | _ => none
theorem c_int : CaD c.K (In c N sc) (.type "int") dInt := by
  refine ⟨_, fun X I => call_int1, fun B H vs ds z bk hv hz Q q => ?_⟩
  unfold dInt at hz
  split at hz
  · cases hz
    obtain ⟨v, rfl, h⟩ := hv.one
    exact .inl ⟨_, by rw [h.int], q _ H (Sub.refl H) (.int _)⟩
  · cases hz
    obtain ⟨v, rfl, h⟩ := hv.one
    exact .inr ⟨_, by rw [h.bool], q _ H (Sub.refl H) (.int _)⟩
  · cases hz
def dAbs : List D → Option D
  | [.int i] => some (.int (if i < 0 then -i else i))
  | _ => none
def dOrd : List D → Option D
  | [.str x] => if x.length = 1 then some (.int ((x.cps.getD 0 0 : Nat) : Int)) else none
  | _ => none
def dMax2 : List D → Option D
  | [.int i, .int j] => some (.int (if j > i then j else i))
  | _ => none
theorem c_max2 (hc : c.cm = true := by rfl) : CaD c.K (In c N sc) (.builtin "max") dMax2 := by
  refine ⟨_, fun X I => call_max2 (I.calm hc), fun B H vs ds z bk hv hz Q q => ?_⟩
  unfold dMax2 at hz
  split at hz
  · cases hz
    obtain ⟨v, u, rfl, h, k⟩ := hv.two
    exact ⟨_, _, by rw [h.int, k.int], q _ H (Sub.refl H) (.int _)⟩
  · cases hz
def dMin2 : List D → Option D
  | [.int i, .int j] => some (.int (if j < i then j else i))
  | _ => none
def toInts : List D → Option (List Int)
  | [] => some []
  | .int i :: r => (toInts r).map fun q => i :: q
  | _ => none
theorem toInts_of : ∀ {ds : List D} {ns : List Int}, toInts ds = some ns → ds = ns.map PyData.int
  | [], ns, h => by cases h; rfl
  | .int i :: r, ns, h => by
    cases q : toInts r with
    | none => simp [toInts, q] at h
    | some l =>
      simp [toInts, q] at h
      subst h
      rw [toInts_of q]
      rfl
  | .none :: _, _, h => by cases h
  | .bool _ :: _, _, h => by cases h
  | .str _ :: _, _, h => by cases h
  | .list _ :: _, _, h => by cases h
  | .tuple _ :: _, _, h => by cases h
  | .dict _ :: _, _, h => by cases h
def dSum : List D → Option D
  | [.list ds] => (toInts ds).map fun ns => .int ns.sum
  | _ => none
theorem c_sum (hc : c.cm = true := by rfl) : CaD c.K (In c N sc) (.builtin "sum") dSum := by
  refine ⟨_, fun X I => by
    have h := cr_sum (X := X) (I.calm hc)
    rw [I.K] at h
    exact h, fun B H vs ds z bk hv hz Q q => ?_⟩
  unfold dSum at hz
  split at hz
  · rename_i ds
    cases q1 : toInts ds with
    | none => simp [q1] at hz
    | some ns =>
      simp [q1] at hz
      subst hz
      obtain ⟨v, rfl, h⟩ := hv.one
      obtain ⟨a, xs, rfl, h1, r1⟩ := h.list
      rw [toInts_of q1] at r1
      rw [r1.of_ints] at h1
      exact ⟨a, ns, rfl, h1, q _ H (Sub.refl H) (.int _)⟩
  · cases hz
def dList : List D → Option D
  | [.list ds] => some (.list ds)
  | [.tuple ds] => some (.list ds)
  | _ => none
theorem cf_list : CaF c.K (In c N sc) (.type "list") dList := by
  refine ⟨_, fun X I => by
    have h := call_list_of (X := X)
    rw [I.K] at h
    exact h, fun B H vs ds z bk hv hz Q q => ?_⟩
  unfold dList at hz
  split at hz
  · cases hz
    obtain ⟨v, rfl, h⟩ := hv.one
    obtain ⟨a, xs, rfl, h1, r1⟩ := h.list
    exact ⟨a, xs, rfl, .inl h1, fun l hl => q _ _ (Sub.new hl) hl (own_new hl r1)⟩
  · cases hz
    obtain ⟨v, rfl, h⟩ := hv.one
    obtain ⟨a, xs, rfl, h1, r1⟩ := h.tuple
    exact ⟨a, xs, rfl, .inr h1, fun l hl => q _ _ (Sub.new hl) hl (own_new hl r1)⟩
  · cases hz
def dTuple : List D → Option D
  | [.list ds] => some (.tuple ds)
  | [.tuple ds] => some (.tuple ds)
  | _ => none
end
def metK (f : Str → List D → Option D) (mo : ME) (ma : ML) : ME := fun ρ α Q E => mo ρ α (fun o α1 => ∃ x : Str, o = .str x ∧ ma ρ α1 (fun ds α2 => oq (mapV α2 ds) fun es => oq (f x es) fun z => Q z α2) E) E
def strK (m : ME) : MI := fun ρ α Q E => m ρ α (fun d α1 => ∃ x : Str, d = .str x ∧ Q (x.cps.toList.map fun k => .str ⟨#[k]⟩) (fun _ => True) α1) E
end Hz
namespace Hz
open PySem L2
variable {c : C0} {N : List Str} {sc : Scope}
/-- a def as it stands behind the top; js: how many arguments are written somewhere, less than all -/
structure AtF (c : C0) (x qual : Str) (st : Stmt) (ps : List Str) (dvs : List V) (js : List Nat) (f : Addr) : Prop where
  ex : ∃ fd, FunD c.K x qual (defArgs st) (defBody st) (defScope st) dvs [] f fd ∧ Binds c.K fd ps [] ∧ ∀ j ∈ js, ∃ ds, Vals (dvs.drop j) ds ∧ Binds c.K fd ps ds
/-- a def's promise -/
structure Pro (c : C0) (k : Nat) (f : Addr) (ps : List Str) (dvs : List V) (js : List Nat) (fm : Fm) : Prop where
  ex : ∃ fd, FnOk c.P c.w c.K c.mg c.base (L2.CX c.P c.w) k f fd ps (fun vs H Q E => vs.length = ps.length ∧ spD c.K fm vs H Q E) ∧ PySem.W.keepIn c.K (.ref f) = true ∧ Binds c.K fd ps [] ∧ ∀ j ∈ js, ∃ ds, Vals (dvs.drop j) ds ∧ Binds c.K fd ps ds
theorem fn_okD {x qual : Str} {st : Stmt} {dvs : List V} {f : Addr} {fd : FuncData} {ps : List Str} {k : Nat} {m : MS} (F : FunD c.K x qual (defArgs st) (defBody st) (defScope st) dvs [] f fd) (S : FnScope N ps (defScope st)) (h : JB (c.at_ k) N (defScope st) (defBody st) m) (hn : ps.length ≤ N.length := by decide) :
    FnOk c.P c.w c.K c.mg c.base (L2.CX c.P c.w) (k + 1) f fd ps (fun vs H Q E => vs.length = ps.length ∧ spD c.K (runF ps.length N.length m) vs H Q E) := by
  refine F.ok S (fun vs H Q E h => h.1) (fun cdv A outer s H vs Q E hr h' => ?_)
  obtain ⟨hl, B, α, ds, Qm, Em, S0, r, ⟨_, mm⟩, q, y⟩ := h'
  obtain ⟨t, t1, t2⟩ := h
  have tk : Takes (cxOf (L2.CX c.P c.w) c.P c.w c.K c.mg c.base N qual (defScope st) f cdv A outer s H E) (fun cls d _ H => E cls d H) := takes_of rfl rfl rfl rfl
  refine ⟨t _, t1 _ _ ⟨rfl, rfl, rfl, rfl, rfl, fun _ => hr, (Nat.lt_of_le_of_lt (Nat.add_le_add_right (Nat.le_add_right _ _) 200) hr.un : _), rfl, rfl, fun _ => rfl, fun _ => rfl, passes_of rfl, fun _ => ⟨rfl, rfl⟩, fun _ _ _ h => (by cases h), fun _ _ => rfl⟩ tk, ?_⟩
  have es : L2.start N vs = vs.map some ++ List.replicate (N.length - ps.length) none := by
    unfold L2.start
    rw [hl]
  rw [es]
  refine t2 _ B _ H _ α (entry_sr (n := N.length - ps.length) S0 r) _ mm _ (Fi.none_ (fun B' H' ρ' α' a z => q .non .none B' H' α' a .non z) (fun v d B' H' α' a r z => q v d B' H' α' a r z) (fun _ _ z => z) fun _ _ z => z) fun x B' σ' ρ' α' cls d H' a _ xr z => y x B' α' cls d H' a xr z
section
variable {x qual : Str} {st : Stmt} {dvs : List V} {js : List Nat} {f : Addr} {ps : List Str} {k np : Nat} {m : MS} {fm : Fm}
theorem AtF.run (A : AtF c x qual st ps dvs js f) (S : FnScope N ps (defScope st)) (h : JB (c.at_ k) N (defScope st) (defBody st) m) (hn : ps.length ≤ N.length := by decide) : Pro c (k + 1) f ps dvs js (runF ps.length N.length m) := by
  obtain ⟨fd, F, b⟩ := A.ex
  exact ⟨fd, fn_okD F S h hn, F.kp, b⟩
theorem AtF.runP (A : AtF c x qual st ps dvs js f) (S : FnScope N ps (defScope st)) (h : JB (c.at_ k) N (defScope st) (defBody st) m) (hn : ps.length ≤ N.length := by decide) : Pro c (k + 1) f ps dvs js (runP ps.length N.length m) := by
  obtain ⟨fd, F, b⟩ := A.ex
  exact ⟨fd, (fn_okD F S h hn).imp fun vs H Q E z => ⟨z.1, spD_pure z.2⟩, F.kp, b⟩
theorem Pro.mono {j : Nat} (P : Pro c j f ps dvs js fm) (h : j ≤ k) : Pro c k f ps dvs js fm := by
  obtain ⟨fd, F, r⟩ := P.ex
  exact ⟨fd, F.mono h, r⟩
/-- all arguments are written -/
theorem Pro.fn (P : Pro c k f ps dvs js fm) (hm : c.mg x = some (.ref f)) : FnD c k x ps.length [] fm := by
  obtain ⟨fd, F, kp, b, _⟩ := P.ex
  exact ⟨f, fd, ps, [], [], F, hm, kp, b, .nil, fun _ => .nil, rfl⟩
end
def oD (C : Nat) (fs : List (D × D)) : D := .dict ((.none, .int (Int.ofNat C)) :: fs)
def lookF (f : Str) : List (D × D) → Option D
  | [] => none
  | (.str g, d) :: r => if f = g then some d else lookF f r
  | _ => none
def putD (f : Str) (d : D) : List (D × D) → List (D × D)
  | [] => [(.str f, d)]
  | (.str g, x) :: r => if g = f then (.str g, d) :: r else (.str g, x) :: putD f d r
  | q :: r => q :: putD f d r
theorem RpF.look {K : Frag} {H : Hp} {f : Str} {d : D} : ∀ {gs : List (Str × V)} {ds : List (D × D)}, RpF K H gs ds → lookF f ds = some d → ∃ v, gs.lookup f = some v ∧ Rp K H v d
  | _, _, .nil, e => by cases e
  | _, _, .cons (f := g) (v := v) (vs := vs) (d := d') (ds := ds) h r, e => by
    by_cases q : f = g
    · subst q
      have e' : some d' = some d := by
        have : lookF f ((PyData.str f, d') :: ds) = some d' := if_pos rfl
        rw [this] at e
        exact e
      cases e'
      exact ⟨v, by simp [List.lookup], h⟩
    · have e' : lookF f ds = some d := by
        have : lookF f ((PyData.str g, d') :: ds) = lookF f ds := if_neg q
        rw [this] at e
        exact e
      obtain ⟨w, h1, h2⟩ := RpF.look r e'
      refine ⟨w, ?_, h2⟩
      have : (f == g) = false := by simpa using q
      simp [List.lookup, this, h1]
theorem RpF.lookN {K : Frag} {H : Hp} {f : Str} : ∀ {gs : List (Str × V)} {ds : List (D × D)}, RpF K H gs ds → lookF f ds = none → gs.lookup f = none
  | _, _, .nil, e => rfl
  | _, _, .cons (f := g) (v := v) (vs := vs) (d := d') (ds := ds) h r, e => by
    by_cases q : f = g
    · subst q
      have : lookF f ((PyData.str f, d') :: ds) = some d' := if_pos rfl
      rw [this] at e
      cases e
    · have e' : lookF f ds = none := by
        have : lookF f ((PyData.str g, d') :: ds) = lookF f ds := if_neg q
        rw [this] at e
        exact e
      have : (f == g) = false := by simpa using q
      simp [List.lookup, this, RpF.lookN r e']
theorem RpF.length {K : Frag} {H : Hp} : ∀ {gs : List (Str × V)} {ds : List (D × D)}, RpF K H gs ds → gs.length = ds.length
  | _, _, .nil => rfl
  | _, _, .cons h r => by rw [List.length_cons, List.length_cons, RpF.length r]
theorem RpF.put {K : Frag} {H : Hp} {f : Str} {v : V} {d : D} (h : Rp K H v d) : ∀ {gs : List (Str × V)} {ds : List (D × D)}, RpF K H gs ds → RpF K H (putF f v gs) (putD f d ds)
  | _, _, .nil => .cons h .nil
  | _, _, .cons (f := g) (v := u) (vs := vs) (d := e) (ds := ds) a r => by
    show RpF K H (if g = f then (g, v) :: vs else (g, u) :: putF f v vs) (if g = f then (.str g, d) :: ds else (.str g, e) :: putD f d ds)
    by_cases q : g = f
    · rw [if_pos q, if_pos q]
      exact .cons h r
    · rw [if_neg q, if_neg q]
      exact .cons a (RpF.put h r)
theorem RpK.noNone {K : Frag} {H : Hp} : ∀ {kvs : List (Key × V)} {es : List (D × D)}, RpK K H kvs es → ∀ x ds, es = (PyData.none, x) :: ds → False
  | _, _, .nil, x, ds, e => by cases e
  | _, _, .cons (k := k) h r, x, ds, e => by
    have e1 := (List.cons.inj e).1
    have e2 : kD k = .none := congrArg Prod.fst e1
    cases k <;> cases e2
theorem obj_inj {C C' : Nat} {ds ds' : List (D × D)} (h : oD C ds = oD C' ds') : C = C' ∧ ds = ds' := by
  have e1 := List.cons.inj (PyData.dict.inj h)
  have e2 : PyData.int (Int.ofNat C) = PyData.int (Int.ofNat C') := congrArg Prod.snd e1.1
  exact ⟨Int.ofNat.inj (PyData.int.inj e2), e1.2⟩
theorem Rp.oD {K : Frag} {H : Hp} {v : V} {C : Nat} {ds : List (D × D)} (h : Rp K H v (oD C ds)) : ∃ a dx gs, v = .ref a ∧ H a = some (.ins C dx gs) ∧ RpF K H gs ds := by
  generalize e : Hz.oD C ds = z at h
  cases h with
  | dct h r => exact (r.noNone _ _ (PyData.dict.inj e).symm).elim
  | @obj a C' dx fs ds' h r =>
    obtain ⟨rfl, rfl⟩ := obj_inj (show Hz.oD C ds = Hz.oD C' ds' from e)
    exact ⟨_, _, _, rfl, h, r⟩
  | _ => cases e
theorem Rs.oD {K : Frag} {B : Addr → Bool} {H : Hp} {v : V} {C : Nat} {ds : List (D × D)} (h : Rs K B H v (oD C ds)) : ∃ a dx gs, v = .ref a ∧ H a = some (.ins C dx gs) ∧ RpF K (hide B H) gs ds := by
  generalize e : Hz.oD C ds = z at h
  cases h with
  | vis h =>
    subst e
    obtain ⟨a, dx, gs, rfl, h1, h2⟩ := h.oD
    exact ⟨a, dx, gs, rfl, (hide_some h1).2, h2⟩
  | dct h r => exact (r.noNone _ _ (PyData.dict.inj e).symm).elim
  | @obj a C' dx fs ds' h r =>
    obtain ⟨rfl, rfl⟩ := obj_inj (show Hz.oD C ds = Hz.oD C' ds' from e)
    exact ⟨_, _, _, rfl, h, r⟩
  | lst _ _ => cases e
theorem Bs.obj {K : Frag} {B : Addr → Bool} {H : Hp} {α : AH} {l : Addr} {C : Nat} {fs : List (D × D)} (S : Bs K B H α) (h : α l = some (oD C fs)) : B l = true ∧ ∃ dx gs, H l = some (.ins C dx gs) ∧ RpF K (hide B H) gs fs := by
  obtain ⟨h1, h2⟩ := S.cel l _ h
  obtain ⟨a, dx, gs, e, k1, k2⟩ := h2.rs.oD
  cases e
  exact ⟨h1, dx, gs, k1, k2⟩
/-- o.f, o of the class at C -/
def fldD (C : Nat) (f : Str) : D → Option D
  | .dict ((.none, .int k) :: fs) => if k = Int.ofNat C then lookF f fs else none
  | _ => none
def fldK (C : Nat) (f : Str) (m : ME) : ME := fun ρ α Q E => m ρ α (fun d α1 => oq (vw α1 d) fun o => oq (fldD C f o) fun z => Q z α1) E
theorem fldD_of {C : Nat} {f : Str} {o z : D} (h : fldD C f o = some z) : ∃ fs, o = oD C fs ∧ lookF f fs = some z := by
  unfold fldD at h
  split at h
  · split at h
    · rename_i hk
      subst hk
      exact ⟨_, rfl, h⟩
    · cases h
  · cases h
theorem je_fld {C : Nat} {f : Str} {e : Expr} {pos : Pos} {m : ME} (h : JE c N sc e m) (cl : Cls c.K C) (na : NoAttr c.K C f) (hb : ∀ env, attributeBase e f env (eval e env) = eval e env := by intros; rfl) : JE c N sc (.Attribute e f pos) (fldK C f m) := by
  obtain ⟨t, h1, h2⟩ := h
  refine ⟨fun W => tFld c.K (t W) f, fun X W I T => ?_, fun W B σ H ρ α S Qm Em m Q q x => h2 W B σ H ρ α S _ Em m _ (fun v d B1 H1 α1 A r m => ?_) x⟩
  · have q := pe_fld (f := f) (pos := pos) (h1 X W I T) (hb _)
    rw [I.K] at q
    exact q
  · obtain ⟨o, ho, z, hz, m⟩ := m
    obtain ⟨fs, rfl, l⟩ := fldD_of hz
    obtain ⟨a, dx, gs, rfl, k1, k2⟩ := (vw_rs A.bs r ho).oD
    obtain ⟨w, l1, rw_⟩ := k2.look l
    exact ⟨a, C, dx, gs, w, rfl, k1, cl, na, l1, q w z B1 H1 α1 A rw_ m⟩
/-- a cell that holds an instance -/
def cellO (C : Nat) (α : AH) (o : D) (Q : Addr → List (D × D) → Prop) : Prop := ∃ a fs, o = dref a ∧ α a = some (oD C fs) ∧ Q a fs
def setaS (C : Nat) (f : Str) (me mo : ME) : MS := fun ρ α D => me ρ α (fun d α1 => mo ρ α1 (fun o α2 => cellO C α2 o fun a fs => fs.length < 900 ∧ D.nx ρ (aset α2 a (oD C (putD f d fs)))) (fun x α1 => D.ex x ρ α1)) (fun x α1 => D.ex x ρ α1)
theorem js_seta {C : Nat} {f : Str} {o e : Expr} {p2 pos : Pos} {me mo : ME} (cl : Cls c.K C) (na : NoAttr c.K C f) (h : JE c N sc e me) (ho : JE c N sc o mo)
    (hs : ∀ env, swapsWith e (some (.Attribute o f p2)) pos.line env = pure false := by intros; rfl) : JS c N sc (.Assign [.Attribute o f p2] e pos) (setaS C f me mo) := by
  obtain ⟨t, h1, h2⟩ := h
  obtain ⟨u, k1, k2⟩ := ho
  refine ⟨fun W => sFld c.K (u W) (t W) f, fun X W I T => ?_, fun W B σ H ρ α S D m Dn h' x => ?_⟩
  · have q := ps_fld (f := f) (pos := pos) (pos' := p2) (k1 X W I T) (h1 X W I T) (hs _)
    rw [I.K] at q
    exact q
  · refine h2 W B σ H ρ α S _ _ m _ (fun v d B1 H1 α1 A1 r1 m => ?_) (x.sx S)
    refine k2 W B1 σ H1 ρ α1 (S.step A1) _ _ m _ (fun w o B2 H2 α2 A2 r2 m => ?_) ((x.sx S).after S.bs A1)
    obtain ⟨a, fs, rfl, e, hl, m⟩ := m
    obtain ⟨b2, dx, gs, g1, g2⟩ := A2.bs.obj e
    have hw := r2.cell
    subst hw
    refine ⟨a, C, dx, gs, rfl, g1, cl, na, by rw [g2.length]; omega, ?_⟩
    have w := Af.write (o := .ins C dx (putF f v gs)) (c := oD C (putD f d fs)) A2.bs e (.obj (g2.put (r1.mono A2.sub)))
    have A := (A1.trans S.bs A2).trans S.bs w
    exact h'.nx _ _ _ _ _ A (S.step A) m
/-- o.f op= e -/
def augaS (C : Nat) (f : Str) (g : D → D → Option D) (mo me : ME) : MS := fun ρ α D => mo ρ α (fun o α1 => cellO C α1 o fun _ fs0 => oq (lookF f fs0) fun d => me ρ α1 (fun e α2 => oq (g d e) fun z => cellO C α2 o fun a fs => fs.length < 900 ∧ D.nx ρ (aset α2 a (oD C (putD f z fs)))) (fun x α1 => D.ex x ρ α1)) (fun x α1 => D.ex x ρ α1)
theorem js_auga {op : Operator} {C : Nat} {f : Str} {o e : Expr} {p2 pos : Pos} {me mo : ME} {g : D → D → Option D} (og : OpD c.K (In c N sc) (inplaceOp op) g) (cl : Cls c.K C) (na : NoAttr c.K C f) (ho : JE c N sc o mo) (h : JE c N sc e me) : JS c N sc (.AugAssign (.Attribute o f p2) op e pos) (augaS C f g mo me) := by
  obtain ⟨r, og1, og2⟩ := og.ex
  obtain ⟨t, h1, h2⟩ := h
  obtain ⟨u, k1, k2⟩ := ho
  refine ⟨fun W => sFldAug c.K (u W) (t W) r f, fun X W I T => ?_, fun W B σ H ρ α S D m Dn h' x => ?_⟩
  · have q := ps_fldaug (f := f) (pos := pos) (tpos := p2) (k1 X W I T) (h1 X W I T) (og1 X I)
    rw [I.K] at q
    exact q
  · refine k2 W B σ H ρ α S _ _ m _ (fun w o B1 H1 α1 A1 r1 m => ?_) (x.sx S)
    obtain ⟨a, fs0, rfl, e, d, hd, m⟩ := m
    obtain ⟨b1, dx, gs, g1, g2⟩ := A1.bs.obj e
    have hw := r1.cell
    subst hw
    obtain ⟨v, l1, l2⟩ := g2.look hd
    refine ⟨a, C, dx, gs, v, rfl, g1, cl, na, l1, ?_⟩
    refine h2 W B1 σ H1 ρ α1 (S.step A1) _ _ m _ (fun y e2 B2 H2 α2 A2 r2 m => ?_) ((x.sx S).after S.bs A1)
    obtain ⟨z, hz, a', fs, ea, e3, hl, m⟩ := m
    cases dref_inj ea
    refine og2 B2 H2 v y d e2 z A2.bs.bk (.vis (l2.mono A2.sub)) (.vis r2) hz _ fun v3 H3 s3 r3 => ?_
    have A3 := (A1.trans S.bs A2).trans S.bs (Af.of_sub A2.bs s3)
    obtain ⟨b3, dx', gs', g3, g4⟩ := A3.bs.obj e3
    refine ⟨dx', gs', g3, by rw [g4.length]; omega, ?_⟩
    have w := Af.write (o := .ins C dx' (putF f v3 gs')) (c := oD C (putD f z fs)) A3.bs e3 (.obj (g4.put r3))
    have A := A3.trans S.bs w
    exact h'.nx _ _ _ _ _ A (S.step A) m
abbrev MtD (c : C0) (k C : Nat) (m : Str) (np : Nat) (ds : List D) (fm : Fm) : Prop := ∃ (f : Addr) (fd : FuncData) (ps : List Str) (dV : List Value) (dvs : List V), FnOk c.P c.w c.K c.mg c.base (L2.CX c.P c.w) k f fd ps (fun vs H Q E => vs.length = ps.length ∧ spD c.K fm vs H Q E) ∧ Meth c.K C m f ∧ Binds c.K fd ps dV ∧ Vals dvs dV ∧ (∀ H, RpL c.K H dvs ds) ∧ ps.length = np + 1 + ds.length
theorem MtD.ex {c : C0} {k C : Nat} {m : Str} {np : Nat} {ds : List D} {fm : Fm} (h : MtD c k C m np ds fm) : ∃ (f : Addr) (fd : FuncData) (ps : List Str) (dV : List Value) (dvs : List V), FnOk c.P c.w c.K c.mg c.base (L2.CX c.P c.w) k f fd ps (fun vs H Q E => vs.length = ps.length ∧ spD c.K fm vs H Q E) ∧ Meth c.K C m f ∧ Binds c.K fd ps dV ∧ Vals dvs dV ∧ (∀ H, RpL c.K H dvs ds) ∧ ps.length = np + 1 + ds.length := h
theorem Pro.mt {f : Addr} {ps : List Str} {k np C : Nat} {m : Str} {dvs : List V} {js : List Nat} {fm : Fm} (P : Pro c k f ps dvs js fm) (M : Meth c.K C m f) (hp : ps.length = np + 1 := by rfl) : MtD c k C m np [] fm := by
  obtain ⟨fd, F, kp, b, _⟩ := P.ex
  exact ⟨f, fd, ps, [], [], F, M, b, .nil, fun _ => .nil, hp⟩
def noF (C : Nat) (m : Str) : D → Bool
  | .dict ((.none, .int k) :: fs) => decide (k = Int.ofNat C) && (lookF m fs).isNone
  | _ => false
theorem noF_of {C : Nat} {m : Str} {d : D} (h : noF C m d = true) : ∃ fs, d = oD C fs ∧ lookF m fs = none := by
  unfold noF at h
  split at h
  · rename_i k fs
    rw [Bool.and_eq_true] at h
    refine ⟨fs, ?_, Option.isNone_iff_eq_none.mp h.2⟩
    unfold oD
    rw [of_decide_eq_true h.1]
  · cases h
def methK (C : Nat) (m : Str) (np : Nat) (fm : Fm) (ds : List D) (mo : ME) (ma : ML) : ME := fun ρ α Q E => mo ρ α (fun o α1 => oq (vw α1 o) fun od => noF C m od = true ∧ ma ρ α1 (fun as α2 => as.length = np ∧ fm (o :: (as ++ ds)) α2 Q E) E) E
def tMethSD (C : Addr) (m : Str) (sp : Sp) (dvs : List V) (E : L2.St → XK) (ta : TE) (t : TA) : TE := fun σ H Q => ta σ H fun x H1 => ∃ a dx fs, x = .ref a ∧ H1 a = some (.ins C dx fs) ∧ fs.lookup m = none ∧
  t σ H1 fun vs H2 => sp (x :: (vs ++ dvs)) H2 Q (E σ)
theorem pe_methSD {X : Cx} {CX : CXT} {k : Nat} {f C : Addr} {fd : FuncData} {ps : List Str} {sp : Sp} {dvs : List V} {ds : List Value} {E : L2.St → XK} {m : Str} {pos apos : Pos} {e o : Expr} {es : List Expr} {ta : TE} {t : TA} {pl : Sem Bool} (he : PE X o ta) (c : Cls X.K C) (hm : Meth X.K C m f) (F : FnOk X.prog X.w X.K X.mg X.base CX k f fd ps sp) (hr : Room k X.A) (hb : Binds X.K fd ps ds) (hd : Vals dvs ds) (hx : ∀ σ, PassesAt CX X σ (E σ)) (ha : PA X (e :: es) t)
    (hst : starEach (e :: es) X.env = (false, eval e X.env) :: starEach es X.env := by rfl) (hpl : (backTo pos (starEach es X.env)).any (·.1) = false := by rfl)
    (ht : eval (.Call (.Attribute o m apos) (e :: es) [] pos) X.env = (do
      let ov ← eval o X.env
      standAt apos.atName
      let (f, first) ← holding [ov] (getMethod ov m pl)
      callWith pos f first (backTo pos (starEach (e :: es) X.env)) (backToKw pos (keywordEach [] X.env))) := by rfl) :
    PE X (.Call (.Attribute o m apos) (e :: es) [] pos) (tMethSD C m sp dvs E ta t) := by
  refine ⟨fun pins s σ H Q I h => ?_⟩
  refine PySem.W.methodCall_KW (pl := pl) (thn (he.run pins s σ H _ I h) fun u s1 ⟨x, H1, I1, rx, a, dx, fs, ex, ea, l, q⟩ => ?_) ht
  subst ex
  obtain rfl : u = Value.ref a := rx
  refine getmeth_ok I1 ea c hm l ?_
  refine PySem.W.callWith_K (first := [.ref a]) (h₀ := X.base) I.ok.mod.kin hm.kp (thn (ha.run pos pins s1 σ H1 _ I1 q) fun us s2 ⟨vs, H2, I2, r, q2⟩ => ⟨I2.kIn, ?_⟩) hst hpl
  exact run_fnSD (us := .ref a :: us) (vs := .ref a :: vs) F hr hb hd (hx σ) I2 (.cons rfl r) q2
theorem pe_methSD0 {X : Cx} {CX : CXT} {k : Nat} {f C : Addr} {fd : FuncData} {ps : List Str} {sp : Sp} {dvs : List V} {ds : List Value} {E : L2.St → XK} {m : Str} {pos apos : Pos} {o : Expr} {ta : TE} {pl : Sem Bool} (he : PE X o ta) (c : Cls X.K C) (hm : Meth X.K C m f) (F : FnOk X.prog X.w X.K X.mg X.base CX k f fd ps sp) (hr : Room k X.A) (hb : Binds X.K fd ps ds) (hd : Vals dvs ds) (hx : ∀ σ, PassesAt CX X σ (E σ))
    (ht : eval (.Call (.Attribute o m apos) [] [] pos) X.env = (do
      let ov ← eval o X.env
      standAt apos.atName
      let (f, first) ← holding [ov] (getMethod ov m pl)
      callWith pos f first (backTo pos (starEach [] X.env)) (backToKw pos (keywordEach [] X.env))) := by rfl) :
    PE X (.Call (.Attribute o m apos) [] [] pos) (tMethSD C m sp dvs E ta tNil) := by
  refine ⟨fun pins s σ H Q I h => ?_⟩
  refine PySem.W.methodCall_KW (pl := pl) (thn (he.run pins s σ H _ I h) fun u s1 ⟨x, H1, I1, rx, a, dx, fs, ex, ea, l, q⟩ => ?_) ht
  subst ex
  obtain rfl : u = Value.ref a := rx
  refine getmeth_ok I1 ea c hm l ?_
  exact PySem.W.callWith_K0 (first := [.ref a]) I1.kIn hm.kp (run_fnSD (us := [.ref a]) (vs := [.ref a]) F hr hb hd (hx σ) I1 (.cons rfl .nil) q)
theorem sd_meth {K : Frag} {W : WX} {C np n : Nat} {m : Str} {fm : Fm} {mo : ME} {ma : ML} {ta : TE} {t : TA} {dvs : List V} {ds : List D} (hd : ∀ H, RpL K H dvs ds) (hn : n = np + 1 + ds.length) (h : Sd K W ta mo) (hr : SA K W t ma) :
    Sd K W (tMethSD C m (fun vs H Q E => vs.length = n ∧ spD K fm vs H Q E) dvs (WE W) ta t) (methK C m np fm ds mo ma) := fun B σ H ρ α S Qm Em mm Q q x => by
  refine h B σ H ρ α S _ Em mm _ (fun v o B1 H1 α1 A1 r1 mm => ?_) x
  obtain ⟨od, ho, hno, mm⟩ := mm
  obtain ⟨fs, rfl, hl⟩ := noF_of hno
  obtain ⟨a, dx, gs, rfl, g1, g2⟩ := (vw_rs A1.bs r1 ho).oD
  refine ⟨a, dx, gs, rfl, g1, g2.lookN hl, ?_⟩
  refine hr B1 σ H1 ρ α1 (S.step A1) _ Em mm _ (fun vs as B2 H2 α2 A2 ra mm => ?_) (x.after S.bs A1)
  have A12 := A1.trans S.bs A2
  have el : (vs ++ dvs).length = as.length + ds.length := by rw [List.length_append, ra.length, (hd H).length]
  refine ⟨by rw [List.length_cons, el, mm.1, hn]; omega, B2, α2, o :: (as ++ ds), Qm, Em, A2.bs, .cons (r1.mono A2.sub) (ra.append (hd _)), mm.2, fun v d B3 H3 α3 A3 r3 m => q v d B3 H3 α3 (A12.trans S.bs A3) r3 m, fun y B3 α3 cls d H3 A3 r3 m => x y B3 α3 cls d H3 (A12.trans S.bs A3) r3 m⟩
theorem je_meth {C j np : Nat} {m : Str} {fm : Fm} {o e : Expr} {es : List Expr} {apos pos : Pos} {mo : ME} {ma : ML} {ds : List D} {pl : Env → Sem Bool} (cl : Cls c.K C) (M : MtD c j C m np ds fm) (hk : j ≤ c.k) (h : JE c N sc o mo) (ha : JL c N sc (e :: es) ma) (hc : c.cm = true := by rfl)
    (hst : ∀ env, starEach (e :: es) env = (false, eval e env) :: starEach es env := by intros; rfl) (hpl : ∀ env, (backTo pos (starEach es env)).any (·.1) = false := by intros; rfl)
    (ht : ∀ env, eval (.Call (.Attribute o m apos) (e :: es) [] pos) env = (do
      let ov ← eval o env
      standAt apos.atName
      let (f, first) ← holding [ov] (getMethod ov m (pl env))
      callWith pos f first (backTo pos (starEach (e :: es) env)) (backToKw pos (keywordEach [] env))) := by intros; rfl) : JE c N sc (.Call (.Attribute o m apos) (e :: es) [] pos) (methK C m np fm ds mo ma) := by
  obtain ⟨f, fd, ps, dV, dvs, F, h1, h2, h3, h4, h5⟩ := M.ex
  obtain ⟨t, p1, s1⟩ := h
  obtain ⟨u, q1, q2⟩ := ha
  refine ⟨fun W => tMethSD C m (fun vs H Q E => vs.length = ps.length ∧ spD c.K fm vs H Q E) dvs (WE W) (t W) (u W), fun X W I T => ?_, fun W => sd_meth h4 h5 (s1 W) (q2 W)⟩
  have F' : FnOk X.prog X.w X.K X.mg X.base (L2.CX X.prog X.w) j f fd ps (fun vs H Q E => vs.length = ps.length ∧ spD c.K fm vs H Q E) := by
    rw [I.P, I.w, I.K, I.mg, I.base]
    exact F
  exact pe_methSD (p1 X W I T) (by rw [I.K]; exact cl) (by rw [I.K]; exact h1) F' ((I.rm hc).mono hk) (by rw [I.K]; exact h2) h3 (fun σ => passAt T σ) (q1 X W I T) (hst _) (hpl _) (ht _)
theorem je_meth0 {C j : Nat} {m : Str} {fm : Fm} {o : Expr} {apos pos : Pos} {mo : ME} {ds : List D} {pl : Env → Sem Bool} (cl : Cls c.K C) (M : MtD c j C m 0 ds fm) (hk : j ≤ c.k) (h : JE c N sc o mo) (hc : c.cm = true := by rfl)
    (ht : ∀ env, eval (.Call (.Attribute o m apos) [] [] pos) env = (do
      let ov ← eval o env
      standAt apos.atName
      let (f, first) ← holding [ov] (getMethod ov m (pl env))
      callWith pos f first (backTo pos (starEach [] env)) (backToKw pos (keywordEach [] env))) := by intros; rfl) : JE c N sc (.Call (.Attribute o m apos) [] [] pos) (methK C m 0 fm ds mo nilK) := by
  obtain ⟨f, fd, ps, dV, dvs, F, h1, h2, h3, h4, h5⟩ := M.ex
  obtain ⟨t, p1, s1⟩ := h
  refine ⟨fun W => tMethSD C m (fun vs H Q E => vs.length = ps.length ∧ spD c.K fm vs H Q E) dvs (WE W) (t W) tNil, fun X W I T => ?_, fun W => sd_meth h4 h5 (s1 W) sa_nil⟩
  have F' : FnOk X.prog X.w X.K X.mg X.base (L2.CX X.prog X.w) j f fd ps (fun vs H Q E => vs.length = ps.length ∧ spD c.K fm vs H Q E) := by
    rw [I.P, I.w, I.K, I.mg, I.base]
    exact F
  exact pe_methSD0 (p1 X W I T) (by rw [I.K]; exact cl) (by rw [I.K]; exact h1) F' ((I.rm hc).mono hk) (by rw [I.K]; exact h2) h3 (fun σ => passAt T σ) (ht _)
abbrev MkD (c : C0) (k : Nat) (x : Str) (C np : Nat) (ds : List D) (fm : Fm) : Prop := ∃ (f : Addr) (fd : FuncData) (ps : List Str) (dV : List Value) (dvs : List V), Mk c.K C f ∧ FnOk c.P c.w c.K c.mg c.base (L2.CX c.P c.w) k f fd ps (fun vs H Q E => vs.length = ps.length ∧ spD c.K fm vs H Q E) ∧ c.mg x = some (.ref C) ∧ Binds c.K fd ps dV ∧ Vals dvs dV ∧ (∀ H, RpL c.K H dvs ds) ∧ ps.length = np + 1 + ds.length
theorem MkD.ex {c : C0} {k : Nat} {x : Str} {C np : Nat} {ds : List D} {fm : Fm} (h : MkD c k x C np ds fm) : ∃ (f : Addr) (fd : FuncData) (ps : List Str) (dV : List Value) (dvs : List V), Mk c.K C f ∧ FnOk c.P c.w c.K c.mg c.base (L2.CX c.P c.w) k f fd ps (fun vs H Q E => vs.length = ps.length ∧ spD c.K fm vs H Q E) ∧ c.mg x = some (.ref C) ∧ Binds c.K fd ps dV ∧ Vals dvs dV ∧ (∀ H, RpL c.K H dvs ds) ∧ ps.length = np + 1 + ds.length := h
theorem Pro.mk_ {f : Addr} {ps : List Str} {k np C : Nat} {x : Str} {dvs : List V} {js : List Nat} {fm : Fm} (P : Pro c k f ps dvs js fm) (M : Mk c.K C f) (hm : c.mg x = some (.ref C)) (hp : ps.length = np + 1 := by rfl) : MkD c k x C np [] fm := by
  obtain ⟨fd, F, kp, b, _⟩ := P.ex
  exact ⟨f, fd, ps, [], [], M, F, hm, b, .nil, fun _ => .nil, hp⟩
def mkK (C np : Nat) (fm : Fm) (ds : List D) (ma : ML) : ME := fun ρ α Q E => ma ρ α (fun as α1 => as.length = np ∧ ∀ p, α1 p = none → fm (dref p :: (as ++ ds)) (aset α1 p (oD C [])) (fun v α2 => v = .none ∧ Q (dref p) α2) E) E
def tMakeSD (C : Addr) (sp : Sp) (dvs : List V) (E : L2.St → XK) (t : TA) : TE := fun σ H Q => t σ H fun vs H1 => ∀ x dx, H1 x = none → H1 dx = none → dx ≠ x →
  sp (.ref x :: (vs ++ dvs)) (upd (upd H1 dx (.own x)) x (.ins C dx [])) (fun v H2 => v = .non ∧ Q (.ref x) H2) (E σ)
theorem run_makeSD {X : Cx} {CX : CXT} {k : Nat} {f C : Addr} {fd : FuncData} {ps : List Str} {sp : Sp} {dvs : List V} {ds : List Value} {E : L2.St → XK} {pins : List (Addr × Obj)} {σ : L2.St} {H : Hp} {s : Shared} {Q : VK} {us : List Value} {vs : List V} (M : Mk X.K C f) (F : FnOk X.prog X.w X.K X.mg X.base CX k f fd ps sp) (hr : Room (k + 1) X.A) (hb : Binds X.K fd ps ds) (hd : Vals dvs ds)
    (hx : PassesAt CX X σ (E σ)) (I : Inv X pins σ H s) (r : Vals vs us)
    (h : ∀ x dx, H x = none → H dx = none → dx ≠ x → sp (.ref x :: (vs ++ dvs)) (upd (upd H dx (.own x)) x (.ins C dx [])) (fun v H2 => v = .non ∧ Q (.ref x) H2) (E σ)) :
    wpAny (model X.prog X.w) X.A (call (.ref C) us) (EP X pins σ Q) X.xe s := by
  have hq := h (s.heap.objs.size + 1) s.heap.objs.size (I.hok.fresh (Nat.le_succ _)) (I.hok.fresh (Nat.le_refl _)) (Nat.ne_of_lt (Nat.lt_succ_self _))
  have I2 := Inv.made (C := C) I
  have r2 : Vals (V.ref (s.heap.objs.size + 1) :: (vs ++ dvs)) (Value.ref (s.heap.objs.size + 1) :: (us ++ ds)) := .cons rfl (r.append hd)
  have hl : (Value.ref (s.heap.objs.size + 1) :: us ++ ds).length = ps.length := by
    have e := r2.length
    rw [F.len _ _ _ _ hq] at e
    exact e.symm
  refine wpAny_call (make_map (f := f) I.kIn M.makes M.init (beq_iff_eq.mp M.fn) (codeAny_mono (F.run _ X.stack _ _ ⟨Value.ref (s.heap.objs.size + 1) :: us, []⟩ (Value.ref (s.heap.objs.size + 1) :: (us ++ ds)) _ _ (E σ) (hr.make C us [])
    (I2.env0.make C us []) (hb _ (Value.ref (s.heap.objs.size + 1) :: us) I2.kIn hl) r2 hq) fun r s' hq' => ?_))
  cases r with
  | error e => exact hx pins _ _ e s' I2 hq'
  | ok fl =>
    cases fl with
    | ret u =>
      obtain ⟨v, H', I3, rv, ev, q3⟩ := I2.after hq'
      subst ev
      exact ⟨rv, ⟨V.ref (s.heap.objs.size + 1), H', I3, rfl, q3⟩⟩
    | next => exact False.elim hq'
    | brk => exact False.elim hq'
    | cont => exact False.elim hq'
theorem pe_makeSD {X : Cx} {CX : CXT} {k : Nat} {f C : Addr} {fd : FuncData} {ps : List Str} {sp : Sp} {dvs : List V} {ds : List Value} {E : L2.St → XK} {x : Str} {p pos : Pos} {e : Expr} {es : List Expr} {t : TA} (M : Mk X.K C f) (F : FnOk X.prog X.w X.K X.mg X.base CX k f fd ps sp) (hr : Room (k + 1) X.A) (hg : Gl X x) (hm : X.mg x = some (.ref C)) (hb : Binds X.K fd ps ds) (hd : Vals dvs ds) (hx : ∀ σ, PassesAt CX X σ (E σ))
    (ha : PA X (e :: es) t) (hdb : (x == ("__debug__" : Str)) = false := by decide) (he : starEach (e :: es) X.env = (false, eval e X.env) :: starEach es X.env := by rfl) (hpl : (backTo pos (starEach es X.env)).any (·.1) = false := by rfl) :
    PE X (.Call (.Name x p) (e :: es) [] pos) (tMakeSD C sp dvs E t) := by
  refine ⟨fun pins s σ H Q I h => ?_⟩
  refine wpAny_Call_Name_kw (ld_glob I hg hm ?_ hdb)
  refine PySem.W.callWith_K (h₀ := X.base) I.ok.mod.kin M.kp (thn (ha.run pos pins s σ H _ I h) fun us s1 ⟨vs, H1, I1, r, q⟩ => ⟨I1.kIn, ?_⟩) he hpl
  exact run_makeSD M F hr hb hd (hx σ) I1 r q
theorem sd_mk {K : Frag} {W : WX} {C np n : Nat} {fm : Fm} {ma : ML} {t : TA} {dvs : List V} {ds : List D} (hd : ∀ H, RpL K H dvs ds) (hn : n = np + 1 + ds.length) (hr : SA K W t ma) :
    Sd K W (tMakeSD C (fun vs H Q E => vs.length = n ∧ spD K fm vs H Q E) dvs (WE W) t) (mkK C np fm ds ma) := fun B σ H ρ α S Qm Em mm Q q x => by
  refine hr B σ H ρ α S _ Em mm _ (fun vs as B1 H1 α1 A1 ra mm => ?_) x
  intro l dx nl ndx ne
  have sb : Sub H1 (upd (upd H1 dx (.own l)) l (.ins C dx [])) := fun b o e => by
    rw [upd_ne (ne_of_none e nl), upd_ne (ne_of_none e ndx)]
    exact e
  have A2 := Af.cell (c := oD C []) A1.bs sb nl (by rw [upd_same]; exact .obj .nil)
  have A12 := A1.trans S.bs A2
  have el : (vs ++ dvs).length = as.length + ds.length := by rw [List.length_append, ra.length, (hd H).length]
  refine ⟨by rw [List.length_cons, el, mm.1, hn]; omega, _, _, dref l :: (as ++ ds), _, Em, A2.bs, .cons .ref ((ra.mono A2.sub).append (hd _)), mm.2 l (A1.bs.new nl), fun v d B3 H3 α3 A3 r3 m => ?_, fun y B3 α3 cls d H3 A3 r3 m => x y B3 α3 cls d H3 (A12.trans S.bs A3) r3 m⟩
  obtain ⟨rfl, m⟩ := m
  exact ⟨r3.nonei, q _ _ B3 H3 α3 (A12.trans S.bs A3) .ref m⟩
theorem je_mk {C j np : Nat} {x : Str} {fm : Fm} {e : Expr} {es : List Expr} {p pos : Pos} {ma : ML} {ds : List D} (M : MkD c j x C np ds fm) (hk : j + 1 ≤ c.k) (hg : sc.names.lookup x = some .globalImplicit) (ha : JL c N sc (e :: es) ma) (hc : c.cm = true := by rfl)
    (hdb : (x == ("__debug__" : Str)) = false := by decide) (he : ∀ env, starEach (e :: es) env = (false, eval e env) :: starEach es env := by intros; rfl) (hpl : ∀ env, (backTo pos (starEach es env)).any (·.1) = false := by intros; rfl) :
    JE c N sc (.Call (.Name x p) (e :: es) [] pos) (mkK C np fm ds ma) := by
  obtain ⟨f, fd, ps, dV, dvs, M, F, h1, h2, h3, h4, h5⟩ := M.ex
  obtain ⟨u, q1, q2⟩ := ha
  refine ⟨fun W => tMakeSD C (fun vs H Q E => vs.length = ps.length ∧ spD c.K fm vs H Q E) dvs (WE W) (u W), fun X W I T => ?_, fun W => sd_mk h4 h5 (q2 W)⟩
  have F' : FnOk X.prog X.w X.K X.mg X.base (L2.CX X.prog X.w) j f fd ps (fun vs H Q E => vs.length = ps.length ∧ spD c.K fm vs H Q E) := by
    rw [I.P, I.w, I.K, I.mg, I.base]
    exact F
  exact pe_makeSD (by rw [I.K]; exact M) F' ((I.rm hc).mono hk) (I.gl hg) (by rw [I.mg]; exact h1) (by rw [I.K]; exact h2) h3 (fun σ => passAt T σ) (q1 X W I T) hdb (he _) (hpl _)
def scriptD (ns : List Int) : D := .list (ns.map PyData.int)
/-- the law's end: its mirror gives True at every script -/
theorem law_fn {f : Addr} {fd : FuncData} {k : Nat} {m : Fm} {x : Str} (F : FnOk c.P c.w c.K c.mg c.base (L2.CX c.P c.w) k f fd [x] (fun vs H Q E => vs.length = [x].length ∧ spD c.K m vs H Q E)) (hm : ∀ ns : List Int, ns.length ≤ 63 → m [scriptD ns] (fun _ => none) (fun d _ => d = .bool true) (fun _ _ => False)) :
    FnOk c.P c.w c.K c.mg c.base (L2.CX c.P c.w) k f fd [x] (fun vs H Q _ => ∃ (a : Addr) (ns : List Int), vs = [.ref a] ∧ SqL c.K H a (ns.map V.int) ∧ ns.length ≤ 63 ∧ ∀ H', Q (.bl true) H') :=
  F.imp fun vs H Q E h => by
    obtain ⟨a, ns, rfl, hS, hl, q⟩ := h
    have hh : hide (fun _ => false) H = H := by
      funext b
      rfl
    refine ⟨rfl, fun _ => false, fun _ => none, [scriptD ns], _, _, ⟨fun a c h => (by cases h), fun a h => (by cases h)⟩, ?_, hm ns hl, fun v d B' H' α' A r m => ?_, fun x B' α' cls d H' A r m => m.elim⟩
    · rw [hh]
      exact .cons (.lst hS (RpL.ints ns)) .nil
    · subst m
      rw [r.booli]
      exact q H'
theorem walk_law {l : PySem.W.OpenLaw} {q : Program} {loose : List Str} {XP : (Str → Option Value) → Heap → Prop} {YP : World → Heap → Prop} {d : DefRec} {K : Params → PySem.W.Frag} {k : Nat} {x : Str} (hn : l.most = some 63) (hdf : d.params.defaults = [])
    (hr : Room k callerA) (hY : ∀ (w : World) (h : Heap), YP w h → (K w.params).In h)
    (F : ∀ (w : World) (mg : Str → Option Value) (fa : Addr) (h : Heap), (K w.params).In h → h.Ns mainGlobals mg → mg d.name = some (.ref fa) →
      ∃ fd : FuncData, (∀ (s : Shared) (u : Value), BindsTo s fd ⟨[u], []⟩ [(x, u)]) ∧ ∀ base : Heap, (K w.params).In base → base.Ns mainGlobals mg → FnOk l.prog w (K w.params) mg base (L2.CX l.prog w) k fa fd [x]
        (fun vs H Q _ => ∃ (a : Addr) (ns : List Int), vs = [.ref a] ∧ SqL (K w.params) H a (ns.map V.int) ∧ ns.length ≤ 63 ∧ ∀ H', Q (.bl true) H')) :
    PySem.W.WalkO q loose XP YP l.row.toRowW d [] (fun f vs => PySem.call f vs) :=
  L2.walk_of (n := 63) (k := k) (x := x) (CX := fun w => L2.CX l.prog w) (sp := fun w vs H Q _ => ∃ (a : Addr) (ns : List Int), vs = [.ref a] ∧ SqL (K w.params) H a (ns.map V.int) ∧ ns.length ≤ 63 ∧ ∀ H', Q (.bl true) H') hn (by decide) hdf hr hY F (fun _ _ a ns hl _ hS => ⟨a, ns, rfl, hS, hl, fun _ => rfl⟩) fun w H s e s' h => by
    obtain ⟨_, _, _, _, _, _, _, _, _, _, _, _, z⟩ := h
    exact z
end Hz
namespace Hz
open PySem L2
section
open PySem.W PySem.Calls PyProof.Rows
variable {prog : Program} {w : World} {A : Around} {E : Value → Shared → Prop} {h : Heap} {g : Array GenState} {d : Drawn} {t : Nat} {os : OsState}
variable {nm q : Str} {C N : Addr} {bs bm : List Value} {hdct : Bool} {sn : List Str} {sub : List Value} {ab : Bool} {col : Option Bool} {dd : Option Addr} {k0 k1 k2 k3 k5 : Option Value}
theorem call_mwVE {u e t0 : Addr} {rest : List Value} {Q : Value → Shared → Prop}
    (hC : h.get? C = some (excClassObj nm q C N bs bm hdct sn sub ab col dd k0 k1 k2 k3 k5 "ValueError.__new__")) (he : h.get? e = some (HandSPX.excO C t0)) (hu : h.get? u = some (kxs_mw "ValueError.__init__" e)) (hrest : rest.length ≤ sizeLine)
    (hq : ∀ h' t1, (∀ b o, b ≠ e → h.get? b = some o → h'.get? b = some o) → h'.get? e = some (HandSPX.excO C t1) → Q .none ⟨h', g, d, t, os⟩) :
    wpAny (model prog w) A (call (.ref u) rest) Q E ⟨h, g, d, t, os⟩ := by
  refine wpAny_call (codeAny_of_tree ?_)
  show wpAny _ A.in1 (callAny (.ref u) ⟨rest, []⟩) _ _ _
  simp only [callAny]
  refine wpAny_bind (wpAny_load hu ?_)
  simp only [kxs_mw, show (Value.type "method-wrapper" == Value.type "method" || Value.type "method-wrapper" == Value.type "builtin_function_or_method" || Value.type "method-wrapper" == Value.type "method-wrapper") = true by decide, if_true]
  refine W.KFB.if_so (by decide) ?_
  refine wpAny_bind (ESX.check_bound F.excBase_ValueError hC he rfl ?_)
  refine wpAny_bind (wpAny_pure (wpAny_pure ?_))
  refine ⟨Code.quiet_builtin _ (by decide +kernel), codeAny_builtin F.excBase_ValueError.initEntry ?_⟩
  rw [Around.under_plainId F.excBase_ValueError.init.plain _]
  wp_walk
  refine hq _ h.objs.size (fun b o hb ho => ?_) ?_
  · rw [Heap.get?_update_other _ _ (Ne.symm hb)]
    exact Heap.get?_push_of_some _ ho
  · rw [Heap.get?_update_self _ (Heap.get?_push_of_some _ he) rfl]
    rfl
end
/-- what the written part says of an exception class whose __init__ is cF's, at fI -/
structure ExC (K : Frag) (cF fI C : Addr) : Prop where
  o : OexC K C
  cl : ∃ cd, PySem.W.clsIn K C = some cd
  sb : PySem.W.mroIn K C (.ref cF) = some true
  su : PySem.W.ks_superIn K C cF "__init__" = some (some (.builtin "ValueError.__init__"))
  ve : PySem.W.subIn K (.ref C) (.type "ValueError") = some true
  np : PySem.W.findIn K (.ref C) "place" = some none
  ini : PySem.W.findIn K (.ref C) "__init__" = some (some (.ref fI))
  hd : PySem.W.hasDictIn K C = true
  ga : PySem.W.findIn K (.ref C) "__getattribute__" = some (some (.builtin "BaseException.__getattribute__"))
  gg : PySem.W.findIn K (.ref C) "__getattr__" = some none
  ca : PySem.W.findIn K (.ref C) "__class__" = some (some (.builtin "object.__class__"))
  cn : PySem.W.specialIn K (.builtin "object.__class__") "__get__" = some (some (.builtin "getset_descriptor.__get__"))
  ct : PySem.W.takesIn K (.builtin "object.__class__") = some true
  cm : PySem.W.mroIn K C (.type "object") = some true
/-- the base class's __init__: its statement st: super().__init__(place); self.place = place -/
structure ExI (P : Program) (K : Frag) (cF fI : Addr) (qual : Str) (st : Stmt) : Prop where
  ex : ∃ (oc doc pm ct : Value) (od an : Option Addr) (kV : Value) (osl : Array (Option Value)) (cda cc : Addr) (ccl cl : Value) (cdd cld : Option Addr) (vs : Array Value) (ccs csl : Array (Option Value)) (file : Str) (tf : Tok) (cdD : ClassData),
    K.lookup fI = some ⟨oc, od, .func (PySem.W.ksFn "__init__" qual (defArgs st) (defBody st) (defScope st) .none kV doc pm an (.ref cda) ct cc), osl⟩ ∧ PySem.W.codeIn K (.ref cda) qual = true ∧
    K.lookup cda = some ⟨ccl, cdd, .fields vs, ccs⟩ ∧ vs[2]? = some (.str file tf) ∧ ((P.main.file : Str) == file) = true ∧ K.lookup cc = some ⟨cl, cld, .cell (some (.ref cF)), csl⟩ ∧ PySem.W.clsIn K cF = some cdD
  kp : PySem.W.keepIn K (.ref fI) = true
  ty : PySem.W.typeIn K (.ref fI) = some (.type "function")
  tp : PySem.W.nsIn K cStatics "thirdparty.any" = some none
  top : (P.main.scope.names.lookup ("super" : Str)).isSome = false
/-- what it promises -/
def spX (K : Frag) (cF fI : Addr) : Sp := fun vs H Q _ => ∃ (a C : Addr) (y : V), vs = [.ref a, y] ∧ ExC K cF fI C ∧ H a = some (exo a C none) ∧ ∀ dx, H dx = none → dx ≠ a → Q .non (upd (upd H dx (exd dx [("place", y)])) a (exo a C (some dx)))
/-- the written form of that def -/
structure InitForm (st : Stmt) : Prop where
  ex : ∃ (p0 p1 p2 p3 p4 p5 q0 q1 q2 q3 : Pos) (pl : Env → Sem Bool), defBody st = [.Expr (.Call (.Attribute (.Call (.Name "super" p0) [] [] p1) "__init__" p2) [.Name "place" p3] [] p4) p5, .Assign [.Attribute (.Name "self" q0) "place" q1] (.Name "place" q2) q3] ∧
    (∀ env, eval (.Call (.Attribute (.Call (.Name "super" p0) [] [] p1) "__init__" p2) [.Name "place" p3] [] p4) env = (do
      let ov ← attributeBase (.Call (.Name "super" p0) [] [] p1) "__init__" env (eval (.Call (.Name "super" p0) [] [] p1) env)
      standAt p2.atName
      let (f, first) ← holding [ov] (getMethod ov "__init__" (pl env))
      callWith p4 f first (backTo p4 (starEach [.Name "place" p3] env)) [])) ∧
    (∀ env, swapsWith (.Call (.Attribute (.Call (.Name "super" p0) [] [] p1) "__init__" p2) [.Name "place" p3] [] p4) none p5.line env = pure false) ∧
    ∀ env, swapsWith (.Name "place" q2) (some (.Attribute (.Name "self" q0) "place" q1)) q3.line env = pure false
  sc : (defScope st).names.lookup ("super" : Str) = some .globalImplicit ∧ (defScope st).names.lookup ("__class__" : Str) = some .free ∧ (defScope st).names.lookup ("self" : Str) = some .local ∧ (defScope st).names.lookup ("place" : Str) = some .local
  kind : (defScope st).kind = .function
  co : (defScope st).isCoroutine = false
  gen : (defScope st).isGenerator = false
  cells : ∀ x ∈ (defScope st).names, x.2 ≠ .cell
  free : ∀ p ∈ (defScope st).names, p.2 = .free → p.1 = ("__class__" : Str)
  hp : ((defArgs st).posonlyargs ++ (defArgs st).args).head?.map (·.arg) = some "self"
  bd : ∀ (kV doc pm : Value) (an : Option Addr) (cda cc : Addr) (ct : Value) (qual : Str) (us : List Value), us.length = 2 → bindArgs (PySem.W.ksFn "__init__" qual (defArgs st) (defBody st) (defScope st) .none kV doc pm an (.ref cda) ct cc) ⟨us, []⟩ = pure ((["self", "place"] : List Str).zip us)
section
open PySem.W PySem.Calls PyProof.Rows
variable {P : Program} {w : World} {K : Frag} {mg : Str → Option Value} {base : Heap}
/-- the context of that def's body -/
def cxI (P : Program) (w : World) (K : Frag) (mg : Str → Option Value) (base : Heap) (env : Env) (A : Around) (outer : List Env) (s : Shared) (H : Hp) (xe : Value → Shared → Prop) : Cx where
  prog := P
  w := w
  K := K
  mg := mg
  base := base
  A := A.deeper env
  N := ["self", "place"]
  s_0 := s
  H_0 := H
  env := env
  outer := outer
  stack := env :: outer
  ex := []
  calm := true
  fn := fun _ => false
  pn := []
  xe := xe
set_option maxRecDepth 200000 in
theorem exi_ok {cF fI : Addr} {qual : Str} {st : Stmt} (T : ExI P K cF fI qual st) (S : InitForm st) (hsup : mg "super" = none) :
    ∃ fd, FnOk P w K mg base (L2.CX P w) 1 fI fd ["self", "place"] (spX K cF fI) ∧ Binds K fd ["self", "place"] [] := by
  obtain ⟨oc, doc, pm, ct, od, an, kV, osl, cda, cc, ccl, cl, cdd, cld, vs, ccs, csl, file, tf, cdD, lk, hcd, hcode, hvs, hfile, hcell, hD⟩ := T.ex
  refine ⟨_, ⟨fun vs H Q E h => ?_, fun A outer s H args us vs' Q E hr e0 hb r hsp => ?_⟩, .all fun us hl => S.bd kV doc pm an cda cc ct qual us hl⟩
  · obtain ⟨a, C, y, rfl, _⟩ := h
    rfl
  obtain ⟨a, C, y, rfl, X, ea, hq⟩ := hsp
  obtain ⟨u1, u2, rfl, ra, ry⟩ : ∃ u1 u2, us = [u1, u2] ∧ RelV (.ref a) u1 ∧ RelV y u2 := by
    cases r with
    | cons r1 r2 =>
      cases r2 with
      | cons r2 r3 =>
        cases r3
        exact ⟨_, _, rfl, r1, r2⟩
  obtain rfl : u1 = Value.ref a := ra
  have KX : K.In s.heap := e0.mod.kin.keeps fun b o e => (e0.bs b o e).1
  have lim : s.heap.NoLimit := e0.mod.nolimit.keeps fun b o e => (e0.bs b o e).1
  obtain ⟨hs, hc, hse, hpl⟩ := S.sc
  refine ks_codeAny_call_defAt (fd := ksFn "__init__" qual (defArgs st) (defBody st) (defScope st) .none kV doc pm an (.ref cda) ct cc) (body := defBody st) hr.depth (KX _ _ lk) rfl lim (codeRec_of KX hcd) rfl hb S.cells (fun x hx => ?_) (fun h₁ hns hk => ?_) S.co S.gen S.kind
  · have hx' : x ∈ [(("self" : Str), Value.ref a), (("place" : Str), u2)] := hx
    rcases List.mem_cons.mp hx' with rfl | hx'
    · exact hse
    · rcases List.mem_cons.mp hx' with rfl | hx'
      · exact hpl
      · cases hx'
  let env : Env := callEnv (ksFn "__init__" qual (defArgs st) (defBody st) (defScope st) .none kV doc pm an (.ref cda) ct cc) s.heap.objs.size fI
  let xe : Value → Shared → Prop := fun e s' => wpAny (model P w) (A.deeper env) (leaving env e) (fun _ s'' => CR (L2.CX P w) outer P w H s Q E (.error e) s'') (fun e' s'' => CR (L2.CX P w) outer P w H s Q E (.error e') s'') s'
  have hcc : base.get? cc = some ⟨cl, cld, .cell (some (.ref cF)), csl⟩ := e0.mod.kin _ _ hcell
  have I0 : L2.Inv (cxI P w K mg base env A outer s H xe) [] [some (.ref a), some y] H { s with heap := h₁, toks := s.toks + (([("self" : Str), "place"] : List Str).zip [Value.ref a, u2]).length } := by
    have one : ∀ x c, env.cells.lookup x = some c → x = "__class__" ∧ c = cc := fun x c e => by
      have e : List.lookup x [(("__class__" : Str), cc)] = some c := e
      by_cases z : x = "__class__"
      · subst z
        simp [List.lookup] at e
        exact ⟨rfl, e.symm⟩
      · have : (x == ("__class__" : Str)) = false := by simpa using z
        simp [List.lookup, this] at e
    have noA : ∀ b : Addr, b ∉ (cxI P w K mg base env A outer s H xe).ex := fun b z => absurd (show b ∈ ([] : List Addr) from z) (by simp)
    refine ⟨⟨e0.mod, S.kind, rfl, rfl, Nat.le_refl _, fun y z c h1 h2 => ?_, fun y hy => ?_, fun y c hf h => (by cases hf), fun _ => hr.hd, Around.frames_deeper e0.frames, .inr ⟨rfl, rfl⟩, fun b z => absurd z (noA b), e0.bs, e0.bsz, fun b _ _ => noA b, fun b z => absurd z (noA b), e0.funs, e0.frf⟩,
      rfl, e0.bare, Un.kept hk, ⟨_, hns, fun i x v h1 h2 h3 => ?_⟩, fun y c h => ?_, e0.hok.fresh (Nat.le_refl _), fun y c h => ?_, fun p hp => absurd (show p ∈ ([] : List (Addr × Obj)) from hp) (by simp), e0.hok.kept hk, rfl⟩
    · rw [(one y c h1).1, (one z c h2).1]
    · rcases hy with hy | hy
      · exact absurd rfl (S.cells _ (PySem.mem_of_lookup (show (defScope st).names.lookup y = some .cell from hy)))
      · have ey : y = "__class__" := S.free _ (PySem.mem_of_lookup (show (defScope st).names.lookup y = some .free from hy)) rfl
        rw [ey]
        exact ⟨cc, by show List.lookup ("__class__" : Str) [(("__class__" : Str), cc)] = some cc; simp [List.lookup]⟩
    · rcases i with _ | _ | i
      · cases h1; cases h2
        exact ⟨.ref a, rfl, .inl ⟨hse, by show List.lookup ("self" : Str) [(("place" : Str), u2), (("self" : Str), Value.ref a)] = some (.ref a); rfl⟩⟩
      · cases h1; cases h2
        exact ⟨u2, ry, .inl ⟨hpl, by show List.lookup ("place" : Str) [(("place" : Str), u2), (("self" : Str), Value.ref a)] = some u2; rfl⟩⟩
      · simp [cxI] at h1
    · obtain ⟨rfl, rfl⟩ := one y c h
      exact ⟨_, _, hk _ _ (KX _ _ hcell), rfl⟩
    · obtain ⟨rfl, rfl⟩ := one y c h
      exact (e0.bs _ _ hcc).2
  obtain ⟨p0, p1, p2, p3, p4, p5, q0, q1, q2, q3, pl, hbody, hev, hsw, hsw2⟩ := S.ex
  show _root_.PySem.wpAt (model P w) (A.deeper env) (.func (defBody st) env) (execs (defBody st) env) _ _ _
  have hx : execs (defBody st) env = execs [.Expr (.Call (.Attribute (.Call (.Name "super" p0) [] [] p1) "__init__" p2) [.Name "place" p3] [] p4) p5, .Assign [.Attribute (.Name "self" q0) "place" q1] (.Name "place" q2) q3] env := by rw [hbody]
  rw [hx]
  obtain ⟨ar, har, har2⟩ : ∃ ar, ((defArgs st).posonlyargs ++ (defArgs st).args).head? = some ar ∧ ar.arg = "self" := by
    have := S.hp
    cases z : ((defArgs st).posonlyargs ++ (defArgs st).args).head? with
    | none => rw [z] at this; cases this
    | some ar => rw [z] at this; exact ⟨ar, rfl, Option.some.inj this⟩
  obtain ⟨mb, hb1, hb2⟩ := I0.mod.blt
  have K0 := I0.kIn
  obtain ⟨oD, hD1, hD2⟩ : ∃ oD, h₁.get? cF = some oD ∧ oD.data = .cls cdD := by
    unfold clsIn at hD
    split at hD
    · rename_i c d cd' sl ho
      cases hD
      exact ⟨_, K0 _ _ ho, rfl⟩
    · cases hD
  obtain ⟨t1, hea⟩ := exo_at I0.hok ea
  obtain ⟨cd, hcd'⟩ := X.cl
  have hsu := X.su
  unfold ks_superIn at hsu
  rw [hcd', Option.bind_some] at hsu
  obtain ⟨nm, q, N, bs, bm, sn, sub, ab, col, dd, k0, k1, k2, k3, k5, hC, hbm⟩ := X.o.cls
  have haC : a ≠ C := fun z => by
    have := (e0.bs _ _ (e0.mod.kin _ _ hC)).2
    rw [← z, ea] at this
    cases this
  have hint : interactive env = false := by
    show ((defScope st).kind == .module && _) = false
    rw [S.kind]
    rfl
  refine ks_wpAt_execs_cons (ks_wpAt_Expr_any (ks_wpAt_MethodCall (pl := pl env) ?_ (hev env)) hint (hsw env))
  refine ks_wpAt_super_base (env := env) hs hc (by decide) rfl (hk _ _ (KX _ _ lk)) rfl har rfl (hk _ _ (KX _ _ hcode)) rfl hvs hfile T.top ?_
  refine ks_loadName_global S.kind hs (loadGlobal_builtin (env := env) (I0.mod.glob.keeps I0.bk) hsup (hb1.keeps I0.bk) ((hb2 _ (by decide)).trans PyProof.Rows.Boot.«super») ⟨rfl, ?_⟩)
  refine wpAny_loadName_free S.kind hc (c := cc) (by show List.lookup ("__class__" : Str) [(("__class__" : Str), cc)] = some cc; simp [List.lookup]) ⟨_, hk _ _ (KX _ _ hcell), rfl⟩ ?_
  rw [har2]
  refine wpAny_loadName_local S.kind hse hns (by show List.lookup ("self" : Str) [(("place" : Str), u2), (("self" : Str), Value.ref a)] = some (.ref a); rfl) ?_
  refine ks_wpAny_isType_cls hD1 hD2 ⟨rfl, ?_⟩
  refine ks_wpAny_call_super hD1 hD2 hea rfl (fun c z => by cases z) (looks_mroIn K0 X.sb) (fun h2 e2 kk2 => ?_)
  have I1 := I0.kept (h' := h2) (t' := s.toks + (([("self" : Str), "place"] : List Str).zip [Value.ref a, u2]).length) kk2
  have K1 := I1.kIn
  have LT : PySem.W.Looks (model P w) h2 (typeOf (.ref a)) (.ref C) := fun A Q E s k q => wpAny_typeOf_ref (k _ _ (kk2 _ _ hea)) q
  refine kxs_getMethod kxs_ValueError e2 (looks_opaque K1 T.tp) (l₀ := cd.mro) (fun A Q E s k q => wpAny_bind ((looks_clsIn K1 hcd') A _ E s k (wpAny_pure q))) rfl K1 hsu (LT.andThen (looks_subIn K1 X.ve)) haC (by decide) ?_
  have I2 := I1.kept (h' := h2.push (kxs_mw "ValueError.__init__" a)) (t' := s.toks + (([("self" : Str), "place"] : List Str).zip [Value.ref a, u2]).length + 1) (fun b o e => Heap.get?_push_of_some _ e)
  have hmw : (h2.push (kxs_mw "ValueError.__init__" a)).get? h2.objs.size = some (kxs_mw "ValueError.__init__" a) := Heap.get?_push_size _ rfl
  show wpAny (model P w) (A.deeper env) (callWith p4 (.ref h2.objs.size) [] (backTo p4 (starEach [.Name "place" p3] env)) []) _ _ _
  refine kxs_callWith (i := "ValueError.__init__") (x := a) rfl (evalArgs_plain ?_)
  show wpAny _ _ (spliced ((false, eval (.Name "place" p3) env) :: backTo p4 (starEach [] env))) _ _ _
  have hns2 := hns.keeps (h' := h2.push (kxs_mw "ValueError.__init__" a)) fun b o e => Heap.get?_push_of_some _ (kk2 b o e)
  refine Calls.spliced_cons (wpAny_Name (wpAny_loadName_local S.kind hpl hns2 (by show List.lookup ("place" : Str) [(("place" : Str), u2), (("self" : Str), Value.ref a)] = some u2; rfl) (Calls.spliced_nil ⟨hmw, ?_⟩)) (by decide))
  refine call_mwVE (I2.kIn _ _ hC) (Heap.get?_push_of_some _ (kk2 _ _ hea)) hmw (by show 1 ≤ sizeLine; decide) (fun h3 t3 kk3 he3 => ?_)
  have I3 := I2.write (t' := s.toks + (([("self" : Str), "place"] : List Str).zip [Value.ref a, u2]).length + 1) (x := a) (e := a) (o := exo a C none) (by rw [ea]; exact True.intro) (.inl rfl) kk3 ⟨_, he3⟩ (exo_ok he3)
  have eu : upd H a (exo a C none) = H := by
    funext b
    by_cases hb : b = a
    · rw [hb, upd_same, ea]
    · rw [upd_ne hb]
  rw [eu] at I3
  have ps := pss_one (ps_ost (pe_var (X := cxI P w K mg base env A outer s H xe) (i := 0) (pos := q0) rfl (.inl hse)) (pe_var (i := 1) (pos := q2) rfl (.inl hpl)) (hsw2 env) (f := "place") (p' := q1) (pos := q3))
  refine wpAt_of_wpAny (wpAny_mono (ps.run [] _ [some (.ref a), some y] H { nx := fun _ H' => Q .non H', rt := fun _ _ => False, bk := fun _ _ => False, ct := fun _ _ => False } I3 ⟨y, rfl, .ref a, rfl, a, C, rfl, X.o, X.np, .inl ⟨ea, hq⟩⟩) (fun f s' hs => ?_) fun _ _ z => z)
  cases f with
  | next =>
    obtain ⟨σ', H', J, q⟩ := hs
    exact ⟨.non, H', J.os, J.bare, J.base, J.hok, rfl, q⟩
  | ret u =>
    obtain ⟨_, _, _, _, _, q⟩ := hs
    exact q.elim
  | brk =>
    obtain ⟨_, _, _, q⟩ := hs
    exact q.elim
  | cont =>
    obtain ⟨_, _, _, q⟩ := hs
    exact q.elim
end
end Hz
namespace Hz
open PySem L2
/-- an exception class of the text, by its facts -/
abbrev ExD (c : C0) (cF fI : Addr) (x : Str) (C : Nat) : Prop := (∃ fd, FnOk c.P c.w c.K c.mg c.base (L2.CX c.P c.w) 1 fI fd ["self", "place"] (spX c.K cF fI) ∧ Binds c.K fd ["self", "place"] []) ∧ (PySem.W.typeIn c.K (.ref fI) = some (.type "function")) ∧ (ExC c.K cF fI C) ∧ (c.mg x = some (.ref C))
theorem ExD.fn {c : C0} {cF fI : Addr} {x : Str} {C : Nat} (h : ExD c cF fI x C) : ∃ fd, FnOk c.P c.w c.K c.mg c.base (L2.CX c.P c.w) 1 fI fd ["self", "place"] (spX c.K cF fI) ∧ Binds c.K fd ["self", "place"] [] := h.1
theorem ExD.ty {c : C0} {cF fI : Addr} {x : Str} {C : Nat} (h : ExD c cF fI x C) : PySem.W.typeIn c.K (.ref fI) = some (.type "function") := h.2.1
theorem ExD.e {c : C0} {cF fI : Addr} {x : Str} {C : Nat} (h : ExD c cF fI x C) : ExC c.K cF fI C := h.2.2.1
theorem ExD.mg {c : C0} {cF fI : Addr} {x : Str} {C : Nat} (h : ExD c cF fI x C) : c.mg x = some (.ref C) := h.2.2.2
def raiseS (C : Nat) (me : ME) : MS := fun ρ α D => me ρ α (fun d α1 => D.ex ⟨C, [(.str "place", d)]⟩ ρ α1) (fun x α1 => D.ex x ρ α1)
section
variable {c : C0} {N : List Str} {sc : Scope} {x : Str} {e : Expr} {p q pos : Pos} {me : ME} {cF fI : Addr} {C : Nat}
theorem js_raise (T : ExD c cF fI x C) (hk : 2 ≤ c.k) (hg : sc.names.lookup x = some .globalImplicit) (h : JE c N sc e me) (hc : c.cm = true := by rfl) (hdb : (x == ("__debug__" : Str)) = false := by decide) (he : ∀ env, starEach [e] env = (false, eval e env) :: starEach [] env := by intros; rfl) (hpl : ∀ env, (backTo q (starEach [] env)).any (·.1) = false := by intros; rfl) :
    JS c N sc (.Raise (some (.Call (.Name x p) [e] [] q)) none pos) (raiseS C me) := by
  obtain ⟨fd, F, b⟩ := T.fn
  obtain ⟨t, h1, h2⟩ := h
  refine ⟨fun W => fun _ σ H => tMkO C (spX c.K cF fI) [] (tCons (t W) tNil) σ H fun cls d H' => W cls d σ H', fun X W I TT => ?_, fun W B σ H ρ α S D m Dn h' x' => ?_⟩
  · have F' : FnOk X.prog X.w X.K X.mg X.base (L2.CX X.prog X.w) 1 fI fd ["self", "place"] (spX c.K cF fI) := by
      rw [I.P, I.w, I.K, I.mg, I.base]
      exact F
    exact ps_raise (I.calm hc) TT (pmk_oex (by rw [I.K]; exact T.e.o) (by rw [I.K]; exact T.e.ini) (by rw [I.K]; exact T.ty) F' ((I.rm hc).mono hk) (by rw [I.K]; exact b) .nil passL (I.gl hg) (by rw [I.mg]; exact T.mg) (pa_cons (h1 X W I TT) pa_nil (he _)) hdb (he _) (hpl _))
  · refine h2 W B σ H ρ α S _ _ m _ (fun v d B1 H1 α1 A1 r1 m => ⟨(show 1 ≤ 1000 by decide), fun a na => ?_⟩) (x'.sx S)
    refine ⟨a, C, v, rfl, T.e, upd_same, fun dx nd ne => ⟨rfl, dx, [("place", v)], upd_same, ?_, ?_, ?_⟩⟩
    · rw [upd_ne ne, upd_same]
    · rw [upd_ne ne] at nd
      exact nd
    · have nd' : H1 dx = none := by rw [upd_ne ne] at nd; exact nd
      have eh : upd (L2.del (upd (upd (upd H1 a (exo a C none)) dx (exd dx [("place", v)])) a (exo a C (some dx))) a) dx (.xd [("place", v)]) = upd H1 dx (.xd [("place", v)]) := by
        funext b
        by_cases hb : b = dx
        · rw [hb, upd_same, upd_same]
        · rw [upd_ne hb, upd_ne hb]
          by_cases hb2 : b = a
          · rw [hb2, L2.del_same, na]
          · rw [L2.del_ne hb2, upd_ne hb2, upd_ne hb, upd_ne hb2]
      rw [eh]
      have Ab := Af.of_sub A1.bs (Sub.new (o := .xd [("place", v)]) nd')
      have A := A1.trans S.bs Ab
      have hB : B1 dx = false := A1.bs.fresh nd'
      exact x' _ B1 σ ρ α1 (.ref C) (some dx) _ A (S.step A) ⟨rfl, dx, _, rfl, hide_of hB upd_same, .cons (r1.mono Ab.sub) .nil⟩ m
end
def tryS (exm : Nat → Option Bool) (mb ms : MS) : MS := fun ρ α D => mb ρ α { D with ex := fun x ρ' α' => oq (exm x.C) fun b => if b = true then ms ρ' α' { D with ex := fun _ _ _ => False } else D.ex x ρ' α' }
/-- the datum of a caught exception -/
def excD (a dx C : Nat) (ds : List (D × D)) : D := .dict ((.bool true, .tuple [.int (Int.ofNat a), .int (Int.ofNat dx), .int (Int.ofNat C)]) :: ds)
def tryA (i : Nat) (exm : Nat → Option Bool) (mb : MS) (ms : Nat → Nat → Nat → MS) : MS := fun ρ α D => mb ρ α { D with ex := fun x ρ' α' => oq (exm x.C) fun b => if b = true then ∀ a dx, ms a dx x.C (ρ'.set i (some (excD a dx x.C x.fs))) α' { nx := fun ρ2 α2 => D.nx (ρ2.set i none) α2, rt := D.rt, bk := fun ρ2 α2 => D.bk (ρ2.set i none) α2, ct := fun ρ2 α2 => D.ct (ρ2.set i none) α2, ex := fun _ _ _ => False } else D.ex x ρ' α' }
abbrev C0.su (c : C0) : C0 := { c with cm := false, xc := none }
abbrev C0.sx (c : C0) (a dx : Addr) (C : Nat) : C0 := { c with cm := false, xc := some (a, dx, C) }
section
variable {c : C0} {N : List Str} {sc : Scope} {x n : Str} {p np pos pos' : Pos} {C : Nat} {exm : Nat → Option Bool} {body suite : List Stmt} {b₀ : Stmt} {mb ms : MS} {i : Nat}
theorem In.su {X : Cx} (I : In c N sc X) (a : Addr) (pn : List (Addr × Obj)) : In c.su N sc (X.suite a pn) :=
  ⟨I.P, I.w, I.K, I.mg, I.base, fun h => (by cases h), I.un, I.N, I.sc, fun h => (by cases h), I.fn, PassesOwn.never, I.fs, fun _ _ _ h => (by cases h), I.oc⟩
theorem In.sx {X : Cx} (I : In c N sc X) (a dx : Addr) (C : Nat) {oe : Obj} (pn : List (Addr × Obj)) (hz : Zc (.ref C) (some dx) oe) (hf : ∃ vs, oe.data = .fields vs) : In (c.sx a dx C) N sc (X.suite a ((a, oe) :: pn)) :=
  ⟨I.P, I.w, I.K, I.mg, I.base, fun h => (by cases h), I.un, I.N, I.sc, fun h => (by cases h), I.fn, PassesOwn.never, I.fs, fun _ _ _ h => (by
    cases h
    exact ⟨X, oe, pn, rfl, hz, hf⟩), I.oc⟩
end
def kXf (i : Nat) (f : Str) (isX : Nat → Bool) (a dx C : Nat) : ME := fun ρ α Q E => ∃ ds d, ρ[i]? = some (some (excD a dx C ds)) ∧ isX C = true ∧ lookF f ds = some d ∧ Q d α
end Hz
namespace PySem.W
open PySem PySem.Spec PySem.Calls PyProof.Rows
end PySem.W
namespace Hz
open PySem L2
def kXi (i : Nat) (isX : Nat → Bool) (tab : Nat → Option Bool) (a dx C : Nat) : ME := fun ρ α Q E => ∃ ds b, ρ[i]? = some (some (excD a dx C ds)) ∧ isX C = true ∧ tab C = some b ∧ Q (.bool b) α
end Hz
namespace Hz
open PySem L2
variable {c : C0} {N : List Str} {sc : Scope}
def dRep : D → D → Option D
  | .list a, .int k => if k < 2 ^ 63 ∧ -(2 ^ 63) ≤ k ∧ a.length * k.toNat ≤ 100000 then some (.list (List.replicate k.toNat a).flatten) else none
  | _, _ => none
/-- the new cell is let go, but stays hidden -/
theorem Af.drop {K : Frag} {B B' : Addr → Bool} {H H' : Hp} {α α' : AH} {l : Addr} {d : D} (a : Af K B H α B' H' (aset α' l d)) (n : α' l = none) : Af K B H α B' H' α' :=
  ⟨a.sub, ⟨fun x e q => a.bs.cel x e (by rw [aset_ne (fun z => by rw [z, n] at q; cases q)]; exact q), a.bs.bk⟩, a.keep, fun x nx hx => by
    by_cases z : x = l
    · rw [z]; exact n
    · have := a.fr x nx hx
      rw [aset_ne z] at this
      exact this, a.grow⟩
def muInsert (ds as : List D) : Option (D × List D) := match as with
  | [.int i, d] => if ds.length < 100000 ∧ 0 ≤ i ∧ i < 2 ^ 63 then some (.none, ds.take i.toNat ++ [d] ++ ds.drop i.toNat) else none
  | _ => none
/-- o.extend(e), e a list -/
def extK (mo me : ME) : ME := fun ρ α Q E => mo ρ α (fun o α1 => cellL α1 o fun _ _ => me ρ α1 (fun e α2 => cellL α2 o fun a ds => ∃ es, vw α2 e = some (.list es) ∧ ds.length + es.length ≤ 100000 ∧ Q .none (aset α2 a (.list (ds ++ es)))) E) E
def numsC (lo st : Int) : Nat → List D
  | 0 => []
  | n + 1 => .int lo :: numsC (lo + st) st n
def rangeK3 (m : ML) : MI := fun ρ α Q E => m ρ α (fun ds α1 => ∃ i j k : Int, ds = [.int i, .int j, .int k] ∧ (k ≠ 0 ∧ k.natAbs < 1073741824 ∧ Builtin.Range.small i j k = true) ∧ Q (numsC i k (Builtin.Range.rangeSize i j k).toNat) (fun _ => True) α1) E
abbrev HeldD (c : C0) (k : Nat) (f : Addr) (np : Nat) (fm : Fm) : Prop := ∃ (fd : FuncData) (ps : List Str), FnOk c.P c.w c.K c.mg c.base (L2.CX c.P c.w) k f fd ps (fun vs H Q E => vs.length = ps.length ∧ spD c.K fm vs H Q E) ∧ PySem.W.keepIn c.K (.ref f) = true ∧ Binds c.K fd ps [] ∧ ps.length = np
theorem HeldD.ex {c : C0} {k : Nat} {f : Addr} {np : Nat} {fm : Fm} (h : HeldD c k f np fm) : ∃ (fd : FuncData) (ps : List Str), FnOk c.P c.w c.K c.mg c.base (L2.CX c.P c.w) k f fd ps (fun vs H Q E => vs.length = ps.length ∧ spD c.K fm vs H Q E) ∧ PySem.W.keepIn c.K (.ref f) = true ∧ Binds c.K fd ps [] ∧ ps.length = np := h
end Hz
namespace Hz
open PySem L2
variable {c : C0} {N : List Str} {sc : Scope}
section
variable {e b : Expr} {es : List Expr} {me mb : ME} {pos p p1 p2 : Pos} {x : Str} {g : D → D → Option D}
theorem v_ (i : Nat) (hN : N[i]? = some x := by rfl) (hv : Vis sc x := by first | exact Or.inl rfl | exact Or.inr (Or.inl rfl) | exact Or.inr (Or.inr rfl)) (hd : (x == ("__debug__" : Str)) = false := by decide) (hcd : (x == ("__classdict__" : Str)) = false := by decide) : JE c N sc (.Name x pos) (kV i) := ce_var hN hv hd hcd
theorem set_ (i : Nat) (nd : N.Nodup) (h : JE c N sc e me) (hN : N[i]? = some x := by rfl) (hs : Sto c sc x := by first | exact Or.inl rfl | exact Or.inr ⟨rfl, rfl⟩) (hw : ∀ env, swapsWith e (some (.Name x p1)) pos.line env = pure false := by intros; rfl) : JS c N sc (.Assign [.Name x p1] e pos) (asgS me (setv i)) := js_set nd hN hs h hw
theorem tg_ (i : Nat) (nd : N.Nodup) (hN : N[i]? = some x := by rfl) (hs : Sto c sc x := by first | exact Or.inl rfl | exact Or.inr ⟨rfl, rfl⟩) : JTg c N sc (.Name x pos) [i] (setv i) := jtg_name nd hN hs
/-- y = [..] on one line -/
theorem setLc_ (i : Nat) {oc : List Str} {tg iter : Expr} {ifs : List Expr} {scope : Scope} {spos : Pos} {own : List (Str × Nat)} {js : List Nat} {mi : MI} {mg : D → En → Option En} {mt : MT} (nd : N.Nodup)
    (hi : JI c N sc tg iter mi) (ok : BlkOk N sc scope own) (hg : JTg (c.inO oc) N (relS scope sc) tg js mg) (ht : JTs (c.inO oc) N (relS scope sc) ifs mt) (he : JE (c.inO oc) N (relS scope sc) e me)
    (hN : N[i]? = some x := by rfl) (hx : sc.names.lookup x = some .local := by rfl) (hk : sc.kind = .function := by rfl) (hl : (p1.line == pos.line) = true := by rfl) (hn : (scope.names.any fun (n, k) => n == x && (k == .local || k == .cell)) = false := by decide +kernel)
    (hj : (js.all fun j => (own.map (·.2)).contains j) = true := by rfl) (hc : c.cm = true := by rfl) (ho : (oc.all fun x => scope.names.lookup x == some .cell) = true := by rfl) (hs : ∀ env x, foldedSetIterable iter env x = pure x := by intros; rfl) : JS c N sc (.Assign [.Name x p1] (.ListComp e [⟨tg, iter, ifs, 0⟩] scope pos) spos) (asgS (lcK (own.map (·.2)) mi mg mt me) (setv i)) :=
  js_lc (f := id) (fun _ _ _ _ h => h.sd) nd hN hx hk hl hn hi ok hg ht he hj hc ho hs
/-- .. a cell -/
theorem newLc_ (i : Nat) {oc : List Str} {tg iter : Expr} {ifs : List Expr} {scope : Scope} {spos : Pos} {own : List (Str × Nat)} {js : List Nat} {mi : MI} {mg : D → En → Option En} {mt : MT} (nd : N.Nodup)
    (hi : JI c N sc tg iter mi) (ok : BlkOk N sc scope own) (hg : JTg (c.inO oc) N (relS scope sc) tg js mg) (ht : JTs (c.inO oc) N (relS scope sc) ifs mt) (he : JE (c.inO oc) N (relS scope sc) e me)
    (hN : N[i]? = some x := by rfl) (hx : sc.names.lookup x = some .local := by rfl) (hk : sc.kind = .function := by rfl) (hl : (p1.line == pos.line) = true := by rfl) (hn : (scope.names.any fun (n, k) => n == x && (k == .local || k == .cell)) = false := by decide +kernel)
    (hj : (js.all fun j => (own.map (·.2)).contains j) = true := by rfl) (hc : c.cm = true := by rfl) (ho : (oc.all fun x => scope.names.lookup x == some .cell) = true := by rfl) (hs : ∀ env x, foldedSetIterable iter env x = pure x := by intros; rfl) : JS c N sc (.Assign [.Name x p1] (.ListComp e [⟨tg, iter, ifs, 0⟩] scope pos) spos) (asgS (newK (lcK (own.map (·.2)) mi mg mt me)) (setv i)) :=
  js_lc (f := newK) (fun _ _ _ _ h => h.new) nd hN hx hk hl hn hi ok hg ht he hj hc ho hs
end
def dIAdd : D → D → Option D
  | .int a, .int b => some (.int (a + b))
  | .str a, .str b => if a.length + b.length ≤ 100000 then some (.str (a ++ b)) else none
  | _, _ => none
theorem o_iadd : OpD c.K (In c N sc) (inplaceOp .Add) dIAdd := by
  refine ⟨_, fun X I => OpR.or (X := X) iop_add iop_add_str, fun B H x y d e z bk hx hy hz Q q => ?_⟩
  unfold dIAdd at hz
  split at hz
  · cases hz
    exact .inl ⟨_, _, hx.int, hy.int, q _ H (Sub.refl H) (.int _)⟩
  · split at hz
    · rename_i hl
      cases hz
      exact .inr ⟨_, _, hx.str, hy.str, sz5 hl, q _ H (Sub.refl H) (.str _)⟩
    · cases hz
  · cases hz
def At (c : C0) (x : Str) (st : Stmt) (ps : List Str) (dvs : List V) (js : List Nat) : Prop := ∃ f, AtF c x x st ps dvs js f ∧ c.mg x = some (.ref f)
def MeAt (c : C0) (C : Nat) (m qual : Str) (st : Stmt) (ps : List Str) (dvs : List V) (js : List Nat) : Prop := ∃ f, AtF c m qual st ps dvs js f ∧ Meth c.K C m f
def InAt (c : C0) (C : Nat) (x qual : Str) (st : Stmt) (ps : List Str) (dvs : List V) (js : List Nat) : Prop := ∃ f, AtF c "__init__" qual st ps dvs js f ∧ Mk c.K C f ∧ c.mg x = some (.ref C)
def PrF (c : C0) (k : Nat) (x : Str) (ps : List Str) (dvs : List V) (js : List Nat) (fm : Fm) : Prop := ∃ f, Pro c k f ps dvs js fm ∧ c.mg x = some (.ref f)
def PrM (c : C0) (k C : Nat) (m : Str) (ps : List Str) (dvs : List V) (js : List Nat) (fm : Fm) : Prop := ∃ f, Pro c k f ps dvs js fm ∧ Meth c.K C m f
def PrI (c : C0) (k C : Nat) (x : Str) (ps : List Str) (dvs : List V) (js : List Nat) (fm : Fm) : Prop := ∃ f, Pro c k f ps dvs js fm ∧ Mk c.K C f ∧ c.mg x = some (.ref C)
section
variable {x m qual : Str} {st : Stmt} {ps : List Str} {dvs : List V} {js : List Nat} {k C np : Nat} {mm : MS} {fm : Fm}
theorem At.run (A : At c x st ps dvs js) (S : FnScope N ps (defScope st)) (h : JB (c.at_ k) N (defScope st) (defBody st) mm) (hn : ps.length ≤ N.length := by decide) : PrF c (k + 1) x ps dvs js (runF ps.length N.length mm) :=
  let ⟨f, a, m⟩ := A; ⟨f, a.run S h hn, m⟩
theorem At.runP (A : At c x st ps dvs js) (S : FnScope N ps (defScope st)) (h : JB (c.at_ k) N (defScope st) (defBody st) mm) (hn : ps.length ≤ N.length := by decide) : PrF c (k + 1) x ps dvs js (Hz.runP ps.length N.length mm) :=
  let ⟨f, a, m⟩ := A; ⟨f, a.runP S h hn, m⟩
theorem MeAt.run (A : MeAt c C m qual st ps dvs js) (S : FnScope N ps (defScope st)) (h : JB (c.at_ k) N (defScope st) (defBody st) mm) (hn : ps.length ≤ N.length := by decide) : PrM c (k + 1) C m ps dvs js (runF ps.length N.length mm) :=
  let ⟨f, a, m⟩ := A; ⟨f, a.run S h hn, m⟩
theorem MeAt.runP (A : MeAt c C m qual st ps dvs js) (S : FnScope N ps (defScope st)) (h : JB (c.at_ k) N (defScope st) (defBody st) mm) (hn : ps.length ≤ N.length := by decide) : PrM c (k + 1) C m ps dvs js (Hz.runP ps.length N.length mm) :=
  let ⟨f, a, m⟩ := A; ⟨f, a.runP S h hn, m⟩
theorem InAt.run (A : InAt c C x qual st ps dvs js) (S : FnScope N ps (defScope st)) (h : JB (c.at_ k) N (defScope st) (defBody st) mm) (hn : ps.length ≤ N.length := by decide) : PrI c (k + 1) C x ps dvs js (runF ps.length N.length mm) :=
  let ⟨f, a, m, q⟩ := A; ⟨f, a.run S h hn, m, q⟩
theorem PrF.fn (P : PrF c k x ps dvs js fm) : FnD c k x ps.length [] fm := let ⟨f, p, m⟩ := P; p.fn m
theorem PrM.mt (P : PrM c k C m ps dvs js fm) (hp : ps.length = np + 1 := by rfl) : MtD c k C m np [] fm := let ⟨f, p, m⟩ := P; p.mt m hp
theorem PrI.mk_ (P : PrI c k C x ps dvs js fm) (hp : ps.length = np + 1 := by rfl) : MkD c k x C np [] fm := let ⟨f, p, m, q⟩ := P; p.mk_ m q hp
end
theorem kit_self {K : Frag} {C : Addr} : PySem.W.kitOne K (.ref C) (.ref C) = some true := if_pos (beq_self_eq_true _)
theorem kit_other {K : Frag} {C : Addr} {T : String} (h1 : PySem.W.isClsIn K C = true) (h2 : PySem.W.typeIn K (.ref C) = some (.type "type")) (h3 : PySem.W.notFirst K C (.type T) = true) : PySem.W.kitOne K (.type T) (.ref C) = some false := by
  have ne : (Value.type T == Value.ref C) = false := by
    cases z : (Value.type T == Value.ref C) with
    | false => rfl
    | true => exact nomatch (eq_of_beq z)
  unfold PySem.W.notFirst at h3
  rw [ne, Bool.false_or] at h3
  unfold PySem.W.kitOne
  rw [if_neg (by rw [ne]; exact Bool.false_ne_true)]
  show (if ((PySem.W.clsIn K C).isSome && PySem.W.typeIn K (.ref C) == some (.type "type")) = true then PySem.W.subIn K (.type T) (.ref C) else none) = some false
  rw [if_pos]
  · exact eq_of_beq h3
  · rw [h2, show (PySem.W.clsIn K C).isSome = true from h1]
    rfl
end Hz
namespace Hz
open PySem L2
variable {c : C0} {N : List Str} {sc : Scope}
/-- an own class, by its facts -/
structure ClsK (K : Frag) (mg : Str → Option Value) (x : Str) (C : Nat) : Prop where
  mg : mg x = some (.ref C)
  cl : Cls K C
  ha : PySem.W.findIn K (.ref C) "__class__" = some (some (.builtin "object.__class__"))
  hn : PySem.W.specialIn K (.builtin "object.__class__") "__get__" = some (some (.builtin "getset_descriptor.__get__"))
  htk : PySem.W.takesIn K (.builtin "object.__class__") = some true
  hm : PySem.W.mroIn K C (.type "object") = some true
  self : PySem.W.kitOne K (.ref C) (.ref C) = some true
  kNone : PySem.W.kitOne K (.type "NoneType") (.ref C) = some false
  kBool : PySem.W.kitOne K (.type "bool") (.ref C) = some false
  kInt : PySem.W.kitOne K (.type "int") (.ref C) = some false
  kStr : PySem.W.kitOne K (.type "str") (.ref C) = some false
  kList : PySem.W.kitOne K (.type "list") (.ref C) = some false
  kTuple : PySem.W.kitOne K (.type "tuple") (.ref C) = some false
  fList : PySem.W.notFirst K C (.type "list") = true
  fTuple : PySem.W.notFirst K C (.type "tuple") = true
abbrev ClsD (c : C0) (x : Str) (C : Nat) : Prop := ClsK c.K c.mg x C
def isOb (C : Nat) : D → Bool
  | .dict ((.none, .int k) :: _) => decide (k = Int.ofNat C)
  | _ => false
theorem isOb_oD {C : Nat} {d : D} (h : isOb C d = true) : ∃ fs, d = oD C fs := by
  unfold isOb at h
  split at h
  · rename_i k fs
    exact ⟨fs, by unfold oD; rw [of_decide_eq_true h]⟩
  · cases h
def isiCB (C : Nat) : D → Option Bool
  | .none => some false
  | .bool _ => some false
  | .int _ => some false
  | .str _ => some false
  | .list _ => some false
  | .tuple _ => some false
  | d => if isOb C d = true then some true else none
theorem isiC_of {C : Nat} {x : Str} (T : ClsD c x C) {B : Addr → Bool} {H : Hp} {v : V} {d : D} {b : Bool} (h : Rs c.K B H v d) (e : isiCB C d = some b) : ∃ t, TyX c.K H v t ∧ PySem.W.kitOne c.K t (.ref C) = some b := by
  by_cases ho : isOb C d = true
  · obtain ⟨fs, rfl⟩ := isOb_oD ho
    obtain ⟨a, dx, gs, rfl, h1, h2⟩ := h.oD
    have eb : b = true := by
      have : isiCB C (oD C fs) = some true := by
        unfold isiCB oD at *
        simp only []
        rw [if_pos ho]
      rw [this] at e
      cases e
      rfl
    subst eb
    exact ⟨.ref C, .base (.ins h1 T.cl T.ha T.hn T.htk T.hm), T.self⟩
  · have h := h.rp
    cases h with
    | non => cases e; exact ⟨_, .base .non, T.kNone⟩
    | bl k => cases e; exact ⟨_, .base (.bl k), T.kBool⟩
    | int k => cases e; exact ⟨_, .base (.int k), T.kInt⟩
    | str k => cases e; exact ⟨_, .base (.str k), T.kStr⟩
    | lst hs _ =>
      cases e
      refine ⟨.type "list", ?_, T.kList⟩
      rcases hs with (h | ⟨o, h⟩) | ⟨o, its, n, h1, h2, _⟩
      · exact .base (.lst h)
      · exact .base (.frz h)
      · exact .kList h1 h2
    | tup hs _ _ =>
      cases e
      refine ⟨.type "tuple", ?_, T.kTuple⟩
      rcases hs with (h | ⟨o, h⟩) | ⟨o, its, n, h1, h2, _⟩
      · exact .base (.tup h)
      · exact .fTuple h
      · exact .kTuple h1 h2
    | _ =>
      simp only [isiCB, if_neg ho] at e
      cases e
def isiCK (C : Nat) (m : ME) : ME := fun ρ α Q E => m ρ α (fun d α1 => oq (vw α1 d) fun d' => oq (isiCB C d') fun b => Q (.bool b) α1) E
theorem je_isiC {C : Nat} {y : Str} {p p2 pos : Pos} {e : Expr} {me : ME} (T : ClsD c y C) (hg : sc.names.lookup ("isinstance" : Str) = some .globalImplicit) (hm : c.mg ("isinstance" : Str) = none) (hgy : sc.names.lookup y = some .globalImplicit) (ha : JE c N sc e me)
    (hdb : (y == ("__debug__" : Str)) = false := by decide)
    (he : ∀ env, starEach [e, .Name y p2] env = (false, eval e env) :: starEach [.Name y p2] env := by intros; rfl) (hpl : ∀ env, (backTo pos (starEach [.Name y p2] env)).any (·.1) = false := by intros; rfl) :
    JE c N sc (.Call (.Name "isinstance" p) [e, .Name y p2] [] pos) (isiCK C me) := by
  obtain ⟨t, a1, a2⟩ := ha
  refine ⟨fun W => tCB (rIsi c.K) (tCons (t W) (tCons (tC (.ref C)) tNil)), fun X W I TT => ?_, fun W B σ H ρ α S Qm Em m Q q x => ?_⟩
  · have h := pe_callB (x := "isinstance") (p := p) (pos := pos) (call_isi (X := X)) (I.gl hg) (by rw [I.mg]; exact hm) (by decide +kernel) (pa_cons (a1 X W I TT) (pa_cons (pe_glob (pos := p2) (v := .ref C) (I.gl hgy) (by rw [I.mg]; exact T.mg) rfl hdb) pa_nil) (he _)) (by decide) (by decide) (he _) (hpl _)
    rw [I.K] at h
    exact h
  · refine a2 W B σ H ρ α S _ Em m _ (fun v d B1 H1 α1 A1 r1 m => ?_) x
    obtain ⟨d', hd, z, hz, m⟩ := m
    obtain ⟨t, h1, h2⟩ := isiC_of T (vw_rs A1.bs r1 hd) hz
    exact ⟨v, .ref C, t, .ref C, z, rfl, .own C, h1, h2, q _ _ B1 H1 α1 A1 (.bl z) m⟩
def OthOk (K : Frag) (C : Addr) (H : Hp) (y : V) : Prop := (∃ b dy gs, y = .ref b ∧ H b = some (.ins C dy gs)) ∨ (∃ b ys, y = .ref b ∧ SqT K H b ys) ∨ ∃ b ys, y = .ref b ∧ SqL K H b ys
def rOwnI (K : Frag) (C : Addr) (sp : Sp) : R2 := fun x y H Q => ∃ a dx fs, x = .ref a ∧ H a = some (.ins C dx fs) ∧ OthOk K C H y ∧ sp [x, y] H Q (fun _ _ _ => False)
theorem passX0 {P : Program} {w : World} {X : Cx} : Passes (L2.CX P w) X (fun _ _ _ => False) := fun pins σ H s e s' I h => by
  obtain ⟨_, _, _, _, _, _, _, _, _, _, _, _, h⟩ := h
  exact h.elim
theorem op_ownI {X : Cx} {C f : Addr} {fd : FuncData} {ps : List Str} {n : Nat} {sp : Sp} (F : FnOk X.prog X.w X.K X.mg X.base (L2.CX X.prog X.w) n f fd ps sp) (hs : PySem.W.findIn X.K (.ref C) "__eq__" = some (some (.ref f))) (hf : PySem.W.isFn X.K (.ref f) = true) (hb : Binds X.K fd ps []) (hr : Room n X.A)
    (fl : PySem.W.notFirst X.K C (.type "list") = true) (ft : PySem.W.notFirst X.K C (.type "tuple") = true) : OpR X (compareOp .Eq) (rOwnI X.K C sp) := by
  intro pins s σ H x y v u Q I rx ry h
  obtain ⟨a, dx, fs, rfl, ha, ho, q⟩ := h
  cases (show v = Value.ref a from rx)
  obtain ⟨mA, J, _⟩ := ins_get I.hok ha
  obtain ⟨od, J, _⟩ := J.look
  obtain ⟨m, hF⟩ := I.fr
  show wpAny (model X.prog X.w) X.A (richCompare .Eq (.ref a) u) (EP X pins σ Q) X.xe s
  have back : wpAny (model X.prog X.w) X.A (call (.ref f) [.ref a, u]) (PySem.W.CmpBack (EP X pins σ Q)) X.xe s := by
    refine wpAny_mono (run_fn (us := [.ref a, u]) (vs := [.ref a, y]) (ds := []) (dvs := []) F hr hb .nil passX0 I (.cons rfl (.cons ry .nil)) q) (fun w s' z => ?_) fun _ _ x => x
    obtain ⟨z', H', I', rz, qz⟩ := z
    exact SlX.cmpback rz ⟨z', H', I', rz, qz⟩
  rcases ho with ⟨b, dy, gs, rfl, hb'⟩ | ⟨b, ys, rfl, hb'⟩ | ⟨b, ys, rfl, hb'⟩
  · cases (show u = Value.ref b from ry)
    obtain ⟨mB, J', _⟩ := ins_get I.hok hb'
    obtain ⟨od', J', _⟩ := J'.look
    exact PySem.W.cmp_K (op := .Eq) (tb := .ref C) hr.units0 hF I.ok.mod.kin J J'.type (by simp [PySem.W.notFirst]) hs hf back
  · cases (show u = Value.ref b from ry)
    obtain ⟨its, r, pl, z1⟩ := I.tuple hb'
    obtain ⟨o, h1, h2, _⟩ := pl
    exact PySem.W.cmp_K (op := .Eq) (tb := .type "tuple") hr.units0 hF I.ok.mod.kin J (h2 ▸ (PySem.W.Looks.ld h1).andThen .now) ft hs hf back
  · cases (show u = Value.ref b from ry)
    obtain ⟨its, r, pl, z1⟩ := I.list hb'
    obtain ⟨o, h1, h2, _⟩ := pl.isList
    exact PySem.W.cmp_K (op := .Eq) (tb := .type "list") hr.units0 hF I.ok.mod.kin J (h2 ▸ (PySem.W.Looks.ld h1).andThen .now) fl hs hf back
def isSq : D → Bool
  | .list _ => true
  | .tuple _ => true
  | _ => false
def eqIK (C : Nat) (fm : Fm) (ma mb : ME) : ME := fun ρ α Q E => ma ρ α (fun d α1 => mb ρ α1 (fun e α2 => oq (vw α2 d) fun d' => oq (vw α2 e) fun e' => (isOb C d' = true ∧ (isOb C e' = true ∨ isSq e' = true)) ∧ fm [d, e] α2 (fun r α3 => ∃ b, r = .bool b ∧ Q (.bool b) α3) NX) E) E
theorem sd_eqI {K : Frag} {W : WX} {C : Nat} {fm : Fm} {ta tb : TE} {ma mb : ME} (ha : Sd K W ta ma) (hb : Sd K W tb mb) : Sd K W (tOp (rOwnI K C (fun vs H Q E => vs.length = 2 ∧ spD K fm vs H Q E)) ta tb) (eqIK C fm ma mb) := fun B σ H ρ α S Qm Em m Q q x => by
  refine ha B σ H ρ α S _ Em m _ (fun v d B1 H1 α1 A1 r1 m => ?_) x
  refine hb B1 σ H1 ρ α1 (S.step A1) _ Em m _ (fun u e B2 H2 α2 A2 r2 m => ?_) (x.after S.bs A1)
  obtain ⟨d', hd, e', he, ⟨o1, o2⟩, m⟩ := m
  obtain ⟨fs, rfl⟩ := isOb_oD o1
  obtain ⟨a, dx, gs, rfl, g1, g2⟩ := (vw_rs A2.bs (r1.mono A2.sub) hd).oD
  have ru := vw_rs A2.bs r2 he
  have oth : OthOk K C H2 u := by
    rcases o2 with h | h
    · obtain ⟨fs', rfl⟩ := isOb_oD h
      obtain ⟨b', dy, gs', rfl, k1, k2⟩ := ru.oD
      exact .inl ⟨b', dy, gs', rfl, k1⟩
    · cases e' with
      | list es =>
        obtain ⟨b', ys, rfl, k1, k2⟩ := ru.list
        exact .inr (.inr ⟨b', ys, rfl, k1⟩)
      | tuple es =>
        obtain ⟨b', ys, rfl, k1, k2⟩ := ru.tuple
        exact .inr (.inl ⟨b', ys, rfl, k1⟩)
      | _ => cases h
  refine ⟨a, dx, gs, rfl, g1, oth, rfl, B2, α2, [d, e], _, NX, A2.bs, .cons (r1.mono A2.sub) (.cons r2 .nil), m, fun v z B3 H3 α3 A3 r3 mm => ?_, fun y B3 α3 cls d H3 A3 r3 mm => mm.elim⟩
  obtain ⟨b, rfl, mm⟩ := mm
  exact q _ _ B3 H3 α3 ((A1.trans S.bs A2).trans S.bs A3) r3 mm
section
variable {C j : Nat} {x : Str} {fm : Fm} {a b : Expr} {ma mb : ME} {pos : Pos}
theorem op_eqI {X : Cx} (I : In c N sc X) (T : ClsD c x C) (M : MtD c j C "__eq__" 1 [] fm) (hc : c.cm = true) (hk : j ≤ c.k) : OpR X (compareOp .Eq) (rOwnI c.K C (fun vs H Q E => vs.length = 2 ∧ spD c.K fm vs H Q E)) := by
  obtain ⟨f, fd, ps, dV, dvs, F, h1, h2, h3, h4, h5⟩ := M.ex
  have e0 : dvs = [] := by
    have := (h4 (fun _ => none)).length
    cases dvs with
    | nil => rfl
    | cons _ _ => simp at this
  subst e0
  cases h3
  have F' : FnOk X.prog X.w X.K X.mg X.base (L2.CX X.prog X.w) j f fd ps (fun vs H Q E => vs.length = 2 ∧ spD c.K fm vs H Q E) := by
    rw [I.P, I.w, I.K, I.mg, I.base]
    rw [show ps.length = 2 from h5] at F
    exact F
  have h := op_ownI F' (by rw [I.K]; exact h1.at_) (by rw [I.K]; exact h1.fn) (by rw [I.K]; exact h2) ((I.rm hc).mono hk) (by rw [I.K]; exact T.fList) (by rw [I.K]; exact T.fTuple)
  rw [I.K] at h
  exact h
theorem je_eqI (T : ClsD c x C) (M : MtD c j C "__eq__" 1 [] fm) (hk : j ≤ c.k) (ha : JE c N sc a ma) (hb : JE c N sc b mb) (hc : c.cm = true := by rfl) (hm : behindInMarks .Eq b = false := by rfl) : JE c N sc (.Compare a [.Eq] [b] pos) (eqIK C fm ma mb) := by
  obtain ⟨ta, p1, s1⟩ := ha
  obtain ⟨tb, p2, s2⟩ := hb
  exact ⟨fun W => tOp _ (ta W) (tb W), fun X W I TT => pe_cmpR (op_eqI I T M hc hk) (p1 X W I TT) (p2 X W I TT) hm, fun W => sd_eqI (s1 W) (s2 W)⟩
end
end Hz
namespace Hz
open PySem L2
section
variable {c : C0} {N : List Str} {sc : Scope}
def dIsT : D → D → Option D
  | .bool a, .bool b => some (.bool (decide (a = b)))
  | _, _ => none
def dIsNotT : D → D → Option D
  | .bool a, .bool b => some (.bool (!decide (a = b)))
  | _, _ => none
end
def dIndex (ds : List D) (d : D) : Option D := if okD 60 (.list ds) = true ∧ okD 60 d = true then (ds.findIdx? fun z => PyData.eqv z d).map fun j => .int (j : Nat) else none
def indexK (ma mb : ME) : ME := fun ρ α Q E => ma ρ α (fun o α1 => ∃ ds, vw α1 o = some (.list ds) ∧ mb ρ α1 (fun d α2 => ∃ ds2, vw α2 o = some (.list ds2) ∧ oq (vw α2 d) fun d' => oq (dIndex ds2 d') fun z => Q z α2) E) E
theorem je_index {c : C0} {N : List Str} {sc : Scope} {o e : Expr} {p2 p3 : Pos} {mo ma : ME} (h : JE c N sc o mo) (ha : JE c N sc e ma)
    (hbase : ∀ env, attributeBase o "index" env (eval o env) = eval o env := by intros; rfl)
    (hfew : ∀ env, ((backTo p3 (starEach [e] env)).all (fun x => !x.1) && (backToKw p3 (keywordEach [] env)).all (fun x => x.1.isSome) && decide (([e] : List Expr).length + ([] : List Keyword).length + (if ([] : List Keyword).isEmpty then 0 else 1) < 30)) = true := by intros; rfl)
    (hline : (p2.endLine == p3.line) = true := by rfl) (hs : ∀ env, starEach [e] env = (false, eval e env) :: starEach [] env := by intros; rfl) (hplain : ∀ env, (backTo p3 (starEach [] env)).any (·.1) = false := by intros; rfl) :
    JE c N sc (.Call (.Attribute o "index" p2) [e] [] p3) (indexK mo ma) := by
  obtain ⟨t, h1, h2⟩ := h
  obtain ⟨u, k1, k2⟩ := ha
  refine ⟨fun W => tBM c.K "list" (rIndexD c.K) (t W) (tCons (u W) tNil), fun X W I T => ?_, fun W B σ H ρ α S Qm Em m Q q x => ?_⟩
  · have z := pe_bm (apos := p2) (cpos := p3) PySem.F.plainAttrs_list PySem.F.slot_list_index PySem.F.type_list_index (mt_indexD (X := X) I.u65) (h1 X W I T) (pa_cons (k1 X W I T) pa_nil (hs _)) (hbase _) (hfew _) hline (hs _) (hplain _)
    rw [I.K] at z
    exact z
  · refine h2 W B σ H ρ α S _ Em m _ (fun v o' B1 H1 α1 A1 r1 m => ?_) x
    obtain ⟨ds, hv, m⟩ := m
    obtain ⟨a, xs, rfl, hs1, rr1⟩ := (vw_rs A1.bs r1 hv).list
    refine ⟨.inl ⟨rfl, _, hs1⟩, ?_⟩
    refine k2 W B1 σ H1 ρ α1 (S.step A1) _ Em m _ (fun w d B2 H2 α2 A2 r2 m => ?_) (x.after S.bs A1)
    obtain ⟨ds2, hv2, d', hd', z, hz, m⟩ := m
    unfold dIndex at hz
    split at hz
    · rename_i ok
      obtain ⟨o1, o2⟩ := ok
      cases e4 : ds2.findIdx? (fun z => PyData.eqv z d') with
      | none => simp [e4] at hz
      | some j =>
        simp [e4] at hz
        subst hz
        obtain ⟨lj, ej, nj⟩ := List.findIdx?_eq_some_iff_getElem.mp e4
        have sh1 := okD_shaped o1 (by decide)
        have sh2 := okD_shaped o2 (by decide)
        refine ⟨a, w, d', ds2, j, ds2[j], rfl, rfl, (vw_rs A2.bs (r1.mono A2.sub) hv2).rp.dp sh1.2, (vw_rs A2.bs r2 hd').rp.dp sh2.2, sh1.1, sh2.1, List.getElem?_eq_getElem lj, ej, fun m' z' hm hz' => ?_, q _ _ B2 H2 α2 (A1.trans S.bs A2) (.int _) m⟩
        have lm : m' < ds2.length := by omega
        rw [List.getElem?_eq_getElem lm] at hz'
        cases hz'
        have := nj m' hm
        simpa using this
    · cases hz
def muPopAt (ds as : List D) : Option (D × List D) := match as with
  | [.int i] => if 0 ≤ i ∧ i < ds.length ∧ ds.length ≤ 100000 then (ds[i.toNat]?).map fun d => (d, ds.eraseIdx i.toNat) else none
  | _ => none
theorem RpL.eraseIdx {K : Frag} {H : Hp} : ∀ {vs : List V} {ds : List D} (i : Nat), RpL K H vs ds → RpL K H (vs.eraseIdx i) (ds.eraseIdx i)
  | _, _, _, .nil => .nil
  | _, _, 0, .cons _ r => r
  | _, _, i + 1, .cons h r => .cons h (RpL.eraseIdx i r)
theorem mu_popAt {K : Frag} {XS : Cx → Prop} : MuD K XS "list.pop" muPopAt := ⟨_, fun X _ => mt_popAt, fun B H l vs ds us as z ds' bk bl hl r ra e Q q => by
  unfold muPopAt at e
  split at e
  · rename_i i
    split at e
    · rename_i hn
      cases e1 : ds[i.toNat]? with
      | none => simp [e1] at e
      | some d =>
        simp [e1] at e
        obtain ⟨rfl, rfl⟩ := e
        obtain ⟨v, hv, rv⟩ := r.get' e1
        cases ra with
        | cons r1 r2 =>
          cases r2
          cases r1
          refine ⟨l, vs, i, i.toNat, v, rfl, rfl, hl, by omega, by omega, ?_, hv, q _ _ (RpL.eraseIdx _ r) rv⟩
          have hl' := r.length
          unfold seqIndex?
          simp
          omega
    · cases e
  · cases e⟩
end Hz
namespace Hz
open PySem L2
def it2 (b : Bool) (A B : Prop) : Prop := (b = true → A) ∧ (b = false → B)
def tb (d : D) (R : Bool → Prop) : Prop := ∃ b, d = .bool b ∧ R b
def ti (d : D) (R : Int → Prop) : Prop := ∃ b, d = .int b ∧ R b
def ts (d : D) (R : Str → Prop) : Prop := ∃ b, d = .str b ∧ R b
def cal (np : Nat) (fm : Fm) (as : List D) (ds : List D) (α : AH) (Q : QD) (E : QX) : Prop := as.length = np ∧ fm (as ++ ds) α Q E
def pr2 (ds : List D) (R : D → D → Prop) : Prop := ∃ d e, ds = [d, e] ∧ R d e
theorem pr2_of {d e : D} {R : D → D → Prop} (h : R d e) : pr2 [d, e] R := ⟨d, e, rfl, h⟩
def lenOk (ds : List D) (P : Prop) : Prop := ds.length ≤ 100000 ∧ P
theorem lok {ds : List D} {P : Prop} (e : decide (ds.length ≤ 100000) = true) (h : P) : lenOk ds P := ⟨of_decide_eq_true e, h⟩
section
variable {A B : Prop} {b : Bool} {p : Prop} {RB : Bool → Prop}
theorem tb_b (h : RB b) : tb (.bool b) RB := ⟨b, rfl, h⟩
theorem ti_b {R : Int → Prop} {b} (h : R b) : ti (.int b) R := ⟨b, rfl, h⟩
theorem ts_b {R : Str → Prop} {b} (h : R b) : ts (.str b) R := ⟨b, rfl, h⟩
theorem it2_dec [Decidable p] (h : p → A) (k : ¬ p → B) : it2 (decide p) A B := ⟨fun e => h (of_decide_eq_true e), fun e => k (of_decide_eq_false e)⟩
theorem it2_t (h : A) : it2 true A B := ⟨fun _ => h, fun e => (nomatch e)⟩
theorem it2_f (h : B) : it2 false A B := ⟨fun e => (nomatch e), fun _ => h⟩
theorem it2_not (h : it2 b B A) : it2 (!b) A B := by
  cases b with
  | false => exact it2_t (h.2 rfl)
  | true => exact it2_f (h.1 rfl)
theorem oq_id {α : Type} {o : Option α} {Q : α → Prop} (h : oq o Q) : oq o Q := h
theorem oq_some {α : Type} {z : α} {Q : α → Prop} (h : Q z) : oq (some z) Q := ⟨z, rfl, h⟩
theorem oq_of {α : Type} {o : Option α} {z : α} {Q : α → Prop} (e : o = some z) (h : Q z) : oq o Q := ⟨z, e, h⟩
end
section
variable {ρ ρ' : En} {α α' : AH} {Q : QD} {QB : Bool → AH → Prop} {QL : List D → AH → Prop} {QO : Option Int → AH → Prop} {E : QX} {D' : Md} {d e : D} {i j : Nat} {ma mb md : ME} {mt mt2 : MT} {ml : ML} {m1 m2 : MS} {g g' : D → D → Option D} {f : List D → Option D} {fm : Fm} {tg : D → En → Option En} {G : AH → Prop}
def we (Q : QD) (E : QX) : Md := { nx := fun _ α' => Q .none α', rt := Q, bk := fun _ _ => False, ct := fun _ _ => False, ex := fun x _ α' => E x α' }
theorem we_nx (h : Q .none α) : (we Q E).nx ρ α := h
theorem we_rt (h : Q d α) : (we Q E).rt d α := h
theorem we_ex {y : Ex} (h : E y α) : (we Q E).ex y ρ α := h
def wn (D : Md) (n : En → AH → Prop) : Md := { D with nx := n }
def wl (D : Md) (n : En → AH → Prop) : Md := { D with nx := n, ct := n, bk := D.nx }
def wx (D : Md) (x : Ex → En → AH → Prop) : Md := { D with ex := x }
def wh (D : Md) (i : Nat) : Md := { nx := fun ρ2 α2 => D.nx (ρ2.set i none) α2, rt := D.rt, bk := fun ρ2 α2 => D.bk (ρ2.set i none) α2, ct := fun ρ2 α2 => D.ct (ρ2.set i none) α2, ex := fun _ _ _ => False }
section
variable {n : En → AH → Prop} {x : Ex → En → AH → Prop} {y : Ex}
theorem wn_nx (h : n ρ α) : (wn D' n).nx ρ α := h
theorem wn_rt (h : D'.rt d α) : (wn D' n).rt d α := h
theorem wn_bk (h : D'.bk ρ α) : (wn D' n).bk ρ α := h
theorem wn_ct (h : D'.ct ρ α) : (wn D' n).ct ρ α := h
theorem wn_ex (h : D'.ex y ρ α) : (wn D' n).ex y ρ α := h
theorem wl_nx (h : n ρ α) : (wl D' n).nx ρ α := h
theorem wl_rt (h : D'.rt d α) : (wl D' n).rt d α := h
theorem wl_bk (h : D'.nx ρ α) : (wl D' n).bk ρ α := h
theorem wl_ct (h : n ρ α) : (wl D' n).ct ρ α := h
theorem wl_ex (h : D'.ex y ρ α) : (wl D' n).ex y ρ α := h
theorem wx_nx (h : D'.nx ρ α) : (wx D' x).nx ρ α := h
theorem wx_rt (h : D'.rt d α) : (wx D' x).rt d α := h
theorem wx_bk (h : D'.bk ρ α) : (wx D' x).bk ρ α := h
theorem wx_ct (h : D'.ct ρ α) : (wx D' x).ct ρ α := h
theorem wx_ex (h : x y ρ α) : (wx D' x).ex y ρ α := h
theorem wh_nx {i : Nat} (h : D'.nx (ρ.set i none) α) : (wh D' i).nx ρ α := h
theorem wh_rt {i : Nat} (h : D'.rt d α) : (wh D' i).rt d α := h
theorem wh_bk {i : Nat} (h : D'.bk (ρ.set i none) α) : (wh D' i).bk ρ α := h
theorem wh_ct {i : Nat} (h : D'.ct (ρ.set i none) α) : (wh D' i).ct ρ α := h
end
theorem w_kC (h : Q d α) : kC d ρ α Q E := h
theorem w_kV (e : ρ[i]? = some (some d)) (h : Q d α) : kV i ρ α Q E := ⟨d, e, h⟩
theorem w_new (h : ma ρ α (fun c α1 => ∀ p, α1 p = none → Q (dref p) (aset α1 p c)) E) : newK ma ρ α Q E := h
theorem w_frz (h : ma ρ α (fun d α1 => ∃ p c, d = dref p ∧ α1 p = some c ∧ Q c (adel α1 p)) E) : frzK ma ρ α Q E := h
theorem fr_of {p : Addr} {c : D} {α1 : AH} {R : D → AH → Prop} (e : α1 p = some c) (h : R c (adel α1 p)) : ∃ p' c', dref p = dref p' ∧ α1 p' = some c' ∧ R c' (adel α1 p') := ⟨p, c, rfl, e, h⟩
theorem w_bop (h : ma ρ α (fun d α1 => mb ρ α1 (fun e α2 => oq (vw α2 d) fun d' => oq (vw α2 e) fun e' => oq (g d' e') fun z => Q z α2) E) E) : bop g ma mb ρ α Q E := h
theorem w_tst (h : ma ρ α (fun d α1 => tb d fun b => QB b α1) E) : tst ma ρ α QB E := h
theorem w_val (h : mt ρ α (fun b α1 => Q (.bool b) α1) E) : valK mt ρ α Q E := h
theorem w_not (h : mt ρ α (fun b α1 => QB (!b) α1) E) : notK mt ρ α QB E := h
theorem it2_eq {b : Bool} {A B : Prop} : it2 b A B = (if b = true then A else B) := by
  cases b
  · exact propext ⟨fun h => h.2 rfl, fun h => it2_f h⟩
  · exact propext ⟨fun h => h.1 rfl, fun h => it2_t h⟩
theorem w_and (h : mt ρ α (fun b α1 => it2 b (mt2 ρ α1 QB E) (QB false α1)) E) : andK mt mt2 ρ α QB E := by
  simp only [it2_eq] at h
  exact h
theorem w_or (h : mt ρ α (fun b α1 => it2 b (QB true α1) (mt2 ρ α1 QB E)) E) : orK mt mt2 ρ α QB E := by
  simp only [it2_eq] at h
  exact h
theorem w_andV (h : mt ρ α (fun b α1 => it2 b (mb ρ α1 Q E) (Q (.bool false) α1)) E) : andV mt mb ρ α Q E := by
  simp only [it2_eq] at h
  exact h
theorem w_orV (h : mt ρ α (fun b α1 => it2 b (Q (.bool true) α1) (mb ρ α1 Q E)) E) : orV mt mb ρ α Q E := by
  simp only [it2_eq] at h
  exact h
theorem w_ifK (h : mt ρ α (fun b α1 => it2 b (ma ρ α1 Q E) (mb ρ α1 Q E)) E) : ifK mt ma mb ρ α Q E := by
  simp only [it2_eq] at h
  exact h
theorem w_chain (h : ma ρ α (fun d α1 => mb ρ α1 (fun e α2 => oq (g d e) fun z => tb z fun b => it2 b (md ρ α2 (fun f α3 => oq (g' e f) fun z' => Q z' α3) E) (Q (.bool false) α2)) E) E) : chainK g g' ma mb md ρ α Q E := by
  simp only [it2_eq] at h
  exact h
theorem w_nil (h : QL [] α) : nilK ρ α QL E := h
theorem w_cons (h : ma ρ α (fun d α1 => ml ρ α1 (fun ds α2 => QL (d :: ds) α2) E) E) : consK ma ml ρ α QL E := h
theorem w_tup (h : ml ρ α (fun ds α1 => lenOk ds (Q (.tuple ds) α1)) E) : tupK ml ρ α Q E := h
theorem w_lst (h : ml ρ α (fun ds α1 => lenOk ds (Q (.list ds) α1)) E) : lstK ml ρ α Q E := h
theorem w_call {np : Nat} {ds : List D} (h : ml ρ α (fun as α1 => cal np fm as ds α1 Q E) E) : callN np fm ds ml ρ α Q E := h
theorem cal_of {np : Nat} {as ds : List D} (e : as.length = np) (h : fm (as ++ ds) α Q E) : cal np fm as ds α Q E := ⟨e, h⟩
theorem w_neg (h : ma ρ α (fun d α1 => ti d fun i => Q (.int (-i)) α1) E) : negK ma ρ α Q E := h
theorem w_b1 (h : ma ρ α (fun d α1 => oq (vw α1 d) fun d' => oq (f [d']) fun z => Q z α1) E) : b1K f ma ρ α Q E := h
theorem w_bn (h : ml ρ α (fun ds α1 => oq (mapV α1 ds) fun es => oq (f es) fun z => Q z α1) E) : bnK f ml ρ α Q E := h
theorem w_isi {T : String} (h : ma ρ α (fun d α1 => oq (vw α1 d) fun d' => oq (isiB T d') fun b => Q (.bool b) α1) E) : isiK T ma ρ α Q E := h
theorem w_met {f : Str → List D → Option D} (h : ma ρ α (fun o α1 => ts o fun x => ml ρ α1 (fun ds α2 => oq (mapV α2 ds) fun es => oq (f x es) fun z => Q z α2) E) E) : metK f ma ml ρ α Q E := h
theorem w_pnone (h : QO none α) : pnone ρ α QO E := h
theorem w_psome (h : ma ρ α (fun d α1 => ti d fun i => QO (some i) α1) E) : psome ma ρ α QO E := h
theorem w_cut {mlo mhi : MP} (h : ma ρ α (fun d α1 => mlo ρ α1 (fun l α2 => mhi ρ α2 (fun h α3 => oq (vw α3 d) fun d' => oq (dCut d' l h) fun z => Q z α3) E) E) E) : cutK ma mlo mhi ρ α Q E := h
theorem w_yes (h : QB true α) : yesK ρ α QB E := h
def cel (α : AH) (o : D) (Q : Addr → List D → Prop) : Prop := cellL α o Q
theorem cel_of {p : Addr} {ds : List D} {R : Addr → List D → Prop} (e : α p = some (.list ds)) (h : R p ds) : cel α (dref p) R := ⟨p, ds, rfl, e, h⟩
theorem w_mut {fu : List D → List D → Option (D × List D)} (h : ma ρ α (fun o α1 => cel α1 o fun _ _ => ml ρ α1 (fun as α2 => cel α2 o fun a ds => oq (fu ds as) fun z => Q z.1 (aset α2 a (.list z.2))) E) E) : mutK fu ma ml ρ α Q E := h
def exD (P : Option D) (R : List D → Prop) : Prop := ∃ es, P = some (.list es) ∧ R es
theorem w_ext (h : ma ρ α (fun o α1 => cel α1 o fun _ _ => mb ρ α1 (fun e α2 => cel α2 o fun a ds => exD (vw α2 e) fun es => ds.length + es.length ≤ 100000 ∧ Q .none (aset α2 a (.list (ds ++ es)))) E) E) : extK ma mb ρ α Q E := h
theorem w_fld {C : Nat} {f : Str} (h : ma ρ α (fun d α1 => oq (vw α1 d) fun o => oq (fldD C f o) fun z => Q z α1) E) : fldK C f ma ρ α Q E := h
theorem w_meth {C np : Nat} {m : Str} {ds : List D} (h : ma ρ α (fun o α1 => oq (vw α1 o) fun od => noF C m od = true ∧ ml ρ α1 (fun as α2 => cal np (fun xs => fm (o :: xs)) as ds α2 Q E) E) E) : methK C m np fm ds ma ml ρ α Q E := h
theorem w_mk {C np : Nat} {ds : List D} (h : ml ρ α (fun as α1 => as.length = np ∧ ∀ p, α1 p = none → fm (dref p :: (as ++ ds)) (aset α1 p (oD C [])) (fun v α2 => v = .none ∧ Q (dref p) α2) E) E) : mkK C np fm ds ml ρ α Q E := h
section
variable {QI : List D → (AH → Prop) → AH → Prop}
def tlG (α1 : AH) (d : D) (QI : List D → (AH → Prop) → AH → Prop) : Prop := ∃ ds, vw α1 d = some (.list ds) ∧ QI ds (fun α' => vw α' d = some (.list ds)) α1
theorem tlG_l {ds : List D} (h : QI ds (fun _ => True) α) : tlG α (.list ds) QI := by
  refine ⟨ds, rfl, ?_⟩
  have e : (fun α' : AH => vw α' (.list ds) = some (.list ds)) = fun _ => True := funext fun a => propext ⟨fun _ => trivial, fun _ => rfl⟩
  rw [e]
  exact h
theorem tlG_r {p : Addr} {ds : List D} (e : α p = some (.list ds)) (h : QI ds (fun α' => vw α' (dref p) = some (.list ds)) α) : tlG α (dref p) QI := ⟨ds, e, h⟩
theorem w_list (h : ma ρ α (fun d α1 => tlG α1 d QI) E) : listK ma ρ α QI E := h
def ttG (α1 : AH) (d : D) (QI : List D → (AH → Prop) → AH → Prop) : Prop := ∃ ds, d = .tuple ds ∧ QI ds (fun _ => True) α1
theorem ttG_t {ds : List D} (h : QI ds (fun _ => True) α) : ttG α (.tuple ds) QI := ⟨ds, rfl, h⟩
theorem w_tuple (h : ma ρ α (fun d α1 => ttG α1 d QI) E) : tupleK ma ρ α QI E := h
theorem w_str (h : ma ρ α (fun d α1 => ts d fun x => QI (x.cps.toList.map fun k => .str ⟨#[k]⟩) (fun _ => True) α1) E) : strK ma ρ α QI E := h
def rg1 (ds : List D) (R : List D → Prop) : Prop := ∃ n : Int, ds = [.int n] ∧ (-(2 ^ 62) ≤ n ∧ n < 2 ^ 62) ∧ R (nums 0 n.toNat)
theorem rg1_of {n : Int} {R : List D → Prop} (e : -(2 ^ 62) ≤ n ∧ n < 2 ^ 62) (h : R (nums 0 n.toNat)) : rg1 [.int n] R := ⟨n, rfl, e, h⟩
theorem w_range1 (h : ml ρ α (fun ds α1 => rg1 ds fun xs => QI xs (fun _ => True) α1) E) : rangeK1 ml ρ α QI E := h
def rg2 (ds : List D) (R : List D → Prop) : Prop := ∃ a b : Int, ds = [.int a, .int b] ∧ (-(2 ^ 62) ≤ a ∧ a < 2 ^ 62 ∧ -(2 ^ 62) ≤ b ∧ b < 2 ^ 62) ∧ R (nums a (b - a).toNat)
theorem rg2_of {a b : Int} {R : List D → Prop} (e : -(2 ^ 62) ≤ a ∧ a < 2 ^ 62 ∧ -(2 ^ 62) ≤ b ∧ b < 2 ^ 62) (h : R (nums a (b - a).toNat)) : rg2 [.int a, .int b] R := ⟨a, b, rfl, e, h⟩
theorem w_range2 (h : ml ρ α (fun ds α1 => rg2 ds fun xs => QI xs (fun _ => True) α1) E) : rangeK2 ml ρ α QI E := h
def rg3 (ds : List D) (R : List D → Prop) : Prop := ∃ i j k : Int, ds = [.int i, .int j, .int k] ∧ (k ≠ 0 ∧ k.natAbs < 1073741824 ∧ Builtin.Range.small i j k = true) ∧ R (numsC i k (Builtin.Range.rangeSize i j k).toNat)
theorem w_range3 (h : ml ρ α (fun ds α1 => rg3 ds fun xs => QI xs (fun _ => True) α1) E) : rangeK3 ml ρ α QI E := h
end
theorem oq_isiB {T : String} {b : Bool} {R : Bool → Prop} (e : isiB T d = some b) (h : R b) : oq (isiB T d) R := ⟨b, e, h⟩
theorem w_tryA {exm : Nat → Option Bool} {mb : MS} {ms : Nat → Nat → Nat → MS} (h : mb ρ α (wx D' fun x ρ' α' => oq (exm x.C) fun b => it2 b (∀ a dx, ms a dx x.C (ρ'.set i (some (excD a dx x.C x.fs))) α' (wh D' i)) (D'.ex x ρ' α'))) : tryA i exm mb ms ρ α D' := by
  simp only [it2_eq, wx, wh] at h
  exact h
theorem w_try {exm : Nat → Option Bool} {mb ms : MS} (h : mb ρ α (wx D' fun x ρ' α' => oq (exm x.C) fun b => it2 b (ms ρ' α' (wx D' fun _ _ _ => False)) (D'.ex x ρ' α'))) : tryS exm mb ms ρ α D' := by
  simp only [it2_eq, wx] at h
  exact h
theorem w_xi {isX : Nat → Bool} {tab : Nat → Option Bool} {a dx C : Nat} {b : Bool} {ds : List (D × D)} (e : ρ[i]? = some (some (excD a dx C ds))) (h1 : isX C = true) (h2 : tab C = some b) (h : Q (.bool b) α) : kXi i isX tab a dx C ρ α Q E := ⟨ds, b, e, h1, h2, h⟩
theorem w_xf {isX : Nat → Bool} {f : Str} {a dx C : Nat} {ds : List (D × D)} (e : ρ[i]? = some (some (excD a dx C ds))) (h1 : isX C = true) (h2 : lookF f ds = some d) (h : Q d α) : kXf i f isX a dx C ρ α Q E := ⟨ds, d, e, h1, h2, h⟩
theorem w_seq (h : m1 ρ α (wn D' fun ρ1 α1 => m2 ρ1 α1 D')) : seqS m1 m2 ρ α D' := h
theorem w_seqI (I : En → AH → Prop) (h2 : ∀ ρ α, I ρ α → m2 ρ α D') (h1 : ∀ X : En → AH → Prop, (∀ ρ α, I ρ α → X ρ α) → m1 ρ α (wn D' X)) : seqS m1 m2 ρ α D' := h1 _ h2
def bar (f : En → AH → Prop) : En → AH → Prop := f
theorem bar_of {f : En → AH → Prop} (h : f ρ α) : bar f ρ α := h
theorem w_seqB (h : m1 ρ α (wn D' (bar fun ρ1 α1 => m2 ρ1 α1 D'))) : seqS m1 m2 ρ α D' := h
theorem w_next (h : D'.nx ρ α) : nextS ρ α D' := h
theorem w_break (h : D'.bk ρ α) : breakS ρ α D' := h
theorem w_cont (h : D'.ct ρ α) : contS ρ α D' := h
theorem w_drop (h : ma ρ α (fun _ α1 => D'.nx ρ α1) (fun x α1 => D'.ex x ρ α1)) : dropS ma ρ α D' := h
theorem w_ret (h : ma ρ α (fun d α1 => D'.rt d α1) (fun x α1 => D'.ex x ρ α1)) : retS ma ρ α D' := h
theorem w_retN (h : D'.rt .none α) : retN ρ α D' := h
theorem w_if (h : mt ρ α (fun b α1 => it2 b (m1 ρ α1 D') (m2 ρ α1 D')) (fun x α1 => D'.ex x ρ α1)) : ifS mt m1 m2 ρ α D' := by
  simp only [it2_eq] at h
  exact h
theorem w_asg (h : ma ρ α (fun d α1 => oq (tg d ρ) fun ρ1 => D'.nx ρ1 α1) (fun x α1 => D'.ex x ρ α1)) : asgS ma tg ρ α D' := h
theorem oq_setv {R : En → Prop} (h : R (ρ.set i (some d))) : oq (setv i d ρ) R := ⟨_, rfl, h⟩
theorem oq_setv2 {R : En → Prop} (e : ρ.set i (some d) = ρ') (h : R ρ') : oq (setv i d ρ) R := ⟨_, rfl, by rw [e]; exact h⟩
theorem oq_tgNil {R : En → Prop} (h : R ρ) : oq (tgNil [] ρ) R := ⟨_, rfl, h⟩
theorem oq_tgCons {mh : D → En → Option En} {mr : List D → En → Option En} {ds : List D} {R : En → Prop} (h : oq (mh d ρ) fun ρ1 => oq (mr ds ρ1) R) : oq (tgCons mh mr (d :: ds) ρ) R := by
  obtain ⟨r1, e1, r2, e2, q⟩ := h
  exact ⟨r2, by show (mh d ρ).bind (mr ds) = _; simp [e1, e2], q⟩
theorem oq_tgTup {mr : List D → En → Option En} {n : Nat} {ds : List D} {R : En → Prop} (e : ds.length = n) (h : oq (mr ds ρ) R) : oq (tgTup n mr (.tuple ds) ρ) R := by
  obtain ⟨r1, e1, q⟩ := h
  exact ⟨r1, by show (if ds.length = n then mr ds ρ else none) = _; rw [if_pos e, e1], q⟩
theorem w_frzS {p : Addr} {c : D} (e : ρ[i]? = some (some (dref p))) (e2 : α p = some c) (h : m1 (ρ.set i (some c)) (adel α p) D') : frzS i m1 ρ α D' := ⟨p, c, e, e2, h⟩
theorem w_aug {d0 : D} (e0 : ρ[i]? = some (some d0)) (h : ma ρ α (fun e α1 => oq (g d0 e) fun z => D'.nx (ρ.set i (some z)) α1) (fun x α1 => D'.ex x ρ α1)) : augS g i ma ρ α D' := ⟨d0, e0, h⟩
theorem w_seti (h : ma ρ α (fun d α1 => mb ρ α1 (fun o α2 => md ρ α2 (fun k α3 => cel α3 o fun a ds => ti k fun i => oq (ixN ds.length i) fun j => D'.nx ρ (aset α3 a (.list (ds.set j d)))) (fun x α1 => D'.ex x ρ α1)) (fun x α1 => D'.ex x ρ α1)) (fun x α1 => D'.ex x ρ α1)) : setiS ma mb md ρ α D' := h
def ceo (C : Nat) (α : AH) (o : D) (Q : Addr → List (D × D) → Prop) : Prop := cellO C α o Q
theorem ceo_of {C : Nat} {p : Addr} {fs : List (D × D)} {R : Addr → List (D × D) → Prop} (e : α p = some (oD C fs)) (h : R p fs) : ceo C α (dref p) R := ⟨p, fs, rfl, e, h⟩
theorem w_seta {C : Nat} {f : Str} (h : ma ρ α (fun d α1 => mb ρ α1 (fun o α2 => ceo C α2 o fun a fs => fs.length < 900 ∧ D'.nx ρ (aset α2 a (oD C (putD f d fs)))) (fun x α1 => D'.ex x ρ α1)) (fun x α1 => D'.ex x ρ α1)) : setaS C f ma mb ρ α D' := h
theorem w_auga {C : Nat} {f : Str} (h : ma ρ α (fun o α1 => ceo C α1 o fun _ fs0 => oq (lookF f fs0) fun d => mb ρ α1 (fun e α2 => oq (g d e) fun z => ceo C α2 o fun a fs => fs.length < 900 ∧ D'.nx ρ (aset α2 a (oD C (putD f z fs)))) (fun x α1 => D'.ex x ρ α1)) (fun x α1 => D'.ex x ρ α1)) : augaS C f g ma mb ρ α D' := h
theorem w_raise {C : Nat} (h : ma ρ α (fun d α1 => D'.ex ⟨C, [(.str "place", d)]⟩ ρ α1) (fun x α1 => D'.ex x ρ α1)) : raiseS C ma ρ α D' := h
theorem w_for {mi : MI} {mb : MS} (h : mi ρ α (fun ds G α1 => forD tg mb G D' ds ρ α1) (fun x α1 => D'.ex x ρ α1)) : forS mi tg mb ρ α D' := h
theorem for_inv {mb : MS} {ds : List D} (I : List D → En → AH → Prop) (h0 : I ds ρ α) (hG : ∀ ds ρ α, I ds ρ α → G α) (h2 : ∀ ρ α, I [] ρ α → D'.nx ρ α)
    (h1 : ∀ d ds ρ α, I (d :: ds) ρ α → ∀ X : En → AH → Prop, (∀ ρ α, I ds ρ α → X ρ α) → oq (tg d ρ) fun ρ1 => mb ρ1 α (wl D' X)) : forD tg mb G D' ds ρ α := by
  induction ds generalizing ρ α with
  | nil => exact ⟨hG _ _ _ h0, h2 _ _ h0⟩
  | cons d ds ih => exact ⟨hG _ _ _ h0, h1 d ds ρ α h0 _ fun ρ α q => ih q⟩
theorem for_nums {mb : MS} {n : Nat} {lo : Int} (I : Nat → En → AH → Prop) (h0 : I 0 ρ α) (h2 : ∀ ρ α, I n ρ α → D'.nx ρ α)
    (h1 : ∀ k, k < n → ∀ ρ α, I k ρ α → ∀ X : En → AH → Prop, (∀ ρ α, I (k + 1) ρ α → X ρ α) → oq (tg (.int (lo + (k : Nat))) ρ) fun ρ1 => mb ρ1 α (wl D' X)) : forD tg mb (fun _ => True) D' (nums lo n) ρ α := by
  refine for_inv (fun r ρ α => ∃ m k : Nat, k + m = n ∧ r = nums (lo + (k : Nat)) m ∧ I k ρ α) ⟨n, 0, by omega, by simp, h0⟩ (fun _ _ _ _ => trivial) ?_ ?_
  · rintro ρ α ⟨m, k, e1, e2, i⟩
    cases m with
    | zero =>
      obtain rfl : k = n := by omega
      exact h2 _ _ i
    | succ m => simp [nums] at e2
  · rintro d ds ρ α ⟨m, k, e1, e2, i⟩ X hX
    cases m with
    | zero => simp [nums] at e2
    | succ m =>
      obtain ⟨rfl, rfl⟩ := List.cons.inj e2
      refine h1 k (by omega) _ _ i X fun ρ α i => hX _ _ ⟨m, k + 1, by omega, ?_, i⟩
      congr 1
      omega
theorem for_map {β : Type} {mb : MS} {xs : List β} {u : β → D} {ds : List D} (e : ds = xs.map u) (I : Nat → En → AH → Prop) (h0 : I 0 ρ α) (h2 : ∀ ρ α, I xs.length ρ α → D'.nx ρ α)
    (h1 : ∀ k (hk : k < xs.length), ∀ ρ α, I k ρ α → ∀ X : En → AH → Prop, (∀ ρ α, I (k + 1) ρ α → X ρ α) → oq (tg (u xs[k]) ρ) fun ρ1 => mb ρ1 α (wl D' X)) : forD tg mb (fun _ => True) D' ds ρ α := by
  subst e
  refine for_inv (fun r ρ α => ∃ k : Nat, k ≤ xs.length ∧ r = (xs.drop k).map u ∧ I k ρ α) ⟨0, by omega, by simp, h0⟩ (fun _ _ _ _ => trivial) ?_ ?_
  · rintro ρ α ⟨k, e1, e2, i⟩
    have : k = xs.length := by
      have := congrArg List.length e2
      simp at this
      omega
    subst this
    exact h2 _ _ i
  · rintro d ds ρ α ⟨k, e1, e2, i⟩ X hX
    have hk : k < xs.length := by
      have := congrArg List.length e2
      simp at this
      omega
    rw [List.drop_eq_getElem_cons hk, List.map_cons] at e2
    obtain ⟨rfl, rfl⟩ := List.cons.inj e2
    exact h1 k hk _ _ i X fun ρ α i => hX _ _ ⟨k + 1, by omega, rfl, i⟩
theorem w_par {i j : Nat} (h : ml ρ α (fun ds α1 => pr2 ds fun d e => D'.nx ((ρ.set i (some d)).set j (some e)) α1) (fun x α1 => D'.ex x ρ α1)) : parS i j ml ρ α D' := h
theorem fd_nil {mb : MS} (hG : G α) (h : D'.nx ρ α) : forD tg mb G D' [] ρ α := ⟨hG, h⟩
theorem fd_cons {mb : MS} {ds : List D} (hG : G α) (h : oq (tg d ρ) fun ρ1 => mb ρ1 α (wl D' fun ρ2 α2 => forD tg mb G D' ds ρ2 α2)) : forD tg mb G D' (d :: ds) ρ α := ⟨hG, h⟩
theorem w_while {mb : MS} (V : Nat → En → AH → Prop) (n : Nat) (h0 : V n ρ α) (h : ∀ m ρ α, V m ρ α → ∀ X : En → AH → Prop, (∀ m' ρ α, m' < m → V m' ρ α → X ρ α) → mt ρ α (fun b α1 => it2 b (mb ρ α1 (wl D' X)) (D'.nx ρ α1)) (fun x α1 => D'.ex x ρ α1)) : whileS mt mb ρ α D' := by
  refine ⟨V, ⟨n, h0⟩, fun m ρ α v => ?_⟩
  have := h m ρ α v (fun ρ2 α2 => ∃ m', m' < m ∧ V m' ρ2 α2) fun m' ρ α l v => ⟨m', l, v⟩
  simp only [it2_eq] at this
  exact this
theorem w_lc {vs : List Nat} {mi : MI} (h : mi ρ α (fun ds G α1 => lcD vs tg mt ma G ρ Q ds [] α1) E) : lcK vs mi tg mt ma ρ α Q E := h
theorem lc_inv {vs : List Nat} {ds acc : List D} (I : List D → List D → AH → Prop) (h0 : I ds acc α) (hG : ∀ ds acc α, I ds acc α → G α) (h2 : ∀ acc α, I [] acc α → Q (.list acc) α)
    (h1 : ∀ d ds acc α, I (d :: ds) acc α → ∀ X : List D → AH → Prop, (∀ acc α, I ds acc α → X acc α) → oq (tg d (wipeA ρ vs)) fun ρ1 => mt ρ1 α (fun b α1 => it2 b (ma ρ1 α1 (fun y α2 => acc.length < 100000 ∧ X (acc ++ [y]) α2) NX) (X acc α1)) NX) : lcD vs tg mt ma G ρ Q ds acc α := by
  induction ds generalizing acc α with
  | nil => exact ⟨hG _ _ _ h0, h2 _ _ h0⟩
  | cons d ds ih =>
    refine ⟨hG _ _ _ h0, ?_⟩
    have := h1 d ds acc α h0 (fun acc α => lcD vs tg mt ma G ρ Q ds acc α) fun acc α q => ih q
    simp only [it2_eq] at this
    exact this
/-- a comprehension whose test and element leave the cells alone -/
theorem lc_fm {β : Type} {vs : List Nat} (xs : List β) (u : β → D) (p : β → Bool) (g : β → D) {ds : List D} (hds : ds = xs.map u) (hl : xs.length ≤ 100000) (hG : G α)
    (h : ∀ x, x ∈ xs → oq (tg (u x) (wipeA ρ vs)) fun ρ1 => (∀ R : Bool → AH → Prop, R (p x) α → mt ρ1 α R NX) ∧ (p x = true → ∀ R : D → AH → Prop, R (g x) α → ma ρ1 α R NX)) (q : Q (.list ((xs.filter p).map g)) α) : lcD vs tg mt ma G ρ Q ds [] α := by
  refine lc_inv (fun r acc α' => α' = α ∧ ∃ as bs, xs = as ++ bs ∧ acc = (as.filter p).map g ∧ r = bs.map u) ⟨rfl, [], xs, rfl, rfl, hds⟩ (fun _ _ _ e => e.1 ▸ hG) ?_ ?_
  · rintro acc α' ⟨rfl, as, bs, e, rfl, e2⟩
    cases bs with
    | nil =>
      simp at e
      rw [← e]
      exact q
    | cons b bs => simp at e2
  · rintro d r acc α' ⟨rfl, as, bs, e, rfl, e2⟩ X hX
    cases bs with
    | nil => simp at e2
    | cons b bs =>
      simp at e2
      obtain ⟨rfl, rfl⟩ := e2
      obtain ⟨ρ2, e3, g1, g2⟩ := h b (by rw [e]; simp)
      refine ⟨ρ2, e3, g1 _ ⟨fun t => g2 t _ ⟨?_, hX _ _ ⟨rfl, as ++ [b], bs, by simp [e], by simp [t], rfl⟩⟩, fun t => hX _ _ ⟨rfl, as ++ [b], bs, by simp [e], by simp [t], rfl⟩⟩⟩
      have := congrArg List.length e
      have := List.length_filter_le p as
      simp at *
      omega
theorem lc_map {β : Type} {vs : List Nat} (xs : List β) (u : β → D) (g : β → D) {ds : List D} (hds : ds = xs.map u) (hl : xs.length ≤ 100000) (hG : G α)
    (h : ∀ x, x ∈ xs → oq (tg (u x) (wipeA ρ vs)) fun ρ1 => ∀ R : D → AH → Prop, R (g x) α → ma ρ1 α R NX) (q : Q (.list (xs.map g)) α) : lcD vs tg yesK ma G ρ Q ds [] α := by
  refine lc_fm xs u (fun _ => true) g hds hl hG (fun x hx => ?_) (by rw [List.filter_eq_self.mpr (by simp)]; exact q)
  obtain ⟨ρ1, e, k⟩ := h x hx
  exact ⟨ρ1, e, fun R r => r, fun _ R r => k R r⟩
theorem w_runF {p n : Nat} {ds : List D} (hl : ds.length = p) (h : m1 (ds.map some ++ List.replicate (n - p) none) α (we Q E)) : runF p n m1 ds α Q E := ⟨hl, h⟩
theorem w_runP {p n : Nat} {ds : List D} (hl : ds.length = p) (h : m1 (ds.map some ++ List.replicate (n - p) none) α (we (fun d α' => Q d (arst α α')) (fun x α' => E x (arst α α')))) : runP p n m1 ds α Q E := ⟨hl, h⟩
/-- it answers d, leaving the cells -/
def pu (f : Fm) (ds : List D) (d : D) : Prop := ∀ (α : AH) (Q : QD) (E : QX), Q d α → f ds α Q E
/-- it raises x, leaving the cells -/
def px (f : Fm) (ds : List D) (x : Ex) : Prop := ∀ (α : AH) (Q : QD) (E : QX), E x α → f ds α Q E
theorem pu_P {p n : Nat} {ds : List D} (hl : ds.length = p) (h : ∀ (α : AH) (R : QD) (X : QX), R d α → m1 (ds.map some ++ List.replicate (n - p) none) α (we R X)) : pu (runP p n m1) ds d := fun α Q E q =>
  w_runP hl (h α (fun d α' => Q d (arst α α')) (fun x α' => E x (arst α α')) (by rw [arst_self]; exact q))
theorem pu.go {ds : List D} (P : pu fm ds d) (h : Q d α) : fm ds α Q E := P α Q E h
theorem px.go {ds : List D} {x : Ex} (P : px fm ds x) (h : E x α) : fm ds α Q E := P α Q E h
theorem vw_i {R : D → Prop} {i : Int} (h : R (.int i)) : oq (vw α (.int i)) R := ⟨_, rfl, h⟩
theorem vw_s {R : D → Prop} {i : Str} (h : R (.str i)) : oq (vw α (.str i)) R := ⟨_, rfl, h⟩
theorem vw_b {R : D → Prop} {i : Bool} (h : R (.bool i)) : oq (vw α (.bool i)) R := ⟨_, rfl, h⟩
theorem vw_n {R : D → Prop} (h : R .none) : oq (vw α .none) R := ⟨_, rfl, h⟩
theorem vw_l {R : D → Prop} {i : List D} (h : R (.list i)) : oq (vw α (.list i)) R := ⟨_, rfl, h⟩
theorem vw_t {R : D → Prop} {i : List D} (h : R (.tuple i)) : oq (vw α (.tuple i)) R := ⟨_, rfl, h⟩
theorem vw_sc {R : D → Prop} {i : List Int} (h : R (scriptD i)) : oq (vw α (scriptD i)) R := ⟨_, rfl, h⟩
theorem vw_o {R : D → Prop} {C : Nat} {i : List (D × D)} (h : R (oD C i)) : oq (vw α (oD C i)) R := ⟨_, rfl, h⟩
theorem vw_r {R : D → Prop} {p : Addr} {c : D} (e : α p = some c) (h : R c) : oq (vw α (dref p)) R := ⟨_, e, h⟩
theorem mv_nil {R : List D → Prop} (h : R []) : oq (mapV α []) R := ⟨_, rfl, h⟩
theorem mv_cons {R : List D → Prop} {ds : List D} (h : oq (vw α d) fun z => oq (mapV α ds) fun r => R (z :: r)) : oq (mapV α (d :: ds)) R := by
  obtain ⟨z, e, r, e2, q⟩ := h
  exact ⟨_, by unfold mapV; simp [e, e2], q⟩
end
section
variable {Q : D → Prop} {d e : D} {x y z : Int} {s t : Str} {ds es : List D} {i j : Nat} {xs ys : List Int}
theorem oq_add_i {Q : D → Prop} (h : Q (.int (x + y))) : oq (dAdd (.int x) (.int y)) Q := ⟨_, rfl, h⟩
theorem oq_add_s {Q : D → Prop} (l : s.length + t.length ≤ 100000) (h : Q (.str (s ++ t))) : oq (dAdd (.str s) (.str t)) Q := ⟨_, if_pos l, h⟩
theorem oq_add_l {Q : D → Prop} (l : ds.length + es.length ≤ 100000) (h : Q (.list (ds ++ es))) : oq (dAdd (.list ds) (.list es)) Q := ⟨_, if_pos l, h⟩
theorem oq_cat {Q : D → Prop} (l : ds.length + es.length ≤ 100000) (h : Q (.list (ds ++ es))) : oq (dCat (.list ds) (.list es)) Q := ⟨_, if_pos l, h⟩
theorem oq_sub {Q : D → Prop} (h : Q (.int (x - y))) : oq (dSub (.int x) (.int y)) Q := ⟨_, rfl, h⟩
theorem oq_mul {Q : D → Prop} (l : (-(2 ^ 64) < x ∧ x < 2 ^ 64) ∨ (-(2 ^ 64) < y ∧ y < 2 ^ 64)) (h : Q (.int (x * y))) : oq (dMul (.int x) (.int y)) Q := ⟨_, if_pos l, h⟩
theorem oq_mod {Q : D → Prop} (l : 0 < y) (h : Q (.int (x % y))) : oq (dMod (.int x) (.int y)) Q := ⟨_, if_pos l, h⟩
theorem oq_div {Q : D → Prop} (l : 0 < y ∧ y < 2 ^ 80) (h : Q (.int (x / y))) : oq (dDiv (.int x) (.int y)) Q := ⟨_, if_pos l, h⟩
theorem oq_pow {Q : D → Prop} (l : 0 ≤ y ∧ y ≤ 1000000 ∧ x.natAbs < 2 ^ 64) (h : Q (.int (x ^ y.toNat))) : oq (dPow (.int x) (.int y)) Q := ⟨_, if_pos l, h⟩
theorem oq_shl {Q : D → Prop} (l : 0 ≤ y ∧ y ≤ 1000000 ∧ x.natAbs < 2 ^ 64) (h : Q (.int (x * 2 ^ y.toNat))) : oq (dShl (.int x) (.int y)) Q := ⟨_, if_pos l, h⟩
theorem oq_shr {Q : D → Prop} (l : 0 ≤ y) (h : Q (.int (x / 2 ^ y.toNat))) : oq (dShr (.int x) (.int y)) Q := ⟨_, if_pos l, h⟩
theorem oq_lt {Q : D → Prop} (h : Q (.bool (decide (x < y)))) : oq (dLt (.int x) (.int y)) Q := ⟨_, rfl, h⟩
theorem oq_le {Q : D → Prop} (h : Q (.bool (decide (x ≤ y)))) : oq (dLe (.int x) (.int y)) Q := ⟨_, rfl, h⟩
theorem oq_gt {Q : D → Prop} (h : Q (.bool (decide (y < x)))) : oq (dGt (.int x) (.int y)) Q := ⟨_, rfl, h⟩
theorem oq_ge {Q : D → Prop} (h : Q (.bool (decide (y ≤ x)))) : oq (dGe (.int x) (.int y)) Q := ⟨_, rfl, h⟩
theorem oq_eq_i {Q : D → Prop} (h : Q (.bool (decide (x = y)))) : oq (dEq (.int x) (.int y)) Q := ⟨_, rfl, h⟩
theorem oq_ne_i {Q : D → Prop} (h : Q (.bool (!decide (x = y)))) : oq (dNe (.int x) (.int y)) Q := ⟨_, rfl, h⟩
theorem oq_eq_s {Q : D → Prop} (h : Q (.bool (decide (s = t)))) : oq (dEq (.str s) (.str t)) Q := ⟨_, rfl, h⟩
theorem oq_ne_s {Q : D → Prop} (h : Q (.bool (!decide (s = t)))) : oq (dNe (.str s) (.str t)) Q := ⟨_, rfl, h⟩
theorem oq_eq_b {Q : D → Prop} {a b : Bool} (h : Q (.bool (decide (a = b)))) : oq (dEq (.bool a) (.bool b)) Q := ⟨_, by unfold dEq dEqB; cases a <;> cases b <;> rfl, h⟩
theorem oq_ne_b {Q : D → Prop} {a b : Bool} (h : Q (.bool (!decide (a = b)))) : oq (dNe (.bool a) (.bool b)) Q := ⟨_, by unfold dNe dEqB; cases a <;> cases b <;> rfl, h⟩
theorem oq_eq_d {Q : D → Prop} {b : Bool} (e1 : dEqB d e = some b) (h : Q (.bool b)) : oq (dEq d e) Q := ⟨_, by unfold dEq; rw [e1]; rfl, h⟩
theorem oq_ne_d {Q : D → Prop} {b : Bool} (e1 : dEqB d e = some b) (h : Q (.bool (!b))) : oq (dNe d e) Q := ⟨_, by unfold dNe; rw [e1]; rfl, h⟩
theorem oq_is {Q : D → Prop} (h : Q (.bool (isNoneD d))) : oq (dIs d .none) Q := ⟨_, rfl, h⟩
theorem oq_isNot {Q : D → Prop} (h : Q (.bool (!isNoneD d))) : oq (dIsNot d .none) Q := ⟨_, rfl, h⟩
theorem oq_in_s {Q : D → Prop} {k : Nat} (h : Q (.bool (decide (k ∈ t.cps.toList)))) : oq (dIn (.str ⟨#[k]⟩) (.str t)) Q := ⟨_, rfl, h⟩
theorem oq_notIn_s {Q : D → Prop} {k : Nat} (h : Q (.bool (!decide (k ∈ t.cps.toList)))) : oq (dNotIn (.str ⟨#[k]⟩) (.str t)) Q := ⟨_, rfl, h⟩
theorem ixN_in {n : Nat} {i : Int} (h0 : 0 ≤ i) (h1 : i < n) : ixN n i = some i.toNat := by unfold ixN; rw [if_pos h0, if_pos h1]
theorem oq_ix_l {Q : D → Prop} {i : Int} (h0 : 0 ≤ i) (h1 : i < ds.length) (h : ∀ z, ds[i.toNat]? = some z → Q z) : oq (dIx (.list ds) (.int i)) Q := by
  have l : i.toNat < ds.length := by omega
  refine ⟨ds[i.toNat], ?_, h _ (List.getElem?_eq_getElem l)⟩
  show (ixN ds.length i).bind _ = _
  rw [ixN_in h0 h1]
  exact List.getElem?_eq_getElem l
theorem oq_len_l {Q : D → Prop} (h : Q (.int ds.length)) : oq (dLen [.list ds]) Q := ⟨_, rfl, h⟩
theorem oq_len_t {Q : D → Prop} (h : Q (.int ds.length)) : oq (dLen [.tuple ds]) Q := ⟨_, rfl, h⟩
theorem oq_len_s {Q : D → Prop} (l : s.length ≤ 100000) (h : Q (.int s.length)) : oq (dLen [.str s]) Q := ⟨_, if_pos l, h⟩
theorem oq_int {Q : D → Prop} (h : Q (.int x)) : oq (dInt [.int x]) Q := ⟨_, rfl, h⟩
theorem oq_abs {Q : D → Prop} (h : Q (.int (if x < 0 then -x else x))) : oq (dAbs [.int x]) Q := ⟨_, rfl, h⟩
theorem oq_ord {Q : D → Prop} {k : Nat} (h : Q (.int k)) : oq (dOrd [.str ⟨#[k]⟩]) Q := ⟨_, rfl, h⟩
theorem oq_cut_l {Q : D → Prop} {lo hi : Option Int} (h : Q (.list (cutD ds lo hi))) : oq (dCut (.list ds) lo hi) Q := ⟨_, rfl, h⟩
theorem oq_cut_t {Q : D → Prop} {lo hi : Option Int} (h : Q (.tuple (cutD ds lo hi))) : oq (dCut (.tuple ds) lo hi) Q := ⟨_, rfl, h⟩
theorem oq_cut_s {Q : D → Prop} {lo hi : Option Int} (l : s.length ≤ 100000) (h : Q (.str (cutS s lo hi))) : oq (dCut (.str s) lo hi) Q := ⟨_, if_pos l, h⟩
theorem oq_append {Q : D × List D → Prop} (l : ds.length < 100000) (h : Q (.none, ds ++ [d])) : oq (muAppend ds [d]) Q := ⟨_, if_pos l, h⟩
theorem oq_list_l {Q : D → Prop} (h : Q (.list ds)) : oq (dList [.list ds]) Q := ⟨_, rfl, h⟩
theorem oq_list_t {Q : D → Prop} (h : Q (.list ds)) : oq (dList [.tuple ds]) Q := ⟨_, rfl, h⟩
theorem oq_tuple_l {Q : D → Prop} (h : Q (.tuple ds)) : oq (dTuple [.list ds]) Q := ⟨_, rfl, h⟩
theorem oq_tuple_t {Q : D → Prop} (h : Q (.tuple ds)) : oq (dTuple [.tuple ds]) Q := ⟨_, rfl, h⟩
theorem oq_max2 {Q : D → Prop} (h : Q (.int (if y > x then y else x))) : oq (dMax2 [.int x, .int y]) Q := ⟨_, rfl, h⟩
theorem oq_min2 {Q : D → Prop} (h : Q (.int (if y < x then y else x))) : oq (dMin2 [.int x, .int y]) Q := ⟨_, rfl, h⟩
theorem toInts_map {α : Type} (f : α → Int) : ∀ xs : List α, toInts (xs.map fun x => PyData.int (f x)) = some (xs.map f)
  | [] => rfl
  | x :: xs => by
    show (toInts (xs.map fun x => PyData.int (f x))).map _ = _
    rw [toInts_map f xs]
    rfl
theorem oq_sum {α : Type} {f : α → Int} {xs : List α} {Q : D → Prop} (h : Q (.int (xs.map f).sum)) : oq (dSum [.list (xs.map fun x => .int (f x))]) Q := by
  refine ⟨_, ?_, h⟩
  show (toInts _).map _ = _
  rw [toInts_map]
  rfl
theorem oq_ix_lk {ds : List D} {i : Int} {z : D} {Q : D → Prop} (e : ((ixN ds.length i).bind fun j => ds[j]?) = some z) (h : Q z) : oq (dIx (.list ds) (.int i)) Q := ⟨z, e, h⟩
theorem oq_ix_tk {ds : List D} {i : Int} {z : D} {Q : D → Prop} (e : ((ixN ds.length i).bind fun j => ds[j]?) = some z) (h : Q z) : oq (dIx (.tuple ds) (.int i)) Q := ⟨z, e, h⟩
theorem oq_ixN_k {n : Nat} {i : Int} {j : Nat} {Q : Nat → Prop} (e : ixN n i = some j) (h : Q j) : oq (ixN n i) Q := ⟨j, e, h⟩
theorem oq_len_sc {ns : List Int} {Q : D → Prop} (h : Q (.int ns.length)) : oq (dLen [scriptD ns]) Q := ⟨_, by unfold scriptD dLen; simp, h⟩
theorem oq_ix_sc {ns : List Int} {i : Int} {Q : D → Prop} (h0 : 0 ≤ i) (h1 : i < ns.length) (h : ∀ z, ns[i.toNat]? = some z → Q (.int z)) : oq (dIx (scriptD ns) (.int i)) Q := by
  refine oq_ix_l h0 (by simpa using h1) fun z e => ?_
  have l : i.toNat < ns.length := by omega
  rw [List.getElem?_map, List.getElem?_eq_getElem l] at e
  cases e
  exact h _ (List.getElem?_eq_getElem l)
theorem oq_rep {a : List D} {k : Int} {Q : D → Prop} (l : k < 2 ^ 63 ∧ -(2 ^ 63) ≤ k ∧ a.length * k.toNat ≤ 100000) (h : Q (.list (List.replicate k.toNat a).flatten)) : oq (dRep (.list a) (.int k)) Q := ⟨_, if_pos l, h⟩
theorem oq_insert {ds : List D} {d : D} {i : Int} {Q : D × List D → Prop} (l : ds.length < 100000 ∧ 0 ≤ i ∧ i < 2 ^ 63) (h : Q (.none, ds.take i.toNat ++ [d] ++ ds.drop i.toNat)) : oq (muInsert ds [.int i, d]) Q := ⟨_, if_pos l, h⟩
theorem okD_ints (k : Nat) : ∀ xs : List Int, (xs.map PyData.int).all (okD k) = true
  | [] => rfl
  | x :: xs => by
    rw [List.map_cons, List.all_cons, okD_ints k xs]
    cases k <;> rfl
theorem eqv_ints : ∀ xs ys : List Int, PyData.eqvAll (xs.map PyData.int) (ys.map PyData.int) = decide (xs = ys)
  | [], [] => by simp [PyData.eqvAll]
  | [], y :: ys => by simp [PyData.eqvAll]
  | x :: xs, [] => by simp [PyData.eqvAll]
  | x :: xs, y :: ys => by
    simp only [List.map_cons, PyData.eqvAll, PyData.eqv]
    rw [eqv_ints xs ys]
    by_cases h : x = y <;> simp [h]
theorem dEqB_il (xs ys : List Int) : dEqB (.list (xs.map .int)) (.list (ys.map .int)) = some (decide (xs = ys)) := by
  show (if okD 60 (.list (xs.map .int)) = true ∧ okD 60 (.list (ys.map .int)) = true then _ else _) = _
  rw [if_pos ⟨okD_ints 59 xs, okD_ints 59 ys⟩]
  simp only [PyData.eqv]
  rw [eqv_ints]
theorem dEqB_it (xs ys : List Int) : dEqB (.tuple (xs.map .int)) (.tuple (ys.map .int)) = some (decide (xs = ys)) := by
  show (if okD 60 (.tuple (xs.map .int)) = true ∧ okD 60 (.tuple (ys.map .int)) = true then _ else _) = _
  rw [if_pos ⟨okD_ints 59 xs, okD_ints 59 ys⟩]
  simp only [PyData.eqv]
  rw [eqv_ints]
theorem oq_eq_il (h : Q (.bool (decide (xs = ys)))) : oq (dEq (.list (xs.map .int)) (.list (ys.map .int))) Q := oq_eq_d (dEqB_il xs ys) h
theorem oq_ne_il (h : Q (.bool (!decide (xs = ys)))) : oq (dNe (.list (xs.map .int)) (.list (ys.map .int))) Q := oq_ne_d (dEqB_il xs ys) h
theorem oq_eq_it (h : Q (.bool (decide (xs = ys)))) : oq (dEq (.tuple (xs.map .int)) (.tuple (ys.map .int))) Q := oq_eq_d (dEqB_it xs ys) h
theorem oq_ne_it (h : Q (.bool (!decide (xs = ys)))) : oq (dNe (.tuple (xs.map .int)) (.tuple (ys.map .int))) Q := oq_ne_d (dEqB_it xs ys) h
def lexI : List Int → List Int → Bool
  | [], [] => false
  | [], _ :: _ => true
  | _ :: _, [] => false
  | x :: xs, y :: ys => if x = y then lexI xs ys else decide (x < y)
theorem lexI_eq : ∀ xs ys : List Int, PySem.W.listLt xs ys = lexI xs ys
  | [], [] => rfl
  | [], _ :: _ => rfl
  | _ :: _, [] => rfl
  | x :: xs, y :: ys => by
    show (if x = y then PySem.W.listLt xs ys else _) = (if x = y then lexI xs ys else _)
    rw [lexI_eq xs ys]
    rfl
theorem alike_ints : ∀ xs ys : List Int, PySem.W.alikeAll (xs.map PyData.int) (ys.map PyData.int) = true := fun xs ys => PySem.W.alikeAll_map xs ys
theorem okC_il (xs ys : List Int) : okC (.list (xs.map .int)) (.list (ys.map .int)) = true := by
  unfold okC
  rw [show okD 60 (.list (xs.map .int)) = true from okD_ints 59 xs, show okD 60 (.list (ys.map .int)) = true from okD_ints 59 ys]
  simp only [PySem.W.alike]
  rw [alike_ints]
  rfl
theorem okC_it (xs ys : List Int) : okC (.tuple (xs.map .int)) (.tuple (ys.map .int)) = true := by
  unfold okC
  rw [show okD 60 (.tuple (xs.map .int)) = true from okD_ints 59 xs, show okD 60 (.tuple (ys.map .int)) = true from okD_ints 59 ys]
  simp only [PySem.W.alike]
  rw [alike_ints]
  rfl
theorem lt_il (xs ys : List Int) : PySem.W.dataLt (.list (xs.map .int)) (.list (ys.map .int)) = lexI xs ys := (PySem.W.DatumOrd.lt_eq xs ys).trans (lexI_eq xs ys)
theorem lt_it (xs ys : List Int) : PySem.W.dataLt (.tuple (xs.map .int)) (.tuple (ys.map .int)) = lexI xs ys := (PySem.W.DatumOrd.lt_eq (PySem.W.Tup.mk xs) (PySem.W.Tup.mk ys)).trans (lexI_eq xs ys)
theorem oq_lt_il (h : Q (.bool (lexI xs ys))) : oq (dLt (.list (xs.map .int)) (.list (ys.map .int))) Q := by
  refine ⟨_, ?_, h⟩
  show (if okC _ _ = true then some (PyData.bool (PySem.W.dataLt _ _)) else none) = _
  rw [if_pos (okC_il xs ys), lt_il]
theorem oq_lt_it (h : Q (.bool (lexI xs ys))) : oq (dLt (.tuple (xs.map .int)) (.tuple (ys.map .int))) Q := by
  refine ⟨_, ?_, h⟩
  show (if okC _ _ = true then some (PyData.bool (PySem.W.dataLt _ _)) else none) = _
  rw [if_pos (okC_it xs ys), lt_it]
theorem nums_map : ∀ (n : Nat) (lo : Int), nums lo n = (List.range n).map fun k => .int (lo + (k : Nat))
  | 0, _ => rfl
  | n + 1, lo => by
    rw [List.range_succ_eq_map, List.map_cons, List.map_map]
    show PyData.int lo :: nums (lo + 1) n = _
    rw [nums_map n (lo + 1)]
    congr 1
    · simp
    · refine List.map_congr_left fun k _ => ?_
      show PyData.int _ = PyData.int _
      congr 1
      show lo + 1 + (k : Int) = lo + ((k : Int) + 1)
      omega
theorem oq_ix_mf {β : Type} {xs : List β} {u : β → D} {i : Int} {k : Nat} (hi : i = (k : Int)) (h : k < xs.length) (q : Q (u xs[k])) : oq (dIx (.list (xs.map u)) (.int i)) Q := by
  subst hi
  refine oq_ix_l (by omega) (by simpa using h) fun z e => ?_
  rw [Int.toNat_natCast, List.getElem?_map, List.getElem?_eq_getElem h] at e
  cases e
  exact q
theorem oq_iadd_i (h : Q (.int (x + y))) : oq (dIAdd (.int x) (.int y)) Q := ⟨_, rfl, h⟩
theorem oq_isT {a b : Bool} (q : Q (.bool (decide (a = b)))) : oq (dIsT (.bool a) (.bool b)) Q := ⟨_, rfl, q⟩
theorem oq_isNotT {a b : Bool} (q : Q (.bool (!decide (a = b)))) : oq (dIsNotT (.bool a) (.bool b)) Q := ⟨_, rfl, q⟩
theorem nums0 (n : Nat) : nums 0 n = (List.range n).map fun k => .int (k : Int) := by
  rw [nums_map]
  refine List.map_congr_left fun k _ => ?_
  show PyData.int _ = PyData.int _
  congr 1
  omega
theorem oq_ix_0 (h : Q d) : oq (dIx (.list (d :: ds)) (.int 0)) Q := by
  refine ⟨d, ?_, h⟩
  show (ixN (d :: ds).length 0).bind _ = _
  rw [ixN_in (by decide) (by simp)]
  rfl
end
end Hz
namespace Hz
open PySem L2
def S (l : List Nat) : Str := ⟨l.toArray⟩
def pos (c : Nat) : List Nat → Nat → List Nat
  | [], _ => []
  | x :: l, i => if x = c then i :: pos c l (i + 1) else pos c l (i + 1)
end Hz
namespace Hz
open PySem L2
end Hz
namespace Hz
open PySem L2
def kEqB : D → D → Bool
  | .int a, .int b => decide (a = b)
  | .str a, .str b => decide (a = b)
  | _, _ => false
def isK : D → Bool
  | .int _ => true
  | .str _ => true
  | _ => false
def realD (ds : List (D × D)) : Bool := ds.all fun p => isK p.1
def lookP (k : D) : List (D × D) → Option D
  | [] => none
  | (j, d) :: r => if kEqB j k = true then some d else lookP k r
def putP (k d : D) (ds : List (D × D)) : List (D × D) := if (lookP k ds).isSome = true then ds.map (fun p => if kEqB p.1 k = true then (p.1, d) else p) else ds ++ [(k, d)]
def dropP (k : D) (ds : List (D × D)) : List (D × D) := ds.filter fun p => !kEqB p.1 k
theorem kEqB_kD (a b : Key) : kEqB (kD a) (kD b) = decide (a = b) := by
  cases a <;> cases b <;> simp [kD, kEqB]
theorem isK_of {d : D} (h : isK d = true) : ∃ k, d = kD k := by
  cases d with
  | int i => exact ⟨.inl i, rfl⟩
  | str i => exact ⟨.inr i, rfl⟩
  | _ => cases h
theorem kD_isK (k : Key) : isK (kD k) = true := by cases k <;> rfl
theorem kD_rp {K : Frag} {H : Hp} {v : V} {k : Key} (h : Rp K H v (kD k)) : v = L2.kV k := by
  cases k with
  | inl i => exact h.inti
  | inr i => exact h.stri
theorem kV_rp {K : Frag} {H : Hp} (k : Key) : Rp K H (L2.kV k) (kD k) := by
  cases k with
  | inl i => exact .int i
  | inr i => exact .str i
theorem RpK.real {K : Frag} {H : Hp} : ∀ {kvs : List (Key × V)} {ds : List (D × D)}, RpK K H kvs ds → realD ds = true
  | _, _, .nil => rfl
  | _, _, .cons (k := k) h r => by
    show (isK (kD k) && realD _) = true
    rw [kD_isK, r.real]
    rfl
theorem RpK.length {K : Frag} {H : Hp} : ∀ {kvs : List (Key × V)} {ds : List (D × D)}, RpK K H kvs ds → kvs.length = ds.length
  | _, _, .nil => rfl
  | _, _, .cons h r => by rw [List.length_cons, List.length_cons, r.length]
theorem RpK.look {K : Frag} {H : Hp} (κ : Key) : ∀ {kvs : List (Key × V)} {ds : List (D × D)}, RpK K H kvs ds → (lookP (kD κ) ds = none ∧ valV kvs κ = none) ∨ ∃ d v, lookP (kD κ) ds = some d ∧ valV kvs κ = some v ∧ Rp K H v d
  | _, _, .nil => .inl ⟨rfl, rfl⟩
  | _, _, .cons (k := k) (v := v) (d := d) h r => by
    have e : kEqB (kD k) (kD κ) = decide (k = κ) := kEqB_kD k κ
    by_cases q : k = κ
    · refine .inr ⟨d, v, ?_, valV_pos q, h⟩
      rw [lookP, e, decide_eq_true q, if_pos rfl]
    · rw [lookP, e, decide_eq_false q, if_neg (by simp), valV_neg q]
      exact r.look κ
theorem RpK.append {K : Frag} {H : Hp} : ∀ {kvs ls : List (Key × V)} {ds es : List (D × D)}, RpK K H kvs ds → RpK K H ls es → RpK K H (kvs ++ ls) (ds ++ es)
  | _, _, _, _, .nil, s => s
  | _, _, _, _, .cons h r, s => .cons h (r.append s)
theorem RpK.mapK {K : Frag} {H : Hp} {κ : Key} {w : V} {e : D} (q : Rp K H w e) : ∀ {kvs : List (Key × V)} {ds : List (D × D)}, RpK K H kvs ds → RpK K H (kvs.map fun kv => if kv.1 = κ then (kv.1, w) else kv) (ds.map fun p => if kEqB p.1 (kD κ) = true then (p.1, e) else p)
  | _, _, .nil => .nil
  | _, _, .cons (k := k) (v := v) (d := d) h r => by
    have z : kEqB (kD k) (kD κ) = decide (k = κ) := kEqB_kD k κ
    rw [List.map_cons, List.map_cons]
    simp only [z]
    by_cases c : k = κ
    · rw [if_pos c, decide_eq_true c, if_pos rfl]
      exact .cons q (r.mapK q)
    · rw [if_neg c, decide_eq_false c, if_neg (by simp)]
      exact .cons h (r.mapK q)
theorem RpK.put {K : Frag} {H : Hp} {κ : Key} {w : V} {e : D} {kvs : List (Key × V)} {ds : List (D × D)} (q : Rp K H w e) (r : RpK K H kvs ds) : RpK K H (putK kvs κ w) (putP (kD κ) e ds) := by
  unfold putK putP
  rw [valV_any]
  rcases r.look κ with ⟨h1, h2⟩ | ⟨d, v, h1, h2, _⟩
  · rw [h1, h2]
    exact r.append (.cons q .nil)
  · rw [h1, h2]
    exact r.mapK q
theorem RpK.drop {K : Frag} {H : Hp} {κ : Key} : ∀ {kvs : List (Key × V)} {ds : List (D × D)}, RpK K H kvs ds → RpK K H (dropK kvs κ) (dropP (kD κ) ds)
  | _, _, .nil => .nil
  | _, _, .cons (k := k) (v := v) (d := d) h r => by
    have z : kEqB (kD k) (kD κ) = decide (k = κ) := kEqB_kD k κ
    have ih := r.drop (κ := κ)
    unfold dropK dropP at ih ⊢
    by_cases c : k = κ
    · rw [List.filter_cons_of_neg (by simp [c]), List.filter_cons_of_neg (by show ¬ (!kEqB (kD k) (kD κ)) = true; rw [z, decide_eq_true c]; simp)]
      exact ih
    · rw [List.filter_cons_of_pos (by simp [c]), List.filter_cons_of_pos (by show (!kEqB (kD k) (kD κ)) = true; rw [z, decide_eq_false c]; rfl)]
      exact .cons h ih
theorem Rs.dictK {K : Frag} {B : Addr → Bool} {H : Hp} {v : V} {ds : List (D × D)} (h : Rs K B H v (.dict ds)) (r : realD ds = true) : ∃ a kvs, v = .ref a ∧ Rd H a (.dK kvs) ∧ RpK K (hide B H) kvs ds := by
  cases h with
  | vis h =>
    cases h with
    | dct h k => exact ⟨_, _, rfl, sub_rd (hide_sub B H) h, k⟩
    | obj h k => cases r
    | fdc h k => cases r
    | fnc => cases r
    | ref => cases r
    | exc h k => cases r
  | dct h k => exact ⟨_, _, rfl, h, k⟩
  | obj h k => cases r
theorem Bs.dict {K : Frag} {B : Addr → Bool} {H : Hp} {α : AH} {l : Addr} {ds : List (D × D)} (S : Bs K B H α) (h : α l = some (.dict ds)) (r : realD ds = true) : B l = true ∧ ∃ kvs, H l = some (.dK kvs) ∧ RpK K (hide B H) kvs ds := by
  obtain ⟨h1, h2⟩ := S.cel l _ h
  refine ⟨h1, ?_⟩
  generalize ez : PyData.dict ds = z at h2
  generalize eo : H l = o at h2
  cases h2 with
  | own h =>
    subst ez
    exact h
  | obj h =>
    injection ez with ez
    subst ez
    cases r
/-- a dict that stays as it is -/
def fzD (ds : List (D × D)) : D := .dict ((.none, .none) :: ds)
theorem Rs.dictF {K : Frag} {B : Addr → Bool} {H : Hp} {v : V} {ds : List (D × D)} (h : Rs K B H v (fzD ds)) : ∃ a o kvs, v = .ref a ∧ H a = some (.frz o (.dK kvs)) ∧ RpK K (hide B H) kvs ds := by
  unfold fzD at h
  have no : ∀ {kvs : List (Key × V)} {es : List (D × D)}, RpK K (hide B H) kvs ((.none, .none) :: es) → False := fun r => by
    have := r.real
    cases this
  cases h with
  | vis h =>
    cases h with
    | dct h k => exact (no k).elim
    | fdc h k => exact ⟨_, _, _, rfl, (hide_some h).2, k⟩
  | dct h k => exact (no k).elim
/-- a dict that may be read -/
def dcD (α : AH) (o : D) (R : List (D × D) → Prop) : Prop := ∃ ds, (vw α o = some (.dict ds) ∨ vw α o = some (fzD ds)) ∧ realD ds = true ∧ R ds
theorem dc_rs {K : Frag} {B : Addr → Bool} {H : Hp} {α : AH} {v : V} {o : D} {ds : List (D × D)} (S : Bs K B H α) (h : Rp K (hide B H) v o) (e : vw α o = some (.dict ds) ∨ vw α o = some (fzD ds)) (r : realD ds = true) : ∃ a kvs, v = .ref a ∧ Rd H a (.dK kvs) ∧ RpK K (hide B H) kvs ds := by
  rcases e with e | e
  · exact (vw_rs S h e).dictK r
  · obtain ⟨a, o, kvs, h1, h2, h3⟩ := (vw_rs S h e).dictF
    exact ⟨a, kvs, h1, .inr ⟨o, h2⟩, h3⟩
/-- a dict that may be changed -/
def cellDi (α : AH) (o : D) (R : Addr → List (D × D) → Prop) : Prop := ∃ a ds, o = dref a ∧ α a = some (.dict ds) ∧ realD ds = true ∧ R a ds
def dgetK (mo mk : ME) : ME := fun ρ α Q E => mo ρ α (fun o α1 => mk ρ α1 (fun k α2 => dcD α2 o fun ds => isK k = true ∧ oq (lookP k ds) fun z => Q z α2) E) E
def dget1K (mo mk : ME) : ME := fun ρ α Q E => mo ρ α (fun o α1 => dcD α1 o fun _ => mk ρ α1 (fun k α2 => dcD α2 o fun ds => isK k = true ∧ Q ((lookP k ds).getD .none) α2) E) E
def dget2K (mo mk md : ME) : ME := fun ρ α Q E => mo ρ α (fun o α1 => dcD α1 o fun _ => mk ρ α1 (fun k α2 => md ρ α2 (fun x α3 => dcD α3 o fun ds => isK k = true ∧ Q ((lookP k ds).getD x) α3) E) E) E
def dinK (neg : Bool) (mk mo : ME) : ME := fun ρ α Q E => mk ρ α (fun k α1 => mo ρ α1 (fun o α2 => dcD α2 o fun ds => isK k = true ∧ Q (.bool (if neg = true then !(lookP k ds).isSome else (lookP k ds).isSome)) α2) E) E
def dpop2K (mo mk md : ME) : ME := fun ρ α Q E => mo ρ α (fun o α1 => dcD α1 o fun _ => mk ρ α1 (fun k α2 => md ρ α2 (fun x α3 => cellDi α3 o fun a ds => isK k = true ∧ (∀ z, lookP k ds = some z → Q z (aset α3 a (.dict (dropP k ds)))) ∧ (lookP k ds = none → Q x α3)) E) E) E
def dpop1K (mo mk : ME) : ME := fun ρ α Q E => mo ρ α (fun o α1 => dcD α1 o fun _ => mk ρ α1 (fun k α2 => cellDi α2 o fun a ds => isK k = true ∧ oq (lookP k ds) fun z => Q z (aset α2 a (.dict (dropP k ds)))) E) E
def dputS (me mo mk : ME) : MS := fun ρ α D => me ρ α (fun d α1 => mo ρ α1 (fun o α2 => mk ρ α2 (fun k α3 => cellDi α3 o fun a ds => isK k = true ∧ ds.length < 100000 ∧ D.nx ρ (aset α3 a (.dict (putP k d ds)))) (fun x α1 => D.ex x ρ α1)) (fun x α1 => D.ex x ρ α1)) (fun x α1 => D.ex x ρ α1)
def daugS (g : D → D → Option D) (mo mk me : ME) : MS := fun ρ α D => mo ρ α (fun o α1 => mk ρ α1 (fun k α2 => dcD α2 o fun ds0 => isK k = true ∧ oq (lookP k ds0) fun v => me ρ α2 (fun d α3 => oq (g v d) fun z => cellDi α3 o fun a ds => ds.length < 100000 ∧ D.nx ρ (aset α3 a (.dict (putP k z ds)))) (fun x α1 => D.ex x ρ α1)) (fun x α1 => D.ex x ρ α1)) (fun x α1 => D.ex x ρ α1)
def dnewK : ME := fun _ α Q _ => Q (.dict []) α
def lenDK (mo : ME) : ME := fun ρ α Q E => mo ρ α (fun o α1 => cellDi α1 o fun _ ds => Q (.int ds.length) α1) E
section
variable {K : Frag} {W : WX} {ma mb md : ME} {ta tb td : TE}
theorem sd_dget (ha : Sd K W ta ma) (hb : Sd K W tb mb) : Sd K W (tDGet ta tb) (dgetK ma mb) := fun B σ H ρ α S Qm Em m Q q x => by
  refine ha B σ H ρ α S _ Em m _ (fun v o B1 H1 α1 A1 r1 m => ?_) x
  refine hb B1 σ H1 ρ α1 (S.step A1) _ Em m _ (fun u k B2 H2 α2 A2 r2 m => ?_) (x.after S.bs A1)
  obtain ⟨ds, e, hr, hk, z, hz, m⟩ := m
  obtain ⟨κ, rfl⟩ := isK_of hk
  obtain ⟨a, kvs, rfl, hd, rk⟩ := dc_rs A2.bs (r1.mono A2.sub) e hr
  rcases rk.look κ with ⟨l, _⟩ | ⟨d, v, l1, l2, rv⟩
  · rw [l] at hz; cases hz
  · rw [l1] at hz
    cases hz
    exact ⟨a, v, rfl, .inl ⟨kvs, κ, hd, kD_rp r2, l2.symm⟩, q v _ B2 H2 α2 (A1.trans S.bs A2) rv m⟩
theorem ss_dput {te to tk : TE} {me mo mk : ME} (h : Sd K W te me) (ho : Sd K W to mo) (hk : Sd K W tk mk) : SS K W (sDPut to tk te) (dputS me mo mk) := fun B σ H ρ α S D m Dn h' x => by
  refine h B σ H ρ α S _ _ m _ (fun v d B1 H1 α1 A1 r1 m => ?_) (x.sx S)
  have S1 := S.step A1
  refine ho B1 σ H1 ρ α1 S1 _ _ m _ (fun w o B2 H2 α2 A2 r2 m => ?_) ((x.sx S).after S.bs A1)
  have A12 := A1.trans S.bs A2
  refine hk B2 σ H2 ρ α2 (S.step A12) _ _ m _ (fun y k B3 H3 α3 A3 r3 m => ?_) ((x.sx S).after S.bs A12)
  obtain ⟨a, ds, rfl, e, hr, hkk, hl, m⟩ := m
  obtain ⟨κ, rfl⟩ := isK_of hkk
  obtain ⟨bl, kvs, hd, rk⟩ := A3.bs.dict e hr
  have hw := r2.cell
  subst hw
  have wr := Af.write (o := .dK (putK kvs κ v)) (c := .dict (putP (kD κ) d ds)) A3.bs e (.own ⟨_, rfl, rk.put (r1.mono (A2.sub.trans A3.sub))⟩)
  have A := (A12.trans S.bs A3).trans S.bs wr
  exact ⟨a, _, rfl, .inl ⟨kvs, κ, hd, kD_rp r3, Nat.lt_of_lt_of_le (by rw [rk.length]; exact hl) (by decide +kernel), rfl⟩, h'.nx _ _ _ _ _ A (S.step A) m⟩
end
section
variable {c : C0} {N : List Str} {sc : Scope} {o e i f : Expr} {p2 p3 pos p1 : Pos} {me mo mi ma mb mk md : ME}
theorem In.u1 {X : Cx} (I : In c N sc X) : X.A.units + 1 < cLine := by have := I.un; omega
theorem je_dget (ha : JE c N sc o mo) (hb : JE c N sc i mi) (hs : NoSl i := by intro ov iv; rfl) : JE c N sc (.Subscript o i pos) (dgetK mo mi) := by
  obtain ⟨ta, p1, s1⟩ := ha
  obtain ⟨tb, p2, s2⟩ := hb
  exact ⟨_, fun X W I T => pe_dget I.u1 (p1 X W I T) (p2 X W I T) hs, fun W => sd_dget (s1 W) (s2 W)⟩
theorem jf_dnew : JF c N sc (.Dict [] [] pos) dnewK := ⟨fun _ => tDNewK, fun X W I T => pe_dnewK, fun W B σ H ρ α S Qm Em m Q q x p hp =>
  q p (.dict []) (ins p B) _ α (Af.cell S.bs (Sub.new hp) hp (.own ⟨[], by rw [upd_same], .nil⟩)) (S.bs.new hp) m⟩
theorem js_dput {p4 : Pos} (h : JE c N sc e me) (ho : JE c N sc o mo) (hi : JE c N sc i mi) (hw : ∀ env, swapsWith e (some (.Subscript o i p4)) pos.line env = pure false := by intros; rfl) : JS c N sc (.Assign [.Subscript o i p4] e pos) (dputS me mo mi) := by
  obtain ⟨t, a1, a2⟩ := h
  obtain ⟨u, b1, b2⟩ := ho
  obtain ⟨w, d1, d2⟩ := hi
  exact ⟨_, fun X W I T => ps_dput I.u1 (b1 X W I T) (d1 X W I T) (a1 X W I T) (hw _), fun W => ss_dput (a2 W) (b2 W) (d2 W)⟩
end
end Hz
namespace Hz
open PySem L2
def tFz (t : TE) : TE := fun σ H Q => t σ H fun v H1 => ∃ d u, v = V.ref d ∧ H1 d = some u ∧ Mut (some u) ∧ ∀ od, Q v (upd H1 d (.frz od u))
theorem pe_fz {X : Cx} {e : Expr} {t : TE} (h : PE X e t) : PE X e (tFz t) := by
  refine ⟨fun pins s σ H Q I hw => thn (h.run pins s σ H _ I hw) fun v s1 ⟨x, H1, I1, r, q⟩ => ?_⟩
  obtain ⟨d, u, ex, hd, mu, q⟩ := q
  obtain ⟨od, I2⟩ := I1.lock hd mu
  exact ⟨x, _, I2, r, q od⟩
theorem Af.fzD {K : Frag} {B B1 : Addr → Bool} {H H1 : Hp} {α α1 : AH} {p : Addr} {ds : List (D × D)} (S : Bs K B H α) (a : Af K B H α B1 H1 α1) (h : α1 p = some (.dict ds)) (r : realD ds = true) :
    ∃ kvs, H1 p = some (.dK kvs) ∧ ∀ od, Af K B H α (del p B1) (upd H1 p (.frz od (.dK kvs))) (adel α1 p) ∧ Rp K (hide (del p B1) (upd H1 p (.frz od (.dK kvs)))) (.ref p) (fzD ds) := by
  obtain ⟨bp, kvs, hd, rk⟩ := a.bs.dict h r
  refine ⟨kvs, hd, fun od => ?_⟩
  have hs : Sub (hide B1 H1) (hide (del p B1) (upd H1 p (.frz od (.dK kvs)))) := fun b o q => by
    obtain ⟨q1, q2⟩ := hide_some q
    have z : b ≠ p := fun z => by rw [z, bp] at q1; cases q1
    refine hide_of ?_ ?_
    · rw [del_ne z]; exact q1
    · rw [upd_ne z]; exact q2
  refine ⟨⟨a.sub.trans hs, ⟨fun b e q => ?_, fun b q => ?_⟩, fun b hb n => ?_, fun b n hb => ?_, fun b o g => ?_⟩, ?_⟩
  · have z : b ≠ p := fun z => by rw [z, adel_same] at q; cases q
    rw [adel_ne z] at q
    obtain ⟨h1, h2⟩ := a.bs.cel b e q
    exact ⟨by rw [del_ne z]; exact h1, by rw [upd_ne z]; exact h2.mono hs⟩
  · have z : b ≠ p := fun z => by rw [z, del_self] at q; cases q
    rw [del_ne z] at q
    rw [upd_ne z]
    exact a.bs.bk b q
  · obtain ⟨h1, h2⟩ := a.keep b hb n
    have z : b ≠ p := fun z => by
      subst z
      obtain ⟨o, g⟩ := S.bk b hb
      rw [a.fr b n (by rw [g]; exact fun z => nomatch z)] at h
      cases h
    exact ⟨by rw [del_ne z]; exact h1, by rw [upd_ne z]; exact h2⟩
  · by_cases z : b = p
    · rw [z, adel_same]
    · rw [adel_ne z]
      exact a.fr b n hb
  · by_cases z : b = p
    · exact ⟨_, by rw [z, upd_same]⟩
    · rw [upd_ne z]
      exact a.grow b o g
  · exact .fdc (hide_of del_self upd_same) (rk.mono hs)
def fzK (m : ME) : ME := fun ρ α Q E => m ρ α (fun d α1 => cellDi α1 d fun p ds => Q (fzD ds) (adel α1 p)) E
theorem sd_fz {K : Frag} {W : WX} {t : TE} {m : ME} (h : Sd K W t m) : Sd K W (tFz t) (fzK m) := fun B σ H ρ α S Qm Em mm Q q x => by
  refine h B σ H ρ α S _ Em mm _ (fun v d B1 H1 α1 A1 r1 m => ?_) x
  obtain ⟨p, ds, rfl, e, hr, m⟩ := m
  obtain ⟨kvs, hd, k⟩ := A1.fzD S.bs e hr
  have hv := r1.cell
  subst hv
  refine ⟨p, _, rfl, hd, True.intro, fun od => ?_⟩
  obtain ⟨A2, r2⟩ := k od
  exact q _ _ _ _ _ A2 r2 m
section
variable {c : C0} {N : List Str} {sc : Scope} {o e i f tg : Expr} {p p2 p3 pos p1 : Pos} {me mo mi ma mb mk md : ME} {K : Frag} {W : WX} {x : Str}
theorem JE.fz (h : JE c N sc e me) : JE c N sc e (fzK me) := by
  obtain ⟨t, h1, h2⟩ := h
  exact ⟨fun W => tFz (t W), fun X W I T => pe_fz (h1 X W I T), fun W => sd_fz (h2 W)⟩
def keysK (m : ME) : MI := fun ρ α Q E => m ρ α (fun d α1 => ∃ ds, d = fzD ds ∧ realD ds = true ∧ Q (ds.map (·.1)) (fun _ => True) α1) E
theorem RpK.getK {K : Frag} {H : Hp} : ∀ {kvs : List (Key × V)} {ds : List (D × D)} {i : Nat} {d : D}, RpK K H kvs ds → (ds.map (·.1))[i]? = some d → ∃ k v e, kvs[i]? = some (k, v) ∧ d = kD k ∧ ds[i]? = some (kD k, e) ∧ Rp K H v e
  | _, _, _, _, .nil, h => by simp at h
  | _, _, 0, _, .cons h r, e => by
    simp at e
    exact ⟨_, _, _, rfl, e.symm, rfl, h⟩
  | _, _, i + 1, d, .cons h r, e => by
    obtain ⟨k, v, e2, h1, h2, h3, h4⟩ := RpK.getK (i := i) (d := d) r (by simpa using e)
    exact ⟨k, v, e2, by simpa using h1, h2, by simpa using h3, h4⟩
theorem si_keys {te : TE} (h : Sd K W te me) : SI K W (iKeys te) (keysK me) := fun B σ H ρ α S Qm Em m R q x => by
  refine h B σ H ρ α S _ Em m _ (fun v d B1 H1 α1 A r m => ?_) x
  obtain ⟨ds, rfl, hr, m⟩ := m
  obtain ⟨a, o, kvs, rfl, hd, rk⟩ := (Rs.vis r).dictF
  have hv : hide B1 H1 a = some (.frz o (.dK kvs)) := by
    unfold fzD at r
    generalize ez : PyData.dict ((PyData.none, PyData.none) :: ds) = z at r
    cases r with
    | dct h k =>
      injection ez with ez
      subst ez
      have := k.real
      cases this
    | fdc h k =>
      have := (hide_some h).2
      rw [hd] at this
      cases this
      exact h
    | _ => cases ez
  refine ⟨a, o, rfl, .inl ⟨kvs, hd, q _ (ds.map (·.1)) _ B1 H1 α1 A (fun B' H' α' sb bs g => ⟨fun i d hi => ?_, ?_⟩) m⟩⟩
  · obtain ⟨k, v, e2, g1, rfl, g3, g4⟩ := rk.getK hi
    refine ⟨⟨(hide_some (sb _ _ hv)).2, ?_⟩, fun x H'' y => ?_⟩
    · rw [List.getElem?_eq_some_iff] at g1
      exact g1.1
    · obtain ⟨rfl, k', v', g5, rfl⟩ := y
      rw [g1] at g5
      cases g5
      exact ⟨Sub.refl _, kV_rp k⟩
  · exact ⟨(hide_some (sb _ _ hv)).2, by rw [List.length_map, rk.length]; exact Nat.le_refl _⟩
def sortDK (mo : ME) : ME := fun ρ α Q E => mo ρ α (fun o α1 => dcD α1 o fun ds => ds.length < 64 ∧ ((∃ ks : List Str, ds.map (·.1) = ks.map .str ∧ ∀ ys : List Str, ys.Perm ks → PyProof.Rows.sortedS ys = true → Q (.list (ys.map .str)) α1) ∨ ∃ ks : List Int, ds.map (·.1) = ks.map .int ∧ ∀ ys : List Int, ys.Perm ks → ys.Pairwise (· ≤ ·) → Q (.list (ys.map .int)) α1)) E
def sortLK (mo : ME) : ME := fun ρ α Q E => mo ρ α (fun o α1 => (∃ ks : List Str, vw α1 o = some (.list (ks.map .str)) ∧ ks.length < 64 ∧ ∀ ys : List Str, ys.Perm ks → PyProof.Rows.sortedS ys = true → Q (.list (ys.map .str)) α1) ∨ ∃ ks : List Int, vw α1 o = some (.list (ks.map .int)) ∧ ks.length < 64 ∧ ∀ ys : List Int, ys.Perm ks → ys.Pairwise (· ≤ ·) → Q (.list (ys.map .int)) α1) E
def listDK (mo : ME) : ME := fun ρ α Q E => mo ρ α (fun o α1 => dcD α1 o fun ds => Q (.list (ds.map (·.1))) α1) E
def dictDK (mo : ME) : ME := fun ρ α Q E => mo ρ α (fun o α1 => dcD α1 o fun ds => Q (.dict ds) α1) E
theorem own_lst {K : Frag} {B : Addr → Bool} {H : Hp} {l : Addr} {vs : List V} {ds : List D} (h : H l = none) (r : ∀ H', RpL K H' vs ds) : CellAt K (hide (ins l B) (upd H l (.lst vs))) ((upd H l (.lst vs)) l) (.list ds) := .own ⟨vs, by rw [upd_same], r _⟩
theorem je_sortL (hg : sc.names.lookup ("sorted" : Str) = some .globalImplicit) (hm : c.mg ("sorted" : Str) = none) (ha : JE c N sc e me)
    (he : ∀ env, starEach [e] env = (false, eval e env) :: starEach [] env := by intros; rfl) (hpl : ∀ env, (backTo pos (starEach [] env)).any (·.1) = false := by intros; rfl) : JF c N sc (.Call (.Name "sorted" p) [e] [] pos) (sortLK me) := by
  obtain ⟨t, a1, a2⟩ := ha
  refine ⟨fun W => tCB (fun xs H Q => rSortedS c.K xs H Q ∨ rSorted c.K xs H Q) (tCons (t W) tNil), fun X W I T => pe_callB (by
    have h := CallR.or (X := X) cr_sortedS cr_sorted
    rw [I.K] at h
    exact h) (I.gl hg) (by rw [I.mg]; exact hm) (by decide +kernel) (pa_cons (a1 X W I T) pa_nil (he _)) (by decide) (by decide) (he _) (hpl _), fun W B σ H ρ α S Qm Em m Q q x => ?_⟩
  refine a2 W B σ H ρ α S _ Em m _ (fun v o B1 H1 α1 A r m => ?_) x
  rcases m with ⟨ks, e, hl, m⟩ | ⟨ks, e, hl, m⟩
  · obtain ⟨a, xs, rfl, h1, h2⟩ := (vw_rs A.bs r e).list
    obtain rfl := RpL.of_strs h2
    exact .inl ⟨a, ks, rfl, h1, hl, fun ys l p1 p2 hn => q l _ (ins l B1) _ α1 (A.trans S.bs (Af.cell A.bs (Sub.new hn) hn (own_lst hn fun _ => RpL.strs ys))) (A.bs.new hn) (m ys p1 p2)⟩
  · obtain ⟨a, xs, rfl, h1, h2⟩ := (vw_rs A.bs r e).list
    obtain rfl := RpL.of_ints h2
    exact .inr ⟨a, ks, rfl, h1, hl, fun ys l p1 p2 hn => q l _ (ins l B1) _ α1 (A.trans S.bs (Af.cell A.bs (Sub.new hn) hn (own_lst hn fun _ => RpL.ints ys))) (A.bs.new hn) (m ys p1 p2)⟩
/-- dict(a list of pairs) -/
def pairsD : List D → Option (List (D × D))
  | [] => some []
  | .tuple [k, d] :: r => if isK k = true then (pairsD r).map fun z => (k, d) :: z else none
  | _ :: _ => none
def mergeP (ds more : List (D × D)) : List (D × D) := more.foldl (fun acc p => putP p.1 p.2 acc) ds
def dictPK (mo : ME) : ME := fun ρ α Q E => mo ρ α (fun o α1 => ∃ ds, vw α1 o = some (.list ds) ∧ oq (pairsD ds) fun ps => Q (.dict (mergeP [] ps)) α1) E
theorem Paired.imp {α β : Type} {F G : α → β → Prop} (h : ∀ a b, F a b → G a b) : ∀ {as : List α} {bs : List β}, Paired F as bs → Paired G as bs
  | _, _, .nil => .nil
  | _, _, .cons a r => .cons (h _ _ a) (Paired.imp h r)
theorem ji_keys (h : JE c N sc e me) : JI c N sc tg e (keysK me) := by
  obtain ⟨t, h1, h2⟩ := h
  exact ⟨fun W => iKeys (t W), fun X W I T => pi_keys (h1 X W I T), fun W => si_keys (h2 W)⟩
end
end Hz
namespace Hz
open PySem L2
section
variable {ρ : En} {α : AH} {Q : QD} {QL : List D → AH → Prop} {E : QX} {D' : Md} {ma mb md mo mk me : ME} {g : D → D → Option D} {R : List (D × D) → Prop}
theorem w_dget (h : mo ρ α (fun o α1 => mk ρ α1 (fun k α2 => dcD α2 o fun ds => isK k = true ∧ oq (lookP k ds) fun z => Q z α2) E) E) : dgetK mo mk ρ α Q E := h
theorem w_dget1 (h : mo ρ α (fun o α1 => dcD α1 o fun _ => mk ρ α1 (fun k α2 => dcD α2 o fun ds => isK k = true ∧ Q ((lookP k ds).getD .none) α2) E) E) : dget1K mo mk ρ α Q E := h
theorem w_dget2 (h : mo ρ α (fun o α1 => dcD α1 o fun _ => mk ρ α1 (fun k α2 => md ρ α2 (fun x α3 => dcD α3 o fun ds => isK k = true ∧ Q ((lookP k ds).getD x) α3) E) E) E) : dget2K mo mk md ρ α Q E := h
theorem w_din (h : mk ρ α (fun k α1 => mo ρ α1 (fun o α2 => dcD α2 o fun ds => isK k = true ∧ Q (.bool (lookP k ds).isSome) α2) E) E) : dinK false mk mo ρ α Q E := h
theorem w_dnotin (h : mk ρ α (fun k α1 => mo ρ α1 (fun o α2 => dcD α2 o fun ds => isK k = true ∧ Q (.bool (!(lookP k ds).isSome)) α2) E) E) : dinK true mk mo ρ α Q E := h
theorem w_dpop1 (h : mo ρ α (fun o α1 => dcD α1 o fun _ => mk ρ α1 (fun k α2 => cellDi α2 o fun a ds => isK k = true ∧ oq (lookP k ds) fun z => Q z (aset α2 a (.dict (dropP k ds)))) E) E) : dpop1K mo mk ρ α Q E := h
theorem w_dpop2 (h : mo ρ α (fun o α1 => dcD α1 o fun _ => mk ρ α1 (fun k α2 => md ρ α2 (fun x α3 => cellDi α3 o fun a ds => isK k = true ∧ (∀ z, lookP k ds = some z → Q z (aset α3 a (.dict (dropP k ds)))) ∧ (lookP k ds = none → Q x α3)) E) E) E) : dpop2K mo mk md ρ α Q E := h
theorem w_dput (h : me ρ α (fun d α1 => mo ρ α1 (fun o α2 => mk ρ α2 (fun k α3 => cellDi α3 o fun a ds => isK k = true ∧ ds.length < 100000 ∧ D'.nx ρ (aset α3 a (.dict (putP k d ds)))) (fun x α1 => D'.ex x ρ α1)) (fun x α1 => D'.ex x ρ α1)) (fun x α1 => D'.ex x ρ α1)) : dputS me mo mk ρ α D' := h
theorem w_daug (h : mo ρ α (fun o α1 => mk ρ α1 (fun k α2 => dcD α2 o fun ds0 => isK k = true ∧ oq (lookP k ds0) fun v => me ρ α2 (fun d α3 => oq (g v d) fun z => cellDi α3 o fun a ds => ds.length < 100000 ∧ D'.nx ρ (aset α3 a (.dict (putP k z ds)))) (fun x α1 => D'.ex x ρ α1)) (fun x α1 => D'.ex x ρ α1)) (fun x α1 => D'.ex x ρ α1)) : daugS g mo mk me ρ α D' := h
theorem w_lenD (h : mo ρ α (fun o α1 => cellDi α1 o fun _ ds => Q (.int ds.length) α1) E) : lenDK mo ρ α Q E := h
theorem w_dnew (h : Q (.dict []) α) : dnewK ρ α Q E := h
theorem w_fz (h : mo ρ α (fun d α1 => cellDi α1 d fun p ds => Q (fzD ds) (adel α1 p)) E) : fzK mo ρ α Q E := h
theorem w_listD (h : mo ρ α (fun o α1 => dcD α1 o fun ds => Q (.list (ds.map (·.1))) α1) E) : listDK mo ρ α Q E := h
theorem w_dictD (h : mo ρ α (fun o α1 => dcD α1 o fun ds => Q (.dict ds) α1) E) : dictDK mo ρ α Q E := h
def exL (P : Option D) (R : List D → Prop) : Prop := ∃ ds, P = some (.list ds) ∧ R ds
theorem w_dictP (h : mo ρ α (fun o α1 => exL (vw α1 o) fun ds => oq (pairsD ds) fun ps => Q (.dict (mergeP [] ps)) α1) E) : dictPK mo ρ α Q E := h
theorem w_isiC {C : Nat} (h : ma ρ α (fun d α1 => oq (vw α1 d) fun d' => oq (isiCB C d') fun b => Q (.bool b) α1) E) : isiCK C ma ρ α Q E := h
theorem w_keys {QI : List D → (AH → Prop) → AH → Prop} (h : ma ρ α (fun d α1 => ∃ ds, d = fzD ds ∧ realD ds = true ∧ QI (ds.map (·.1)) (fun _ => True) α1) E) : keysK ma ρ α QI E := h
theorem dc_c {p : Addr} {ds : List (D × D)} (e : α p = some (.dict ds)) (r : realD ds = true) (h : R ds) : dcD α (dref p) R := ⟨ds, .inl e, r, h⟩
theorem dc_d {ds : List (D × D)} (r : realD ds = true) (h : R ds) : dcD α (.dict ds) R := by
  cases ds with
  | nil => exact ⟨[], .inl rfl, r, h⟩
  | cons p ds =>
    obtain ⟨k, d⟩ := p
    refine ⟨_, .inl ?_, r, h⟩
    cases k <;> first | rfl | cases r
theorem dc_f {ds : List (D × D)} (r : realD ds = true) (h : R ds) : dcD α (fzD ds) R := ⟨ds, .inr rfl, r, h⟩
theorem cdi_of {p : Addr} {ds : List (D × D)} {R : Addr → List (D × D) → Prop} (e : α p = some (.dict ds)) (r : realD ds = true) (h : R p ds) : cellDi α (dref p) R := ⟨p, ds, rfl, e, r, h⟩
theorem lk_of {k : D} {P : Prop} (e : isK k = true) (h : P) : isK k = true ∧ P := ⟨e, h⟩
end
def srtD (ds : List (D × D)) (R : List D → Prop) : Prop := ds.length < 64 ∧ ((∃ ks : List Str, ds.map (·.1) = ks.map .str ∧ ∀ ys : List Str, ys.Perm ks → PyProof.Rows.sortedS ys = true → R (ys.map .str)) ∨ ∃ ks : List Int, ds.map (·.1) = ks.map .int ∧ ∀ ys : List Int, ys.Perm ks → ys.Pairwise (· ≤ ·) → R (ys.map .int))
theorem w_sortD {ρ : En} {α : AH} {Q : QD} {E : QX} {mo : ME} (h : mo ρ α (fun o α1 => dcD α1 o fun ds => srtD ds fun xs => Q (.list xs) α1) E) : sortDK mo ρ α Q E := h
class KeyD (κ : Type) [DecidableEq κ] where
  d : κ → D
  is : ∀ k, isK (d k) = true
  eq : ∀ a b, kEqB (d a) (d b) = decide (a = b)
instance : KeyD Int := { d := .int, is := fun _ => rfl, eq := fun _ _ => rfl }
instance : KeyD Str := { d := .str, is := fun _ => rfl, eq := fun _ _ => rfl }
section
variable {κ : Type} [DecidableEq κ] [KeyD κ] {β : Type}
def tD (u : β → D) (l : List (κ × β)) : List (D × D) := l.map fun p => (KeyD.d p.1, u p.2)
theorem tD_real (u : β → D) : ∀ l : List (κ × β), realD (tD u l) = true
  | [] => rfl
  | p :: l => by
    show (isK (KeyD.d p.1) && realD (tD u l)) = true
    rw [KeyD.is, tD_real u l]
    rfl
end
end Hz
namespace Hz
open PySem L2
end Hz
namespace PySem
end PySem
namespace L2
open PySem PySem.Spec PyProof.Rows
end L2
namespace Hz
open PySem L2
end Hz
namespace L2
open PySem PySem.Spec PyProof.Rows
end L2
namespace Hz
open PySem L2
end Hz
namespace Hz
open PySem PySem.Spec PyProof.Rows L2
end Hz
namespace Hz
open PySem L2
variable {c : C0} {N : List Str} {sc : Scope}
def All2 (R : D → D → Prop) (ds es : List D) : Prop := ds.length = es.length ∧ ∀ (i : Nat) d e, ds[i]? = some d → es[i]? = some e → R d e
theorem All2.nil {R : D → D → Prop} : All2 R [] [] := ⟨rfl, fun i x y h _ => by simp at h⟩
theorem All2.cons {R : D → D → Prop} {d e : D} {ds es : List D} (h : R d e) (p : All2 R ds es) : All2 R (d :: ds) (e :: es) := by
  refine ⟨by rw [List.length_cons, List.length_cons, p.1], fun i a b h1 h2 => ?_⟩
  cases i with
  | zero =>
    simp at h1 h2
    subst h1; subst h2
    exact h
  | succ i =>
    simp at h1 h2
    exact p.2 i a b h1 h2
theorem All2.map {β : Type} {R : D → D → Prop} {f g : β → D} : ∀ {l : List β}, (∀ b ∈ l, R (f b) (g b)) → All2 R (l.map f) (l.map g)
  | [], _ => .nil
  | b :: l, h => .cons (h b (.head _)) (All2.map fun b m => h b (.tail _ m))
/-- instances -/
def QI (K : Frag) (C : Nat) (fm : Fm) : Eqv := fun x y H => ∃ (B : Addr → Bool) (d e : D), (∀ a, B a = true → ∃ o, H a = some o) ∧ (isOb C d = true ∧ isOb C e = true ∧ fm [d, e] (fun _ => none) (fun r _ => r = .bool true) NX) ∧ Rp K (hide B H) x d ∧ Rp K (hide B H) y e
def AtN (c : C0) (y x : Str) (st : Stmt) (ps : List Str) (dvs : List V) (js : List Nat) : Prop := ∃ f, AtF c x x st ps dvs js f ∧ c.mg y = some (.ref f)
section
variable {x y : Str} {st : Stmt} {ps : List Str} {dvs : List V} {js : List Nat} {k np : Nat} {mm : MS} {fm : Fm}
theorem AtN.run (A : AtN c y x st ps dvs js) (S : FnScope N ps (defScope st)) (h : JB (c.at_ k) N (defScope st) (defBody st) mm) (hn : ps.length ≤ N.length := by decide) : PrF c (k + 1) y ps dvs js (runF ps.length N.length mm) :=
  let ⟨f, a, m⟩ := A; ⟨f, a.run S h hn, m⟩
theorem AtN.runP (A : AtN c y x st ps dvs js) (S : FnScope N ps (defScope st)) (h : JB (c.at_ k) N (defScope st) (defBody st) mm) (hn : ps.length ≤ N.length := by decide) : PrF c (k + 1) y ps dvs js (Hz.runP ps.length N.length mm) :=
  let ⟨f, a, m⟩ := A; ⟨f, a.runP S h hn, m⟩
end
end Hz
namespace Hz
open PySem PySem.Spec PyProof.Rows L2
def keyE (e : Int × Value) : Key := match e.2 with
  | .int k _ => .inl k
  | .str x _ => .inr x
  | _ => .inl 0
def GoodK (w : World) (e : Int × Value) : Prop := ∃ k : Key, keyIs k e.2 = true ∧ e.1 = keyH w k
theorem keyE_of {k : Key} {e : Int × Value} (h : keyIs k e.2 = true) : keyE e = k := by
  unfold keyE
  rcases keyIs_shape h with ⟨i, t, rfl, e1⟩ | ⟨x, t, rfl, e1⟩ <;> rw [e1]
def mK (ns : List Key) (j : Key) : Bool := ns.any fun z => decide (z = j)
theorem mK_iff {ns : List Key} {j : Key} : mK ns j = true ↔ j ∈ ns := by
  unfold mK
  rw [List.any_eq_true]
  exact ⟨fun ⟨x, h, e⟩ => of_decide_eq_true e ▸ h, fun h => ⟨j, h, decide_eq_true rfl⟩⟩
theorem mK_no {ns : List Key} {j : Key} (h : j ∉ ns) : mK ns j = false := by
  cases q : mK ns j with
  | false => rfl
  | true => exact absurd (mK_iff.mp q) h
def SetX (w : World) (h : Heap) (a : Addr) (S : Key → Bool) (m : Nat) : Prop :=
  ∃ o es ep t, h.get? a = some o ∧ o.ExactSet ∧ o.data = .set es ep t ∧ (∀ e ∈ es.toList, GoodK w e) ∧ (es.toList.map keyE).Nodup ∧ (∀ k, S k = true ↔ k ∈ es.toList.map keyE) ∧
    es.size < scanBound ∧ t.fits es.size = true ∧ es.size ≤ m ∧ Ris t.place.toList ∧ (w.params.followText "set-order" = true ∨ t.led = true)
section
variable {P : Program} {w : World} {h h' : Heap} {a : Addr} {S : Key → Bool} {n : Nat}
theorem SetX.at (R : SetX w h a S n) (k : ∀ o, h.get? a = some o → h'.get? a = some o) : SetX w h' a S n := by
  obtain ⟨o, es, ep, t, ho, r⟩ := R
  exact ⟨o, es, ep, t, k o ho, r⟩
theorem SetX.congr {S' : Key → Bool} (R : SetX w h a S n) (e : ∀ k, S' k = S k) : SetX w h a S' n := by
  have q : S' = S := funext e
  rw [q]
  exact R
theorem SetX.le {m : Nat} (R : SetX w h a S n) (e : n ≤ m) : SetX w h a S m := by
  obtain ⟨o, es, ep, t, h1, h2, h3, h4, h5, h6, h7, h8, h9, r⟩ := R
  exact ⟨o, es, ep, t, h1, h2, h3, h4, h5, h6, h7, h8, Nat.le_trans h9 e, r⟩
theorem goodK_elems {l : List (Int × Value)} (g : ∀ e ∈ l, GoodK w e) : ElemsOf (mixKind P w) l := fun e he => by
  obtain ⟨k, h1, h2⟩ := g e he
  exact ⟨⟨k, h1, h2⟩, by rcases keyIs_shape h1 with ⟨i, t, rfl, e1⟩ | ⟨x, t, rfl, e1⟩ <;> rw [e1] <;> rfl⟩
theorem goodK_is {e : Int × Value} (g : GoodK w e) (k : Key) : (mixKind P w).is k e.2 = true ↔ keyE e = k := by
  obtain ⟨k0, h1, _⟩ := g
  rw [keyE_of h1]
  constructor
  · intro h
    exact (mixKind P w).inj _ _ _ h1 h
  · rintro rfl
    exact h1
theorem goodK_mem {l : List (Int × Value)} (g : ∀ e ∈ l, GoodK w e) (k : Key) : k ∈ l.map keyE ↔ ∃ e ∈ l, (mixKind P w).is k e.2 = true := by
  rw [List.mem_map]
  constructor
  · rintro ⟨e, he, q⟩
    exact ⟨e, he, (goodK_is (g e he) k).2 q⟩
  · rintro ⟨e, he, q⟩
    exact ⟨e, he, (goodK_is (g e he) k).1 q⟩
end
section
variable {P : Program} {w : World} {A : Around} {E : Value → Shared → Prop} {s : Shared} {a : Addr} {S : Key → Bool} {n : Nat}
theorem setX_add_tail {g : Bool → Sem Unit} (hg : ∀ (b : Bool) (s₁ : Shared) (Q' : Unit → Shared → Prop), Q' () s₁ → wpAny (model P w) A (g b) Q' E s₁)
    {o : Obj} {es : Array (Int × Value)} {ep : Nat} {t : SetTable} (ho : s.heap.get? a = some o) (hex : o.ExactSet) (hd : o.data = .set es ep t)
    {es1 : Array (Int × Value)} {t2 : SetTable} {S' : Key → Bool} (g1 : ∀ e ∈ es1.toList, GoodK w e) (nd1 : (es1.toList.map keyE).Nodup) (m1 : ∀ k, S' k = true ↔ k ∈ es1.toList.map keyE)
    (hb1 : es1.size < scanBound) (hf2 : t2.fits es1.size = true) (hr : Ris t2.place.toList) (hl : w.params.followText "set-order" = true ∨ t2.led = true) {wasDummy : Bool} {R : Option Bool → Shared → Prop}
    (hR : ∀ h', Heap.SameBut a s.heap h' → SetX w h' a S' es1.size → R (some true) { s with heap := h' }) :
    wpAny (model P w) A (do
        storeSet a es1 t2
        if (!wasDummy && t2.tooFull) = true then do
            g (relayAll t2 es1 (SetTable.grown es1.size)).2.2
            storeSet a (relayAll t2 es1 (SetTable.grown es1.size)).1 (relayAll t2 es1 (SetTable.grown es1.size)).2.1
            pure (some true)
          else pure (some true)) R E s := by
  refine wpAny_bind (wpAny_storeSet_of ho hd ?_ (fits_of_scanBound hb1))
  have ho1 := store_at (es' := es1) (t' := t2) ho hd
  have sb1 := Heap.SameBut.update s.heap a (Obj.putSet es1 t2)
  split
  · have pm := relayAll_perm t2 es1 (SetTable.grown es1.size)
    have hf3 := relayAll_fits t2 es1 (SetTable.grown es1.size)
    have hr3 := relayAll_ris t2 es1 (SetTable.grown es1.size)
    have hl3 := relayAll_led t2 es1 (SetTable.grown es1.size)
    generalize relayAll t2 es1 (SetTable.grown es1.size) = Z at pm hf3 hr3 hl3 ⊢
    obtain ⟨es2, t3, gave⟩ := Z
    dsimp only at pm hf3 hr3 hl3 ⊢
    have hsz : es2.size = es1.size := by rw [← Array.length_toList, pm.length_eq, Array.length_toList]
    have hb2 : es2.size < scanBound := by rw [hsz]; exact hb1
    refine wpAny_bind (hg _ _ _ ?_)
    refine wpAny_bind (wpAny_storeSet_of ho1 rfl ?_ (fits_of_scanBound hb2))
    have ho2 := store_at (es' := es2) (t' := t3) ho1 rfl
    refine wpAny_pure (hR _ (sb1.trans (Heap.SameBut.update _ a _)) ?_)
    exact ⟨_, es2, _, t3, ho2, hex, rfl, fun e he => g1 e (pm.mem_iff.mp he), (pm.map keyE).nodup_iff.mpr nd1, fun k => (m1 k).trans (pm.map keyE).mem_iff.symm, hb2, hf3, Nat.le_of_eq hsz, hr3,
      hl.imp id fun z => by rw [hl3]; exact z⟩
  · exact wpAny_pure (hR _ sb1 ⟨_, es1, _, t2, ho1, hex, rfl, g1, nd1, m1, hb1, hf2, Nat.le_refl _, hr, hl⟩)
theorem setX_add_hashed {k : Key} {v : Value} {Q : Bool → Shared → Prop} (R : SetX w s.heap a S n) (room : n + 1 < scanBound) (hkey : keyIs k v = true)
    (hQ : ∀ h' b, Heap.SameBut a s.heap h' → SetX w h' a (fun j => S j || decide (j = k)) (n + 1) → Q b { s with heap := h' }) :
    wpAny (model P w) A (setAddHashed a v ((mixKind P w).hash k)) Q E s := by
  obtain ⟨o, es, ep, t, ho, hex, hd, g, nd, hm, hb, hf, hn, hr, hl⟩ := R
  have hkey : (mixKind P w).is k v = true := hkey
  have hsc : v.scannable = true := by rcases keyIs_shape hkey with ⟨i, t, rfl, e1⟩ | ⟨x, t, rfl, e1⟩ <;> rw [e1] <;> rfl
  have hel : ElemsOf (mixKind P w) es.toList := goodK_elems g
  unfold setAddHashed setAddHashedIn
  refine wpAny_holding (wpAny_bind (wpAny_setState_of ho hd hf ?_))
  dsimp only
  rw [byScan_of hsc hb hel]
  simp only [↓reduceIte]
  unfold setAddByScan
  refine wpAny_bind ?_
  refine wpAny_bind (wpAny_rule ?_)
  refine wpAny_bind (wpAny_setScan_of hkey ho hd hf hel ?_)
  cases hfi : List.findIdx? (fun e => (mixKind P w).is k e.2) es.toList with
  | some j =>
    dsimp only
    obtain ⟨hj, pj, _⟩ := List.findIdx?_eq_some_iff_getElem.mp hfi
    have hSk : S k = true := (hm k).2 ((goodK_mem (P := P) (w := w) g k).2 ⟨es.toList[j], List.getElem_mem hj, pj⟩)
    refine wpAny_pure (wpAny_pure ?_)
    exact hQ s.heap _ (Heap.SameBut.refl a s.heap) ⟨o, es, ep, t, ho, hex, hd, g, nd, fun i => by
      rw [Bool.or_eq_true, decide_eq_true_eq, ← hm i]
      exact ⟨fun z => z.elim id (fun e => e ▸ hSk), .inl⟩, hb, hf, by omega, hr, hl⟩
  | none =>
    dsimp only
    have hnk : k ∉ es.toList.map keyE := fun z => by
      obtain ⟨e, he, q⟩ := (goodK_mem (P := P) (w := w) g k).1 z
      have c := List.findIdx?_eq_none_iff.mp hfi e he
      rw [q] at c
      cases c
    have hgw : ∀ (b : Bool) {s₁ : Shared} {Q' : Unit → Shared → Prop}, Q' () s₁ → wpAny (model P w) A (match b with | true => rule "set.scan.the-table-gave-way" | false => pure ()) Q' E s₁ :=
      fun b s₁ Q' q => by cases b <;> first | exact wpAny_pure q | exact wpAny_rule q
    have pm := layNew_perm t es ((mixKind P w).hash k) v
    have hf1 := layNew_fits t es ((mixKind P w).hash k) v
    have hr1 := layNew_ris t es ((mixKind P w).hash k) v hr
    have hl1 := layNew_led t es ((mixKind P w).hash k) v
    generalize layNew t es ((mixKind P w).hash k) v = Z at pm hf1 hr1 hl1 ⊢
    obtain ⟨es1, t1, wasDummy, gave⟩ := Z
    dsimp only at pm hf1 hr1 hl1 ⊢
    rw [Array.toList_push] at pm
    have pc : es1.toList.Perm (((mixKind P w).hash k, v) :: es.toList) := pm.trans (List.perm_append_singleton _ _)
    have hke : keyE ((mixKind P w).hash k, v) = k := keyE_of hkey
    have pk : (es1.toList.map keyE).Perm (k :: es.toList.map keyE) := by
      have q := pc.map keyE
      rw [List.map_cons, hke] at q
      exact q
    have g1 : ∀ e ∈ es1.toList, GoodK w e := fun e he => by
      rcases List.mem_cons.mp (pc.mem_iff.mp he) with z | z
      · rw [z]; exact ⟨k, hkey, rfl⟩
      · exact g e z
    have nd1 : (es1.toList.map keyE).Nodup := pk.nodup_iff.mpr (List.nodup_cons.mpr ⟨hnk, nd⟩)
    have m1 : ∀ i, (S i || decide (i = k)) = true ↔ i ∈ es1.toList.map keyE := fun i => by
      rw [Bool.or_eq_true, decide_eq_true_eq, hm i, pk.mem_iff, List.mem_cons]
      exact Or.comm
    have hsz : es1.size ≤ n + 1 := by rw [← Array.length_toList, pc.length_eq, List.length_cons, Array.length_toList]; omega
    have hb1 : es1.size < scanBound := by omega
    have hled : w.params.followText "set-order" = true ∨ t1.led = true := hl.imp id fun z => by rw [hl1]; exact z
    have fin : ∀ h' b, Heap.SameBut a s.heap h' → SetX w h' a (fun j => S j || decide (j = k)) es1.size → Q b { s with heap := h' } := fun h' b sb r => hQ h' b sb (r.le hsz)
    refine wpAny_bind (hgw _ ?_)
    split
    · refine wpAny_bind ?_
      rw [hashByValue_scannable 8 hsc]
      refine wpAny_pure ?_
      refine setX_add_tail ?_ ho hex hd g1 nd1 m1 hb1 ?_ ?_ ?_ ?_
      · intro b s₁ Q' q; cases b <;> first | exact wpAny_pure q | exact wpAny_rule q
      · first | (split <;> first | exact hf1 | exact SetTable.fits_plain_off hf1) | exact hf1
      · first | (split <;> exact hr1) | exact hr1
      · first | (split <;> exact hled) | exact hled
      · intro h' sb r; dsimp only; exact wpAny_pure (fin h' _ sb r)
    · refine wpAny_bind (wpAny_pure ?_)
      simp only [↓reduceIte]
      refine setX_add_tail ?_ ho hex hd g1 nd1 m1 hb1 hf1 hr1 hled ?_
      · intro b s₁ Q' q; cases b <;> first | exact wpAny_pure q | exact wpAny_rule q
      · intro h' sb r; dsimp only; exact wpAny_pure (fin h' _ sb r)
theorem setX_new_at {h : Heap} (ho : h.get? a = some { cls := .type "set", dict := none, data := .set #[] 0 (.fresh 0 0 (!w.params.followText "set-order")) }) : SetX w h a (fun _ => false) 0 :=
  ⟨_, #[], 0, _, ho, ⟨rfl, rfl, rfl⟩, rfl, (fun e he => by simp at he), (by simp), (fun k => by simp), (by decide), (by rfl), Nat.le_refl _, List.Pairwise.nil, by
    show _ ∨ (!w.params.followText "set-order") = true
    cases w.params.followText "set-order"
    · exact .inr rfl
    · exact .inl rfl⟩
theorem setX_update {I : Addr} {fp wr : List Addr} {G : Array GenState → Array GenState → Prop} {n : Nat} {Pv : Nat → Value → Prop} {St : Nat → Shared → Prop} {R : Result → Shared → Prop}
    (W : WalksS P w A.in1 I fp wr G n Pv St) (S : Addr) (hSf : S ∉ fp) (ns : List Key) (hn : n = ns.length) (hb : ns.length + 1 < scanBound) (hval : ∀ i v, Pv i v → ∃ k, ns[i]? = some k ∧ keyIs k v = true) :
    ∀ (k i : Nat) (s : Shared), n - i = k → i ≤ n → St i s → SetX w s.heap S (fun j => mK (ns.take i) j) i →
      (∀ s', Moved (S :: wr) G s s' → SetX w s'.heap S (fun j => mK (ns) j) n → R (.ok (.ret .none)) s') →
      codeAny (model P w) A (.builtin "set.update.loop" ⟨[.ref S, .ref I], []⟩) R s := by
  have hSw : S ∉ wr := fun h => hSf (W.sub _ h)
  have hsub : ∀ b ∈ wr, b ∈ S :: wr := fun b hb => List.mem_cons_of_mem _ hb
  intro k
  induction k with
  | zero =>
    intro i s hk' hi hst hS hR
    have hin : i = n := by omega
    subst hin
    refine codeAny_builtin F.entry_set_update_loop ?_
    rw [Around.under_plainId F.plain_set_update_loop _]
    show wpAny _ A.in1 (pyNext (.ref I) >>= _) _ _ s
    refine wpAny_bind (W.done s _ _ hst fun s' hm => ?_)
    show wpAny _ A.in1 (ret Value.none) _ _ s'
    have e : ns.take i = ns := List.take_of_length_le (by omega)
    rw [e] at hS
    exact wpAny_pure (hR s' (hm.mono hsub) (hS.at fun o e => hm.heap S o hSw e))
  | succ k ih =>
    intro i s hk' hi hst hS hR
    have hlt : i < n := by omega
    refine codeAny_builtin F.entry_set_update_loop ?_
    rw [Around.under_plainId F.plain_set_update_loop _]
    show wpAny _ A.in1 (pyNext (.ref I) >>= _) _ _ s
    refine wpAny_bind (W.item i s _ _ hlt hst fun v s' hP hst' hm => ?_)
    obtain ⟨z, hz, hkey⟩ := hval i v hP
    have hS' : SetX w s'.heap S (fun j => mK (ns.take i) j) i := hS.at fun o e => hm.heap S o hSw e
    show wpAny _ A.in1 (holding [v] (setAdd S v) >>= _) _ _ s'
    refine wpAny_bind (wpAny_holding ?_)
    unfold setAdd
    refine wpAny_holding ?_
    refine wpAny_bind ((mixKind P w).pyHash (k := z) hkey ?_)
    refine setX_add_hashed (s := { s' with toks := s'.toks + 1 }) hS' (by omega) hkey fun h' _ hsb hS2 => ?_
    have hS3 : SetX w h' S (fun j => mK (ns.take (i + 1)) j) (i + 1) := hS2.congr fun j => by
      rw [List.take_add_one, hz]
      unfold mK
      rw [List.any_append]
      show (_ || (decide (z = j) || false)) = (_ || decide (j = z))
      rw [Bool.or_false]
      congr 1
      exact decide_eq_decide.mpr ⟨Eq.symm, Eq.symm⟩
    refine wpAny_pure ⟨plainId_quiet F.plain_set_update_loop _, ih (i + 1) _ (by omega) hlt (W.frame _ s' _ _ hst' (Nat.le_succ _) fun b hb o e => ?_) hS3 fun s'' hm'' hS'' => ?_⟩
    · rw [hsb.2 b (fun h : b = S => hSf (by rw [← h]; exact hb))]; exact e
    · refine hR s'' (Moved.trans W.gtrans ((hm.mono hsub).then_heap (Nat.le_succ _) fun b o hb e => ?_) hm'') hS''
      rw [hsb.2 b (fun h : b = S => hb (by rw [h]; exact List.mem_cons_self))]; exact e
set_option maxHeartbeats 4000000 in
theorem call_setXL {l : Addr} {items : Array Value} (ns : List Key) {Q : Value → Shared → Prop} (hh : A.handled = none) (hl : s.heap.IsList l items) (hlen : items.size = ns.length)
    (hval : ∀ (i : Nat) (v : Value), items[i]? = some v → ∃ k, ns[i]? = some k ∧ keyIs k v = true) (hb : ns.length + 1 < scanBound)
    (h : ∀ (h' : Heap) (tk : Nat), SetX w h' s.heap.objs.size (fun j => mK (ns) j) ns.length → (∀ b o, s.heap.get? b = some o → h'.get? b = some o) → Q (.ref s.heap.objs.size) { s with heap := h', toks := tk }) :
    wpAny (model P w) A (call (.type "set") [.ref l]) Q E s := by
  obtain ⟨c, tl, hmro⟩ := F.called_set.mro
  have hmade := F.called_set.made
  have hsub := F.called_set.sub
  refine wpAny_call (codeAny_of_tree ?_)
  show wpAny _ _ (callAny (.type "set") _) _ _ _
  refine wpAny_pure ⟨Code.quiet_builtin _ (by decide +kernel), codeAny_builtin F.entry_type_call ?_⟩
  rw [Around.under_plain (weight_type_call_type "set" [.ref l] []) rfl]
  have h1 := F.called_set.notType
  have h2 := F.called_set.canCreate
  have hct := F.typeCall_set_1 (.ref l)
  repeat (any_goals (first | assumption | wp_step))
  refine codeAny_mono (code_set_led1 (.ref l) (E := E) (Q₁ := fun obj s₁ => obj = .ref s.heap.objs.size ∧ s₁ = { s with heap := s.heap.push { cls := .type "set", dict := none, data := .set #[] 0 (.fresh 0 0 (!w.params.followText "set-order")) } }) ⟨rfl, rfl⟩) fun r s₁ hr => ?_
  cases r with
  | error e => exact hr
  | ok fl =>
    cases fl with
    | ret obj =>
      obtain ⟨rfl, rfl⟩ := hr
      have hS : (s.heap.push { cls := .type "set", dict := none, data := .set #[] 0 (.fresh 0 0 (!w.params.followText "set-order")) }).get? s.heap.objs.size = some { cls := .type "set", dict := none, data := .set #[] 0 (.fresh 0 0 (!w.params.followText "set-order")) } := Heap.get?_push_size _ rfl
      have hT : Shared.TypeIs { s with heap := s.heap.push { cls := .type "set", dict := none, data := .set #[] 0 (.fresh 0 0 (!w.params.followText "set-order")) } } (.ref s.heap.objs.size) "set" := ⟨_, hS, rfl⟩
      have hli := F.called_set.init.lookup
      have hbi := F.called_set.init.bind (.ref s.heap.objs.size)
      repeat (any_goals (first | assumption | wp_step))
      refine codeAny_mono (codeAny_call_builtin (R := wants (fun r s₂ => r = .none ∧ ∃ h' tk, s₂ = { s with heap := h', toks := tk } ∧ SetX w h' s.heap.objs.size (fun j => mK (ns) j) ns.length ∧
          (∀ b o, s.heap.get? b = some o → h'.get? b = some o)) E) F.called_set.init.plain F.entry_set_init (check_set_init_1 hT ?_)) fun r₂ s₂ hr₂ => ?_
      · obtain ⟨ol, hol, hcl, nl, hdl⟩ := hl
        obtain ⟨ocls, odict, odata, oslots⟩ := ol
        simp only at hcl hdl
        subst hcl; subst hdl
        have hol' : (s.heap.push { cls := .type "set", dict := none, data := .set #[] 0 (.fresh 0 0 (!w.params.followText "set-order")) }).get? l = some { cls := .type "list", dict := odict, data := .seq items nl, slots := oslots } := Heap.get?_push_of_some _ hol
        have hsls := F.sub_list_set
        have hslf := F.sub_list_frozenset
        have hne : (Value.type "list" == Value.type "dict") = false := by decide
        have hl1 : (s.heap.push { cls := .type "set", dict := none, data := .set #[] 0 (.fresh 0 0 (!w.params.followText "set-order")) }).IsList l items := ⟨_, hol', rfl, nl, rfl⟩
        unfold Builtin.«set.__init__» noKeywords Builtin.Frozenset.updateFrom
        generalize hPI : pyIter = PI
        wp_walk
        subst hPI
        refine wpAny_pyIter_list hl1 ?_
        refine wpAny_bind (wpAny_runValue ?_)
        have hlS : l < s.heap.objs.size := Heap.lt_size hol
        have hh3 : A.in1.in1.in1.handled = none := by simp [hh]
        have hneI : l ≠ (s.heap.push { cls := .type "set", dict := none, data := .set #[] 0 (.fresh 0 0 (!w.params.followText "set-order")) }).objs.size := by
          rw [Heap.size_push]; exact Nat.ne_of_lt (Nat.lt_succ_of_lt hlS)
        have hSf : s.heap.objs.size ∉ [(s.heap.push { cls := .type "set", dict := none, data := .set #[] 0 (.fresh 0 0 (!w.params.followText "set-order")) }).objs.size, l] := by
          rw [Heap.size_push]; simp only [List.mem_cons, List.mem_singleton, List.not_mem_nil, or_false, not_or]
          exact ⟨Nat.ne_of_lt (Nat.lt_succ_self _), Nat.ne_of_gt hlS⟩
        refine setX_update ((Walks.list hh3 _ l hneI items).toS) s.heap.objs.size
          hSf ns hlen hb hval (items.size - 0) 0 _ (by omega) (Nat.zero_le _)
          ⟨⟨_, Heap.get?_push_size _ rfl, rfl, rfl⟩, (hl1.push _)⟩ ?hS0 ?hR
        case hS0 =>
          have hget : ((s.heap.push { cls := .type "set", dict := none, data := .set #[] 0 (.fresh 0 0 (!w.params.followText "set-order")) }).push { cls := .type "list_iterator", data := .fields #[.ref l, .int 0 0] }).get? s.heap.objs.size
              = some { cls := .type "set", dict := none, data := .set #[] 0 (.fresh 0 0 (!w.params.followText "set-order")) } := Heap.get?_push_of_some _ hS
          exact (setX_new_at hget).congr fun k => rfl
        case hR =>
          intro s' hm hS'
          obtain ⟨h', g2, d', tk', os'⟩ := s'
          have eg : g2 = s.gens := hm.gens
          have ed : d' = s.drawn := hm.drawn
          have eo : os' = s.os := hm.os
          subst eg; subst ed; subst eo
          show wpAny _ _ _ _ _ _
          refine wpAny_pure ?_
          show wpAny _ _ (ret Value.none) _ _ _
          rw [hlen] at hS'
          refine wpAny_pure ⟨rfl, h', tk', rfl, hS', fun b o e => ?_⟩
          have hb0 : b < s.heap.objs.size := Heap.lt_size e
          have hb1 : b ≠ s.heap.objs.size := Nat.ne_of_lt hb0
          have hb2 : b ≠ (s.heap.push { cls := .type "set", dict := none, data := .set #[] 0 (.fresh 0 0 (!w.params.followText "set-order")) }).objs.size := by
            rw [Heap.size_push]; exact Nat.ne_of_lt (Nat.lt_succ_of_lt hb0)
          exact hm.heap b o (by simp only [List.mem_cons, List.mem_singleton, List.not_mem_nil, or_false, not_or]; exact ⟨hb1, hb2⟩) (Heap.get?_push_of_some _ (Heap.get?_push_of_some _ e))
      · cases r₂ with
        | error e => exact hr₂
        | ok fl₂ =>
          cases fl₂ with
          | ret r =>
            obtain ⟨rfl, h', tk, rfl, hS', hk'⟩ := hr₂
            repeat (any_goals (first | assumption | wp_step))
            exact h _ _ hS' hk'
          | _ => exact hr₂.elim
    | _ => exact hr.elim
def strO (v : Value) : Str := match v with
  | .str x _ => x
  | _ => Str.empty
theorem strs_ofX : ∀ (l : List Value), (∀ v ∈ l, ∃ k tk, v = Value.str k tk) → StrsAre l (l.map strO)
  | [], _ => .nil
  | v :: l, h => by
    obtain ⟨k, tk, rfl⟩ := h v List.mem_cons_self
    exact .cons k tk (strs_ofX l fun u hu => h u (List.mem_cons_of_mem _ hu))
theorem nodup_of_mapX {α β : Type} {f : α → β} : ∀ {l : List α}, (l.map f).Nodup → l.Nodup
  | [], _ => List.nodup_nil
  | x :: l, h => by
    rw [List.map_cons, List.nodup_cons] at h
    exact List.nodup_cons.mpr ⟨fun z => h.1 (List.mem_map.mpr ⟨x, z, rfl⟩), nodup_of_mapX h.2⟩
theorem sorted_setXI {m : Nat} {Q : Value → Shared → Prop} (R : SetX w s.heap a S m) (hI : ∀ x : Str, S (.inr x) = false) (hh : A.handled = none) (h64 : m < 64)
    (hQ : ∀ s' p (out : Array Value) (c : Nat) (ns : List Int), (∀ b o, s.heap.get? b = some o → s'.heap.get? b = some o) → s'.gens = s.gens → s'.os = s.os → s.heap.objs.size ≤ p →
      s'.heap.get? p = some (seqObj "list" out c) → IntsAre out.toList ns → ns.Pairwise (· < ·) → (∀ k, k ∈ ns ↔ S (.inl k) = true) → ns.length ≤ m → Q (.ref p) s') :
    wpAny (model P w) A (call (.builtin "sorted") [.ref a]) Q E s := by
  obtain ⟨o, es, ep, t, ho, hex, hd, g, nd, hm, hb, hf, hn, hr, hl⟩ := R
  have hg : ∀ e ∈ es.toList, ∃ k tk, e.2 = Value.int k tk ∧ keyE e = .inl k := fun e he => by
    obtain ⟨k, h1, _⟩ := g e he
    have hk := keyE_of h1
    rcases keyIs_shape h1 with ⟨i, t, rfl, e1⟩ | ⟨x, t, rfl, e1⟩
    · exact ⟨i, t, e1, hk⟩
    · have := (hm (.inr x)).2 (List.mem_map.mpr ⟨e, he, hk⟩)
      rw [hI x] at this
      cases this
  refine Calls.call_function_entry kind_sorted plain_sorted entry_sorted (args_sorted1 _) ?_
  unfold Builtin.«sorted»
  refine wpAny_bind (m := checkCount "sorted" 1 1 _) (wpAny_pure ?_)
  refine wpAny_bind (collect_set (A := A.in1) hh ⟨o, ho, hex.1, hd⟩ hf hb hr hl fun s1 vs k1 hz g1 o1 pm => ?_)
  have hvl : vs.length ≤ m := by rw [pm.length_eq, List.length_map, Array.length_toList]; exact hn
  have hI : IntsAre vs (vs.map Builtin.Re.reRawOf) := ints_of vs fun v hv => by
    obtain ⟨e, he, q⟩ := List.mem_map.mp (pm.mem_iff.mp hv)
    obtain ⟨k, tk, h1, _⟩ := hg e he
    exact ⟨k, tk, by rw [← q]; exact h1⟩
  have pk : ((vs.map Builtin.Re.reRawOf).map (Sum.inl : Int → Key)).Perm (es.toList.map keyE) := by
    have q := (pm.map Builtin.Re.reRawOf).map (Sum.inl : Int → Key)
    refine q.trans (List.Perm.of_eq ?_)
    rw [List.map_map, List.map_map]
    refine List.map_congr_left fun e he => ?_
    obtain ⟨k, tk, h1, h2⟩ := hg e he
    rw [h2]
    show Sum.inl (Builtin.Re.reRawOf e.2) = _
    rw [h1]
    rfl
  refine wpAny_bind (wpAny_newList ?_ (by rw [sizeLine_eq]; omega))
  have hoL : (s1.heap.push (seqObj "list" vs.toArray 0)).get? s1.heap.objs.size = some (seqObj "list" vs.toArray 0) := Heap.get?_push_size _ rfl
  refine wpAny_bind (wpAny_holding (wpAny_call_entry slot_list_sort ⟨_, hoL, rfl⟩ entry_list_sort (list_sort_tree hoL hI (by omega) fun out ns' a1 a2 a3 => ⟨_, rfl, ?_⟩) (args_list_sort _)))
  obtain ⟨c, hc⟩ := sortedHeap_at (vs := vs) (out := out) hoL
  have pn : (ns'.map (Sum.inl : Int → Key)).Perm (es.toList.map keyE) := (a2.map _).trans pk
  have hnd : ns'.Nodup := by
    have := pn.nodup_iff.mpr nd
    exact nodup_of_mapX this
  refine wpAny_pure ⟨_, rfl, hQ _ s1.heap.objs.size out c ns' (fun b u e => ?_) g1 o1 hz hc a1 (lt_of_le_nodup ns' a3 hnd) (fun k => ?_) ?_⟩
  · have q := k1 b u e
    have hlt := Heap.lt_size q
    show (sortedHeap (s1.heap.push (seqObj "list" vs.toArray 0)) s1.heap.objs.size vs out).get? b = some u
    rw [sortedHeap_old (Nat.ne_of_lt hlt) (by rw [size_push']; exact Nat.lt_succ_of_lt hlt)]
    exact Heap.get?_push_of_some _ q
  · rw [hm (.inl k), ← pn.mem_iff, List.mem_map]
    exact ⟨fun z => ⟨k, z, rfl⟩, fun ⟨j, z, e⟩ => by injection e with e; rw [← e]; exact z⟩
  · have h9 : ns'.length = es.size := by
      have h8 := pn.length_eq
      rw [List.length_map, List.length_map] at h8
      exact h8.trans (Array.length_toList (xs := es))
    rw [h9]
    exact hn
theorem sorted_setXS {m : Nat} {Q : Value → Shared → Prop} (R : SetX w s.heap a S m) (hI : ∀ x : Int, S (.inl x) = false) (hh : A.handled = none) (h64 : m < 64)
    (hQ : ∀ s' p (out : Array Value) (c : Nat) (ns : List Str), (∀ b o, s.heap.get? b = some o → s'.heap.get? b = some o) → s'.gens = s.gens → s'.os = s.os → s.heap.objs.size ≤ p →
      s'.heap.get? p = some (seqObj "list" out c) → StrsAre out.toList ns → sortedS ns = true → ns.Nodup → (∀ k, k ∈ ns ↔ S (.inr k) = true) → ns.length ≤ m → Q (.ref p) s') :
    wpAny (model P w) A (call (.builtin "sorted") [.ref a]) Q E s := by
  obtain ⟨o, es, ep, t, ho, hex, hd, g, nd, hm, hb, hf, hn, hr, hl⟩ := R
  have hg : ∀ e ∈ es.toList, ∃ k tk, e.2 = Value.str k tk ∧ keyE e = .inr k := fun e he => by
    obtain ⟨k, h1, _⟩ := g e he
    have hk := keyE_of h1
    rcases keyIs_shape h1 with ⟨i, t, rfl, e1⟩ | ⟨x, t, rfl, e1⟩
    · have := (hm (.inl i)).2 (List.mem_map.mpr ⟨e, he, hk⟩)
      rw [hI i] at this
      cases this
    · exact ⟨x, t, e1, hk⟩
  refine Calls.call_function_entry kind_sorted plain_sorted entry_sorted (args_sorted1 _) ?_
  unfold Builtin.«sorted»
  refine wpAny_bind (m := checkCount "sorted" 1 1 _) (wpAny_pure ?_)
  refine wpAny_bind (collect_set (A := A.in1) hh ⟨o, ho, hex.1, hd⟩ hf hb hr hl fun s1 vs k1 hz g1 o1 pm => ?_)
  have hvl : vs.length ≤ m := by rw [pm.length_eq, List.length_map, Array.length_toList]; exact hn
  have hI : StrsAre vs (vs.map strO) := strs_ofX vs fun v hv => by
    obtain ⟨e, he, q⟩ := List.mem_map.mp (pm.mem_iff.mp hv)
    obtain ⟨k, tk, h1, _⟩ := hg e he
    exact ⟨k, tk, by rw [← q]; exact h1⟩
  have pk : ((vs.map strO).map (Sum.inr : Str → Key)).Perm (es.toList.map keyE) := by
    have q := (pm.map strO).map (Sum.inr : Str → Key)
    refine q.trans (List.Perm.of_eq ?_)
    rw [List.map_map, List.map_map]
    refine List.map_congr_left fun e he => ?_
    obtain ⟨k, tk, h1, h2⟩ := hg e he
    rw [h2]
    show Sum.inr (strO e.2) = _
    rw [h1]
    rfl
  refine wpAny_bind (wpAny_newList ?_ (by rw [sizeLine_eq]; omega))
  have hoL : (s1.heap.push (seqObj "list" vs.toArray 0)).get? s1.heap.objs.size = some (seqObj "list" vs.toArray 0) := Heap.get?_push_size _ rfl
  refine wpAny_bind (wpAny_holding (wpAny_call_entry slot_list_sort ⟨_, hoL, rfl⟩ entry_list_sort (list_sort_treeK strKind_oneLt hoL hI.keysOf (fun v₁ v₂ rest e => keyKind_strs (by rw [← e]; exact hI)) (by omega) fun st' hp hs => ⟨_, rfl, ?_⟩) (args_list_sort _)))
  obtain ⟨ns', a1, a2, a3⟩ := sorted_out_str hI hp hs
  obtain ⟨c, hc⟩ := sortedHeap_at (vs := vs) (out := (arrOf st').map (·.2)) hoL
  have pn : (ns'.map (Sum.inr : Str → Key)).Perm (es.toList.map keyE) := (a2.map _).trans pk
  have hnd : ns'.Nodup := nodup_of_mapX (pn.nodup_iff.mpr nd)
  refine wpAny_pure ⟨_, rfl, hQ _ s1.heap.objs.size _ c ns' (fun b u e => ?_) g1 o1 hz hc a1 a3 hnd (fun k => ?_) ?_⟩
  · have q := k1 b u e
    have hlt := Heap.lt_size q
    show (sortedHeap (s1.heap.push (seqObj "list" vs.toArray 0)) s1.heap.objs.size vs _).get? b = some u
    rw [sortedHeap_old (Nat.ne_of_lt hlt) (by rw [size_push']; exact Nat.lt_succ_of_lt hlt)]
    exact Heap.get?_push_of_some _ q
  · rw [hm (.inr k), ← pn.mem_iff, List.mem_map]
    exact ⟨fun z => ⟨k, z, rfl⟩, fun ⟨j, z, e⟩ => by injection e with e; rw [← e]; exact z⟩
  · have h9 : ns'.length = es.size := by
      have h8 := pn.length_eq
      rw [List.length_map, List.length_map] at h8
      exact h8.trans (Array.length_toList (xs := es))
    rw [h9]
    exact hn
end
def SetXO (w : World) (a : Addr) (S : Key → Bool) (n : Nat) : HO := .ext fun h => SetX w h a S n
section
variable {X : Cx}
theorem setXO_new {w : World} {P : Program} {H : Hp} {h : Heap} {a : Addr} {S : Key → Bool} {n : Nat} (R : SetX w h a S n) : ObjOk P w H h a (SetXO w a S n) := by
  have ⟨o, _, _, _, ho, _⟩ := R
  exact ⟨R, ⟨o, ho⟩, fun h1 h2 p k => SetX.at p k⟩
theorem setXO_get {pins : List (Addr × Obj)} {σ : L2.St} {H : Hp} {s : Shared} {a : Addr} {S : Key → Bool} {n : Nat} (I : Inv X pins σ H s) (ha : H a = some (SetXO X.w a S n)) : SetX X.w s.heap a S n := (I.hok a _ ha).1
/-- set(a list of keys) -/
def rSetL (K : PySem.W.Frag) (w : World) : List V → Hp → VK → Prop := fun xs H Q => ∃ (a : Addr) (ks : List Key), xs = [V.ref a] ∧ SqL K H a (ks.map L2.kV) ∧ ks.length ≤ 4000 ∧ ∀ p, H p = none → Q (.ref p) (upd H p (SetXO w p (fun j => mK (ks) j) ks.length))
theorem cr_setL (hc : X.calm = true) : CallR X (.type "set") (rSetL X.K X.w) := by
  intro pins s σ H vs us Q I r h
  obtain ⟨a, ks, rfl, hs, hl, q⟩ := h
  obtain ⟨its, rv, hL, _⟩ := I.list hs
  rw [Vals.ref1 r]
  have hlen := rv.length
  rw [List.length_map] at hlen
  refine call_setXL (items := its.toArray) ks (I.ok.hd hc) hL.isList (by simp [← hlen]) (fun i v hv => ?_) (by unfold scanBound; omega) fun h' tk R k => ?_
  · have hv' : its[i]? = some v := by simpa using hv
    have hi : i < ks.length := by rw [hlen]; exact (List.getElem?_eq_some_iff.mp hv').1
    obtain ⟨v2, g1, g2⟩ := Vals.get rv (i := i) (x := L2.kV ks[i]) (by simp [hi])
    rw [hv'] at g1
    cases g1
    exact ⟨ks[i], List.getElem?_eq_getElem hi, kV_is (P := X.prog) (w := X.w) g2⟩
  · exact ⟨.ref _, upd H s.heap.objs.size (SetXO X.w s.heap.objs.size (fun j => mK (ks) j) ks.length), I.laid (t' := tk) k (Nat.le_refl _) (setXO_new R), rfl, q _ (I.hok.fresh (Nat.le_refl _))⟩
def rSortX (w : World) : List V → Hp → VK → Prop := fun vs H Q => ∃ (a : Addr) (S : Key → Bool) (n : Nat), vs = [V.ref a] ∧ H a = some (SetXO w a S n) ∧ n < 64 ∧
  (((∀ x : Int, S (.inl x) = false) ∧ ∀ (ns : List Str) (p : Addr), sortedS ns = true → ns.Nodup → (∀ k : Str, k ∈ ns ↔ S (.inr k) = true) → ns.length ≤ n → H p = none → Q (.ref p) (upd H p (.lst (ns.map V.str)))) ∨
   ((∀ x : Str, S (.inr x) = false) ∧ ∀ (ns : List Int) (p : Addr), ns.Pairwise (· < ·) → (∀ k : Int, k ∈ ns ↔ S (.inl k) = true) → ns.length ≤ n → H p = none → Q (.ref p) (upd H p (.lst (ns.map V.int)))))
theorem cr_sortX (hc : X.calm = true) : CallR X (.builtin "sorted") (rSortX X.w) := by
  intro pins s σ H vs us Q I r h
  obtain ⟨a, S, n, rfl, ha, h64, q⟩ := h
  have R := setXO_get I ha
  rw [Vals.ref1 r]
  rcases q with ⟨hn, q⟩ | ⟨hn, q⟩
  · refine sorted_setXS R hn (I.ok.hd hc) h64 fun s' p out c ns k g o hp hg hi hs hd hm hl => ?_
    have hlen : (ns.map V.str).length ≤ sizeLine := by rw [List.length_map, sizeLine_eq]; omega
    have hn : H p = none := I.hok.fresh hp
    have J : Inv X pins σ (upd H p (.lst (ns.map V.str))) { s with heap := s'.heap, gens := s'.gens, drawn := s'.drawn, toks := s'.toks } :=
      I.call (ch := []) (Un.laid k hp hn) (I.hok.laid k hp ⟨hlen, out.toList, c, vals_of_strs hi, hg⟩) (by rw [g]; exact I.bare) (fun _ z => nomatch z)
    have e : s' = { s with heap := s'.heap, gens := s'.gens, drawn := s'.drawn, toks := s'.toks } := by
      cases s'
      cases s
      cases o
      rfl
    rw [e]
    exact ⟨.ref p, _, J, rfl, q ns p hs hd hm hl hn⟩
  · refine sorted_setXI R hn (I.ok.hd hc) h64 fun s' p out c ns k g o hp hg hi hs hm hl => ?_
    have hlen : (ns.map V.int).length ≤ sizeLine := by rw [List.length_map, sizeLine_eq]; omega
    have hn : H p = none := I.hok.fresh hp
    have J : Inv X pins σ (upd H p (.lst (ns.map V.int))) { s with heap := s'.heap, gens := s'.gens, drawn := s'.drawn, toks := s'.toks } :=
      I.call (ch := []) (Un.laid k hp hn) (I.hok.laid k hp ⟨hlen, out.toList, c, vals_of_ints hi, hg⟩) (by rw [g]; exact I.bare) (fun _ z => nomatch z)
    have e : s' = { s with heap := s'.heap, gens := s'.gens, drawn := s'.drawn, toks := s'.toks } := by
      cases s'
      cases s
      cases o
      rfl
    rw [e]
    exact ⟨.ref p, _, J, rfl, q ns p hs hm hl hn⟩
end
def sortSetK (mo : ME) : ME := fun ρ α Q E => mo ρ α (fun o α1 =>
  (∃ ks : List Str, vw α1 o = some (.list (ks.map .str)) ∧ ks.length < 64 ∧ ∀ ys : List Str, sortedS ys = true → ys.Nodup → (∀ k, k ∈ ys ↔ k ∈ ks) → Q (.list (ys.map .str)) α1) ∨
  ∃ ks : List Int, vw α1 o = some (.list (ks.map .int)) ∧ ks.length < 64 ∧ ∀ ys : List Int, ys.Pairwise (· < ·) → (∀ k, k ∈ ys ↔ k ∈ ks) → Q (.list (ys.map .int)) α1) E
section
variable {c : C0} {N : List Str} {sc : Scope} {o e i f tg : Expr} {p p2 p3 pos pos2 p1 : Pos} {me mo mi ma mb mk md : ME} {K : Frag} {W : WX} {x : Str}
theorem je_sortSet (hg : sc.names.lookup ("sorted" : Str) = some .globalImplicit) (hm : c.mg ("sorted" : Str) = none) (hg2 : sc.names.lookup ("set" : Str) = some .globalImplicit) (hm2 : c.mg ("set" : Str) = none) (ha : JE c N sc e me) (hc : c.cm = true := by rfl)
    (he : ∀ env, starEach [e] env = (false, eval e env) :: starEach [] env := by intros; rfl) (hpl : ∀ env, (backTo pos (starEach [] env)).any (·.1) = false := by intros; rfl)
    (he2 : ∀ env, starEach [(.Call (.Name "set" p2) [e] [] pos2 : Expr)] env = (false, eval (.Call (.Name "set" p2) [e] [] pos2) env) :: starEach [] env := by intros; rfl) (hpl2 : ∀ env, (backTo pos2 (starEach [] env)).any (·.1) = false := by intros; rfl) : JF c N sc (.Call (.Name "sorted" p) [.Call (.Name "set" p2) [e] [] pos2] [] pos) (sortSetK me) := by
  obtain ⟨t, a1, a2⟩ := ha
  refine ⟨fun W => tCB (rSortX c.w) (tCons (tCB (rSetL c.K c.w) (tCons (t W) tNil)) tNil), fun X W I T => ?_, fun W B σ H ρ α S Qm Em m Q q x => ?_⟩
  · have h1 := cr_setL (X := X) (I.calm hc)
    have h2 := cr_sortX (X := X) (I.calm hc)
    rw [I.K, I.w] at h1
    rw [I.w] at h2
    exact pe_callB h2 (I.gl hg) (by rw [I.mg]; exact hm) (by decide +kernel) (pa_cons (pe_callTy h1 (I.gl hg2) (by rw [I.mg]; exact hm2) (by decide +kernel) (pa_cons (a1 X W I T) pa_nil (he X.env)) (by decide) (by decide) (he X.env) (hpl2 X.env)) pa_nil (he2 X.env)) (by decide) (by decide) (he2 X.env) (hpl X.env)
  · refine a2 W B σ H ρ α S _ Em m _ (fun v o B1 H1 α1 A r m => ?_) x
    rcases m with ⟨ks, e, hl, m⟩ | ⟨ks, e, hl, m⟩
    · obtain ⟨a, xs, rfl, h1, h2⟩ := (vw_rs A.bs r e).list
      obtain rfl := RpL.of_strs h2
      refine ⟨a, ks.map Sum.inr, rfl, ?_, by rw [List.length_map]; omega, fun p hp => ⟨p, _, _, rfl, upd_same, by rw [List.length_map]; exact hl, .inl ⟨fun x => mK_no (by simp), fun ys l s1 s2 s3 s4 hn => ?_⟩⟩⟩
      · have : (ks.map Sum.inr).map L2.kV = ks.map V.str := by rw [List.map_map]; rfl
        rw [this]; exact h1
      · have hn1 : H1 l = none := by
          by_cases z : l = p
          · rw [z]; exact hp
          · rw [upd_ne z] at hn; exact hn
        have A2 : Af c.K B1 H1 α1 B1 (upd H1 p (SetXO c.w p (fun j => mK (ks.map Sum.inr) j) (ks.map (Sum.inr : Str → Key)).length)) α1 := Af.of_sub A.bs (Sub.new hp)
        exact q l _ (ins l B1) _ α1 ((A.trans S.bs A2).trans S.bs (Af.cell A2.bs (Sub.new hn) hn (own_lst hn fun _ => RpL.strs ys))) (A.bs.new hn1) (m ys s1 s2 fun k => by rw [s3, mK_iff]; simp)
    · obtain ⟨a, xs, rfl, h1, h2⟩ := (vw_rs A.bs r e).list
      obtain rfl := RpL.of_ints h2
      refine ⟨a, ks.map Sum.inl, rfl, ?_, by rw [List.length_map]; omega, fun p hp => ⟨p, _, _, rfl, upd_same, by rw [List.length_map]; exact hl, .inr ⟨fun x => mK_no (by simp), fun ys l s1 s3 s4 hn => ?_⟩⟩⟩
      · have : (ks.map Sum.inl).map L2.kV = ks.map V.int := by rw [List.map_map]; rfl
        rw [this]; exact h1
      · have hn1 : H1 l = none := by
          by_cases z : l = p
          · rw [z]; exact hp
          · rw [upd_ne z] at hn; exact hn
        have A2 : Af c.K B1 H1 α1 B1 (upd H1 p (SetXO c.w p (fun j => mK (ks.map Sum.inl) j) (ks.map (Sum.inl : Int → Key)).length)) α1 := Af.of_sub A.bs (Sub.new hp)
        exact q l _ (ins l B1) _ α1 ((A.trans S.bs A2).trans S.bs (Af.cell A2.bs (Sub.new hn) hn (own_lst hn fun _ => RpL.ints ys))) (A.bs.new hn1) (m ys s1 fun k => by rw [s3, mK_iff]; simp)
end
end Hz
namespace Hz
open PySem PySem.Spec PyProof.Rows L2
section
open PySem.SeqAt MeetsSeq AutoSeq1
theorem remove_loopAt (l : Addr) (items : Array Value) (n : Nat) (x : Value) (e : Value → Bool) (j : Nat) (hj : j < items.size) (hit : e items[j] = true) (k : Nat) (hs1 : items.size ≤ sizeLine) :
    ∀ i : Nat, j - i = k → i ≤ j → (∀ m (hm : m < items.size), i ≤ m → m < j → e items[m] = false) → Meets (Builtin.«list.remove.loop» ⟨[.ref l, x, rawInt i], []⟩)
      (fun A R s => s.heap.get? l = some { cls := .type "list", dict := none, data := .seq items n, slots := #[] } ∧ (∀ y, y ∈ items → EqAt A.in1 s y x (e y)) ∧ R (.ok (.ret .none)) { s with heap := s.heap.update l (Obj.mapSeq fun xs => xs.eraseIdxIfInBounds j) }) := by
  induction k with
  | zero =>
    intro i hk hij hno prog w A R s h
    obtain ⟨hp, g, d, tk, os⟩ := s; obtain ⟨hl, he, h⟩ := h
    have hij' : i = j := by omega
    subst hij'
    wp_walk using wpAny_loadPart' hl
    have hi : items[((i : Nat) : Int).toNat]? = some items[i] := by simp [hj]
    rw [hi]
    refine wpAny_bind (he _ (Array.getElem_mem hj) prog w _ _ ?_)
    rw [hit]
    have hz' : (items.eraseIdxIfInBounds i).size ≤ sizeLine + 1 := Nat.le_trans (size_erased items _) (Nat.le_succ_of_le hs1)
    wp_walk using (wpAny_updateSeq hl rfl (hz := hs1) (_hz' := hz')), wpAny_loadPart' hl
    simpa using h
  | succ k ih =>
    intro i hk hij hno prog w A R s h
    obtain ⟨hp, g, d, tk, os⟩ := s; obtain ⟨hl, he, h⟩ := h
    have hlt : i < items.size := by omega
    wp_walk using wpAny_loadPart' hl
    have hi : items[((i : Nat) : Int).toNat]? = some items[i] := by simp [hlt]
    have hc : ((i : Int) + 1) = ((i + 1 : Nat) : Int) := by push_cast; rfl
    rw [hi]
    refine wpAny_bind (he _ (Array.getElem_mem hlt) prog w _ _ ?_)
    rw [hno i hlt (Nat.le_refl _) (by omega)]
    wp_walk
    rw [hc]
    exact ⟨plainId_quiet plain_remove_loop _, codeAny_builtin entry_remove_loop (by
      rw [Around.under_plainId plain_remove_loop _]
      exact ih (i + 1) (by omega) (by omega) (fun m hm h1 h2 => hno m hm (by omega) h2) prog w A R _ ⟨hl, he, h⟩)⟩
theorem list_removeAt (l : Addr) (items : Array Value) (n : Nat) (x : Value) (e : Value → Bool) (j : Nat) (hj : j < items.size)
    (hit : e items[j] = true) (hno : ∀ m (hm : m < items.size), m < j → e items[m] = false) (hs1 : items.size ≤ sizeLine) :
    Meets (Builtin.«list.remove» ⟨[.ref l, x], []⟩)
      (fun A R s => s.heap.get? l = some { cls := .type "list", dict := none, data := .seq items n, slots := #[] } ∧ (∀ y, y ∈ items → EqAt A.in1 s y x (e y)) ∧ R (.ok (.ret .none)) { s with heap := s.heap.update l (Obj.mapSeq fun xs => xs.eraseIdxIfInBounds j) }) := by
  intro prog w A R s h
  obtain ⟨hp, g, d, tk, os⟩ := s; obtain ⟨hl, he, h⟩ := h
  wp_walk using wpAny_loadPart' hl
  exact ⟨plainId_quiet plain_remove_loop _, codeAny_builtin entry_remove_loop (by
    rw [Around.under_plainId plain_remove_loop _]
    exact remove_loopAt l items n x e j hj hit _ hs1 0 rfl (Nat.zero_le _) (fun m hm _ h2 => hno m hm h2) prog w A R _ ⟨hl, he, h⟩)⟩
end
def rRemD (K : PySem.W.Frag) : V → List V → Hp → VK → Prop := fun x xs H Q => ∃ (l : Addr) (vs : List V) (y : V) (d : PyData) (ds : List PyData) (j : Nat) (z : PyData), x = .ref l ∧ xs = [y] ∧ H l = some (.lst vs) ∧ DpAll K H vs ds ∧ Dp K H y d ∧
  SeqAt.shaped (.list ds) = true ∧ SeqAt.shaped d = true ∧ ds[j]? = some z ∧ PyData.eqv z d = true ∧ (∀ (m : Nat) (z' : PyData), m < j → ds[m]? = some z' → PyData.eqv z' d = false) ∧ Q .non (upd H l (.lst (vs.eraseIdx j)))
theorem mt_removeD {X : Cx} (hu : X.A.units + 65 < cLine) : MtM X "list.remove" (rRemD X.K) := by
  intro pins s σ H x xs v us Q I rx rxs h
  obtain ⟨l, vs, y, d, ds, j, z, rfl, rfl, hH, hl, hy, sl, sd, hz, hzj, hno, q⟩ := h
  cases rx
  obtain ⟨uy, rfl, ry⟩ := rxs.one
  obtain ⟨bs, r1⟩ := Dp.reads I d y uy hy ry
  have hxs : PyData.canLayAll0 ds = true := SeqAt.canLay_of_shaped sl
  have hroom : X.A.units + 1 + min (PyData.depthAll ds) d.depth < cLine := room_in_shaped sd hu
  obtain ⟨z0, its, n, r, hlen, e⟩ := I.lstM hH
  obtain ⟨as, h4⟩ := Dp.readsAll I ds _ its hl r
  have hn : its.length = ds.length := SeqAt.ReadsAll.length ds its as h4
  have hmap : its.map (SeqAt.readOf s.heap) = ds := SeqAt.readsAll_map ds its as hxs h4
  have hvl := r.length
  have hsl := sizeLine_eq
  obtain ⟨hjd, _⟩ := List.getElem?_eq_some_iff.mp hz
  have hjl : j < its.length := by omega
  have hj : j < its.toArray.size := by simpa using hjl
  have at_ : ∀ (m : Nat) (hm : m < its.toArray.size) (z' : PyData), ds[m]? = some z' → SeqAt.readOf s.heap its.toArray[m] = z' := by
    intro m hm z' hz'
    have hml : m < its.length := by simpa using hm
    rw [← hmap, List.getElem?_map, List.getElem?_eq_getElem hml] at hz'
    have e1 : SeqAt.readOf s.heap its[m] = z' := Option.some.inj (show some (SeqAt.readOf s.heap its[m]) = some z' from hz')
    simpa using e1
  refine call_meets PySem.F.slot_list_remove ⟨_, e, rfl⟩ PySem.F.entry_list_remove (PySem.F.args_list_remove_2 _ _)
    (list_removeAt l its.toArray n uy (fun u => PyData.eqv (SeqAt.readOf s.heap u) d) j hj ?_ ?_ (by rw [List.size_toArray]; omega)) ⟨e, SeqAt.items_eqAt (vs := its.toArray) (show ReadsAll s.heap its.toArray.toList ds as from h4) r1 hxs (SeqAt.canLay_of_shaped sd) hroom, ?_⟩
  · show PyData.eqv (SeqAt.readOf s.heap its.toArray[j]) d = true
    rw [at_ j hj z hz]
    exact hzj
  · intro m hm hmj
    have hmd : m < ds.length := by
      have : m < its.length := by simpa using hm
      omega
    have hz' : ds[m]? = some ds[m] := List.getElem?_eq_getElem hmd
    show PyData.eqv (SeqAt.readOf s.heap its.toArray[m]) d = false
    rw [at_ m hm _ hz']
    exact hno m _ hmj hz'
  · have rr := r.eraseIdx j
    refine ⟨.non, _, I.lset (its' := its.eraseIdx j) (t' := s.toks) hH e ?_ rr ?_, rfl, q⟩
    · show its.toArray.eraseIdxIfInBounds j = (its.eraseIdx j).toArray
      rw [List.eraseIdxIfInBounds_toArray]
    · have := len_erase vs j
      omega
def muRemove (ds as : List D) : Option (D × List D) := match as with
  | [d] => if okD 60 (.list ds) = true ∧ okD 60 d = true then (ds.findIdx? fun z => PyData.eqv z d).map fun j => (.none, ds.eraseIdx j) else none
  | _ => none
section
variable {c : C0} {N : List Str} {sc : Scope}
theorem mu_remove : MuD c.K (In c N sc) "list.remove" muRemove := by
  refine ⟨rRemD c.K, fun X I => by
    have h := mt_removeD (X := X) I.u65
    rw [I.K] at h
    exact h, fun B H l vs ds us as z ds' bk bl hl r ra e Q q => ?_⟩
  unfold muRemove at e
  split at e
  · rename_i d
    split at e
    · rename_i ok
      obtain ⟨o1, o2⟩ := ok
      cases e4 : ds.findIdx? (fun z => PyData.eqv z d) with
      | none => simp [e4] at e
      | some j =>
        simp [e4] at e
        obtain ⟨rfl, rfl⟩ := e
        obtain ⟨lj, ej, nj⟩ := List.findIdx?_eq_some_iff_getElem.mp e4
        have sh1 := okD_shaped o1 (by decide)
        have sh2 := okD_shaped o2 (by decide)
        cases ra with
        | cons r1 r2 =>
          cases r2
          refine ⟨l, vs, _, d, ds, j, ds[j], rfl, rfl, hl, (r.mono (hide_sub B H)).dp sh1.2, (r1.mono (hide_sub B H)).dp sh2.2, sh1.1, sh2.1, List.getElem?_eq_getElem lj, ej, fun m' z' hm hz' => ?_, q _ _ (RpL.eraseIdx _ r) .non⟩
          have lm : m' < ds.length := by omega
          rw [List.getElem?_eq_getElem lm] at hz'
          cases hz'
          have := nj m' hm
          simpa using this
    · cases e
  · cases e
end
end Hz
namespace K27
open PySem L2 Hz
def m_Rule_init (C_Rule C_Store C_FolderkinError C_PowerCut gX : Nat) : MS := seqS (setaS C_Rule "each" (kV 1) (kV 0))
  (setaS C_Rule "total" (kV 2) (kV 0))
def f_Rule_init (C_Rule C_Store C_FolderkinError C_PowerCut gX : Nat) : Fm := runF 3 3 (m_Rule_init C_Rule C_Store C_FolderkinError C_PowerCut gX)
def m_Rule_eq (C_Rule C_Store C_FolderkinError C_PowerCut gX : Nat) : MS := seqS (ifS (notK (tst (isiCK C_Rule (kV 1)))) (retS (kC (.bool false))) (nextS))
  (retS (bop dEq (tupK (consK (fldK C_Rule "each" (kV 0)) (consK (fldK C_Rule "total" (kV 0)) (nilK)))) (tupK (consK (fldK C_Rule "each" (kV 1)) (consK (fldK C_Rule "total" (kV 1)) (nilK))))))
def f_Rule_eq (C_Rule C_Store C_FolderkinError C_PowerCut gX : Nat) : Fm := runP 2 2 (m_Rule_eq C_Rule C_Store C_FolderkinError C_PowerCut gX)
def m_Store_attic (C_Rule C_Store C_FolderkinError C_PowerCut gX : Nat) : MS := retS (lcK [1, 2, 3] (listK (fldK C_Store "old" (kV 0))) (tgTup 3 (tgCons (setv 1) (tgCons (setv 2) (tgCons (setv 3) (tgNil))))) (yesK) (tupK (consK (kV 1) (consK (kV 2) (consK (b1K dList (kV 3)) (nilK))))))
def f_Store_attic (C_Rule C_Store C_FolderkinError C_PowerCut gX : Nat) : Fm := runP 1 4 (m_Store_attic C_Rule C_Store C_FolderkinError C_PowerCut gX)
def m_kept (C_Rule C_Store C_FolderkinError C_PowerCut gX : Nat) : MS := retS (lcK [2, 3, 4] (listK (methK C_Store "attic" 0 (f_Store_attic C_Rule C_Store C_FolderkinError C_PowerCut gX) [] (kV 0) nilK)) (tgTup 3 (tgCons (setv 2) (tgCons (setv 3) (tgCons (setv 4) (tgNil))))) (tst (bop dEq (kV 2) (kV 1))) (tupK (consK (kV 3) (consK (kV 4) (nilK)))))
def f_kept (C_Rule C_Store C_FolderkinError C_PowerCut gX : Nat) : Fm := runP 2 5 (m_kept C_Rule C_Store C_FolderkinError C_PowerCut gX)
def m_first_of (C_Rule C_Store C_FolderkinError C_PowerCut gX : Nat) : MS := seqS (asgS (lcK [3, 4, 5] (listK (methK C_Store "attic" 0 (f_Store_attic C_Rule C_Store C_FolderkinError C_PowerCut gX) [] (kV 0) nilK)) (tgTup 3 (tgCons (setv 3) (tgCons (setv 4) (tgCons (setv 5) (tgNil))))) (yesK) (kV 3)) (setv 2))
  (retS (indexK (kV 2) (kV 1)))
def f_first_of (C_Rule C_Store C_FolderkinError C_PowerCut gX : Nat) : Fm := runP 2 6 (m_first_of C_Rule C_Store C_FolderkinError C_PowerCut gX)
def m_size_of (C_Rule C_Store C_FolderkinError C_PowerCut gX : Nat) : MS := retS (b1K dSum (lcK [1, 2, 3] (listK (methK C_Store "attic" 0 (f_Store_attic C_Rule C_Store C_FolderkinError C_PowerCut gX) [] (kV 0) nilK)) (tgTup 3 (tgCons (setv 1) (tgCons (setv 2) (tgCons (setv 3) (tgNil))))) (yesK) (b1K dLen (kV 3))))
def f_size_of (C_Rule C_Store C_FolderkinError C_PowerCut gX : Nat) : Fm := runP 1 4 (m_size_of C_Rule C_Store C_FolderkinError C_PowerCut gX)
def m_Store_write_now (C_Rule C_Store C_FolderkinError C_PowerCut gX : Nat) : MS := seqS (ifS (andK (tst (bop dIsNot (fldK C_Store "most" (kV 0)) (kC .none))) (tst (bop dGe (fldK C_Store "writes" (kV 0)) (fldK C_Store "most" (kV 0))))) (raiseS C_PowerCut (fldK C_Store "writes" (kV 0))) (nextS))
  (augaS C_Store "writes" dIAdd (kV 0) (kC (.int 1)))
def f_Store_write_now (C_Rule C_Store C_FolderkinError C_PowerCut gX : Nat) : Fm := runP 1 1 (m_Store_write_now C_Rule C_Store C_FolderkinError C_PowerCut gX)
def m_Store_attic_drop (C_Rule C_Store C_FolderkinError C_PowerCut gX : Nat) : MS := seqS (dropS (methK C_Store "write_now" 0 (f_Store_write_now C_Rule C_Store C_FolderkinError C_PowerCut gX) [] (kV 0) nilK))
  (dropS (mutK muPopAt (fldK C_Store "old" (kV 0)) (consK (kV 1) (nilK))))
def f_Store_attic_drop (C_Rule C_Store C_FolderkinError C_PowerCut gX : Nat) : Fm := runP 2 2 (m_Store_attic_drop C_Rule C_Store C_FolderkinError C_PowerCut gX)
def m_tidy (C_Rule C_Store C_FolderkinError C_PowerCut gX : Nat) : MS := seqS (asgS (newK (lstK (nilK))) (setv 2))
  (seqS (forS (listK (sortSetK (lcK [5] (listK (methK C_Store "attic" 0 (f_Store_attic C_Rule C_Store C_FolderkinError C_PowerCut gX) [] (kV 0) nilK)) (setv 5) (yesK) (bop dIx (kV 5) (kC (.int 0)))))) (setv 3) (whileS (tst (bop dGt (b1K dLen (callN 2 (f_kept C_Rule C_Store C_FolderkinError C_PowerCut gX) [] (consK (kV 0) (consK (kV 3) (nilK))))) (fldK C_Rule "each" (kV 1)))) (seqS (asgS (callN 2 (f_first_of C_Rule C_Store C_FolderkinError C_PowerCut gX) [] (consK (kV 0) (consK (kV 3) (nilK)))) (setv 4))
  (seqS (dropS (mutK muAppend (kV 2) (consK (bop dIx (methK C_Store "attic" 0 (f_Store_attic C_Rule C_Store C_FolderkinError C_PowerCut gX) [] (kV 0) nilK) (kV 4)) (nilK))))
  (dropS (methK C_Store "attic_drop" 1 (f_Store_attic_drop C_Rule C_Store C_FolderkinError C_PowerCut gX) [] (kV 0) (consK (kV 4) (nilK))))))))
  (seqS (whileS (tst (bop dGt (callN 1 (f_size_of C_Rule C_Store C_FolderkinError C_PowerCut gX) [] (consK (kV 0) (nilK))) (fldK C_Rule "total" (kV 1)))) (seqS (dropS (mutK muAppend (kV 2) (consK (bop dIx (methK C_Store "attic" 0 (f_Store_attic C_Rule C_Store C_FolderkinError C_PowerCut gX) [] (kV 0) nilK) (kC (.int 0))) (nilK))))
  (dropS (methK C_Store "attic_drop" 1 (f_Store_attic_drop C_Rule C_Store C_FolderkinError C_PowerCut gX) [] (kV 0) (consK (kC (.int 0)) (nilK))))))
  (retS (frzK (kV 2)))))
def f_tidy (C_Rule C_Store C_FolderkinError C_PowerCut gX : Nat) : Fm := runP 2 6 (m_tidy C_Rule C_Store C_FolderkinError C_PowerCut gX)
def m_Store_attic_put (C_Rule C_Store C_FolderkinError C_PowerCut gX : Nat) : MS := seqS (dropS (methK C_Store "write_now" 0 (f_Store_write_now C_Rule C_Store C_FolderkinError C_PowerCut gX) [] (kV 0) nilK))
  (dropS (mutK muAppend (fldK C_Store "old" (kV 0)) (consK (tupK (consK (kV 1) (consK (kV 2) (consK (b1K dList (kV 3)) (nilK))))) (nilK))))
def f_Store_attic_put (C_Rule C_Store C_FolderkinError C_PowerCut gX : Nat) : Fm := runP 4 4 (m_Store_attic_put C_Rule C_Store C_FolderkinError C_PowerCut gX)
def m_keep (C_Rule C_Store C_FolderkinError C_PowerCut gX : Nat) : MS := seqS (ifS (tst (bop dNotIn (tupK (consK (kV 2) (consK (kV 3) (consK (b1K dList (kV 4)) (nilK))))) (methK C_Store "attic" 0 (f_Store_attic C_Rule C_Store C_FolderkinError C_PowerCut gX) [] (kV 0) nilK))) (dropS (methK C_Store "attic_put" 3 (f_Store_attic_put C_Rule C_Store C_FolderkinError C_PowerCut gX) [] (kV 0) (consK (kV 2) (consK (kV 3) (consK (kV 4) (nilK)))))) (nextS))
  (retS (callN 2 (f_tidy C_Rule C_Store C_FolderkinError C_PowerCut gX) [] (consK (kV 0) (consK (kV 1) (nilK)))))
def f_keep (C_Rule C_Store C_FolderkinError C_PowerCut gX : Nat) : Fm := runP 5 5 (m_keep C_Rule C_Store C_FolderkinError C_PowerCut gX)
def m_let_go (C_Rule C_Store C_FolderkinError C_PowerCut gX : Nat) : MS := seqS (asgS (kC (.int 0)) (setv 3))
  (seqS (whileS (tst (bop dIn (kV 2) (lcK [6, 7] (listK (callN 2 (f_kept C_Rule C_Store C_FolderkinError C_PowerCut gX) [] (consK (kV 0) (consK (kV 1) (nilK))))) (tgTup 2 (tgCons (setv 6) (tgCons (setv 7) (tgNil)))) (yesK) (kV 6)))) (seqS (asgS (lcK [5] (rangeK1 (consK (b1K dLen (methK C_Store "attic" 0 (f_Store_attic C_Rule C_Store C_FolderkinError C_PowerCut gX) [] (kV 0) nilK)) (nilK))) (setv 5) (tst (bop dEq (cutK (bop dIx (methK C_Store "attic" 0 (f_Store_attic C_Rule C_Store C_FolderkinError C_PowerCut gX) [] (kV 0) nilK) (kV 5)) (pnone) (psome (kC (.int 2)))) (tupK (consK (kV 1) (consK (kV 2) (nilK)))))) (kV 5)) (setv 4))
  (seqS (dropS (methK C_Store "attic_drop" 1 (f_Store_attic_drop C_Rule C_Store C_FolderkinError C_PowerCut gX) [] (kV 0) (consK (bop dIx (kV 4) (kC (.int 0))) (nilK))))
  (augS dIAdd 3 (kC (.int 1))))))
  (retS (kV 3)))
def f_let_go (C_Rule C_Store C_FolderkinError C_PowerCut gX : Nat) : Fm := runP 3 8 (m_let_go C_Rule C_Store C_FolderkinError C_PowerCut gX)
def m_Store_init (C_Rule C_Store C_FolderkinError C_PowerCut gX : Nat) : MS := seqS (setaS C_Store "files" (newK (dnewK)) (kV 0))
  (seqS (forS (keysK (kV 1)) (setv 3) (seqS (asgS (dgetK (kV 1) (kV 3)) (tgTup 2 (tgCons (setv 4) (tgCons (setv 5) (tgNil)))))
  (dputS (tupK (consK (b1K dList (kV 4)) (consK (kV 5) (nilK)))) (fldK C_Store "files" (kV 0)) (kV 3))))
  (seqS (setaS C_Store "temps" (newK (dnewK)) (kV 0))
  (seqS (setaS C_Store "old" (newK (lstK (nilK))) (kV 0))
  (seqS (setaS C_Store "records" (newK (b1K dList (kV 2))) (kV 0))
  (seqS (setaS C_Store "fresh" (newK (lstK (nilK))) (kV 0))
  (seqS (setaS C_Store "writes" (kC (.int 0)) (kV 0))
  (setaS C_Store "most" (kC .none) (kV 0))))))))
def f_Store_init (C_Rule C_Store C_FolderkinError C_PowerCut gX : Nat) : Fm := runF 3 6 (m_Store_init C_Rule C_Store C_FolderkinError C_PowerCut gX)
def m_law_draw (C_Rule C_Store C_FolderkinError C_PowerCut gX : Nat) : MS := seqS (ifS (tst (bop dEq (bop dIx (kV 0) (kC (.int 1))) (kC (.int 0)))) (seqS (asgS (kC (.int 0)) (setv 4))
  (seqS (ifS (tst (bop dGt (b1K dLen (kV 1)) (kC (.int 0)))) (asgS (bop dIx (kV 1) (bop dMod (bop dIx (kV 0) (kC (.int 0))) (b1K dLen (kV 1)))) (setv 4)) (nextS))
  (seqS (ifS (tst (bop dLt (kV 4) (kC (.int 0)))) (asgS (bop dSub (kC (.int 1)) (bop dMul (kC (.int 2)) (kV 4))) (setv 4)) (nextS))
  (seqS (asgS (bop dMod (b1K dInt (bop dMul (bop dAdd (bop dAdd (kV 4) (bop dMul (bop dIx (kV 0) (kC (.int 0))) (kC (.int 7919)))) (kC (.int 1))) (kC (.int 48271)))) (kC (.int 2147483647))) (setv 5))
  (seqS (setiS (bop dMod (b1K dInt (bop dAdd (bop dMul (kV 5) (kC (.int 69621))) (bop dMul (bop dIx (kV 0) (kC (.int 0))) (kC (.int 104729))))) (kC (.int 4294967291))) (kV 0) (kC (.int 1)))
  (seqS (ifS (andK (tst (bop dGe (kV 4) (bop dPow (kC (.int 10)) (kC (.int 18))))) (tst (bop dLt (bop dIx (kV 0) (kC (.int 0))) (b1K dLen (kV 1))))) (setiS (kV 4) (kV 0) (kC (.int 1))) (nextS))
  (setiS (bop dAdd (bop dIx (kV 0) (kC (.int 0))) (kC (.int 1))) (kV 0) (kC (.int 0))))))))) (nextS))
  (seqS (asgS (bop dMod (b1K dInt (bop dIx (kV 0) (kC (.int 1)))) (kV 2)) (setv 3))
  (seqS (setiS (bop dDiv (bop dIx (kV 0) (kC (.int 1))) (kV 2)) (kV 0) (kC (.int 1)))
  (retS (kV 3))))
def f_law_draw (C_Rule C_Store C_FolderkinError C_PowerCut gX : Nat) : Fm := runP 3 6 (m_law_draw C_Rule C_Store C_FolderkinError C_PowerCut gX)
def m_law_name (C_Rule C_Store C_FolderkinError C_PowerCut gX : Nat) : MS := retS (bop dIx (lstK (consK (kC (.str "a")) (consK (kC (.str "b")) (consK (kC (.str "a/b")) (consK (kC (.str "Z9")) (consK (kC (.str "c")) (consK (kC (.str "longer/names/are/here/abcdefghijklmnopqr")) (nilK)))))))) (callN 3 (f_law_draw C_Rule C_Store C_FolderkinError C_PowerCut gX) [] (consK (kV 0) (consK (kV 1) (consK (kC (.int 6)) (nilK))))))
def f_law_name (C_Rule C_Store C_FolderkinError C_PowerCut gX : Nat) : Fm := runP 2 2 (m_law_name C_Rule C_Store C_FolderkinError C_PowerCut gX)
def m_law_content (C_Rule C_Store C_FolderkinError C_PowerCut gX : Nat) : MS := seqS (asgS (lstK (consK (lstK (consK (kC (.int 1)) (consK (kC (.int 2)) (consK (kC (.int 3)) (consK (kC (.int 4)) (nilK)))))) (consK (lstK (consK (kC (.int 0)) (consK (kC (.int 0)) (consK (kC (.int 0)) (consK (kC (.int 0)) (nilK)))))) (consK (lstK (consK (kC (.int 255)) (consK (kC (.int 254)) (consK (kC (.int 253)) (consK (kC (.int 252)) (nilK)))))) (consK (lstK (consK (kC (.int 5)) (nilK))) (consK (lstK (consK (kC (.int 9)) (consK (kC (.int 9)) (nilK)))) (consK (lstK (consK (callN 3 (f_law_draw C_Rule C_Store C_FolderkinError C_PowerCut gX) [] (consK (kV 0) (consK (kV 1) (consK (kC (.int 256)) (nilK))))) (consK (kC (.int 7)) (consK (kC (.int 7)) (consK (kC (.int 7)) (nilK)))))) (nilK)))))))) (setv 3))
  (seqS (asgS (lstK (nilK)) (setv 4))
  (seqS (forS (rangeK1 (consK (callN 3 (f_law_draw C_Rule C_Store C_FolderkinError C_PowerCut gX) [] (consK (kV 0) (consK (kV 1) (consK (bop dAdd (kV 2) (kC (.int 1))) (nilK))))) (nilK))) (setv 5) (asgS (bop dAdd (kV 4) (bop dIx (kV 3) (callN 3 (f_law_draw C_Rule C_Store C_FolderkinError C_PowerCut gX) [] (consK (kV 0) (consK (kV 1) (consK (kC (.int 6)) (nilK))))))) (setv 4)))
  (retS (kV 4))))
def f_law_content (C_Rule C_Store C_FolderkinError C_PowerCut gX : Nat) : Fm := runP 3 6 (m_law_content C_Rule C_Store C_FolderkinError C_PowerCut gX)
def m_law_tidied (C_Rule C_Store C_FolderkinError C_PowerCut gX : Nat) : MS := seqS (asgS (newK (lstK (nilK))) (setv 3))
  (seqS (forS (listK (sortLK (lcK [4] (listK (lstK (consK (kC (.str "a")) (consK (kC (.str "b")) (consK (kC (.str "a/b")) (consK (kC (.str "Z9")) (consK (kC (.str "c")) (consK (kC (.str "longer/names/are/here/abcdefghijklmnopqr")) (nilK))))))))) (setv 4) (yesK) (kV 4)))) (setv 4) (seqS (asgS (lcK [6] (listK (kV 0)) (setv 6) (tst (bop dEq (bop dIx (kV 6) (kC (.int 0))) (kV 4))) (kV 6)) (setv 5))
  (forS (listK (cutK (kV 5) (pnone) (psome (bnK dMax2 (consK (kC (.int 0)) (consK (bop dSub (b1K dLen (kV 5)) (kV 1)) (nilK))))))) (setv 6) (seqS (dropS (mutK muAppend (kV 3) (consK (kV 6) (nilK))))
  (dropS (mutK muRemove (kV 0) (consK (kV 6) (nilK))))))))
  (seqS (whileS (tst (bop dGt (b1K dSum (lcK [6] (listK (kV 0)) (setv 6) (yesK) (b1K dLen (bop dIx (kV 6) (kC (.int 2)))))) (kV 2))) (dropS (mutK muAppend (kV 3) (consK (mutK muPopAt (kV 0) (consK (kC (.int 0)) (nilK))) (nilK)))))
  (retS (frzK (kV 3)))))
def f_law_tidied (C_Rule C_Store C_FolderkinError C_PowerCut gX : Nat) : Fm := runP 3 7 (m_law_tidied C_Rule C_Store C_FolderkinError C_PowerCut gX)
def m_law (C_Rule C_Store C_FolderkinError C_PowerCut gX : Nat) : MS := seqS (asgS (newK (lstK (consK (kC (.int 0)) (consK (kC (.int 0)) (nilK))))) (setv 1))
  (seqS (asgS (mkK C_Store 2 (f_Store_init C_Rule C_Store C_FolderkinError C_PowerCut gX) [] (consK (fzK (newK (dnewK))) (consK (lstK (nilK)) (nilK)))) (setv 2))
  (seqS (asgS (newK (lstK (nilK))) (setv 3))
  (seqS (forS (rangeK1 (consK (callN 3 (f_law_draw C_Rule C_Store C_FolderkinError C_PowerCut gX) [] (consK (kV 1) (consK (kV 0) (consK (kC (.int 21)) (nilK))))) (nilK))) (setv 4) (seqS (asgS (frzK (mkK C_Rule 2 (f_Rule_init C_Rule C_Store C_FolderkinError C_PowerCut gX) [] (consK (callN 3 (f_law_draw C_Rule C_Store C_FolderkinError C_PowerCut gX) [] (consK (kV 1) (consK (kV 0) (consK (kC (.int 4)) (nilK))))) (consK (callN 3 (f_law_draw C_Rule C_Store C_FolderkinError C_PowerCut gX) [] (consK (kV 1) (consK (kV 0) (consK (kC (.int 30)) (nilK))))) (nilK))))) (setv 5))
  (seqS (asgS (callN 2 (f_law_name C_Rule C_Store C_FolderkinError C_PowerCut gX) [] (consK (kV 1) (consK (kV 0) (nilK)))) (setv 6))
  (seqS (asgS (tupK (consK (tupK (consK (bop dAdd (kC (.int 1)) (callN 3 (f_law_draw C_Rule C_Store C_FolderkinError C_PowerCut gX) [] (consK (kV 1) (consK (kV 0) (consK (kC (.int 2)) (nilK)))))) (consK (bop dAdd (kC (.int 1)) (callN 3 (f_law_draw C_Rule C_Store C_FolderkinError C_PowerCut gX) [] (consK (kV 1) (consK (kV 0) (consK (kC (.int 3)) (nilK)))))) (nilK)))) (nilK))) (setv 7))
  (seqS (asgS (callN 3 (f_law_draw C_Rule C_Store C_FolderkinError C_PowerCut gX) [] (consK (kV 1) (consK (kV 0) (consK (kC (.int 6)) (nilK))))) (setv 8))
  (seqS (ifS (tst (bop dLt (kV 8) (kC (.int 4)))) (seqS (asgS (callN 3 (f_law_content C_Rule C_Store C_FolderkinError C_PowerCut gX) [] (consK (kV 1) (consK (kV 0) (consK (kC (.int 2)) (nilK))))) (setv 9))
  (seqS (ifS (tst (bop dNotIn (tupK (consK (kV 6) (consK (kV 7) (consK (kV 9) (nilK))))) (kV 3))) (dropS (mutK muAppend (kV 3) (consK (tupK (consK (kV 6) (consK (kV 7) (consK (kV 9) (nilK))))) (nilK)))) (nextS))
  (seqS (asgS (callN 3 (f_law_tidied C_Rule C_Store C_FolderkinError C_PowerCut gX) [] (consK (kV 3) (consK (fldK C_Rule "each" (kV 5)) (consK (fldK C_Rule "total" (kV 5)) (nilK))))) (setv 10))
  (ifS (tst (bop dNe (callN 5 (f_keep C_Rule C_Store C_FolderkinError C_PowerCut gX) [] (consK (kV 2) (consK (kV 5) (consK (kV 6) (consK (kV 7) (consK (b1K dList (kV 9)) (nilK))))))) (kV 10))) (retS (kC (.bool false))) (nextS))))) (ifS (tst (bop dEq (kV 8) (kC (.int 4)))) (ifS (tst (bop dNe (callN 2 (f_tidy C_Rule C_Store C_FolderkinError C_PowerCut gX) [] (consK (kV 2) (consK (kV 5) (nilK)))) (callN 3 (f_law_tidied C_Rule C_Store C_FolderkinError C_PowerCut gX) [] (consK (kV 3) (consK (fldK C_Rule "each" (kV 5)) (consK (fldK C_Rule "total" (kV 5)) (nilK))))))) (retS (kC (.bool false))) (nextS)) (seqS (asgS (b1K dLen (lcK [12] (listK (kV 3)) (setv 12) (tst (bop dEq (cutK (kV 12) (pnone) (psome (kC (.int 2)))) (tupK (consK (kV 6) (consK (kV 7) (nilK)))))) (kV 12))) (setv 11))
  (seqS (asgS (newK (lcK [12] (listK (kV 3)) (setv 12) (tst (bop dNe (cutK (kV 12) (pnone) (psome (kC (.int 2)))) (tupK (consK (kV 6) (consK (kV 7) (nilK)))))) (kV 12))) (setv 3))
  (ifS (tst (bop dNe (callN 3 (f_let_go C_Rule C_Store C_FolderkinError C_PowerCut gX) [] (consK (kV 2) (consK (kV 6) (consK (kV 7) (nilK))))) (kV 11))) (retS (kC (.bool false))) (nextS))))))
  (seqS (ifS (orK (tst (bop dNe (methK C_Store "attic" 0 (f_Store_attic C_Rule C_Store C_FolderkinError C_PowerCut gX) [] (kV 2) nilK) (kV 3))) (tst (bop dNe (callN 1 (f_size_of C_Rule C_Store C_FolderkinError C_PowerCut gX) [] (consK (kV 2) (nilK))) (b1K dSum (lcK [12] (listK (kV 3)) (setv 12) (yesK) (b1K dLen (bop dIx (kV 12) (kC (.int 2))))))))) (retS (kC (.bool false))) (nextS))
  (ifS (tst (bop dNe (callN 2 (f_kept C_Rule C_Store C_FolderkinError C_PowerCut gX) [] (consK (kV 2) (consK (kV 6) (nilK)))) (lcK [12] (listK (kV 3)) (setv 12) (tst (bop dEq (bop dIx (kV 12) (kC (.int 0))) (kV 6))) (tupK (consK (bop dIx (kV 12) (kC (.int 1))) (consK (bop dIx (kV 12) (kC (.int 2))) (nilK))))))) (retS (kC (.bool false))) (nextS)))))))))
  (retS (andV (tst (eqIK C_Rule (f_Rule_eq C_Rule C_Store C_FolderkinError C_PowerCut gX) (frzK (mkK C_Rule 2 (f_Rule_init C_Rule C_Store C_FolderkinError C_PowerCut gX) [] (consK (kC (.int 2)) (consK (kC (.int 3)) (nilK))))) (frzK (mkK C_Rule 2 (f_Rule_init C_Rule C_Store C_FolderkinError C_PowerCut gX) [] (consK (kC (.int 2)) (consK (kC (.int 3)) (nilK))))))) (andV (tst (valK (notK (tst (eqIK C_Rule (f_Rule_eq C_Rule C_Store C_FolderkinError C_PowerCut gX) (frzK (mkK C_Rule 2 (f_Rule_init C_Rule C_Store C_FolderkinError C_PowerCut gX) [] (consK (kC (.int 2)) (consK (kC (.int 3)) (nilK))))) (frzK (mkK C_Rule 2 (f_Rule_init C_Rule C_Store C_FolderkinError C_PowerCut gX) [] (consK (kC (.int 3)) (consK (kC (.int 2)) (nilK)))))))))) (valK (notK (tst (eqIK C_Rule (f_Rule_eq C_Rule C_Store C_FolderkinError C_PowerCut gX) (frzK (mkK C_Rule 2 (f_Rule_init C_Rule C_Store C_FolderkinError C_PowerCut gX) [] (consK (kC (.int 1)) (consK (kC (.int 1)) (nilK))))) (tupK (consK (kC (.int 1)) (consK (kC (.int 1)) (nilK))))))))))))))
def f_law (C_Rule C_Store C_FolderkinError C_PowerCut gX : Nat) : Fm := runF 1 13 (m_law C_Rule C_Store C_FolderkinError C_PowerCut gX)
end K27
namespace K27
open PySem L2 Hz
def top (i : Nat) : Stmt := PySem.Challenge.pw_folderkin_k27_attics.main.body.getD i (.Pass ⟨0, 0, 0, 0⟩)
def inC (s : Stmt) (j : Nat) : Stmt := match s with
  | .ClassDef (body := b) .. => b.getD j (.Pass ⟨0, 0, 0, 0⟩)
  | s => s
abbrev s_Rule_init : Stmt := inC (top 2) 0
abbrev s_Rule_eq : Stmt := inC (top 2) 1
abbrev s_kept : Stmt := top 3
abbrev s_first_of : Stmt := top 4
abbrev s_size_of : Stmt := top 5
abbrev s_tidy : Stmt := top 6
abbrev s_keep : Stmt := top 7
abbrev s_let_go : Stmt := top 8
abbrev s_Store_init : Stmt := inC (top 13) 0
abbrev s_Store_write_now : Stmt := inC (top 13) 3
abbrev s_Store_attic : Stmt := inC (top 13) 14
abbrev s_Store_attic_put : Stmt := inC (top 13) 15
abbrev s_Store_attic_drop : Stmt := inC (top 13) 16
abbrev s_law_draw : Stmt := top 15
abbrev s_law_name : Stmt := top 16
abbrev s_law_content : Stmt := top 17
abbrev s_law_tidied : Stmt := top 18
abbrev s_law : Stmt := top 19
abbrev s_X : Stmt := inC (top 10) 0
theorem form_X : InitForm s_X := ⟨⟨_, _, _, _, _, _, _, _, _, _, _, rfl, by intros; rfl, by intros; rfl, by intros; rfl⟩, ⟨rfl, rfl, rfl, rfl⟩, rfl, rfl, rfl, by decide +kernel, by decide +kernel, rfl, fun _ _ _ _ _ _ _ _ us hl => match us, hl with | [_, _], _ => rfl⟩
theorem sc_Rule_init : FnScope ["self", "each", "total"] ["self", "each", "total"] (defScope s_Rule_init) := ⟨rfl, rfl, rfl, by decide +kernel, rfl, by decide +kernel, by decide +kernel⟩
theorem sc_Rule_eq : FnScope ["self", "other"] ["self", "other"] (defScope s_Rule_eq) := ⟨rfl, rfl, rfl, by decide +kernel, rfl, by decide +kernel, by decide +kernel⟩
theorem sc_kept : FnScope ["store", "name", "other", "vector", "content"] ["store", "name"] (defScope s_kept) := ⟨rfl, rfl, rfl, by decide +kernel, rfl, by decide +kernel, by decide +kernel⟩
theorem sc_first_of : FnScope ["store", "name", "names", "other", "vector", "content"] ["store", "name"] (defScope s_first_of) := ⟨rfl, rfl, rfl, by decide +kernel, rfl, by decide +kernel, by decide +kernel⟩
theorem sc_size_of : FnScope ["store", "name", "vector", "content"] ["store"] (defScope s_size_of) := ⟨rfl, rfl, rfl, by decide +kernel, rfl, by decide +kernel, by decide +kernel⟩
theorem sc_tidy : FnScope ["store", "rule", "gone", "name", "place", "one"] ["store", "rule"] (defScope s_tidy) := ⟨rfl, rfl, rfl, by decide +kernel, rfl, by decide +kernel, by decide +kernel⟩
theorem sc_keep : FnScope ["store", "rule", "name", "vector", "content"] ["store", "rule", "name", "vector", "content"] (defScope s_keep) := ⟨rfl, rfl, rfl, by decide +kernel, rfl, by decide +kernel, by decide +kernel⟩
theorem sc_let_go : FnScope ["store", "name", "vector", "count", "places", "k", "other", "content"] ["store", "name", "vector"] (defScope s_let_go) := ⟨rfl, rfl, rfl, by decide +kernel, rfl, by decide +kernel, by decide +kernel⟩
theorem sc_Store_init : FnScope ["self", "files", "log", "name", "content", "time"] ["self", "files", "log"] (defScope s_Store_init) := ⟨rfl, rfl, rfl, by decide +kernel, rfl, by decide +kernel, by decide +kernel⟩
theorem sc_Store_write_now : FnScope ["self"] ["self"] (defScope s_Store_write_now) := ⟨rfl, rfl, rfl, by decide +kernel, rfl, by decide +kernel, by decide +kernel⟩
theorem sc_Store_attic : FnScope ["self", "name", "vector", "content"] ["self"] (defScope s_Store_attic) := ⟨rfl, rfl, rfl, by decide +kernel, rfl, by decide +kernel, by decide +kernel⟩
theorem sc_Store_attic_put : FnScope ["self", "name", "vector", "content"] ["self", "name", "vector", "content"] (defScope s_Store_attic_put) := ⟨rfl, rfl, rfl, by decide +kernel, rfl, by decide +kernel, by decide +kernel⟩
theorem sc_Store_attic_drop : FnScope ["self", "index"] ["self", "index"] (defScope s_Store_attic_drop) := ⟨rfl, rfl, rfl, by decide +kernel, rfl, by decide +kernel, by decide +kernel⟩
theorem sc_law_draw : FnScope ["_law_state", "_law_script", "_law_size", "_law_digit", "_law_cell", "_law_mixed"] ["_law_state", "_law_script", "_law_size"] (defScope s_law_draw) := ⟨rfl, rfl, rfl, by decide +kernel, rfl, by decide +kernel, by decide +kernel⟩
theorem sc_law_name : FnScope ["_law_state", "_law_script"] ["_law_state", "_law_script"] (defScope s_law_name) := ⟨rfl, rfl, rfl, by decide +kernel, rfl, by decide +kernel, by decide +kernel⟩
theorem sc_law_content : FnScope ["_law_state", "_law_script", "_law_most", "_law_words", "_law_content_here", "_law_k"] ["_law_state", "_law_script", "_law_most"] (defScope s_law_content) := ⟨rfl, rfl, rfl, by decide +kernel, rfl, by decide +kernel, by decide +kernel⟩
theorem sc_law_tidied : FnScope ["_law_lots", "_law_each", "_law_total", "_law_gone", "_law_name_here", "_law_own", "_law_one"] ["_law_lots", "_law_each", "_law_total"] (defScope s_law_tidied) := ⟨rfl, rfl, rfl, by decide +kernel, rfl, by decide +kernel, by decide +kernel⟩
theorem sc_law : FnScope ["_law_script", "_law_state", "_law_store", "_law_lots", "_law_turn", "_law_rule", "_law_name_here", "_law_vector", "_law_kind", "_law_content_here", "_law_due", "_law_count", "_law_one"] ["_law_script"] (defScope s_law) := ⟨rfl, rfl, rfl, by decide +kernel, rfl, by decide +kernel, by decide +kernel⟩
structure Facts (c : C0) (C_Rule C_Store C_FolderkinError C_PowerCut gX : Nat) : Prop where
  b_int : c.mg "int" = none
  b_isinstance : c.mg "isinstance" = none
  b_len : c.mg "len" = none
  b_list : c.mg "list" = none
  b_max : c.mg "max" = none
  b_range : c.mg "range" = none
  b_set : c.mg "set" = none
  b_sorted : c.mg "sorted" = none
  b_sum : c.mg "sum" = none
  cl_Rule : ClsD c "Rule" C_Rule
  na_Rule_each : NoAttr c.K C_Rule "each"
  na_Rule_total : NoAttr c.K C_Rule "total"
  cl_Store : ClsD c "Store" C_Store
  na_Store_files : NoAttr c.K C_Store "files"
  na_Store_temps : NoAttr c.K C_Store "temps"
  na_Store_old : NoAttr c.K C_Store "old"
  na_Store_records : NoAttr c.K C_Store "records"
  na_Store_fresh : NoAttr c.K C_Store "fresh"
  na_Store_writes : NoAttr c.K C_Store "writes"
  na_Store_most : NoAttr c.K C_Store "most"
  x_FolderkinError : ExD c C_FolderkinError gX "FolderkinError" C_FolderkinError
  x_PowerCut : ExD c C_FolderkinError gX "PowerCut" C_PowerCut
  a_Rule_init : InAt c C_Rule "Rule" "Rule.__init__" s_Rule_init ["self", "each", "total"] [] []
  a_Rule_eq : MeAt c C_Rule "__eq__" "Rule.__eq__" s_Rule_eq ["self", "other"] [] []
  a_kept : At c "kept" s_kept ["store", "name"] [] []
  a_first_of : At c "first_of" s_first_of ["store", "name"] [] []
  a_size_of : At c "size_of" s_size_of ["store"] [] []
  a_tidy : At c "tidy" s_tidy ["store", "rule"] [] []
  a_keep : At c "keep" s_keep ["store", "rule", "name", "vector", "content"] [] []
  a_let_go : At c "let_go" s_let_go ["store", "name", "vector"] [] []
  a_Store_init : InAt c C_Store "Store" "Store.__init__" s_Store_init ["self", "files", "log"] [] []
  a_Store_write_now : MeAt c C_Store "write_now" "Store.write_now" s_Store_write_now ["self"] [] []
  a_Store_attic : MeAt c C_Store "attic" "Store.attic" s_Store_attic ["self"] [] []
  a_Store_attic_put : MeAt c C_Store "attic_put" "Store.attic_put" s_Store_attic_put ["self", "name", "vector", "content"] [] []
  a_Store_attic_drop : MeAt c C_Store "attic_drop" "Store.attic_drop" s_Store_attic_drop ["self", "index"] [] []
  a_law_draw : At c "_law_draw" s_law_draw ["_law_state", "_law_script", "_law_size"] [] []
  a_law_name : At c "_law_name" s_law_name ["_law_state", "_law_script"] [] []
  a_law_content : At c "_law_content" s_law_content ["_law_state", "_law_script", "_law_most"] [] []
  a_law_tidied : At c "_law_tidied" s_law_tidied ["_law_lots", "_law_each", "_law_total"] [] []
  a_law : At c "law" s_law ["_law_script"] [] []
section
variable {c : C0} {C_Rule C_Store C_FolderkinError C_PowerCut gX : Nat}
theorem jb_Rule_init (T : Facts c C_Rule C_Store C_FolderkinError C_PowerCut gX) : JB (c.at_ 0) ["self", "each", "total"] (defScope s_Rule_init) (defBody s_Rule_init) (m_Rule_init C_Rule C_Store C_FolderkinError C_PowerCut gX) :=
  jb_cons (js_seta T.cl_Rule.cl T.na_Rule_each (v_ 1) (v_ 0))
    (jb_one (js_seta T.cl_Rule.cl T.na_Rule_total (v_ 2) (v_ 0)))
theorem P_Rule_init (T : Facts c C_Rule C_Store C_FolderkinError C_PowerCut gX) : PrI c 1 C_Rule "Rule" ["self", "each", "total"] [] [] (f_Rule_init C_Rule C_Store C_FolderkinError C_PowerCut gX) := T.a_Rule_init.run sc_Rule_init (jb_Rule_init T)
theorem jb_Rule_eq (T : Facts c C_Rule C_Store C_FolderkinError C_PowerCut gX) : JB (c.at_ 2) ["self", "other"] (defScope s_Rule_eq) (defBody s_Rule_eq) (m_Rule_eq C_Rule C_Store C_FolderkinError C_PowerCut gX) :=
  jb_cons (js_if (jt_not (jt_val (je_isiC T.cl_Rule rfl T.b_isinstance rfl (v_ 1)))) (jb_one (js_ret (ce_bl))) (jb_nil))
    (jb_one (js_ret (ce_cmp o_eq (je_tup (jl_cons (je_fld (v_ 0) T.cl_Rule.cl T.na_Rule_each) (jl_cons (je_fld (v_ 0) T.cl_Rule.cl T.na_Rule_total) (jl_nil)))) (je_tup (jl_cons (je_fld (v_ 1) T.cl_Rule.cl T.na_Rule_each) (jl_cons (je_fld (v_ 1) T.cl_Rule.cl T.na_Rule_total) (jl_nil)))))))
theorem P_Rule_eq (T : Facts c C_Rule C_Store C_FolderkinError C_PowerCut gX) : PrM c 3 C_Rule "__eq__" ["self", "other"] [] [] (f_Rule_eq C_Rule C_Store C_FolderkinError C_PowerCut gX) := T.a_Rule_eq.runP sc_Rule_eq (jb_Rule_eq T)
theorem jb_Store_attic (T : Facts c C_Rule C_Store C_FolderkinError C_PowerCut gX) : JB (c.at_ 0) ["self", "name", "vector", "content"] (defScope s_Store_attic) (defBody s_Store_attic) (m_Store_attic C_Rule C_Store C_FolderkinError C_PowerCut gX) :=
  jb_one (js_ret (JF.je (jf_lc (own := [("name", 1), ("vector", 2), ("content", 3)]) (oc := []) sc_Store_attic.nd (ji_list (je_fld (v_ 0) T.cl_Store.cl T.na_Store_old)) (blkOk_by (by decide +kernel)) (jtg_tup (jtgs_cons (tg_ 1 sc_Store_attic.nd) (jtgs_cons (tg_ 2 sc_Store_attic.nd) (jtgs_cons (tg_ 3 sc_Store_attic.nd) (jtgs_nil))))) (jts_nil) (je_tup (jl_cons (v_ 1) (jl_cons (v_ 2) (jl_cons (JF.je (jf_t1 cf_list rfl T.b_list (by decide +kernel) (v_ 3))) (jl_nil))))))))
theorem P_Store_attic (T : Facts c C_Rule C_Store C_FolderkinError C_PowerCut gX) : PrM c 1 C_Store "attic" ["self"] [] [] (f_Store_attic C_Rule C_Store C_FolderkinError C_PowerCut gX) := T.a_Store_attic.runP sc_Store_attic (jb_Store_attic T)
theorem jb_kept (T : Facts c C_Rule C_Store C_FolderkinError C_PowerCut gX) : JB (c.at_ 1) ["store", "name", "other", "vector", "content"] (defScope s_kept) (defBody s_kept) (m_kept C_Rule C_Store C_FolderkinError C_PowerCut gX) :=
  jb_one (js_ret (JF.je (jf_lc (own := [("other", 2), ("vector", 3), ("content", 4)]) (oc := []) sc_kept.nd (ji_list (je_meth0 T.cl_Store.cl (P_Store_attic (c := c) T).mt (Nat.le_of_ble_eq_true rfl) (v_ 0))) (blkOk_by (by decide +kernel)) (jtg_tup (jtgs_cons (tg_ 2 sc_kept.nd) (jtgs_cons (tg_ 3 sc_kept.nd) (jtgs_cons (tg_ 4 sc_kept.nd) (jtgs_nil))))) (jts_one (jt_cmp o_eq (v_ 2) (v_ 1))) (je_tup (jl_cons (v_ 3) (jl_cons (v_ 4) (jl_nil)))))))
theorem P_kept (T : Facts c C_Rule C_Store C_FolderkinError C_PowerCut gX) : PrF c 2 "kept" ["store", "name"] [] [] (f_kept C_Rule C_Store C_FolderkinError C_PowerCut gX) := T.a_kept.runP sc_kept (jb_kept T)
theorem jb_first_of (T : Facts c C_Rule C_Store C_FolderkinError C_PowerCut gX) : JB (c.at_ 1) ["store", "name", "names", "other", "vector", "content"] (defScope s_first_of) (defBody s_first_of) (m_first_of C_Rule C_Store C_FolderkinError C_PowerCut gX) :=
  jb_cons (setLc_ 2 (own := [("other", 3), ("vector", 4), ("content", 5)]) (oc := []) sc_first_of.nd (ji_list (je_meth0 T.cl_Store.cl (P_Store_attic (c := c) T).mt (Nat.le_of_ble_eq_true rfl) (v_ 0))) (blkOk_by (by decide +kernel)) (jtg_tup (jtgs_cons (tg_ 3 sc_first_of.nd) (jtgs_cons (tg_ 4 sc_first_of.nd) (jtgs_cons (tg_ 5 sc_first_of.nd) (jtgs_nil))))) (jts_nil) (v_ 3))
    (jb_one (js_ret (je_index (v_ 2) (v_ 1))))
theorem P_first_of (T : Facts c C_Rule C_Store C_FolderkinError C_PowerCut gX) : PrF c 2 "first_of" ["store", "name"] [] [] (f_first_of C_Rule C_Store C_FolderkinError C_PowerCut gX) := T.a_first_of.runP sc_first_of (jb_first_of T)
theorem jb_size_of (T : Facts c C_Rule C_Store C_FolderkinError C_PowerCut gX) : JB (c.at_ 1) ["store", "name", "vector", "content"] (defScope s_size_of) (defBody s_size_of) (m_size_of C_Rule C_Store C_FolderkinError C_PowerCut gX) :=
  jb_one (js_ret (je_b1 c_sum rfl T.b_sum (by decide +kernel) (JF.je (jf_lc (own := [("name", 1), ("vector", 2), ("content", 3)]) (oc := []) sc_size_of.nd (ji_list (je_meth0 T.cl_Store.cl (P_Store_attic (c := c) T).mt (Nat.le_of_ble_eq_true rfl) (v_ 0))) (blkOk_by (by decide +kernel)) (jtg_tup (jtgs_cons (tg_ 1 sc_size_of.nd) (jtgs_cons (tg_ 2 sc_size_of.nd) (jtgs_cons (tg_ 3 sc_size_of.nd) (jtgs_nil))))) (jts_nil) (je_b1 c_len rfl T.b_len (by decide +kernel) (v_ 3))))))
theorem P_size_of (T : Facts c C_Rule C_Store C_FolderkinError C_PowerCut gX) : PrF c 2 "size_of" ["store"] [] [] (f_size_of C_Rule C_Store C_FolderkinError C_PowerCut gX) := T.a_size_of.runP sc_size_of (jb_size_of T)
theorem jb_Store_write_now (T : Facts c C_Rule C_Store C_FolderkinError C_PowerCut gX) : JB (c.at_ 2) ["self"] (defScope s_Store_write_now) (defBody s_Store_write_now) (m_Store_write_now C_Rule C_Store C_FolderkinError C_PowerCut gX) :=
  jb_cons (js_if (jt_w (jw_and (jt_cmp o_isNot (je_fld (v_ 0) T.cl_Store.cl T.na_Store_most) (ce_non)) (jw_and1 (jt_cmp o_ge (je_fld (v_ 0) T.cl_Store.cl T.na_Store_writes) (je_fld (v_ 0) T.cl_Store.cl T.na_Store_most))))) (jb_one (js_raise T.x_PowerCut (Nat.le_of_ble_eq_true rfl) rfl (je_fld (v_ 0) T.cl_Store.cl T.na_Store_writes))) (jb_nil))
    (jb_one (js_auga o_iadd T.cl_Store.cl T.na_Store_writes (v_ 0) (ce_int)))
theorem P_Store_write_now (T : Facts c C_Rule C_Store C_FolderkinError C_PowerCut gX) : PrM c 3 C_Store "write_now" ["self"] [] [] (f_Store_write_now C_Rule C_Store C_FolderkinError C_PowerCut gX) := T.a_Store_write_now.runP sc_Store_write_now (jb_Store_write_now T)
theorem jb_Store_attic_drop (T : Facts c C_Rule C_Store C_FolderkinError C_PowerCut gX) : JB (c.at_ 3) ["self", "index"] (defScope s_Store_attic_drop) (defBody s_Store_attic_drop) (m_Store_attic_drop C_Rule C_Store C_FolderkinError C_PowerCut gX) :=
  jb_cons (js_expr (je_meth0 T.cl_Store.cl (P_Store_write_now (c := c) T).mt (Nat.le_of_ble_eq_true rfl) (v_ 0)))
    (jb_one (js_expr (je_mut mu_popAt PySem.F.slot_list_pop PySem.F.type_list_pop (je_fld (v_ 0) T.cl_Store.cl T.na_Store_old) (jl_cons (v_ 1) (jl_nil)))))
theorem P_Store_attic_drop (T : Facts c C_Rule C_Store C_FolderkinError C_PowerCut gX) : PrM c 4 C_Store "attic_drop" ["self", "index"] [] [] (f_Store_attic_drop C_Rule C_Store C_FolderkinError C_PowerCut gX) := T.a_Store_attic_drop.runP sc_Store_attic_drop (jb_Store_attic_drop T)
theorem jb_tidy (T : Facts c C_Rule C_Store C_FolderkinError C_PowerCut gX) : JB (c.at_ 4) ["store", "rule", "gone", "name", "place", "one"] (defScope s_tidy) (defBody s_tidy) (m_tidy C_Rule C_Store C_FolderkinError C_PowerCut gX) :=
  jb_cons (set_ 2 sc_tidy.nd (JF.new (jf_lst (jl_nil))))
    (jb_cons (js_for (ji_list (JF.je (je_sortSet rfl T.b_sorted rfl T.b_set (JF.je (jf_lc (own := [("one", 5)]) (oc := []) sc_tidy.nd (ji_list (je_meth0 T.cl_Store.cl (P_Store_attic (c := c) T).mt (Nat.le_of_ble_eq_true rfl) (v_ 0))) (blkOk_by (by decide +kernel)) (tg_ 5 sc_tidy.nd) (jts_nil) (je_ix o_ix (v_ 5) (ce_int))))))) (tg_ 3 sc_tidy.nd) (jb_one (js_while (jt_cmp o_gt (je_b1 c_len rfl T.b_len (by decide +kernel) (je_call (P_kept (c := c) T).fn (Nat.le_of_ble_eq_true rfl) rfl (jl_cons (v_ 0) (jl_cons (v_ 3) (jl_nil))))) (je_fld (v_ 1) T.cl_Rule.cl T.na_Rule_each)) (jb_cons (set_ 4 sc_tidy.nd (je_call (P_first_of (c := c) T).fn (Nat.le_of_ble_eq_true rfl) rfl (jl_cons (v_ 0) (jl_cons (v_ 3) (jl_nil)))))
    (jb_cons (js_expr (je_mut mu_append PySem.F.slot_list_append PySem.F.type_list_append (v_ 2) (jl_cons (je_ix o_ix (je_meth0 T.cl_Store.cl (P_Store_attic (c := c) T).mt (Nat.le_of_ble_eq_true rfl) (v_ 0)) (v_ 4)) (jl_nil))))
    (jb_one (js_expr (je_meth T.cl_Store.cl (P_Store_attic_drop (c := c) T).mt (Nat.le_of_ble_eq_true rfl) (v_ 0) (jl_cons (v_ 4) (jl_nil))))))))))
    (jb_cons (js_while (jt_cmp o_gt (je_call (P_size_of (c := c) T).fn (Nat.le_of_ble_eq_true rfl) rfl (jl_cons (v_ 0) (jl_nil))) (je_fld (v_ 1) T.cl_Rule.cl T.na_Rule_total)) (jb_cons (js_expr (je_mut mu_append PySem.F.slot_list_append PySem.F.type_list_append (v_ 2) (jl_cons (je_ix o_ix (je_meth0 T.cl_Store.cl (P_Store_attic (c := c) T).mt (Nat.le_of_ble_eq_true rfl) (v_ 0)) (ce_int)) (jl_nil))))
    (jb_one (js_expr (je_meth T.cl_Store.cl (P_Store_attic_drop (c := c) T).mt (Nat.le_of_ble_eq_true rfl) (v_ 0) (jl_cons (ce_int) (jl_nil)))))))
    (jb_one (js_ret (JE.frz (v_ 2))))))
theorem P_tidy (T : Facts c C_Rule C_Store C_FolderkinError C_PowerCut gX) : PrF c 5 "tidy" ["store", "rule"] [] [] (f_tidy C_Rule C_Store C_FolderkinError C_PowerCut gX) := T.a_tidy.runP sc_tidy (jb_tidy T)
theorem jb_Store_attic_put (T : Facts c C_Rule C_Store C_FolderkinError C_PowerCut gX) : JB (c.at_ 3) ["self", "name", "vector", "content"] (defScope s_Store_attic_put) (defBody s_Store_attic_put) (m_Store_attic_put C_Rule C_Store C_FolderkinError C_PowerCut gX) :=
  jb_cons (js_expr (je_meth0 T.cl_Store.cl (P_Store_write_now (c := c) T).mt (Nat.le_of_ble_eq_true rfl) (v_ 0)))
    (jb_one (js_expr (je_mut mu_append PySem.F.slot_list_append PySem.F.type_list_append (je_fld (v_ 0) T.cl_Store.cl T.na_Store_old) (jl_cons (je_tup (jl_cons (v_ 1) (jl_cons (v_ 2) (jl_cons (JF.je (jf_t1 cf_list rfl T.b_list (by decide +kernel) (v_ 3))) (jl_nil))))) (jl_nil)))))
theorem P_Store_attic_put (T : Facts c C_Rule C_Store C_FolderkinError C_PowerCut gX) : PrM c 4 C_Store "attic_put" ["self", "name", "vector", "content"] [] [] (f_Store_attic_put C_Rule C_Store C_FolderkinError C_PowerCut gX) := T.a_Store_attic_put.runP sc_Store_attic_put (jb_Store_attic_put T)
theorem jb_keep (T : Facts c C_Rule C_Store C_FolderkinError C_PowerCut gX) : JB (c.at_ 5) ["store", "rule", "name", "vector", "content"] (defScope s_keep) (defBody s_keep) (m_keep C_Rule C_Store C_FolderkinError C_PowerCut gX) :=
  jb_cons (js_if (jt_cmp o_notIn (je_tup (jl_cons (v_ 2) (jl_cons (v_ 3) (jl_cons (JF.je (jf_t1 cf_list rfl T.b_list (by decide +kernel) (v_ 4))) (jl_nil))))) (je_meth0 T.cl_Store.cl (P_Store_attic (c := c) T).mt (Nat.le_of_ble_eq_true rfl) (v_ 0))) (jb_one (js_expr (je_meth T.cl_Store.cl (P_Store_attic_put (c := c) T).mt (Nat.le_of_ble_eq_true rfl) (v_ 0) (jl_cons (v_ 2) (jl_cons (v_ 3) (jl_cons (v_ 4) (jl_nil))))))) (jb_nil))
    (jb_one (js_ret (je_call (P_tidy (c := c) T).fn (Nat.le_of_ble_eq_true rfl) rfl (jl_cons (v_ 0) (jl_cons (v_ 1) (jl_nil))))))
theorem P_keep (T : Facts c C_Rule C_Store C_FolderkinError C_PowerCut gX) : PrF c 6 "keep" ["store", "rule", "name", "vector", "content"] [] [] (f_keep C_Rule C_Store C_FolderkinError C_PowerCut gX) := T.a_keep.runP sc_keep (jb_keep T)
theorem jb_let_go (T : Facts c C_Rule C_Store C_FolderkinError C_PowerCut gX) : JB (c.at_ 4) ["store", "name", "vector", "count", "places", "k", "other", "content"] (defScope s_let_go) (defBody s_let_go) (m_let_go C_Rule C_Store C_FolderkinError C_PowerCut gX) :=
  jb_cons (set_ 3 sc_let_go.nd (ce_int))
    (jb_cons (js_while (jt_cmp o_in (v_ 2) (JF.je (jf_lc (own := [("other", 6), ("content", 7)]) (oc := []) sc_let_go.nd (ji_list (je_call (P_kept (c := c) T).fn (Nat.le_of_ble_eq_true rfl) rfl (jl_cons (v_ 0) (jl_cons (v_ 1) (jl_nil))))) (blkOk_by (by decide +kernel)) (jtg_tup (jtgs_cons (tg_ 6 sc_let_go.nd) (jtgs_cons (tg_ 7 sc_let_go.nd) (jtgs_nil)))) (jts_nil) (v_ 6)))) (jb_cons (setLc_ 4 (own := [("k", 5)]) (oc := []) sc_let_go.nd (ji_range1 rfl T.b_range (jl_cons (je_b1 c_len rfl T.b_len (by decide +kernel) (je_meth0 T.cl_Store.cl (P_Store_attic (c := c) T).mt (Nat.le_of_ble_eq_true rfl) (v_ 0))) (jl_nil))) (blkOk_by (by decide +kernel)) (tg_ 5 sc_let_go.nd) (jts_one (jt_cmp o_eq (je_cut (je_ix o_ix (je_meth0 T.cl_Store.cl (P_Store_attic (c := c) T).mt (Nat.le_of_ble_eq_true rfl) (v_ 0)) (v_ 5)) (jp_none) (jp_some (ce_int))) (je_tup (jl_cons (v_ 1) (jl_cons (v_ 2) (jl_nil)))))) (v_ 5))
    (jb_cons (js_expr (je_meth T.cl_Store.cl (P_Store_attic_drop (c := c) T).mt (Nat.le_of_ble_eq_true rfl) (v_ 0) (jl_cons (je_ix o_ix (v_ 4) (ce_int)) (jl_nil))))
    (jb_one (js_aug (i := 3) sc_let_go.nd o_iadd (ce_int))))))
    (jb_one (js_ret (v_ 3))))
theorem P_let_go (T : Facts c C_Rule C_Store C_FolderkinError C_PowerCut gX) : PrF c 5 "let_go" ["store", "name", "vector"] [] [] (f_let_go C_Rule C_Store C_FolderkinError C_PowerCut gX) := T.a_let_go.runP sc_let_go (jb_let_go T)
theorem jb_Store_init (T : Facts c C_Rule C_Store C_FolderkinError C_PowerCut gX) : JB (c.at_ 0) ["self", "files", "log", "name", "content", "time"] (defScope s_Store_init) (defBody s_Store_init) (m_Store_init C_Rule C_Store C_FolderkinError C_PowerCut gX) :=
  jb_cons (js_seta T.cl_Store.cl T.na_Store_files (JF.new (jf_dnew)) (v_ 0))
    (jb_cons (js_for (ji_keys (v_ 1)) (tg_ 3 sc_Store_init.nd) (jb_cons (js_asg (je_dget (v_ 1) (v_ 3)) (jtg_tup (jtgs_cons (tg_ 4 sc_Store_init.nd) (jtgs_cons (tg_ 5 sc_Store_init.nd) (jtgs_nil)))))
    (jb_one (js_dput (je_tup (jl_cons (JF.je (jf_t1 cf_list rfl T.b_list (by decide +kernel) (v_ 4))) (jl_cons (v_ 5) (jl_nil)))) (je_fld (v_ 0) T.cl_Store.cl T.na_Store_files) (v_ 3)))))
    (jb_cons (js_seta T.cl_Store.cl T.na_Store_temps (JF.new (jf_dnew)) (v_ 0))
    (jb_cons (js_seta T.cl_Store.cl T.na_Store_old (JF.new (jf_lst (jl_nil))) (v_ 0))
    (jb_cons (js_seta T.cl_Store.cl T.na_Store_records (JF.new (jf_t1 cf_list rfl T.b_list (by decide +kernel) (v_ 2))) (v_ 0))
    (jb_cons (js_seta T.cl_Store.cl T.na_Store_fresh (JF.new (jf_lst (jl_nil))) (v_ 0))
    (jb_cons (js_seta T.cl_Store.cl T.na_Store_writes (ce_int) (v_ 0))
    (jb_one (js_seta T.cl_Store.cl T.na_Store_most (ce_non) (v_ 0)))))))))
theorem P_Store_init (T : Facts c C_Rule C_Store C_FolderkinError C_PowerCut gX) : PrI c 1 C_Store "Store" ["self", "files", "log"] [] [] (f_Store_init C_Rule C_Store C_FolderkinError C_PowerCut gX) := T.a_Store_init.run sc_Store_init (jb_Store_init T)
theorem jb_law_draw (T : Facts c C_Rule C_Store C_FolderkinError C_PowerCut gX) : JB (c.at_ 0) ["_law_state", "_law_script", "_law_size", "_law_digit", "_law_cell", "_law_mixed"] (defScope s_law_draw) (defBody s_law_draw) (m_law_draw C_Rule C_Store C_FolderkinError C_PowerCut gX) :=
  jb_cons (js_if (jt_cmp o_eq (je_ix o_ix (v_ 0) (ce_int)) (ce_int)) (jb_cons (set_ 4 sc_law_draw.nd (ce_int))
    (jb_cons (js_if (jt_cmp o_gt (je_b1 c_len rfl T.b_len (by decide +kernel) (v_ 1)) (ce_int)) (jb_one (set_ 4 sc_law_draw.nd (je_ix o_ix (v_ 1) (ce_op o_mod (je_ix o_ix (v_ 0) (ce_int)) (je_b1 c_len rfl T.b_len (by decide +kernel) (v_ 1)))))) (jb_nil))
    (jb_cons (js_if (jt_cmp o_lt (v_ 4) (ce_int)) (jb_one (set_ 4 sc_law_draw.nd (ce_op o_sub (ce_int) (ce_op o_mul (ce_int) (v_ 4))))) (jb_nil))
    (jb_cons (set_ 5 sc_law_draw.nd (ce_op o_mod (je_t1 c_int rfl T.b_int (by decide +kernel) (ce_op o_mul (ce_op o_add (ce_op o_add (v_ 4) (ce_op o_mul (je_ix o_ix (v_ 0) (ce_int)) (ce_int))) (ce_int)) (ce_int))) (ce_int)))
    (jb_cons (js_seti (ce_op o_mod (je_t1 c_int rfl T.b_int (by decide +kernel) (ce_op o_add (ce_op o_mul (v_ 5) (ce_int)) (ce_op o_mul (je_ix o_ix (v_ 0) (ce_int)) (ce_int)))) (ce_int)) (v_ 0) (ce_int))
    (jb_cons (js_if (jt_w (jw_and (jt_cmp o_ge (v_ 4) (ce_op o_pow (ce_int) (ce_int))) (jw_and1 (jt_cmp o_lt (je_ix o_ix (v_ 0) (ce_int)) (je_b1 c_len rfl T.b_len (by decide +kernel) (v_ 1)))))) (jb_one (js_seti (v_ 4) (v_ 0) (ce_int))) (jb_nil))
    (jb_one (js_seti (ce_op o_add (je_ix o_ix (v_ 0) (ce_int)) (ce_int)) (v_ 0) (ce_int))))))))) (jb_nil))
    (jb_cons (set_ 3 sc_law_draw.nd (ce_op o_mod (je_t1 c_int rfl T.b_int (by decide +kernel) (je_ix o_ix (v_ 0) (ce_int))) (v_ 2)))
    (jb_cons (js_seti (ce_op o_div (je_ix o_ix (v_ 0) (ce_int)) (v_ 2)) (v_ 0) (ce_int))
    (jb_one (js_ret (v_ 3)))))
theorem P_law_draw (T : Facts c C_Rule C_Store C_FolderkinError C_PowerCut gX) : PrF c 1 "_law_draw" ["_law_state", "_law_script", "_law_size"] [] [] (f_law_draw C_Rule C_Store C_FolderkinError C_PowerCut gX) := T.a_law_draw.runP sc_law_draw (jb_law_draw T)
theorem jb_law_name (T : Facts c C_Rule C_Store C_FolderkinError C_PowerCut gX) : JB (c.at_ 1) ["_law_state", "_law_script"] (defScope s_law_name) (defBody s_law_name) (m_law_name C_Rule C_Store C_FolderkinError C_PowerCut gX) :=
  jb_one (js_ret (je_ix o_ix (JF.je (jf_lst (jl_cons (ce_str) (jl_cons (ce_str) (jl_cons (ce_str) (jl_cons (ce_str) (jl_cons (ce_str) (jl_cons (ce_str) (jl_nil))))))))) (je_call (P_law_draw (c := c) T).fn (Nat.le_of_ble_eq_true rfl) rfl (jl_cons (v_ 0) (jl_cons (v_ 1) (jl_cons (ce_int) (jl_nil)))))))
theorem P_law_name (T : Facts c C_Rule C_Store C_FolderkinError C_PowerCut gX) : PrF c 2 "_law_name" ["_law_state", "_law_script"] [] [] (f_law_name C_Rule C_Store C_FolderkinError C_PowerCut gX) := T.a_law_name.runP sc_law_name (jb_law_name T)
theorem jb_law_content (T : Facts c C_Rule C_Store C_FolderkinError C_PowerCut gX) : JB (c.at_ 1) ["_law_state", "_law_script", "_law_most", "_law_words", "_law_content_here", "_law_k"] (defScope s_law_content) (defBody s_law_content) (m_law_content C_Rule C_Store C_FolderkinError C_PowerCut gX) :=
  jb_cons (set_ 3 sc_law_content.nd (JF.je (jf_lst (jl_cons (JF.je (jf_lst (jl_cons (ce_int) (jl_cons (ce_int) (jl_cons (ce_int) (jl_cons (ce_int) (jl_nil))))))) (jl_cons (JF.je (jf_lst (jl_cons (ce_int) (jl_cons (ce_int) (jl_cons (ce_int) (jl_cons (ce_int) (jl_nil))))))) (jl_cons (JF.je (jf_lst (jl_cons (ce_int) (jl_cons (ce_int) (jl_cons (ce_int) (jl_cons (ce_int) (jl_nil))))))) (jl_cons (JF.je (jf_lst (jl_cons (ce_int) (jl_nil)))) (jl_cons (JF.je (jf_lst (jl_cons (ce_int) (jl_cons (ce_int) (jl_nil))))) (jl_cons (JF.je (jf_lst (jl_cons (je_call (P_law_draw (c := c) T).fn (Nat.le_of_ble_eq_true rfl) rfl (jl_cons (v_ 0) (jl_cons (v_ 1) (jl_cons (ce_int) (jl_nil))))) (jl_cons (ce_int) (jl_cons (ce_int) (jl_cons (ce_int) (jl_nil))))))) (jl_nil))))))))))
    (jb_cons (set_ 4 sc_law_content.nd (JF.je (jf_lst (jl_nil))))
    (jb_cons (js_for (ji_range1 rfl T.b_range (jl_cons (je_call (P_law_draw (c := c) T).fn (Nat.le_of_ble_eq_true rfl) rfl (jl_cons (v_ 0) (jl_cons (v_ 1) (jl_cons (ce_op o_add (v_ 2) (ce_int)) (jl_nil))))) (jl_nil))) (tg_ 5 sc_law_content.nd) (jb_one (set_ 4 sc_law_content.nd (ce_op o_add (v_ 4) (je_ix o_ix (v_ 3) (je_call (P_law_draw (c := c) T).fn (Nat.le_of_ble_eq_true rfl) rfl (jl_cons (v_ 0) (jl_cons (v_ 1) (jl_cons (ce_int) (jl_nil))))))))))
    (jb_one (js_ret (v_ 4)))))
theorem P_law_content (T : Facts c C_Rule C_Store C_FolderkinError C_PowerCut gX) : PrF c 2 "_law_content" ["_law_state", "_law_script", "_law_most"] [] [] (f_law_content C_Rule C_Store C_FolderkinError C_PowerCut gX) := T.a_law_content.runP sc_law_content (jb_law_content T)
theorem jb_law_tidied (T : Facts c C_Rule C_Store C_FolderkinError C_PowerCut gX) : JB (c.at_ 0) ["_law_lots", "_law_each", "_law_total", "_law_gone", "_law_name_here", "_law_own", "_law_one"] (defScope s_law_tidied) (defBody s_law_tidied) (m_law_tidied C_Rule C_Store C_FolderkinError C_PowerCut gX) :=
  jb_cons (set_ 3 sc_law_tidied.nd (JF.new (jf_lst (jl_nil))))
    (jb_cons (js_for (ji_list (JF.je (je_sortL rfl T.b_sorted (JF.je (jf_lc (own := [("_law_name_here", 4)]) (oc := []) sc_law_tidied.nd (ji_list (JF.je (jf_lst (jl_cons (ce_str) (jl_cons (ce_str) (jl_cons (ce_str) (jl_cons (ce_str) (jl_cons (ce_str) (jl_cons (ce_str) (jl_nil)))))))))) (blkOk_by (by decide +kernel)) (tg_ 4 sc_law_tidied.nd) (jts_nil) (v_ 4)))))) (tg_ 4 sc_law_tidied.nd) (jb_cons (setLc_ 5 (own := [("_law_one", 6)]) (oc := []) sc_law_tidied.nd (ji_list (v_ 0)) (blkOk_by (by decide +kernel)) (tg_ 6 sc_law_tidied.nd) (jts_one (jt_cmp o_eq (je_ix o_ix (v_ 6) (ce_int)) (v_ 4))) (v_ 6))
    (jb_one (js_for (ji_list (je_cut (v_ 5) (jp_none) (jp_some (je_bn c_max2 rfl T.b_max (by decide +kernel) (jl_cons (ce_int) (jl_cons (ce_op o_sub (je_b1 c_len rfl T.b_len (by decide +kernel) (v_ 5)) (v_ 1)) (jl_nil))))))) (tg_ 6 sc_law_tidied.nd) (jb_cons (js_expr (je_mut mu_append PySem.F.slot_list_append PySem.F.type_list_append (v_ 3) (jl_cons (v_ 6) (jl_nil))))
    (jb_one (js_expr (je_mut mu_remove PySem.F.slot_list_remove PySem.F.type_list_remove (v_ 0) (jl_cons (v_ 6) (jl_nil))))))))))
    (jb_cons (js_while (jt_cmp o_gt (je_b1 c_sum rfl T.b_sum (by decide +kernel) (JF.je (jf_lc (own := [("_law_one", 6)]) (oc := []) sc_law_tidied.nd (ji_list (v_ 0)) (blkOk_by (by decide +kernel)) (tg_ 6 sc_law_tidied.nd) (jts_nil) (je_b1 c_len rfl T.b_len (by decide +kernel) (je_ix o_ix (v_ 6) (ce_int)))))) (v_ 2)) (jb_one (js_expr (je_mut mu_append PySem.F.slot_list_append PySem.F.type_list_append (v_ 3) (jl_cons (je_mut mu_popAt PySem.F.slot_list_pop PySem.F.type_list_pop (v_ 0) (jl_cons (ce_int) (jl_nil))) (jl_nil))))))
    (jb_one (js_ret (JE.frz (v_ 3))))))
theorem P_law_tidied (T : Facts c C_Rule C_Store C_FolderkinError C_PowerCut gX) : PrF c 1 "_law_tidied" ["_law_lots", "_law_each", "_law_total"] [] [] (f_law_tidied C_Rule C_Store C_FolderkinError C_PowerCut gX) := T.a_law_tidied.runP sc_law_tidied (jb_law_tidied T)
theorem jb_law (T : Facts c C_Rule C_Store C_FolderkinError C_PowerCut gX) : JB (c.at_ 6) ["_law_script", "_law_state", "_law_store", "_law_lots", "_law_turn", "_law_rule", "_law_name_here", "_law_vector", "_law_kind", "_law_content_here", "_law_due", "_law_count", "_law_one"] (defScope s_law) (defBody s_law) (m_law C_Rule C_Store C_FolderkinError C_PowerCut gX) :=
  jb_cons (set_ 1 sc_law.nd (JF.new (jf_lst (jl_cons (ce_int) (jl_cons (ce_int) (jl_nil))))))
    (jb_cons (set_ 2 sc_law.nd (je_mk (P_Store_init (c := c) T).mk_ (Nat.le_of_ble_eq_true rfl) rfl (jl_cons (JE.fz (JF.new (jf_dnew))) (jl_cons (JF.je (jf_lst (jl_nil))) (jl_nil)))))
    (jb_cons (set_ 3 sc_law.nd (JF.new (jf_lst (jl_nil))))
    (jb_cons (js_for (ji_range1 rfl T.b_range (jl_cons (je_call (P_law_draw (c := c) T).fn (Nat.le_of_ble_eq_true rfl) rfl (jl_cons (v_ 1) (jl_cons (v_ 0) (jl_cons (ce_int) (jl_nil))))) (jl_nil))) (tg_ 4 sc_law.nd) (jb_cons (set_ 5 sc_law.nd (JE.frz (je_mk (P_Rule_init (c := c) T).mk_ (Nat.le_of_ble_eq_true rfl) rfl (jl_cons (je_call (P_law_draw (c := c) T).fn (Nat.le_of_ble_eq_true rfl) rfl (jl_cons (v_ 1) (jl_cons (v_ 0) (jl_cons (ce_int) (jl_nil))))) (jl_cons (je_call (P_law_draw (c := c) T).fn (Nat.le_of_ble_eq_true rfl) rfl (jl_cons (v_ 1) (jl_cons (v_ 0) (jl_cons (ce_int) (jl_nil))))) (jl_nil))))))
    (jb_cons (set_ 6 sc_law.nd (je_call (P_law_name (c := c) T).fn (Nat.le_of_ble_eq_true rfl) rfl (jl_cons (v_ 1) (jl_cons (v_ 0) (jl_nil)))))
    (jb_cons (set_ 7 sc_law.nd (je_tup (jl_cons (je_tup (jl_cons (ce_op o_add (ce_int) (je_call (P_law_draw (c := c) T).fn (Nat.le_of_ble_eq_true rfl) rfl (jl_cons (v_ 1) (jl_cons (v_ 0) (jl_cons (ce_int) (jl_nil)))))) (jl_cons (ce_op o_add (ce_int) (je_call (P_law_draw (c := c) T).fn (Nat.le_of_ble_eq_true rfl) rfl (jl_cons (v_ 1) (jl_cons (v_ 0) (jl_cons (ce_int) (jl_nil)))))) (jl_nil)))) (jl_nil))))
    (jb_cons (set_ 8 sc_law.nd (je_call (P_law_draw (c := c) T).fn (Nat.le_of_ble_eq_true rfl) rfl (jl_cons (v_ 1) (jl_cons (v_ 0) (jl_cons (ce_int) (jl_nil))))))
    (jb_cons (js_if (jt_cmp o_lt (v_ 8) (ce_int)) (jb_cons (set_ 9 sc_law.nd (je_call (P_law_content (c := c) T).fn (Nat.le_of_ble_eq_true rfl) rfl (jl_cons (v_ 1) (jl_cons (v_ 0) (jl_cons (ce_int) (jl_nil))))))
    (jb_cons (js_if (jt_cmp o_notIn (je_tup (jl_cons (v_ 6) (jl_cons (v_ 7) (jl_cons (v_ 9) (jl_nil))))) (v_ 3)) (jb_one (js_expr (je_mut mu_append PySem.F.slot_list_append PySem.F.type_list_append (v_ 3) (jl_cons (je_tup (jl_cons (v_ 6) (jl_cons (v_ 7) (jl_cons (v_ 9) (jl_nil))))) (jl_nil))))) (jb_nil))
    (jb_cons (set_ 10 sc_law.nd (je_call (P_law_tidied (c := c) T).fn (Nat.le_of_ble_eq_true rfl) rfl (jl_cons (v_ 3) (jl_cons (je_fld (v_ 5) T.cl_Rule.cl T.na_Rule_each) (jl_cons (je_fld (v_ 5) T.cl_Rule.cl T.na_Rule_total) (jl_nil))))))
    (jb_one (js_if (jt_cmp o_ne (je_call (P_keep (c := c) T).fn (Nat.le_of_ble_eq_true rfl) rfl (jl_cons (v_ 2) (jl_cons (v_ 5) (jl_cons (v_ 6) (jl_cons (v_ 7) (jl_cons (JF.je (jf_t1 cf_list rfl T.b_list (by decide +kernel) (v_ 9))) (jl_nil))))))) (v_ 10)) (jb_one (js_ret (ce_bl))) (jb_nil)))))) (jb_one (js_if (jt_cmp o_eq (v_ 8) (ce_int)) (jb_one (js_if (jt_cmp o_ne (je_call (P_tidy (c := c) T).fn (Nat.le_of_ble_eq_true rfl) rfl (jl_cons (v_ 2) (jl_cons (v_ 5) (jl_nil)))) (je_call (P_law_tidied (c := c) T).fn (Nat.le_of_ble_eq_true rfl) rfl (jl_cons (v_ 3) (jl_cons (je_fld (v_ 5) T.cl_Rule.cl T.na_Rule_each) (jl_cons (je_fld (v_ 5) T.cl_Rule.cl T.na_Rule_total) (jl_nil)))))) (jb_one (js_ret (ce_bl))) (jb_nil))) (jb_cons (set_ 11 sc_law.nd (je_b1 c_len rfl T.b_len (by decide +kernel) (JF.je (jf_lc (own := [("_law_one", 12)]) (oc := []) sc_law.nd (ji_list (v_ 3)) (blkOk_by (by decide +kernel)) (tg_ 12 sc_law.nd) (jts_one (jt_cmp o_eq (je_cut (v_ 12) (jp_none) (jp_some (ce_int))) (je_tup (jl_cons (v_ 6) (jl_cons (v_ 7) (jl_nil)))))) (v_ 12)))))
    (jb_cons (newLc_ 3 (own := [("_law_one", 12)]) (oc := []) sc_law.nd (ji_list (v_ 3)) (blkOk_by (by decide +kernel)) (tg_ 12 sc_law.nd) (jts_one (jt_cmp o_ne (je_cut (v_ 12) (jp_none) (jp_some (ce_int))) (je_tup (jl_cons (v_ 6) (jl_cons (v_ 7) (jl_nil)))))) (v_ 12))
    (jb_one (js_if (jt_cmp o_ne (je_call (P_let_go (c := c) T).fn (Nat.le_of_ble_eq_true rfl) rfl (jl_cons (v_ 2) (jl_cons (v_ 6) (jl_cons (v_ 7) (jl_nil))))) (v_ 11)) (jb_one (js_ret (ce_bl))) (jb_nil))))))))
    (jb_cons (js_if (jt_w (jw_or (jt_cmp o_ne (je_meth0 T.cl_Store.cl (P_Store_attic (c := c) T).mt (Nat.le_of_ble_eq_true rfl) (v_ 2)) (v_ 3)) (jw_or1 (jt_cmp o_ne (je_call (P_size_of (c := c) T).fn (Nat.le_of_ble_eq_true rfl) rfl (jl_cons (v_ 2) (jl_nil))) (je_b1 c_sum rfl T.b_sum (by decide +kernel) (JF.je (jf_lc (own := [("_law_one", 12)]) (oc := []) sc_law.nd (ji_list (v_ 3)) (blkOk_by (by decide +kernel)) (tg_ 12 sc_law.nd) (jts_nil) (je_b1 c_len rfl T.b_len (by decide +kernel) (je_ix o_ix (v_ 12) (ce_int)))))))))) (jb_one (js_ret (ce_bl))) (jb_nil))
    (jb_one (js_if (jt_cmp o_ne (je_call (P_kept (c := c) T).fn (Nat.le_of_ble_eq_true rfl) rfl (jl_cons (v_ 2) (jl_cons (v_ 6) (jl_nil)))) (JF.je (jf_lc (own := [("_law_one", 12)]) (oc := []) sc_law.nd (ji_list (v_ 3)) (blkOk_by (by decide +kernel)) (tg_ 12 sc_law.nd) (jts_one (jt_cmp o_eq (je_ix o_ix (v_ 12) (ce_int)) (v_ 6))) (je_tup (jl_cons (je_ix o_ix (v_ 12) (ce_int)) (jl_cons (je_ix o_ix (v_ 12) (ce_int)) (jl_nil))))))) (jb_one (js_ret (ce_bl))) (jb_nil))))))))))
    (jb_one (js_ret (je_and (je_eqI T.cl_Rule (P_Rule_eq (c := c) T).mt (Nat.le_of_ble_eq_true rfl) (JE.frz (je_mk (P_Rule_init (c := c) T).mk_ (Nat.le_of_ble_eq_true rfl) rfl (jl_cons (ce_int) (jl_cons (ce_int) (jl_nil))))) (JE.frz (je_mk (P_Rule_init (c := c) T).mk_ (Nat.le_of_ble_eq_true rfl) rfl (jl_cons (ce_int) (jl_cons (ce_int) (jl_nil)))))) (je_and (je_not (je_eqI T.cl_Rule (P_Rule_eq (c := c) T).mt (Nat.le_of_ble_eq_true rfl) (JE.frz (je_mk (P_Rule_init (c := c) T).mk_ (Nat.le_of_ble_eq_true rfl) rfl (jl_cons (ce_int) (jl_cons (ce_int) (jl_nil))))) (JE.frz (je_mk (P_Rule_init (c := c) T).mk_ (Nat.le_of_ble_eq_true rfl) rfl (jl_cons (ce_int) (jl_cons (ce_int) (jl_nil))))))) (je_one (je_not (je_eqI T.cl_Rule (P_Rule_eq (c := c) T).mt (Nat.le_of_ble_eq_true rfl) (JE.frz (je_mk (P_Rule_init (c := c) T).mk_ (Nat.le_of_ble_eq_true rfl) rfl (jl_cons (ce_int) (jl_cons (ce_int) (jl_nil))))) (je_tup (jl_cons (ce_int) (jl_cons (ce_int) (jl_nil))))))))))))))
end
theorem all_mk {l : PySem.W.OpenLaw} {w : World} {K : PySem.W.Frag} {h : Heap} {mg : Str → Option Value} {fa C_Rule C_Store C_FolderkinError C_PowerCut f0 f1 f2 f3 f4 f5 f6 f7 f8 f9 f10 f11 f12 f13 f14 f15 f16 f17 gX cdaX ccX : Addr} (X : K.In h) (G : h.Ns mainGlobals mg) (hfa : mg "law" = some (.ref fa))
    {od0 an0 od1 an1 od2 an2 od3 an3 od4 an4 od5 an5 od6 an6 od7 an7 od8 an8 od9 an9 od10 an10 od11 an11 od12 an12 od13 an13 od14 an14 od15 an15 od16 an16 od17 an17 odX anX cddX cldX : Option Addr} {sl0 sl1 sl2 sl3 sl4 sl5 sl6 sl7 sl8 sl9 sl10 sl11 sl12 sl13 sl14 sl15 sl16 sl17 oslX ccsX cslX : Array (Option Value)} {oc0 kV0 dc0 pm0 cd0 ct0 oc1 kV1 dc1 pm1 cd1 ct1 oc2 kV2 dc2 pm2 cd2 ct2 oc3 kV3 dc3 pm3 cd3 ct3 oc4 kV4 dc4 pm4 cd4 ct4 oc5 kV5 dc5 pm5 cd5 ct5 oc6 kV6 dc6 pm6 cd6 ct6 oc7 kV7 dc7 pm7 cd7 ct7 oc8 kV8 dc8 pm8 cd8 ct8 oc9 kV9 dc9 pm9 cd9 ct9 oc10 kV10 dc10 pm10 cd10 ct10 oc11 kV11 dc11 pm11 cd11 ct11 oc12 kV12 dc12 pm12 cd12 ct12 oc13 kV13 dc13 pm13 cd13 ct13 oc14 kV14 dc14 pm14 cd14 ct14 oc15 kV15 dc15 pm15 cd15 ct15 oc16 kV16 dc16 pm16 cd16 ct16 oc17 kV17 dc17 pm17 cd17 ct17 ocX dcX pmX ctX kVX cclX clX : Value} {tfX : Tok} {fileX : Str} {vsX : Array Value} {nm_FolderkinError q_FolderkinError : Str} {N_FolderkinError : Addr} {bs_FolderkinError bm_FolderkinError sub_FolderkinError : List Value} {sn_FolderkinError : List Str} {ab_FolderkinError : Bool} {col_FolderkinError : Option Bool} {dd_FolderkinError : Option Addr} {k0_FolderkinError k1_FolderkinError k2_FolderkinError k3_FolderkinError k5_FolderkinError : Option Value} {nm_PowerCut q_PowerCut : Str} {N_PowerCut : Addr} {bs_PowerCut bm_PowerCut sub_PowerCut : List Value} {sn_PowerCut : List Str} {ab_PowerCut : Bool} {col_PowerCut : Option Bool} {dd_PowerCut : Option Addr} {k0_PowerCut k1_PowerCut k2_PowerCut k3_PowerCut k5_PowerCut : Option Value}
    (aC_Rule : PySem.W.nsIn K mainGlobals "Rule" = some (some (.ref C_Rule)))
    (aC_Store : PySem.W.nsIn K mainGlobals "Store" = some (some (.ref C_Store)))
    (aC_FolderkinError : PySem.W.nsIn K mainGlobals "FolderkinError" = some (some (.ref C_FolderkinError)))
    (aC_PowerCut : PySem.W.nsIn K mainGlobals "PowerCut" = some (some (.ref C_PowerCut)))
    (a0 : PySem.W.findIn K (.ref C_Rule) "__init__" = some (some (.ref f0)))
    (i0 : PySem.W.isFn K (.ref f0) = true)
    (l0 : K.lookup f0 = some ⟨oc0, od0, .func (PySem.W.fnOf "__init__" "Rule.__init__" (defArgs s_Rule_init) (defBody s_Rule_init) (defScope s_Rule_init) .none kV0 dc0 pm0 an0 cd0 ct0), sl0⟩)
    (c0 : PySem.W.codeIn K cd0 "Rule.__init__" = true)
    (k0 : PySem.W.keepIn K (.ref f0) = true)
    (a1 : PySem.W.findIn K (.ref C_Rule) "__eq__" = some (some (.ref f1)))
    (i1 : PySem.W.isFn K (.ref f1) = true)
    (l1 : K.lookup f1 = some ⟨oc1, od1, .func (PySem.W.fnOf "__eq__" "Rule.__eq__" (defArgs s_Rule_eq) (defBody s_Rule_eq) (defScope s_Rule_eq) .none kV1 dc1 pm1 an1 cd1 ct1), sl1⟩)
    (c1 : PySem.W.codeIn K cd1 "Rule.__eq__" = true)
    (k1 : PySem.W.keepIn K (.ref f1) = true)
    (a2 : PySem.W.nsIn K mainGlobals "kept" = some (some (.ref f2)))
    (l2 : K.lookup f2 = some ⟨oc2, od2, .func (PySem.W.fnOf "kept" "kept" (defArgs s_kept) (defBody s_kept) (defScope s_kept) .none kV2 dc2 pm2 an2 cd2 ct2), sl2⟩)
    (c2 : PySem.W.codeIn K cd2 "kept" = true)
    (k2 : PySem.W.keepIn K (.ref f2) = true)
    (a3 : PySem.W.nsIn K mainGlobals "first_of" = some (some (.ref f3)))
    (l3 : K.lookup f3 = some ⟨oc3, od3, .func (PySem.W.fnOf "first_of" "first_of" (defArgs s_first_of) (defBody s_first_of) (defScope s_first_of) .none kV3 dc3 pm3 an3 cd3 ct3), sl3⟩)
    (c3 : PySem.W.codeIn K cd3 "first_of" = true)
    (k3 : PySem.W.keepIn K (.ref f3) = true)
    (a4 : PySem.W.nsIn K mainGlobals "size_of" = some (some (.ref f4)))
    (l4 : K.lookup f4 = some ⟨oc4, od4, .func (PySem.W.fnOf "size_of" "size_of" (defArgs s_size_of) (defBody s_size_of) (defScope s_size_of) .none kV4 dc4 pm4 an4 cd4 ct4), sl4⟩)
    (c4 : PySem.W.codeIn K cd4 "size_of" = true)
    (k4 : PySem.W.keepIn K (.ref f4) = true)
    (a5 : PySem.W.nsIn K mainGlobals "tidy" = some (some (.ref f5)))
    (l5 : K.lookup f5 = some ⟨oc5, od5, .func (PySem.W.fnOf "tidy" "tidy" (defArgs s_tidy) (defBody s_tidy) (defScope s_tidy) .none kV5 dc5 pm5 an5 cd5 ct5), sl5⟩)
    (c5 : PySem.W.codeIn K cd5 "tidy" = true)
    (k5 : PySem.W.keepIn K (.ref f5) = true)
    (a6 : PySem.W.nsIn K mainGlobals "keep" = some (some (.ref f6)))
    (l6 : K.lookup f6 = some ⟨oc6, od6, .func (PySem.W.fnOf "keep" "keep" (defArgs s_keep) (defBody s_keep) (defScope s_keep) .none kV6 dc6 pm6 an6 cd6 ct6), sl6⟩)
    (c6 : PySem.W.codeIn K cd6 "keep" = true)
    (k6 : PySem.W.keepIn K (.ref f6) = true)
    (a7 : PySem.W.nsIn K mainGlobals "let_go" = some (some (.ref f7)))
    (l7 : K.lookup f7 = some ⟨oc7, od7, .func (PySem.W.fnOf "let_go" "let_go" (defArgs s_let_go) (defBody s_let_go) (defScope s_let_go) .none kV7 dc7 pm7 an7 cd7 ct7), sl7⟩)
    (c7 : PySem.W.codeIn K cd7 "let_go" = true)
    (k7 : PySem.W.keepIn K (.ref f7) = true)
    (a8 : PySem.W.findIn K (.ref C_Store) "__init__" = some (some (.ref f8)))
    (i8 : PySem.W.isFn K (.ref f8) = true)
    (l8 : K.lookup f8 = some ⟨oc8, od8, .func (PySem.W.fnOf "__init__" "Store.__init__" (defArgs s_Store_init) (defBody s_Store_init) (defScope s_Store_init) .none kV8 dc8 pm8 an8 cd8 ct8), sl8⟩)
    (c8 : PySem.W.codeIn K cd8 "Store.__init__" = true)
    (k8 : PySem.W.keepIn K (.ref f8) = true)
    (a9 : PySem.W.findIn K (.ref C_Store) "write_now" = some (some (.ref f9)))
    (i9 : PySem.W.isFn K (.ref f9) = true)
    (l9 : K.lookup f9 = some ⟨oc9, od9, .func (PySem.W.fnOf "write_now" "Store.write_now" (defArgs s_Store_write_now) (defBody s_Store_write_now) (defScope s_Store_write_now) .none kV9 dc9 pm9 an9 cd9 ct9), sl9⟩)
    (c9 : PySem.W.codeIn K cd9 "Store.write_now" = true)
    (k9 : PySem.W.keepIn K (.ref f9) = true)
    (a10 : PySem.W.findIn K (.ref C_Store) "attic" = some (some (.ref f10)))
    (i10 : PySem.W.isFn K (.ref f10) = true)
    (l10 : K.lookup f10 = some ⟨oc10, od10, .func (PySem.W.fnOf "attic" "Store.attic" (defArgs s_Store_attic) (defBody s_Store_attic) (defScope s_Store_attic) .none kV10 dc10 pm10 an10 cd10 ct10), sl10⟩)
    (c10 : PySem.W.codeIn K cd10 "Store.attic" = true)
    (k10 : PySem.W.keepIn K (.ref f10) = true)
    (a11 : PySem.W.findIn K (.ref C_Store) "attic_put" = some (some (.ref f11)))
    (i11 : PySem.W.isFn K (.ref f11) = true)
    (l11 : K.lookup f11 = some ⟨oc11, od11, .func (PySem.W.fnOf "attic_put" "Store.attic_put" (defArgs s_Store_attic_put) (defBody s_Store_attic_put) (defScope s_Store_attic_put) .none kV11 dc11 pm11 an11 cd11 ct11), sl11⟩)
    (c11 : PySem.W.codeIn K cd11 "Store.attic_put" = true)
    (k11 : PySem.W.keepIn K (.ref f11) = true)
    (a12 : PySem.W.findIn K (.ref C_Store) "attic_drop" = some (some (.ref f12)))
    (i12 : PySem.W.isFn K (.ref f12) = true)
    (l12 : K.lookup f12 = some ⟨oc12, od12, .func (PySem.W.fnOf "attic_drop" "Store.attic_drop" (defArgs s_Store_attic_drop) (defBody s_Store_attic_drop) (defScope s_Store_attic_drop) .none kV12 dc12 pm12 an12 cd12 ct12), sl12⟩)
    (c12 : PySem.W.codeIn K cd12 "Store.attic_drop" = true)
    (k12 : PySem.W.keepIn K (.ref f12) = true)
    (a13 : PySem.W.nsIn K mainGlobals "_law_draw" = some (some (.ref f13)))
    (l13 : K.lookup f13 = some ⟨oc13, od13, .func (PySem.W.fnOf "_law_draw" "_law_draw" (defArgs s_law_draw) (defBody s_law_draw) (defScope s_law_draw) .none kV13 dc13 pm13 an13 cd13 ct13), sl13⟩)
    (c13 : PySem.W.codeIn K cd13 "_law_draw" = true)
    (k13 : PySem.W.keepIn K (.ref f13) = true)
    (a14 : PySem.W.nsIn K mainGlobals "_law_name" = some (some (.ref f14)))
    (l14 : K.lookup f14 = some ⟨oc14, od14, .func (PySem.W.fnOf "_law_name" "_law_name" (defArgs s_law_name) (defBody s_law_name) (defScope s_law_name) .none kV14 dc14 pm14 an14 cd14 ct14), sl14⟩)
    (c14 : PySem.W.codeIn K cd14 "_law_name" = true)
    (k14 : PySem.W.keepIn K (.ref f14) = true)
    (a15 : PySem.W.nsIn K mainGlobals "_law_content" = some (some (.ref f15)))
    (l15 : K.lookup f15 = some ⟨oc15, od15, .func (PySem.W.fnOf "_law_content" "_law_content" (defArgs s_law_content) (defBody s_law_content) (defScope s_law_content) .none kV15 dc15 pm15 an15 cd15 ct15), sl15⟩)
    (c15 : PySem.W.codeIn K cd15 "_law_content" = true)
    (k15 : PySem.W.keepIn K (.ref f15) = true)
    (a16 : PySem.W.nsIn K mainGlobals "_law_tidied" = some (some (.ref f16)))
    (l16 : K.lookup f16 = some ⟨oc16, od16, .func (PySem.W.fnOf "_law_tidied" "_law_tidied" (defArgs s_law_tidied) (defBody s_law_tidied) (defScope s_law_tidied) .none kV16 dc16 pm16 an16 cd16 ct16), sl16⟩)
    (c16 : PySem.W.codeIn K cd16 "_law_tidied" = true)
    (k16 : PySem.W.keepIn K (.ref f16) = true)
    (a17 : PySem.W.nsIn K mainGlobals "law" = some (some (.ref f17)))
    (l17 : K.lookup f17 = some ⟨oc17, od17, .func (PySem.W.fnOf "law" "law" (defArgs s_law) (defBody s_law) (defScope s_law) .none kV17 dc17 pm17 an17 cd17 ct17), sl17⟩)
    (c17 : PySem.W.codeIn K cd17 "law" = true)
    (k17 : PySem.W.keepIn K (.ref f17) = true)
    (pg_Rule : PySem.W.plainGet K C_Rule Str.empty = true)
    (hd_Rule : PySem.W.hasDictIn K C_Rule = true)
    (po_Rule : PySem.W.plainOver K C_Rule = true)
    (sa_Rule : PySem.W.findIn K (.ref C_Rule) "__setattr__" = some (some (.builtin "object.__setattr__")))
    (mk_Rule : PySem.W.makesIn K C_Rule = true)
    (kc_Rule : PySem.W.keepIn K (.ref C_Rule) = true)
    (cha_Rule : PySem.W.findIn K (.ref C_Rule) "__class__" = some (some (.builtin "object.__class__")))
    (chn_Rule : PySem.W.specialIn K (.builtin "object.__class__") "__get__" = some (some (.builtin "getset_descriptor.__get__")))
    (cht_Rule : PySem.W.takesIn K (.builtin "object.__class__") = some true)
    (chm_Rule : PySem.W.mroIn K C_Rule (.type "object") = some true)
    (cic_Rule : PySem.W.isClsIn K C_Rule = true)
    (cty_Rule : PySem.W.typeIn K (.ref C_Rule) = some (.type "type"))
    (nNoneType_Rule : PySem.W.notFirst K C_Rule (.type "NoneType") = true)
    (nbool_Rule : PySem.W.notFirst K C_Rule (.type "bool") = true)
    (nint_Rule : PySem.W.notFirst K C_Rule (.type "int") = true)
    (nstr_Rule : PySem.W.notFirst K C_Rule (.type "str") = true)
    (nlist_Rule : PySem.W.notFirst K C_Rule (.type "list") = true)
    (ntuple_Rule : PySem.W.notFirst K C_Rule (.type "tuple") = true)
    (na_each_Rule : PySem.W.findIn K (.ref C_Rule) "each" = some none)
    (na_total_Rule : PySem.W.findIn K (.ref C_Rule) "total" = some none)
    (pg_Store : PySem.W.plainGet K C_Store Str.empty = true)
    (hd_Store : PySem.W.hasDictIn K C_Store = true)
    (po_Store : PySem.W.plainOver K C_Store = true)
    (sa_Store : PySem.W.findIn K (.ref C_Store) "__setattr__" = some (some (.builtin "object.__setattr__")))
    (mk_Store : PySem.W.makesIn K C_Store = true)
    (kc_Store : PySem.W.keepIn K (.ref C_Store) = true)
    (cha_Store : PySem.W.findIn K (.ref C_Store) "__class__" = some (some (.builtin "object.__class__")))
    (chn_Store : PySem.W.specialIn K (.builtin "object.__class__") "__get__" = some (some (.builtin "getset_descriptor.__get__")))
    (cht_Store : PySem.W.takesIn K (.builtin "object.__class__") = some true)
    (chm_Store : PySem.W.mroIn K C_Store (.type "object") = some true)
    (cic_Store : PySem.W.isClsIn K C_Store = true)
    (cty_Store : PySem.W.typeIn K (.ref C_Store) = some (.type "type"))
    (nNoneType_Store : PySem.W.notFirst K C_Store (.type "NoneType") = true)
    (nbool_Store : PySem.W.notFirst K C_Store (.type "bool") = true)
    (nint_Store : PySem.W.notFirst K C_Store (.type "int") = true)
    (nstr_Store : PySem.W.notFirst K C_Store (.type "str") = true)
    (nlist_Store : PySem.W.notFirst K C_Store (.type "list") = true)
    (ntuple_Store : PySem.W.notFirst K C_Store (.type "tuple") = true)
    (na_files_Store : PySem.W.findIn K (.ref C_Store) "files" = some none)
    (na_temps_Store : PySem.W.findIn K (.ref C_Store) "temps" = some none)
    (na_old_Store : PySem.W.findIn K (.ref C_Store) "old" = some none)
    (na_records_Store : PySem.W.findIn K (.ref C_Store) "records" = some none)
    (na_fresh_Store : PySem.W.findIn K (.ref C_Store) "fresh" = some none)
    (na_writes_Store : PySem.W.findIn K (.ref C_Store) "writes" = some none)
    (na_most_Store : PySem.W.findIn K (.ref C_Store) "most" = some none)
    (lX : K.lookup gX = some ⟨ocX, odX, .func (PySem.W.ksFn "__init__" "FolderkinError.__init__" (defArgs s_X) (defBody s_X) (defScope s_X) .none kVX dcX pmX anX (.ref cdaX) ctX ccX), oslX⟩)
    (cX : PySem.W.codeIn K (.ref cdaX) "FolderkinError.__init__" = true)
    (oX : K.lookup cdaX = some ⟨cclX, cddX, .fields vsX, ccsX⟩)
    (vX : vsX[2]? = some (.str fileX tfX))
    (fX : ((l.prog.main.file : Str) == fileX) = true)
    (ceX : K.lookup ccX = some ⟨clX, cldX, .cell (some (.ref C_FolderkinError)), cslX⟩)
    (dX : PySem.W.isClsIn K C_FolderkinError = true)
    (kX : PySem.W.keepIn K (.ref gX) = true)
    (tX : PySem.W.typeIn K (.ref gX) = some (.type "function"))
    (tpX : PySem.W.nsIn K cStatics "thirdparty.any" = some none)
    (topX : (l.prog.main.scope.names.lookup ("super" : Str)).isSome = false)
    (suX : PySem.W.nsIn K mainGlobals "super" = some none)
    (e0_FolderkinError : K.lookup C_FolderkinError = some (PySem.excClassObj nm_FolderkinError q_FolderkinError C_FolderkinError N_FolderkinError bs_FolderkinError bm_FolderkinError true sn_FolderkinError sub_FolderkinError ab_FolderkinError col_FolderkinError dd_FolderkinError k0_FolderkinError k1_FolderkinError k2_FolderkinError k3_FolderkinError k5_FolderkinError "ValueError.__new__"))
    (ez_FolderkinError : PySem.HandSPX.refsVE bm_FolderkinError = true)
    (e1_FolderkinError : PySem.W.findIn K (.ref C_FolderkinError) "__setattr__" = some (some (.builtin "object.__setattr__")))
    (e2_FolderkinError : PySem.W.subIn K (.ref C_FolderkinError) (.type "BaseException") = some true)
    (e3_FolderkinError : PySem.W.typeIn K (.ref C_FolderkinError) = some (.type "type"))
    (e4_FolderkinError : PySem.W.keepIn K (.ref C_FolderkinError) = true)
    (e5_FolderkinError : PySem.W.isClsIn K C_FolderkinError = true)
    (e6_FolderkinError : PySem.W.mroIn K C_FolderkinError (.ref C_FolderkinError) = some true)
    (e7_FolderkinError : PySem.W.ks_superIn K C_FolderkinError C_FolderkinError "__init__" = some (some (.builtin "ValueError.__init__")))
    (e8_FolderkinError : PySem.W.subIn K (.ref C_FolderkinError) (.type "ValueError") = some true)
    (e9_FolderkinError : PySem.W.findIn K (.ref C_FolderkinError) "place" = some none)
    (ea_FolderkinError : PySem.W.findIn K (.ref C_FolderkinError) "__init__" = some (some (.ref gX)))
    (eb_FolderkinError : PySem.W.hasDictIn K C_FolderkinError = true)
    (ec_FolderkinError : PySem.W.findIn K (.ref C_FolderkinError) "__getattribute__" = some (some (.builtin "BaseException.__getattribute__")))
    (ed_FolderkinError : PySem.W.findIn K (.ref C_FolderkinError) "__getattr__" = some none)
    (ee_FolderkinError : PySem.W.findIn K (.ref C_FolderkinError) "__class__" = some (some (.builtin "object.__class__")))
    (ef_FolderkinError : PySem.W.specialIn K (.builtin "object.__class__") "__get__" = some (some (.builtin "getset_descriptor.__get__")))
    (eg_FolderkinError : PySem.W.takesIn K (.builtin "object.__class__") = some true)
    (eh_FolderkinError : PySem.W.mroIn K C_FolderkinError (.type "object") = some true)
    (e0_PowerCut : K.lookup C_PowerCut = some (PySem.excClassObj nm_PowerCut q_PowerCut C_PowerCut N_PowerCut bs_PowerCut bm_PowerCut true sn_PowerCut sub_PowerCut ab_PowerCut col_PowerCut dd_PowerCut k0_PowerCut k1_PowerCut k2_PowerCut k3_PowerCut k5_PowerCut "ValueError.__new__"))
    (ez_PowerCut : PySem.HandSPX.refsVE bm_PowerCut = true)
    (e1_PowerCut : PySem.W.findIn K (.ref C_PowerCut) "__setattr__" = some (some (.builtin "object.__setattr__")))
    (e2_PowerCut : PySem.W.subIn K (.ref C_PowerCut) (.type "BaseException") = some true)
    (e3_PowerCut : PySem.W.typeIn K (.ref C_PowerCut) = some (.type "type"))
    (e4_PowerCut : PySem.W.keepIn K (.ref C_PowerCut) = true)
    (e5_PowerCut : PySem.W.isClsIn K C_PowerCut = true)
    (e6_PowerCut : PySem.W.mroIn K C_PowerCut (.ref C_FolderkinError) = some true)
    (e7_PowerCut : PySem.W.ks_superIn K C_PowerCut C_FolderkinError "__init__" = some (some (.builtin "ValueError.__init__")))
    (e8_PowerCut : PySem.W.subIn K (.ref C_PowerCut) (.type "ValueError") = some true)
    (e9_PowerCut : PySem.W.findIn K (.ref C_PowerCut) "place" = some none)
    (ea_PowerCut : PySem.W.findIn K (.ref C_PowerCut) "__init__" = some (some (.ref gX)))
    (eb_PowerCut : PySem.W.hasDictIn K C_PowerCut = true)
    (ec_PowerCut : PySem.W.findIn K (.ref C_PowerCut) "__getattribute__" = some (some (.builtin "BaseException.__getattribute__")))
    (ed_PowerCut : PySem.W.findIn K (.ref C_PowerCut) "__getattr__" = some none)
    (ee_PowerCut : PySem.W.findIn K (.ref C_PowerCut) "__class__" = some (some (.builtin "object.__class__")))
    (ef_PowerCut : PySem.W.specialIn K (.builtin "object.__class__") "__get__" = some (some (.builtin "getset_descriptor.__get__")))
    (eg_PowerCut : PySem.W.takesIn K (.builtin "object.__class__") = some true)
    (eh_PowerCut : PySem.W.mroIn K C_PowerCut (.type "object") = some true)
    (z_int : PySem.W.nsIn K mainGlobals "int" = some none)
    (z_isinstance : PySem.W.nsIn K mainGlobals "isinstance" = some none)
    (z_len : PySem.W.nsIn K mainGlobals "len" = some none)
    (z_list : PySem.W.nsIn K mainGlobals "list" = some none)
    (z_max : PySem.W.nsIn K mainGlobals "max" = some none)
    (z_range : PySem.W.nsIn K mainGlobals "range" = some none)
    (z_set : PySem.W.nsIn K mainGlobals "set" = some none)
    (z_sorted : PySem.W.nsIn K mainGlobals "sorted" = some none)
    (z_sum : PySem.W.nsIn K mainGlobals "sum" = some none)
    (hm : ∀ (C_Rule C_Store C_FolderkinError C_PowerCut gX : Nat) (ns : List Int), ns.length ≤ 63 → (f_law C_Rule C_Store C_FolderkinError C_PowerCut gX) [scriptD ns] (fun _ => none) (fun d _ => d = .bool true) (fun _ _ => False)) :
    ∃ fd : FuncData, (∀ (s : Shared) (v : Value), BindsTo s fd ⟨[v], []⟩ [("_law_script", v)]) ∧ ∀ base : Heap, K.In base → base.Ns mainGlobals mg → FnOk l.prog w K mg base (L2.CX l.prog w) 7 fa fd ["_law_script"] (fun vs H Q _ => ∃ (a : Addr) (ns : List Int), vs = [.ref a] ∧ SqL K H a (ns.map V.int) ∧ ns.length ≤ 63 ∧ ∀ H', Q (.bl true) H') := by
  have e := Value.ref.inj (Option.some.inj ((PySem.W.mg_of X G a17).symm.trans hfa))
  subst e
  have F0 : FunD K "__init__" "Rule.__init__" (defArgs s_Rule_init) (defBody s_Rule_init) (defScope s_Rule_init) [] [] f0 _ := ⟨⟨_, _, _, _, _, _, _, _, _, _, rfl, l0, c0, .inl ⟨rfl, rfl⟩, .inl rfl⟩, k0⟩
  have A0 : ∀ (base : Heap), AtF ⟨l.prog, w, K, mg, base, 0, true, true, none, []⟩ "__init__" "Rule.__init__" s_Rule_init ["self", "each", "total"] [] [] f0 := fun base => ⟨_, F0, F0.bindsN fun _ _ _ _ _ _ us hl => match us, hl with | [_, _, _], _ => rfl, fun j hj => by cases hj⟩
  have F1 : FunD K "__eq__" "Rule.__eq__" (defArgs s_Rule_eq) (defBody s_Rule_eq) (defScope s_Rule_eq) [] [] f1 _ := ⟨⟨_, _, _, _, _, _, _, _, _, _, rfl, l1, c1, .inl ⟨rfl, rfl⟩, .inl rfl⟩, k1⟩
  have A1 : ∀ (base : Heap), AtF ⟨l.prog, w, K, mg, base, 0, true, true, none, []⟩ "__eq__" "Rule.__eq__" s_Rule_eq ["self", "other"] [] [] f1 := fun base => ⟨_, F1, F1.bindsN fun _ _ _ _ _ _ us hl => match us, hl with | [_, _], _ => rfl, fun j hj => by cases hj⟩
  have F2 : FunD K "kept" "kept" (defArgs s_kept) (defBody s_kept) (defScope s_kept) [] [] f2 _ := ⟨⟨_, _, _, _, _, _, _, _, _, _, rfl, l2, c2, .inl ⟨rfl, rfl⟩, .inl rfl⟩, k2⟩
  have A2 : ∀ (base : Heap), AtF ⟨l.prog, w, K, mg, base, 0, true, true, none, []⟩ "kept" "kept" s_kept ["store", "name"] [] [] f2 := fun base => ⟨_, F2, F2.bindsN fun _ _ _ _ _ _ us hl => match us, hl with | [_, _], _ => rfl, fun j hj => by cases hj⟩
  have F3 : FunD K "first_of" "first_of" (defArgs s_first_of) (defBody s_first_of) (defScope s_first_of) [] [] f3 _ := ⟨⟨_, _, _, _, _, _, _, _, _, _, rfl, l3, c3, .inl ⟨rfl, rfl⟩, .inl rfl⟩, k3⟩
  have A3 : ∀ (base : Heap), AtF ⟨l.prog, w, K, mg, base, 0, true, true, none, []⟩ "first_of" "first_of" s_first_of ["store", "name"] [] [] f3 := fun base => ⟨_, F3, F3.bindsN fun _ _ _ _ _ _ us hl => match us, hl with | [_, _], _ => rfl, fun j hj => by cases hj⟩
  have F4 : FunD K "size_of" "size_of" (defArgs s_size_of) (defBody s_size_of) (defScope s_size_of) [] [] f4 _ := ⟨⟨_, _, _, _, _, _, _, _, _, _, rfl, l4, c4, .inl ⟨rfl, rfl⟩, .inl rfl⟩, k4⟩
  have A4 : ∀ (base : Heap), AtF ⟨l.prog, w, K, mg, base, 0, true, true, none, []⟩ "size_of" "size_of" s_size_of ["store"] [] [] f4 := fun base => ⟨_, F4, F4.bindsN fun _ _ _ _ _ _ us hl => match us, hl with | [_], _ => rfl, fun j hj => by cases hj⟩
  have F5 : FunD K "tidy" "tidy" (defArgs s_tidy) (defBody s_tidy) (defScope s_tidy) [] [] f5 _ := ⟨⟨_, _, _, _, _, _, _, _, _, _, rfl, l5, c5, .inl ⟨rfl, rfl⟩, .inl rfl⟩, k5⟩
  have A5 : ∀ (base : Heap), AtF ⟨l.prog, w, K, mg, base, 0, true, true, none, []⟩ "tidy" "tidy" s_tidy ["store", "rule"] [] [] f5 := fun base => ⟨_, F5, F5.bindsN fun _ _ _ _ _ _ us hl => match us, hl with | [_, _], _ => rfl, fun j hj => by cases hj⟩
  have F6 : FunD K "keep" "keep" (defArgs s_keep) (defBody s_keep) (defScope s_keep) [] [] f6 _ := ⟨⟨_, _, _, _, _, _, _, _, _, _, rfl, l6, c6, .inl ⟨rfl, rfl⟩, .inl rfl⟩, k6⟩
  have A6 : ∀ (base : Heap), AtF ⟨l.prog, w, K, mg, base, 0, true, true, none, []⟩ "keep" "keep" s_keep ["store", "rule", "name", "vector", "content"] [] [] f6 := fun base => ⟨_, F6, F6.bindsN fun _ _ _ _ _ _ us hl => match us, hl with | [_, _, _, _, _], _ => rfl, fun j hj => by cases hj⟩
  have F7 : FunD K "let_go" "let_go" (defArgs s_let_go) (defBody s_let_go) (defScope s_let_go) [] [] f7 _ := ⟨⟨_, _, _, _, _, _, _, _, _, _, rfl, l7, c7, .inl ⟨rfl, rfl⟩, .inl rfl⟩, k7⟩
  have A7 : ∀ (base : Heap), AtF ⟨l.prog, w, K, mg, base, 0, true, true, none, []⟩ "let_go" "let_go" s_let_go ["store", "name", "vector"] [] [] f7 := fun base => ⟨_, F7, F7.bindsN fun _ _ _ _ _ _ us hl => match us, hl with | [_, _, _], _ => rfl, fun j hj => by cases hj⟩
  have F8 : FunD K "__init__" "Store.__init__" (defArgs s_Store_init) (defBody s_Store_init) (defScope s_Store_init) [] [] f8 _ := ⟨⟨_, _, _, _, _, _, _, _, _, _, rfl, l8, c8, .inl ⟨rfl, rfl⟩, .inl rfl⟩, k8⟩
  have A8 : ∀ (base : Heap), AtF ⟨l.prog, w, K, mg, base, 0, true, true, none, []⟩ "__init__" "Store.__init__" s_Store_init ["self", "files", "log"] [] [] f8 := fun base => ⟨_, F8, F8.bindsN fun _ _ _ _ _ _ us hl => match us, hl with | [_, _, _], _ => rfl, fun j hj => by cases hj⟩
  have F9 : FunD K "write_now" "Store.write_now" (defArgs s_Store_write_now) (defBody s_Store_write_now) (defScope s_Store_write_now) [] [] f9 _ := ⟨⟨_, _, _, _, _, _, _, _, _, _, rfl, l9, c9, .inl ⟨rfl, rfl⟩, .inl rfl⟩, k9⟩
  have A9 : ∀ (base : Heap), AtF ⟨l.prog, w, K, mg, base, 0, true, true, none, []⟩ "write_now" "Store.write_now" s_Store_write_now ["self"] [] [] f9 := fun base => ⟨_, F9, F9.bindsN fun _ _ _ _ _ _ us hl => match us, hl with | [_], _ => rfl, fun j hj => by cases hj⟩
  have F10 : FunD K "attic" "Store.attic" (defArgs s_Store_attic) (defBody s_Store_attic) (defScope s_Store_attic) [] [] f10 _ := ⟨⟨_, _, _, _, _, _, _, _, _, _, rfl, l10, c10, .inl ⟨rfl, rfl⟩, .inl rfl⟩, k10⟩
  have A10 : ∀ (base : Heap), AtF ⟨l.prog, w, K, mg, base, 0, true, true, none, []⟩ "attic" "Store.attic" s_Store_attic ["self"] [] [] f10 := fun base => ⟨_, F10, F10.bindsN fun _ _ _ _ _ _ us hl => match us, hl with | [_], _ => rfl, fun j hj => by cases hj⟩
  have F11 : FunD K "attic_put" "Store.attic_put" (defArgs s_Store_attic_put) (defBody s_Store_attic_put) (defScope s_Store_attic_put) [] [] f11 _ := ⟨⟨_, _, _, _, _, _, _, _, _, _, rfl, l11, c11, .inl ⟨rfl, rfl⟩, .inl rfl⟩, k11⟩
  have A11 : ∀ (base : Heap), AtF ⟨l.prog, w, K, mg, base, 0, true, true, none, []⟩ "attic_put" "Store.attic_put" s_Store_attic_put ["self", "name", "vector", "content"] [] [] f11 := fun base => ⟨_, F11, F11.bindsN fun _ _ _ _ _ _ us hl => match us, hl with | [_, _, _, _], _ => rfl, fun j hj => by cases hj⟩
  have F12 : FunD K "attic_drop" "Store.attic_drop" (defArgs s_Store_attic_drop) (defBody s_Store_attic_drop) (defScope s_Store_attic_drop) [] [] f12 _ := ⟨⟨_, _, _, _, _, _, _, _, _, _, rfl, l12, c12, .inl ⟨rfl, rfl⟩, .inl rfl⟩, k12⟩
  have A12 : ∀ (base : Heap), AtF ⟨l.prog, w, K, mg, base, 0, true, true, none, []⟩ "attic_drop" "Store.attic_drop" s_Store_attic_drop ["self", "index"] [] [] f12 := fun base => ⟨_, F12, F12.bindsN fun _ _ _ _ _ _ us hl => match us, hl with | [_, _], _ => rfl, fun j hj => by cases hj⟩
  have F13 : FunD K "_law_draw" "_law_draw" (defArgs s_law_draw) (defBody s_law_draw) (defScope s_law_draw) [] [] f13 _ := ⟨⟨_, _, _, _, _, _, _, _, _, _, rfl, l13, c13, .inl ⟨rfl, rfl⟩, .inl rfl⟩, k13⟩
  have A13 : ∀ (base : Heap), AtF ⟨l.prog, w, K, mg, base, 0, true, true, none, []⟩ "_law_draw" "_law_draw" s_law_draw ["_law_state", "_law_script", "_law_size"] [] [] f13 := fun base => ⟨_, F13, F13.bindsN fun _ _ _ _ _ _ us hl => match us, hl with | [_, _, _], _ => rfl, fun j hj => by cases hj⟩
  have F14 : FunD K "_law_name" "_law_name" (defArgs s_law_name) (defBody s_law_name) (defScope s_law_name) [] [] f14 _ := ⟨⟨_, _, _, _, _, _, _, _, _, _, rfl, l14, c14, .inl ⟨rfl, rfl⟩, .inl rfl⟩, k14⟩
  have A14 : ∀ (base : Heap), AtF ⟨l.prog, w, K, mg, base, 0, true, true, none, []⟩ "_law_name" "_law_name" s_law_name ["_law_state", "_law_script"] [] [] f14 := fun base => ⟨_, F14, F14.bindsN fun _ _ _ _ _ _ us hl => match us, hl with | [_, _], _ => rfl, fun j hj => by cases hj⟩
  have F15 : FunD K "_law_content" "_law_content" (defArgs s_law_content) (defBody s_law_content) (defScope s_law_content) [] [] f15 _ := ⟨⟨_, _, _, _, _, _, _, _, _, _, rfl, l15, c15, .inl ⟨rfl, rfl⟩, .inl rfl⟩, k15⟩
  have A15 : ∀ (base : Heap), AtF ⟨l.prog, w, K, mg, base, 0, true, true, none, []⟩ "_law_content" "_law_content" s_law_content ["_law_state", "_law_script", "_law_most"] [] [] f15 := fun base => ⟨_, F15, F15.bindsN fun _ _ _ _ _ _ us hl => match us, hl with | [_, _, _], _ => rfl, fun j hj => by cases hj⟩
  have F16 : FunD K "_law_tidied" "_law_tidied" (defArgs s_law_tidied) (defBody s_law_tidied) (defScope s_law_tidied) [] [] f16 _ := ⟨⟨_, _, _, _, _, _, _, _, _, _, rfl, l16, c16, .inl ⟨rfl, rfl⟩, .inl rfl⟩, k16⟩
  have A16 : ∀ (base : Heap), AtF ⟨l.prog, w, K, mg, base, 0, true, true, none, []⟩ "_law_tidied" "_law_tidied" s_law_tidied ["_law_lots", "_law_each", "_law_total"] [] [] f16 := fun base => ⟨_, F16, F16.bindsN fun _ _ _ _ _ _ us hl => match us, hl with | [_, _, _], _ => rfl, fun j hj => by cases hj⟩
  have F17 : FunD K "law" "law" (defArgs s_law) (defBody s_law) (defScope s_law) [] [] f17 _ := ⟨⟨_, _, _, _, _, _, _, _, _, _, rfl, l17, c17, .inl ⟨rfl, rfl⟩, .inl rfl⟩, k17⟩
  have A17 : ∀ (base : Heap), AtF ⟨l.prog, w, K, mg, base, 0, true, true, none, []⟩ "law" "law" s_law ["_law_script"] [] [] f17 := fun base => ⟨_, F17, F17.bindsN fun _ _ _ _ _ _ us hl => match us, hl with | [_], _ => rfl, fun j hj => by cases hj⟩
  have TX : ExI l.prog K C_FolderkinError gX "FolderkinError.__init__" s_X := ⟨by
    obtain ⟨cd, hcd⟩ := Option.isSome_iff_exists.mp dX
    exact ⟨_, _, _, _, _, _, _, _, _, _, _, _, _, _, _, _, _, _, _, cd, lX, cX, oX, vX, fX, ceX, hcd⟩, kX, tX, tpX, topX⟩
  have E_FolderkinError : ExC K C_FolderkinError gX C_FolderkinError := ⟨⟨⟨_, _, _, _, _, _, _, _, _, _, _, _, _, _, _, e0_FolderkinError, ez_FolderkinError⟩, e1_FolderkinError, e2_FolderkinError, e3_FolderkinError, e4_FolderkinError⟩, Option.isSome_iff_exists.mp e5_FolderkinError, e6_FolderkinError, e7_FolderkinError, e8_FolderkinError, e9_FolderkinError, ea_FolderkinError, eb_FolderkinError, ec_FolderkinError, ed_FolderkinError, ee_FolderkinError, ef_FolderkinError, eg_FolderkinError, eh_FolderkinError⟩
  have E_PowerCut : ExC K C_FolderkinError gX C_PowerCut := ⟨⟨⟨_, _, _, _, _, _, _, _, _, _, _, _, _, _, _, e0_PowerCut, ez_PowerCut⟩, e1_PowerCut, e2_PowerCut, e3_PowerCut, e4_PowerCut⟩, Option.isSome_iff_exists.mp e5_PowerCut, e6_PowerCut, e7_PowerCut, e8_PowerCut, e9_PowerCut, ea_PowerCut, eb_PowerCut, ec_PowerCut, ed_PowerCut, ee_PowerCut, ef_PowerCut, eg_PowerCut, eh_PowerCut⟩
  have T : ∀ base : Heap, Facts ⟨l.prog, w, K, mg, base, 0, true, true, none, []⟩ C_Rule C_Store C_FolderkinError C_PowerCut gX := fun base => ⟨PySem.W.mg_none_of X G z_int, PySem.W.mg_none_of X G z_isinstance, PySem.W.mg_none_of X G z_len, PySem.W.mg_none_of X G z_list, PySem.W.mg_none_of X G z_max, PySem.W.mg_none_of X G z_range, PySem.W.mg_none_of X G z_set, PySem.W.mg_none_of X G z_sorted, PySem.W.mg_none_of X G z_sum, ⟨PySem.W.mg_of X G aC_Rule, ⟨pg_Rule, hd_Rule, po_Rule, sa_Rule⟩, cha_Rule, chn_Rule, cht_Rule, chm_Rule, kit_self, kit_other cic_Rule cty_Rule nNoneType_Rule, kit_other cic_Rule cty_Rule nbool_Rule, kit_other cic_Rule cty_Rule nint_Rule, kit_other cic_Rule cty_Rule nstr_Rule, kit_other cic_Rule cty_Rule nlist_Rule, kit_other cic_Rule cty_Rule ntuple_Rule, nlist_Rule, ntuple_Rule⟩, na_each_Rule, na_total_Rule, ⟨PySem.W.mg_of X G aC_Store, ⟨pg_Store, hd_Store, po_Store, sa_Store⟩, cha_Store, chn_Store, cht_Store, chm_Store, kit_self, kit_other cic_Store cty_Store nNoneType_Store, kit_other cic_Store cty_Store nbool_Store, kit_other cic_Store cty_Store nint_Store, kit_other cic_Store cty_Store nstr_Store, kit_other cic_Store cty_Store nlist_Store, kit_other cic_Store cty_Store ntuple_Store, nlist_Store, ntuple_Store⟩, na_files_Store, na_temps_Store, na_old_Store, na_records_Store, na_fresh_Store, na_writes_Store, na_most_Store, ⟨exi_ok TX form_X (PySem.W.mg_none_of X G suX), tX, E_FolderkinError, PySem.W.mg_of X G aC_FolderkinError⟩, ⟨exi_ok TX form_X (PySem.W.mg_none_of X G suX), tX, E_PowerCut, PySem.W.mg_of X G aC_PowerCut⟩, ⟨_, A0 base, ⟨mk_Rule, a0, i0, kc_Rule⟩, PySem.W.mg_of X G aC_Rule⟩, ⟨_, A1 base, ⟨a1, i1, k1⟩⟩, ⟨_, A2 base, PySem.W.mg_of X G a2⟩, ⟨_, A3 base, PySem.W.mg_of X G a3⟩, ⟨_, A4 base, PySem.W.mg_of X G a4⟩, ⟨_, A5 base, PySem.W.mg_of X G a5⟩, ⟨_, A6 base, PySem.W.mg_of X G a6⟩, ⟨_, A7 base, PySem.W.mg_of X G a7⟩, ⟨_, A8 base, ⟨mk_Store, a8, i8, kc_Store⟩, PySem.W.mg_of X G aC_Store⟩, ⟨_, A9 base, ⟨a9, i9, k9⟩⟩, ⟨_, A10 base, ⟨a10, i10, k10⟩⟩, ⟨_, A11 base, ⟨a11, i11, k11⟩⟩, ⟨_, A12 base, ⟨a12, i12, k12⟩⟩, ⟨_, A13 base, PySem.W.mg_of X G a13⟩, ⟨_, A14 base, PySem.W.mg_of X G a14⟩, ⟨_, A15 base, PySem.W.mg_of X G a15⟩, ⟨_, A16 base, PySem.W.mg_of X G a16⟩, ⟨_, A17 base, PySem.W.mg_of X G a17⟩⟩
  refine ⟨_, fun s v => F17.bindsA (ps := ["_law_script"]) (fun _ _ _ _ _ _ us hl => match us, hl with | [_], _ => rfl) s [v] rfl, fun base _ _ => ?_⟩
  exact law_fn (c := ⟨l.prog, w, K, mg, base, 0, true, true, none, []⟩) (fn_okD (c := ⟨l.prog, w, K, mg, base, 0, true, true, none, []⟩) (F17) sc_law (jb_law (T base))) (hm C_Rule C_Store C_FolderkinError C_PowerCut gX)
end K27
namespace K27
open PySem L2 Hz
local macro_rules | `(tactic| array_mem_dec) => `(tactic| (first | ((with_reducible apply fd_cons); exact trivial) | ((with_reducible apply fd_nil); exact trivial) | ((with_reducible apply oq_isiB (b := true)); exact rfl) | ((with_reducible apply oq_isiB (b := false)); exact rfl) | ((with_reducible apply w_xi); exact rfl; exact decide_eq_true rfl; exact if_pos rfl) | ((with_reducible apply w_xf); exact rfl; exact decide_eq_true rfl; exact rfl) | ((with_reducible apply w_frzS); exact rfl; (first | assumption | exact aset_same); (try simp only [List.set])) | ((with_reducible apply rg1_of); (first | omega | decide)) | ((with_reducible apply rg2_of); (first | omega | decide)) | ((with_reducible apply lok); exact rfl) | ((with_reducible refine it2_dec ?_ ?_) <;> intro)))
local macro_rules | `(tactic| array_mem_dec) => `(tactic| (first | ((with_reducible apply dc_c); (first | assumption | exact aset_same); (first | exact rfl | exact tD_real _ _)) | ((with_reducible apply cdi_of); (first | assumption | exact aset_same); (first | exact rfl | exact tD_real _ _)) | ((with_reducible apply dc_d); (first | exact rfl | exact tD_real _ _)) | ((with_reducible apply dc_f); (first | exact rfl | exact tD_real _ _)) | ((with_reducible apply lk_of); exact rfl) | ((with_reducible apply oq_setv2); (simp only [List.set, wipeA]; exact rfl)) | ((with_reducible apply cal_of); exact rfl; (try simp only [List.cons_append, List.nil_append, List.append_nil])) | ((with_reducible apply w_aug); exact rfl) | ((with_reducible apply cel_of); (first | assumption | exact aset_same)) | ((with_reducible apply ceo_of); (first | assumption | exact aset_same)) | ((with_reducible apply tlG_r); (first | assumption | exact aset_same)) | ((with_reducible apply fr_of); (first | assumption | exact aset_same))))
local macro_rules | `(tactic| array_mem_dec) => `(tactic| (with_reducible first | refine pr2_of ?_ | refine w_dget ?_ | refine w_dget1 ?_ | refine w_dget2 ?_ | refine w_din ?_ | refine w_dnotin ?_ | refine w_dpop1 ?_ | refine w_dpop2 ?_ | refine w_dput ?_ | refine w_daug ?_ | refine w_lenD ?_ | refine w_dnew ?_ | refine w_fz ?_ | refine w_listD ?_ | refine w_dictD ?_ | refine w_dictP ?_ | refine w_sortD ?_ | refine w_isiC ?_))
local macro_rules | `(tactic| array_mem_dec) => `(tactic| (with_reducible first | refine tb_b ?_ | refine ti_b ?_ | refine ts_b ?_ | refine we_nx ?_ | refine we_rt ?_ | refine we_ex ?_ | refine wn_nx ?_ | refine wn_rt ?_ | refine wn_bk ?_ | refine wn_ct ?_ | refine wn_ex ?_ | refine wl_nx ?_ | refine wl_rt ?_ | refine wl_bk ?_ | refine wl_ct ?_ | refine wl_ex ?_ | refine wx_nx ?_ | refine wx_rt ?_ | refine wx_bk ?_ | refine wx_ct ?_ | refine wx_ex ?_ | refine wh_nx ?_ | refine wh_rt ?_ | refine wh_bk ?_ | refine wh_ct ?_ | refine it2_t ?_ | refine it2_f ?_ | refine it2_not ?_ | refine tlG_l ?_ | refine ttG_t ?_))
local macro_rules | `(tactic| array_mem_dec) => `(tactic| ((with_reducible refine oq_id ?_); (first | (with_reducible first | refine vw_i ?_ | refine vw_s ?_ | refine vw_b ?_ | refine vw_n ?_ | refine vw_l ?_ | refine vw_t ?_ | refine vw_sc ?_ | refine vw_o ?_ | refine mv_nil ?_ | refine mv_cons ?_ | refine oq_tgNil ?_ | refine oq_tgCons ?_ | refine oq_add_i ?_ | refine oq_sub ?_ | refine oq_lt ?_ | refine oq_le ?_ | refine oq_gt ?_ | refine oq_ge ?_ | refine oq_eq_i ?_ | refine oq_ne_i ?_ | refine oq_eq_s ?_ | refine oq_ne_s ?_ | refine oq_eq_b ?_ | refine oq_ne_b ?_ | refine oq_is ?_ | refine oq_isNot ?_ | refine oq_in_s ?_ | refine oq_notIn_s ?_ | refine oq_len_l ?_ | refine oq_len_t ?_ | refine oq_int ?_ | refine oq_abs ?_ | refine oq_ord ?_ | refine oq_cut_l ?_ | refine oq_cut_t ?_ | refine oq_list_l ?_ | refine oq_list_t ?_ | refine oq_tuple_l ?_ | refine oq_tuple_t ?_ | refine oq_max2 ?_ | refine oq_min2 ?_ | refine oq_some ?_ | refine oq_len_sc ?_ | refine oq_eq_il ?_ | refine oq_ne_il ?_ | refine oq_eq_it ?_ | refine oq_ne_it ?_ | refine oq_lt_il ?_ | refine oq_lt_it ?_ | refine oq_iadd_i ?_ | refine oq_isT ?_ | refine oq_isNotT ?_) | (first | ((with_reducible apply oq_tgTup); exact rfl) | ((with_reducible apply oq_ix_lk); exact rfl) | ((with_reducible apply oq_ix_tk); exact rfl) | ((with_reducible apply vw_r); (first | assumption | exact aset_same)) | ((with_reducible apply oq_ixN_k); exact rfl; (try simp only [List.set, Int.reduceToNat])) | ((with_reducible apply oq_mod); (first | omega | decide)) | ((with_reducible apply oq_div); (first | omega | decide)) | ((with_reducible apply oq_mul); (first | omega | decide)) | ((with_reducible apply oq_pow); (first | omega | decide)) | ((with_reducible apply oq_shl); (first | omega | decide)) | ((with_reducible apply oq_shr); (first | omega | decide)) | ((with_reducible apply oq_add_s); (first | omega | decide))) | (first | ((with_reducible apply oq_len_s); (first | omega | decide)) | ((with_reducible apply oq_cut_s); (first | omega | decide)) | ((with_reducible apply oq_append); (first | omega | decide)) | ((with_reducible apply oq_insert); (first | omega | decide)) | ((with_reducible apply oq_rep); (first | omega | decide)) | ((with_reducible apply oq_cat); (first | omega | decide))))))
local macro_rules | `(tactic| array_mem_dec) => `(tactic| (with_reducible first | refine w_list ?_ | refine w_tuple ?_ | refine w_str ?_ | refine w_range1 ?_ | refine w_range2 ?_ | refine w_range3 ?_ | refine w_next ?_ | refine w_break ?_ | refine w_cont ?_ | refine w_drop ?_ | refine w_ret ?_ | refine w_retN ?_ | refine w_if ?_ | refine w_asg ?_ | refine w_raise ?_ | refine w_fld ?_ | refine w_seta ?_ | refine w_auga ?_ | refine w_seti ?_ | refine w_mut ?_ | refine w_frz ?_ | refine w_new ?_ | refine w_ext ?_ | refine w_for ?_ | refine w_lc ?_ | refine w_tryA ?_ | refine w_try ?_ | refine w_par ?_))
local macro_rules | `(tactic| array_mem_dec) => `(tactic| (first | ((with_reducible apply w_kV); exact rfl) | (with_reducible first | refine w_kC ?_ | refine w_bop ?_ | refine w_tst ?_ | refine w_val ?_ | refine w_and ?_ | refine w_or ?_ | refine w_not ?_ | refine w_andV ?_ | refine w_orV ?_ | refine w_chain ?_ | refine w_ifK ?_ | refine w_nil ?_ | refine w_cons ?_ | refine w_tup ?_ | refine w_lst ?_ | refine w_call ?_ | refine w_neg ?_ | refine w_b1 ?_ | refine w_bn ?_ | refine w_isi ?_ | refine w_met ?_ | refine w_pnone ?_ | refine w_psome ?_ | refine w_cut ?_ | refine w_yes ?_)))
local macro_rules | `(tactic| array_get_dec) => `(tactic| (with_reducible refine w_seqB ?_))
local macro_rules | `(tactic| array_get_dec) => `(tactic| array_mem_dec)
local macro_rules | `(tactic| decreasing_trivial_pre_omega) => `(tactic| (with_reducible refine w_seq ?_))
local macro_rules | `(tactic| decreasing_trivial_pre_omega) => `(tactic| array_mem_dec)
local macro_rules | `(tactic| sizeOf_list_dec) => `(tactic| (try simp only [List.set, Int.reduceToNat, List.map_cons, List.map_nil, Nat.reduceSub, List.reduceReplicate, List.cons_append, List.nil_append, wipeA, aset_aset, List.getElem?_cons_zero, List.getElem?_cons_succ]))
variable {CR CS CF CP gX : Nat} {α : AH} {Q : QD} {E : QX}
abbrev Row := Str × D × List Int
structure Sto where
  files : List (Str × (List Int × Int))
  temps : List (Str × List Int)
  old : List Row
  recs : List Int
  fresh : List Int
  wr : Int
structure Ads where
  p : Addr
  f : Addr
  t : Addr
  o : Addr
  r : Addr
  n : Addr
def ctD (c : List Int) : D := .list (c.map .int)
def flU (x : List Int × Int) : D := .tuple [ctD x.1, .int x.2]
def olU (x : Row) : D := .tuple [.str x.1, x.2.1, ctD x.2.2]
def fld (A : Ads) (w : Int) : List (D × D) := [(.str "files", dref A.f), (.str "temps", dref A.t), (.str "old", dref A.o), (.str "records", dref A.r), (.str "fresh", dref A.n), (.str "writes", .int w), (.str "most", .none)]
def Ads.all (A : Ads) : List Addr := [A.p, A.f, A.t, A.o, A.r, A.n]
structure StAt (CS : Nat) (α : AH) (A : Ads) (s : Sto) : Prop where
  p : α A.p = some (oD CS (fld A s.wr))
  f : α A.f = some (.dict (tD flU s.files))
  t : α A.t = some (.dict (tD ctD s.temps))
  o : α A.o = some (.list (s.old.map olU))
  r : α A.r = some (ctD s.recs)
  n : α A.n = some (ctD s.fresh)
  nd : A.all.Nodup
  nf : (s.files.map (·.1)).Nodup
  nt : (s.temps.map (·.1)).Nodup
/-- only the store's cells have changed -/
def Oth (A : Ads) (α α' : AH) : Prop := ∀ a, a ∉ A.all → α' a = α a
theorem Oth.refl {A : Ads} : Oth A α α := fun _ _ => rfl
theorem Oth.trans {A : Ads} {α1 α2 : AH} (h : Oth A α α1) (k : Oth A α1 α2) : Oth A α α2 := fun a n => (k a n).trans (h a n)
theorem vw_st {A : Ads} {s : Sto} (S : StAt CS α A s) {R : D → Prop} (h : R (oD CS (fld A s.wr))) : oq (vw α (dref A.p)) R := ⟨_, S.p, h⟩
theorem fl_f {A : Ads} {w : Int} {R : D → Prop} (h : R (dref A.f)) : oq (fldD CS "files" (oD CS (fld A w))) R := ⟨_, by
  show (if Int.ofNat CS = Int.ofNat CS then _ else _) = _
  rw [if_pos rfl]
  rfl, h⟩
theorem fl_t {A : Ads} {w : Int} {R : D → Prop} (h : R (dref A.t)) : oq (fldD CS "temps" (oD CS (fld A w))) R := ⟨_, by
  show (if Int.ofNat CS = Int.ofNat CS then _ else _) = _
  rw [if_pos rfl]
  rfl, h⟩
theorem fl_o {A : Ads} {w : Int} {R : D → Prop} (h : R (dref A.o)) : oq (fldD CS "old" (oD CS (fld A w))) R := ⟨_, by
  show (if Int.ofNat CS = Int.ofNat CS then _ else _) = _
  rw [if_pos rfl]
  rfl, h⟩
theorem fl_r {A : Ads} {w : Int} {R : D → Prop} (h : R (dref A.r)) : oq (fldD CS "records" (oD CS (fld A w))) R := ⟨_, by
  show (if Int.ofNat CS = Int.ofNat CS then _ else _) = _
  rw [if_pos rfl]
  rfl, h⟩
theorem fl_n {A : Ads} {w : Int} {R : D → Prop} (h : R (dref A.n)) : oq (fldD CS "fresh" (oD CS (fld A w))) R := ⟨_, by
  show (if Int.ofNat CS = Int.ofNat CS then _ else _) = _
  rw [if_pos rfl]
  rfl, h⟩
theorem fl_w {A : Ads} {w : Int} {R : D → Prop} (h : R (.int w)) : oq (fldD CS "writes" (oD CS (fld A w))) R := ⟨_, by
  show (if Int.ofNat CS = Int.ofNat CS then _ else _) = _
  rw [if_pos rfl]
  rfl, h⟩
theorem fl_m {A : Ads} {w : Int} {R : D → Prop} (h : R .none) : oq (fldD CS "most" (oD CS (fld A w))) R := ⟨_, by
  show (if Int.ofNat CS = Int.ofNat CS then _ else _) = _
  rw [if_pos rfl]
  rfl, h⟩
local macro_rules | `(tactic| array_mem_dec) => `(tactic| (first | ((with_reducible apply vw_st); assumption)))
local macro_rules | `(tactic| array_mem_dec) => `(tactic| (with_reducible first | refine fl_f ?_ | refine fl_t ?_ | refine fl_o ?_ | refine fl_r ?_ | refine fl_n ?_ | refine fl_w ?_ | refine fl_m ?_))
theorem ctD_list {c : List Int} {R : D → Prop} (h : R (ctD c)) : oq (dList [ctD c]) R := ⟨_, rfl, h⟩
theorem ctD_tup {c : List Int} {R : D → Prop} (h : R (.tuple (c.map .int))) : oq (dTuple [ctD c]) R := ⟨_, rfl, h⟩
theorem vw_ct {c : List Int} {R : D → Prop} (h : R (ctD c)) : oq (vw α (ctD c)) R := ⟨_, rfl, h⟩
local macro_rules | `(tactic| array_mem_dec) => `(tactic| (with_reducible first | refine ctD_list ?_ | refine ctD_tup ?_ | refine vw_ct ?_))
theorem attic_go {A : Ads} {s : Sto} (S : StAt CS α A s) (hl : s.old.length ≤ 1000) (h : Q (.list (s.old.map olU)) α) : f_Store_attic CR CS CF CP gX [dref A.p] α Q E := by
  unfold f_Store_attic m_Store_attic
  refine w_runP rfl ?_
  have ho := S.o
  sizeOf_list_dec
  (repeat' decreasing_trivial_pre_omega)
  refine lc_map s.old olU olU rfl (by omega) ?_ (fun x hx => ?_) ?_
  · exact ho
  · obtain ⟨n, v, c⟩ := x
    refine oq_tgTup rfl (oq_tgCons (oq_setv (oq_tgCons (oq_setv (oq_tgCons (oq_setv (oq_tgNil ?_)))))))
    intro R hR
    sizeOf_list_dec
    (repeat' decreasing_trivial_pre_omega)
    exact hR
  · (repeat' decreasing_trivial_pre_omega)
    rw [arst_self]
    exact h
theorem StAt.ne {A : Ads} {s : Sto} (S : StAt CS α A s) : A.p ≠ A.f ∧ A.p ≠ A.t ∧ A.p ≠ A.o ∧ A.p ≠ A.r ∧ A.p ≠ A.n ∧ A.f ≠ A.t ∧ A.f ≠ A.o ∧ A.f ≠ A.r ∧ A.f ≠ A.n ∧ A.t ≠ A.o ∧ A.t ≠ A.r ∧ A.t ≠ A.n ∧ A.o ≠ A.r ∧ A.o ≠ A.n ∧ A.r ≠ A.n := by
  have := S.nd
  unfold Ads.all at this
  simp only [List.nodup_cons, List.mem_cons, List.not_mem_nil, or_false, not_or] at this
  obtain ⟨⟨a1, a2, a3, a4, a5⟩, ⟨b1, b2, b3, b4⟩, ⟨c1, c2, c3⟩, ⟨d1, d2⟩, e1, _⟩ := this
  exact ⟨a1, a2, a3, a4, a5, b1, b2, b3, b4, c1, c2, c3, d1, d2, e1⟩
theorem StAt.setp {A : Ads} {s : Sto} (S : StAt CS α A s) (w : Int) : StAt CS (aset α A.p (oD CS (fld A w))) A { s with wr := w } := by
  obtain ⟨a1, a2, a3, a4, a5, _⟩ := S.ne
  exact ⟨aset_same, by rw [aset_ne (Ne.symm a1)]; exact S.f, by rw [aset_ne (Ne.symm a2)]; exact S.t, by rw [aset_ne (Ne.symm a3)]; exact S.o, by rw [aset_ne (Ne.symm a4)]; exact S.r, by rw [aset_ne (Ne.symm a5)]; exact S.n, S.nd, S.nf, S.nt⟩
theorem StAt.seto {A : Ads} {s : Sto} (S : StAt CS α A s) (l : List Row) : StAt CS (aset α A.o (.list (l.map olU))) A { s with old := l } := by
  obtain ⟨a1, a2, a3, a4, a5, b1, b2, b3, b4, c1, c2, c3, d1, d2, _⟩ := S.ne
  exact ⟨by rw [aset_ne a3]; exact S.p, by rw [aset_ne b2]; exact S.f, by rw [aset_ne c1]; exact S.t, aset_same, by rw [aset_ne (Ne.symm d1)]; exact S.r, by rw [aset_ne (Ne.symm d2)]; exact S.n, S.nd, S.nf, S.nt⟩
theorem Oth.set {A : Ads} {x : Addr} {d : D} (h : x ∈ A.all) : Oth A α (aset α x d) := fun a n => aset_ne fun z => n (z ▸ h)
theorem in_p {A : Ads} : A.p ∈ A.all := by unfold Ads.all; simp
theorem in_f {A : Ads} : A.f ∈ A.all := by unfold Ads.all; simp
theorem in_t {A : Ads} : A.t ∈ A.all := by unfold Ads.all; simp
theorem in_o {A : Ads} : A.o ∈ A.all := by unfold Ads.all; simp
theorem put_w {A : Ads} {w v : Int} : putD "writes" (.int v) (fld A w) = fld A v := rfl
/-- what a pure def leaves: the store's cells stay -/
theorem arst_oth {A : Ads} {s s' : Sto} {α' : AH} (S : StAt CS α A s) (S' : StAt CS α' A s') (O : Oth A α α') : arst α α' = α' := by
  funext a
  unfold arst
  by_cases h : a ∈ A.all
  · have : (α a).isSome = true := by
      unfold Ads.all at h
      simp only [List.mem_cons, List.not_mem_nil, or_false] at h
      rcases h with rfl | rfl | rfl | rfl | rfl | rfl
      · rw [S.p]; rfl
      · rw [S.f]; rfl
      · rw [S.t]; rfl
      · rw [S.o]; rfl
      · rw [S.r]; rfl
      · rw [S.n]; rfl
    rw [if_pos this]
  · rw [O a h]
    cases q : α a with
    | none => rfl
    | some c => rfl
theorem wnow_go {A : Ads} {s : Sto} (S : StAt CS α A s) (h : ∀ α', StAt CS α' A { s with wr := s.wr + 1 } → Oth A α α' → Q .none α') : f_Store_write_now CR CS CF CP gX [dref A.p] α Q E := by
  unfold f_Store_write_now m_Store_write_now
  refine w_runP rfl ?_
  have hp := S.p
  sizeOf_list_dec
  (repeat' decreasing_trivial_pre_omega)
  simp only [isNoneD]
  (repeat' decreasing_trivial_pre_omega)
  refine oq_of (z := .int s.wr) rfl ?_
  (repeat' decreasing_trivial_pre_omega)
  refine ⟨by show (7 : Nat) < 900; decide, ?_⟩
  (repeat' decreasing_trivial_pre_omega)
  rw [put_w, arst_oth S (S.setp _) (Oth.set in_p)]
  exact h _ (S.setp _) (Oth.set in_p)
theorem meth_st {A : Ads} {s : Sto} {ρ : En} {i np : Nat} {m : Str} {fm : Fm} {ds : List D} {ml : ML} (S : StAt CS α A s) (hm : lookF m (fld A s.wr) = none) (e : ρ[i]? = some (some (dref A.p))) (h : ml ρ α (fun as α2 => cal np (fun xs => fm (dref A.p :: xs)) as ds α2 Q E) E) : methK CS m np fm ds (Hz.kV i) ml ρ α Q E :=
  w_meth (w_kV e ⟨_, S.p, by
    show (decide (Int.ofNat CS = Int.ofNat CS) && (lookF m (fld A s.wr)).isNone) = true
    rw [hm, decide_eq_true rfl]
    rfl, h⟩)
theorem put_go {A : Ads} {s : Sto} {n : Str} {v : D} {c : List Int} (S : StAt CS α A s) (hl : s.old.length < 1000) (h : ∀ α', StAt CS α' A { s with old := s.old ++ [(n, v, c)], wr := s.wr + 1 } → Oth A α α' → Q .none α') : f_Store_attic_put CR CS CF CP gX [dref A.p, .str n, v, ctD c] α Q E := by
  unfold f_Store_attic_put m_Store_attic_put
  refine w_runP rfl ?_
  sizeOf_list_dec
  (repeat' array_get_dec)
  refine meth_st S rfl rfl ?_
  (repeat' array_get_dec)
  refine wnow_go S fun α1 S1 O1 => ?_
  have ho := S1.o
  (repeat' array_get_dec)
  (refine bar_of ?_; sizeOf_list_dec; (repeat' array_get_dec))
  refine oq_append (by rw [List.length_map]; show s.old.length < 100000; omega) ?_
  (repeat' array_get_dec)
  have e : s.old.map olU ++ [.tuple [.str n, v, ctD c]] = (s.old ++ [(n, v, c)]).map olU := by simp [olU]
  rw [e]
  have S2 := S1.seto (s.old ++ [(n, v, c)])
  have O2 := O1.trans (Oth.set (d := .list ((s.old ++ [(n, v, c)]).map olU)) in_o)
  rw [arst_oth S S2 O2]
  exact h _ S2 O2
theorem aset_none {a b : Addr} {c : D} (h : aset α a c b = none) : b ≠ a ∧ α b = none := by
  by_cases e : b = a
  · rw [e, aset_same] at h
    cases h
  · rw [aset_ne e] at h
    exact ⟨e, h⟩
theorem st_go {p : Addr} (hp : α p = some (oD CS [])) (q : ∀ α' A, A.p = p → StAt CS α' A ⟨[], [], [], [], [], 0⟩ → Oth A α α' → (∀ a ∈ A.all, a ≠ p → α a = none) → Q .none α') : f_Store_init CR CS CF CP gX [dref p, fzD [], .list []] α Q E := by
  unfold f_Store_init m_Store_init
  refine w_runF rfl ?_
  sizeOf_list_dec
  (repeat' array_get_dec)
  intro f hf
  have nf : p ≠ f := fun e => by rw [e, hf] at hp; cases hp
  (repeat' array_get_dec)
  refine ceo_of (by rw [aset_ne nf]; exact hp) ?_
  refine ⟨by show (0 : Nat) < 900; decide, ?_⟩
  (repeat' array_get_dec)
  (refine bar_of ?_; sizeOf_list_dec; (repeat' array_get_dec))
  refine w_keys (w_kV rfl ⟨[], rfl, rfl, ?_⟩)
  refine ⟨trivial, ?_⟩
  (refine bar_of ?_; sizeOf_list_dec; (repeat' array_get_dec))
  (repeat' array_get_dec)
  intro t ht
  have ⟨t1, t2⟩ := aset_none ht
  (repeat' array_get_dec)
  refine ceo_of (by rw [aset_ne (Ne.symm t1), aset_same]) ?_
  refine ⟨by show (1 : Nat) < 900; decide, ?_⟩
  (repeat' array_get_dec)
  try refine bar_of ?_
  sizeOf_list_dec
  (repeat' array_get_dec)
  intro o ho
  have ⟨o1, o2⟩ := aset_none ho
  (repeat' array_get_dec)
  refine ceo_of (by rw [aset_ne (Ne.symm o1), aset_same]) ?_
  refine ⟨by show (2 : Nat) < 900; decide, ?_⟩
  (repeat' array_get_dec)
  try refine bar_of ?_
  sizeOf_list_dec
  (repeat' array_get_dec)
  intro r hr
  have ⟨r1, r2⟩ := aset_none hr
  (repeat' array_get_dec)
  refine ceo_of (by rw [aset_ne (Ne.symm r1), aset_same]) ?_
  refine ⟨by show (3 : Nat) < 900; decide, ?_⟩
  (repeat' array_get_dec)
  try refine bar_of ?_
  sizeOf_list_dec
  (repeat' array_get_dec)
  intro n hn
  have ⟨n1, n2⟩ := aset_none hn
  (repeat' array_get_dec)
  refine ceo_of (by rw [aset_ne (Ne.symm n1), aset_same]) ?_
  refine ⟨by show (4 : Nat) < 900; decide, ?_⟩
  (repeat' array_get_dec)
  try refine bar_of ?_
  sizeOf_list_dec
  (repeat' array_get_dec)
  refine ⟨by show (5 : Nat) < 900; decide, ?_⟩
  (repeat' array_get_dec)
  try refine bar_of ?_
  sizeOf_list_dec
  (repeat' array_get_dec)
  refine ⟨by show (6 : Nat) < 900; decide, ?_⟩
  (repeat' array_get_dec)
  have ⟨t3, t4⟩ := aset_none t2
  have ⟨o3, o4⟩ := aset_none o2
  have ⟨_, o5⟩ := aset_none o4
  have ⟨o6, o7⟩ := aset_none o5
  have ⟨r3, r4⟩ := aset_none r2
  have ⟨_, r5⟩ := aset_none r4
  have ⟨r6, r7⟩ := aset_none r5
  have ⟨_, r8⟩ := aset_none r7
  have ⟨r9, r10⟩ := aset_none r8
  have ⟨n3, n4⟩ := aset_none n2
  have ⟨_, n5⟩ := aset_none n4
  have ⟨n6, n7⟩ := aset_none n5
  have ⟨_, n8⟩ := aset_none n7
  have ⟨n9, n10⟩ := aset_none n8
  have ⟨_, n11⟩ := aset_none n10
  have ⟨n12, n13⟩ := aset_none n11
  have d1 := Ne.symm nf
  have d2 := Ne.symm t1
  have d3 := Ne.symm t3
  have d4 := Ne.symm o1
  have d5 := Ne.symm o3
  have d6 := Ne.symm o6
  have d7 := Ne.symm r1
  have d8 := Ne.symm r3
  have d9 := Ne.symm r6
  have d10 := Ne.symm r9
  have d11 := Ne.symm n1
  have d12 := Ne.symm n3
  have d13 := Ne.symm n6
  have d14 := Ne.symm n9
  have d15 := Ne.symm n12
  refine q _ ⟨p, f, t, o, r, n⟩ rfl ⟨?_, ?_, ?_, ?_, ?_, ?_, ?_, List.nodup_nil, List.nodup_nil⟩ ?_ ?_
  · exact aset_same
  · simp only [aset_ne, aset_same, ne_eq, not_false_eq_true, *]
    rfl
  · simp only [aset_ne, aset_same, ne_eq, not_false_eq_true, *]
    rfl
  · simp only [aset_ne, aset_same, ne_eq, not_false_eq_true, *]
    rfl
  · simp only [aset_ne, aset_same, ne_eq, not_false_eq_true, *]
    rfl
  · simp only [aset_ne, aset_same, ne_eq, not_false_eq_true, *]
    rfl
  · unfold Ads.all
    simp only [List.nodup_cons, List.mem_cons, List.not_mem_nil, or_false, not_or, List.nodup_nil, and_true, not_false_eq_true]
    exact ⟨⟨nf, d2, d4, d7, d11⟩, ⟨d3, d6, d10, d15⟩, ⟨d5, d9, d14⟩, ⟨d8, d13⟩, d12⟩
  · intro a ha
    unfold Ads.all at ha
    simp only [List.mem_cons, List.not_mem_nil, or_false, not_or] at ha
    obtain ⟨a1, a2, a3, a4, a5, a6⟩ := ha
    simp only [aset_ne a1, aset_ne a6, aset_ne a5, aset_ne a4, aset_ne a3, aset_ne a2]
  · intro a ha hne
    unfold Ads.all at ha
    simp only [List.mem_cons, List.not_mem_nil, or_false] at ha
    rcases ha with rfl | rfl | rfl | rfl | rfl | rfl
    · exact absurd rfl hne
    · exact hf
    · exact t4
    · exact o7
    · exact r10
    · exact n13
def But (p : Addr) (α α' : AH) : Prop := ∀ a, a ≠ p → α' a = α a
theorem But.refl {p : Addr} : But p α α := fun _ _ => rfl
theorem But.trans {p : Addr} {α1 α2 : AH} (h : But p α α1) (k : But p α1 α2) : But p α α2 := fun a n => (k a n).trans (h a n)
theorem StAt.but {A : Ads} {s : Sto} {α' : AH} {p : Addr} (S : StAt CS α A s) (hp : p ∉ A.all) (h : But p α α') : StAt CS α' A s := by
  have e : ∀ a ∈ A.all, α' a = α a := fun a ha => h a fun z => hp (z ▸ ha)
  have i1 : A.r ∈ A.all := by unfold Ads.all; simp
  have i2 : A.n ∈ A.all := by unfold Ads.all; simp
  exact ⟨(e _ in_p).trans S.p, (e _ in_f).trans S.f, (e _ in_t).trans S.t, (e _ in_o).trans S.o, (e _ i1).trans S.r, (e _ i2).trans S.n, S.nd, S.nf, S.nt⟩
theorem StAt.isS {A : Ads} {s : Sto} (S : StAt CS α A s) : ∀ a ∈ A.all, (α a).isSome = true := fun a h => by
  unfold Ads.all at h
  simp only [List.mem_cons, List.not_mem_nil, or_false] at h
  rcases h with rfl | rfl | rfl | rfl | rfl | rfl
  · rw [S.p]; rfl
  · rw [S.f]; rfl
  · rw [S.t]; rfl
  · rw [S.o]; rfl
  · rw [S.r]; rfl
  · rw [S.n]; rfl
def leS (a b : Str) : Prop := a.cps.toList ≤ b.cps.toList
theorem rs_pw : ∀ (l : List Str) (p : Str), PyProof.Rows.risingS p l = true → (p :: l).Pairwise leS
  | [], p, _ => List.pairwise_singleton _ _
  | x :: r, p, h => by
    unfold PyProof.Rows.risingS at h
    rw [Bool.and_eq_true] at h
    have h2 := rs_pw r x h.2
    have h1 : leS p x := by
      have := h.1
      rw [PyProof.Rows.ltCps_eq] at this
      simp only [Bool.not_eq_eq_eq_not, Bool.not_true, decide_eq_false_iff_not] at this
      exact List.not_lt.mp this
    refine List.pairwise_cons.mpr ⟨fun y hy => ?_, h2⟩
    rcases List.mem_cons.mp hy with rfl | hy
    · exact h1
    · exact List.le_trans h1 (List.rel_of_pairwise_cons h2 hy)
theorem sS_eq {a b : List Str} (h : a.Perm b) (ha : PyProof.Rows.sortedS a = true) (hb : PyProof.Rows.sortedS b = true) : a = b := by
  have pw : ∀ l : List Str, PyProof.Rows.sortedS l = true → l.Pairwise leS := fun l h => by
    cases l with
    | nil => exact List.Pairwise.nil
    | cons x r => exact rs_pw r x h
  refine List.Perm.eq_of_pairwise (le := leS) (fun x y _ _ h1 h2 => ?_) (pw a ha) (pw b hb) h
  have := List.le_antisymm h1 h2
  cases x
  cases y
  congr 1
  exact Array.toList_inj.mp this
end K27
namespace K27
open PySem L2 Hz
abbrev Rw := Str × (Int × Int) × List Int
def ve (p : Int × Int) : D := .tuple [.tuple [.int p.1, .int p.2]]
def up (r : Rw) : Row := (r.1, ve r.2.1, r.2.2)
def rD (r : Rw) : D := .tuple [.str r.1, ve r.2.1, ctD r.2.2]
theorem up_map (l : List Rw) : (l.map up).map olU = l.map rD := by
  rw [List.map_map]
  rfl
def er (p : Rw → Bool) : List Rw → List Rw
  | [] => []
  | r :: l => if p r = true then l else r :: er p l
def erN (p : Rw → Bool) : Nat → List Rw → List Rw
  | 0, l => l
  | k + 1, l => erN p k (er p l)
theorem er_filter {p : Rw → Bool} : ∀ l : List Rw, (er p l).filter p = (l.filter p).tail
  | [] => rfl
  | r :: l => by
    unfold er
    by_cases h : p r = true
    · rw [if_pos h, List.filter_cons_of_pos h, List.tail_cons]
    · rw [if_neg h, List.filter_cons_of_neg h, List.filter_cons_of_neg h, er_filter l]
theorem er_length {p : Rw → Bool} : ∀ l : List Rw, (er p l).length ≤ l.length
  | [] => Nat.le_refl _
  | r :: l => by
    unfold er
    split
    · rw [List.length_cons]; omega
    · rw [List.length_cons, List.length_cons]
      have := er_length (p := p) l
      omega
theorem er_mem {p : Rw → Bool} {x : Rw} : ∀ {l : List Rw}, x ∈ er p l → x ∈ l
  | [], h => h
  | r :: l, h => by
    unfold er at h
    split at h
    · exact List.mem_cons_of_mem _ h
    · rcases List.mem_cons.mp h with rfl | h
      · exact List.mem_cons_self
      · exact List.mem_cons_of_mem _ (er_mem h)
theorem erN_mem {p : Rw → Bool} {x : Rw} : ∀ {k : Nat} {l : List Rw}, x ∈ erN p k l → x ∈ l
  | 0, l, h => h
  | k + 1, l, h => er_mem (erN_mem (k := k) h)
/-- the first hit -/
theorem er_at {p : Rw → Bool} : ∀ {l : List Rw} {x : Rw} {r : List Rw}, l.filter p = x :: r → ∃ i, ∃ h : i < l.length, l[i] = x ∧ p x = true ∧ (∀ m (hm : m < i), p (l[m]'(by omega)) = false) ∧ l.eraseIdx i = er p l
  | [], x, r, e => by cases e
  | y :: l, x, r, e => by
    by_cases h : p y = true
    · rw [List.filter_cons_of_pos h] at e
      obtain ⟨rfl, _⟩ := List.cons.inj e
      refine ⟨0, by simp, rfl, h, fun m hm => by omega, ?_⟩
      unfold er
      rw [if_pos h]
      rfl
    · rw [List.filter_cons_of_neg h] at e
      obtain ⟨i, hi, h1, h2, h3, h4⟩ := er_at e
      refine ⟨i + 1, by simpa using hi, by simpa using h1, h2, fun m hm => ?_, ?_⟩
      · cases m with
        | zero => simpa using h
        | succ m => simpa using h3 m (by omega)
      · rw [List.eraseIdx_cons_succ, h4]
        conv => rhs; unfold er
        rw [if_neg h]
theorem erN_all {p : Rw → Bool} : ∀ (l : List Rw), erN p (l.filter p).length l = l.filter fun r => !p r := by
  have key : ∀ (k : Nat) (l : List Rw), (l.filter p).length = k → erN p k l = l.filter fun r => !p r := by
    intro k
    induction k with
    | zero =>
      intro l h
      show l = _
      rw [List.filter_eq_self.mpr]
      intro a ha
      have : l.filter p = [] := List.eq_nil_of_length_eq_zero h
      have := List.filter_eq_nil_iff.mp this a ha
      simpa using this
    | succ k ih =>
      intro l h
      show erN p k (er p l) = _
      rw [ih _ (by rw [er_filter, List.length_tail, h]; rfl)]
      clear h ih
      induction l with
      | nil => rfl
      | cons y l ih =>
        unfold er
        by_cases hy : p y = true
        · rw [if_pos hy, List.filter_cons_of_neg (by simpa using hy)]
        · rw [if_neg hy, List.filter_cons_of_pos (by simpa using hy), List.filter_cons_of_pos (by simpa using hy), ih]
  exact fun l => key _ l rfl
def nm (n : Str) (r : Rw) : Bool := decide (r.1 = n)
def fil (n : Str) (l : List Rw) : List Rw := l.filter (nm n)
def size (l : List Rw) : Int := (l.map fun r => (r.2.2.length : Int)).sum
def dropT (t : Int) : List Rw → List Rw × List Rw
  | [] => ([], [])
  | r :: l => if t < size (r :: l) then (r :: (dropT t l).1, (dropT t l).2) else ([], r :: l)
theorem dropT_len {t : Int} : ∀ l : List Rw, (dropT t l).1.length + (dropT t l).2.length = l.length
  | [] => rfl
  | r :: l => by
    have := dropT_len (t := t) l
    unfold dropT
    split
    · simp only [List.length_cons]
      omega
    · simp
theorem dropT_mem {t : Int} {x : Rw} : ∀ {l : List Rw}, x ∈ (dropT t l).2 → x ∈ l
  | [], h => h
  | r :: l, h => by
    unfold dropT at h
    split at h
    · exact List.mem_cons_of_mem _ (dropT_mem h)
    · exact h
theorem dropT_mem1 {t : Int} {x : Rw} : ∀ {l : List Rw}, x ∈ (dropT t l).1 → x ∈ l
  | [], h => h
  | r :: l, h => by
    unfold dropT at h
    split at h
    · rcases List.mem_cons.mp h with rfl | h
      · exact List.mem_cons_self
      · exact List.mem_cons_of_mem _ (dropT_mem1 h)
    · cases h
def stp (each : Nat) (s : List Rw × List Rw) (n : Str) : List Rw × List Rw :=
  (s.1 ++ (fil n s.2).take ((fil n s.2).length - each), erN (nm n) ((fil n s.2).length - each) s.2)
theorem stp_skip {each : Nat} {s : List Rw × List Rw} {n : Str} (h : n ∉ s.2.map (·.1)) : stp each s n = s := by
  have e : fil n s.2 = [] := by
    unfold fil
    rw [List.filter_eq_nil_iff]
    intro a ha q
    exact h (List.mem_map.mpr ⟨a, ha, by simpa [nm] using q⟩)
  unfold stp
  rw [e]
  simp [erN]
theorem stp_sub {each : Nat} {s : List Rw × List Rw} {n : Str} {x : Rw} (h : x ∈ (stp each s n).2) : x ∈ s.2 := erN_mem h
theorem fold_skip {each : Nat} {q : Str → Bool} : ∀ (ys : List Str) (s : List Rw × List Rw), (∀ n ∈ ys, q n = false → n ∉ s.2.map (·.1)) → (ys.filter q).foldl (stp each) s = ys.foldl (stp each) s
  | [], s, _ => rfl
  | y :: ys, s, h => by
    have h2 : ∀ n ∈ ys, q n = false → n ∉ (stp each s y).2.map (·.1) := fun n hn hq hm => by
      obtain ⟨x, hx, e⟩ := List.mem_map.mp hm
      exact h n (List.mem_cons_of_mem _ hn) hq (List.mem_map.mpr ⟨x, stp_sub hx, e⟩)
    by_cases hq : q y = true
    · rw [List.filter_cons_of_pos hq, List.foldl_cons, List.foldl_cons, fold_skip ys _ h2]
    · have hq' : q y = false := by simpa using hq
      rw [List.filter_cons_of_neg hq, List.foldl_cons]
      rw [stp_skip (h y List.mem_cons_self hq')]
      exact fold_skip ys s fun n hn => h n (List.mem_cons_of_mem _ hn)
def tdy (each : Nat) (t : Int) (ys : List Str) (l : List Rw) : List Rw × List Rw :=
  ((ys.foldl (stp each) ([], l)).1 ++ (dropT t (ys.foldl (stp each) ([], l)).2).1, (dropT t (ys.foldl (stp each) ([], l)).2).2)
theorem fold_sub {each : Nat} {x : Rw} : ∀ {ys : List Str} {s : List Rw × List Rw}, x ∈ (ys.foldl (stp each) s).2 → x ∈ s.2
  | [], s, h => h
  | y :: ys, s, h => stp_sub (fold_sub (ys := ys) h)
theorem stp_sub1 {each : Nat} {s : List Rw × List Rw} {n : Str} {x : Rw} (h : x ∈ (stp each s n).1) : x ∈ s.1 ∨ x ∈ s.2 := by
  rcases List.mem_append.mp h with h | h
  · exact .inl h
  · exact .inr ((List.mem_filter.mp (List.mem_of_mem_take h)).1)
theorem fold_sub1 {each : Nat} {x : Rw} : ∀ {ys : List Str} {s : List Rw × List Rw}, x ∈ (ys.foldl (stp each) s).1 → x ∈ s.1 ∨ x ∈ s.2
  | [], s, h => .inl h
  | y :: ys, s, h => by
    rcases fold_sub1 (ys := ys) h with h | h
    · exact stp_sub1 h
    · exact .inr (stp_sub h)
theorem tdy_mem {each : Nat} {t : Int} {ys : List Str} {l : List Rw} {x : Rw} (h : x ∈ (tdy each t ys l).2) : x ∈ l := fold_sub (dropT_mem h)
theorem tdy_mem1 {each : Nat} {t : Int} {ys : List Str} {l : List Rw} {x : Rw} (h : x ∈ (tdy each t ys l).1) : x ∈ l := by
  rcases List.mem_append.mp h with h | h
  · rcases fold_sub1 h with h | h
    · cases h
    · exact h
  · exact fold_sub (dropT_mem1 h)
theorem erN_len {p : Rw → Bool} : ∀ (k : Nat) (l : List Rw), k ≤ (l.filter p).length → (erN p k l).length + k = l.length
  | 0, l, _ => rfl
  | k + 1, l, h => by
    show (erN p k (er p l)).length + (k + 1) = _
    cases hf : l.filter p with
    | nil => rw [hf] at h; simp at h
    | cons x r =>
      obtain ⟨i, hi, _, _, _, h4⟩ := er_at hf
      have hl : (er p l).length + 1 = l.length := by
        rw [← h4, List.length_eraseIdx, if_pos hi]
        omega
      have := erN_len k (er p l) (by rw [er_filter, List.length_tail]; omega)
      omega
theorem stp_len {each : Nat} {s : List Rw × List Rw} {n : Str} : (stp each s n).1.length + (stp each s n).2.length = s.1.length + s.2.length := by
  unfold stp
  have := erN_len (p := nm n) ((fil n s.2).length - each) s.2 (by unfold fil; omega)
  simp only [List.length_append, List.length_take]
  omega
theorem fold_len {each : Nat} : ∀ (ys : List Str) (s : List Rw × List Rw), (ys.foldl (stp each) s).1.length + (ys.foldl (stp each) s).2.length = s.1.length + s.2.length
  | [], s => rfl
  | y :: ys, s => (fold_len ys _).trans stp_len
theorem tdy_len {each : Nat} {t : Int} {ys : List Str} {l : List Rw} : (tdy each t ys l).1.length + (tdy each t ys l).2.length = l.length := by
  have h1 := fold_len (each := each) ys ([], l)
  have h2 := dropT_len (t := t) (ys.foldl (stp each) ([], l)).2
  unfold tdy
  simp only [List.length_append, List.length_nil] at *
  omega
theorem pw_s {l : List Str} (h : PyProof.Rows.sortedS l = true) : l.Pairwise leS := by
  cases l with
  | nil => exact List.Pairwise.nil
  | cons x r => exact rs_pw r x h
/-- the names that lie there, in order -/
theorem present {ys zs : List Str} {q : Str → Bool} (h1 : PyProof.Rows.sortedS ys = true) (n1 : ys.Nodup) (h2 : PyProof.Rows.sortedS zs = true) (n2 : zs.Nodup) (h : ∀ n, n ∈ zs ↔ n ∈ ys ∧ q n = true) : zs = ys.filter q := by
  refine List.Perm.eq_of_pairwise (le := leS) (fun x y _ _ h1 h2 => ?_) (pw_s h2) ((pw_s h1).filter _) ((List.perm_ext_iff_of_nodup n2 (n1.filter _)).mpr fun n => by rw [h, List.mem_filter])
  have := List.le_antisymm h1 h2
  cases x
  cases y
  congr 1
  exact Array.toList_inj.mp this
def okR (r : Rw) : Prop := PyData.strOk r.1 = true ∧ r.2.2.length ≤ 8
theorem rD_ok {r : Rw} (h : okR r) (k : Nat) : okD (k + 3) (rD r) = true := by
  show (okD (k + 2) (.str r.1) && (okD (k + 2) (ve r.2.1) && (okD (k + 2) (ctD r.2.2) && true))) = true
  rw [show okD (k + 2) (.str r.1) = true from h.1, show okD (k + 2) (ctD r.2.2) = true from okD_ints (k + 1) _]
  have : okD (k + 2) (ve r.2.1) = true := by
    show ((okD k (.int _) && (okD k (.int _) && true)) && true) = true
    have : ∀ i, okD k (.int i) = true := fun i => by cases k <;> rfl
    rw [this, this]
    rfl
  rw [this]
  rfl
theorem rDs_ok {l : List Rw} (h : ∀ r ∈ l, okR r) (k : Nat) : okD (k + 4) (.list (l.map rD)) = true := by
  show (l.map rD).all (okD (k + 3)) = true
  rw [List.all_eq_true]
  intro d hd
  obtain ⟨r, hr, rfl⟩ := List.mem_map.mp hd
  exact rD_ok (h r hr) k
theorem ve_eqv (a b : Int × Int) : PyData.eqv (ve a) (ve b) = decide (a = b) := by
  obtain ⟨a1, a2⟩ := a
  obtain ⟨b1, b2⟩ := b
  show ((((a1 == b1) && ((a2 == b2) && true)) && true)) = _
  by_cases h1 : a1 = b1 <;> by_cases h2 : a2 = b2 <;> simp [h1, h2]
theorem rD_eqv (a b : Rw) : PyData.eqv (rD a) (rD b) = decide (a = b) := by
  obtain ⟨a1, a2, a3⟩ := a
  obtain ⟨b1, b2, b3⟩ := b
  show ((a1 == b1) && (PyData.eqv (ve a2) (ve b2) && (PyData.eqvAll (a3.map .int) (b3.map .int) && true))) = _
  rw [ve_eqv, eqv_ints]
  by_cases h1 : a1 = b1 <;> by_cases h2 : a2 = b2 <;> by_cases h3 : a3 = b3 <;> simp [h1, h2, h3]
theorem any_mem {l : List Rw} {r : Rw} : ((l.map rD).any fun z => PyData.eqv z (rD r)) = decide (r ∈ l) := by
  rw [List.any_map]
  induction l with
  | nil => rfl
  | cons x l ih =>
    rw [List.any_cons, ih]
    show (PyData.eqv (rD x) (rD r) || _) = _
    rw [rD_eqv]
    by_cases h1 : x = r
    · simp [h1]
    · have h3 : ¬ r = x := fun e => h1 e.symm
      simp [h1, h3]
theorem oq_notIn_r {l : List Rw} {r : Rw} {R : D → Prop} (h1 : ∀ x ∈ l, okR x) (h2 : okR r) (h : R (.bool (!decide (r ∈ l)))) : oq (dNotIn (rD r) (.list (l.map rD))) R := by
  refine ⟨_, ?_, h⟩
  show ((if okD 60 (rD r) = true ∧ okD 60 (.list (l.map rD)) = true then some ((l.map rD).any fun z => PyData.eqv z (rD r)) else none).map _ : Option D) = _
  rw [if_pos ⟨rD_ok h2 57, rDs_ok h1 56⟩, any_mem]
  rfl
theorem find_first {l : List Rw} {p : D → Bool} {i : Nat} (hi : i < l.length) (h1 : p (rD l[i]) = true) (h2 : ∀ m (hm : m < i), p (rD (l[m]'(by omega))) = false) : (l.map rD).findIdx? p = some i := by
  rw [List.findIdx?_eq_some_iff_getElem]
  refine ⟨by simpa using hi, by simpa using h1, fun m hm => ?_⟩
  have := h2 m hm
  simpa using this
end K27
namespace K27
open PySem L2 Hz
local macro_rules | `(tactic| array_mem_dec) => `(tactic| (first | ((with_reducible apply fd_cons); exact trivial) | ((with_reducible apply fd_nil); exact trivial) | ((with_reducible apply oq_isiB (b := true)); exact rfl) | ((with_reducible apply oq_isiB (b := false)); exact rfl) | ((with_reducible apply w_xi); exact rfl; exact decide_eq_true rfl; exact if_pos rfl) | ((with_reducible apply w_xf); exact rfl; exact decide_eq_true rfl; exact rfl) | ((with_reducible apply w_frzS); exact rfl; (first | assumption | exact aset_same); (try simp only [List.set])) | ((with_reducible apply rg1_of); (first | omega | decide)) | ((with_reducible apply rg2_of); (first | omega | decide)) | ((with_reducible apply lok); exact rfl) | ((with_reducible refine it2_dec ?_ ?_) <;> intro)))
local macro_rules | `(tactic| array_mem_dec) => `(tactic| (first | ((with_reducible apply dc_c); (first | assumption | exact aset_same); (first | exact rfl | exact tD_real _ _)) | ((with_reducible apply cdi_of); (first | assumption | exact aset_same); (first | exact rfl | exact tD_real _ _)) | ((with_reducible apply dc_d); (first | exact rfl | exact tD_real _ _)) | ((with_reducible apply dc_f); (first | exact rfl | exact tD_real _ _)) | ((with_reducible apply lk_of); exact rfl) | ((with_reducible apply oq_setv2); (simp only [List.set, wipeA]; exact rfl)) | ((with_reducible apply cal_of); exact rfl; (try simp only [List.cons_append, List.nil_append, List.append_nil])) | ((with_reducible apply w_aug); exact rfl) | ((with_reducible apply cel_of); (first | assumption | exact aset_same)) | ((with_reducible apply ceo_of); (first | assumption | exact aset_same)) | ((with_reducible apply tlG_r); (first | assumption | exact aset_same)) | ((with_reducible apply fr_of); (first | assumption | exact aset_same))))
local macro_rules | `(tactic| array_mem_dec) => `(tactic| (with_reducible first | refine pr2_of ?_ | refine fl_f ?_ | refine fl_t ?_ | refine fl_o ?_ | refine fl_r ?_ | refine fl_n ?_ | refine fl_w ?_ | refine fl_m ?_ | refine ctD_list ?_ | refine ctD_tup ?_ | refine vw_ct ?_ | refine w_dget ?_ | refine w_dget1 ?_ | refine w_dget2 ?_ | refine w_din ?_ | refine w_dnotin ?_ | refine w_dpop1 ?_ | refine w_dpop2 ?_ | refine w_dput ?_ | refine w_daug ?_ | refine w_lenD ?_ | refine w_dnew ?_ | refine w_fz ?_ | refine w_listD ?_ | refine w_dictD ?_ | refine w_dictP ?_ | refine w_sortD ?_ | refine w_isiC ?_))
local macro_rules | `(tactic| array_mem_dec) => `(tactic| (with_reducible first | refine tb_b ?_ | refine ti_b ?_ | refine ts_b ?_ | refine we_nx ?_ | refine we_rt ?_ | refine we_ex ?_ | refine wn_nx ?_ | refine wn_rt ?_ | refine wn_bk ?_ | refine wn_ct ?_ | refine wn_ex ?_ | refine wl_nx ?_ | refine wl_rt ?_ | refine wl_bk ?_ | refine wl_ct ?_ | refine wl_ex ?_ | refine wx_nx ?_ | refine wx_rt ?_ | refine wx_bk ?_ | refine wx_ct ?_ | refine wx_ex ?_ | refine wh_nx ?_ | refine wh_rt ?_ | refine wh_bk ?_ | refine wh_ct ?_ | refine it2_t ?_ | refine it2_f ?_ | refine it2_not ?_ | refine tlG_l ?_ | refine ttG_t ?_))
local macro_rules | `(tactic| array_mem_dec) => `(tactic| ((with_reducible refine oq_id ?_); (first | (with_reducible first | refine vw_i ?_ | refine vw_s ?_ | refine vw_b ?_ | refine vw_n ?_ | refine vw_l ?_ | refine vw_t ?_ | refine vw_sc ?_ | refine vw_o ?_ | refine mv_nil ?_ | refine mv_cons ?_ | refine oq_tgNil ?_ | refine oq_tgCons ?_ | refine oq_add_i ?_ | refine oq_sub ?_ | refine oq_lt ?_ | refine oq_le ?_ | refine oq_gt ?_ | refine oq_ge ?_ | refine oq_eq_i ?_ | refine oq_ne_i ?_ | refine oq_eq_s ?_ | refine oq_ne_s ?_ | refine oq_eq_b ?_ | refine oq_ne_b ?_ | refine oq_is ?_ | refine oq_isNot ?_ | refine oq_in_s ?_ | refine oq_notIn_s ?_ | refine oq_len_l ?_ | refine oq_len_t ?_ | refine oq_int ?_ | refine oq_abs ?_ | refine oq_ord ?_ | refine oq_cut_l ?_ | refine oq_cut_t ?_ | refine oq_list_l ?_ | refine oq_list_t ?_ | refine oq_tuple_l ?_ | refine oq_tuple_t ?_ | refine oq_max2 ?_ | refine oq_min2 ?_ | refine oq_some ?_ | refine oq_len_sc ?_ | refine oq_eq_il ?_ | refine oq_ne_il ?_ | refine oq_eq_it ?_ | refine oq_ne_it ?_ | refine oq_lt_il ?_ | refine oq_lt_it ?_ | refine oq_iadd_i ?_ | refine oq_isT ?_ | refine oq_isNotT ?_) | (first | ((with_reducible apply vw_st); assumption) | ((with_reducible apply oq_tgTup); exact rfl) | ((with_reducible apply oq_ix_lk); exact rfl) | ((with_reducible apply oq_ix_tk); exact rfl) | ((with_reducible apply vw_r); (first | assumption | exact aset_same)) | ((with_reducible apply oq_ixN_k); exact rfl; (try simp only [List.set, Int.reduceToNat])) | ((with_reducible apply oq_mod); (first | omega | decide)) | ((with_reducible apply oq_div); (first | omega | decide)) | ((with_reducible apply oq_mul); (first | omega | decide)) | ((with_reducible apply oq_pow); (first | omega | decide)) | ((with_reducible apply oq_shl); (first | omega | decide)) | ((with_reducible apply oq_shr); (first | omega | decide))) | (first | ((with_reducible apply oq_add_s); (first | omega | decide)) | ((with_reducible apply oq_len_s); (first | omega | decide)) | ((with_reducible apply oq_cut_s); (first | omega | decide)) | ((with_reducible apply oq_append); (first | omega | decide)) | ((with_reducible apply oq_insert); (first | omega | decide)) | ((with_reducible apply oq_rep); (first | omega | decide)) | ((with_reducible apply oq_cat); (first | omega | decide))))))
local macro_rules | `(tactic| array_mem_dec) => `(tactic| (with_reducible first | refine w_list ?_ | refine w_tuple ?_ | refine w_str ?_ | refine w_range1 ?_ | refine w_range2 ?_ | refine w_range3 ?_ | refine w_next ?_ | refine w_break ?_ | refine w_cont ?_ | refine w_drop ?_ | refine w_ret ?_ | refine w_retN ?_ | refine w_if ?_ | refine w_asg ?_ | refine w_raise ?_ | refine w_fld ?_ | refine w_seta ?_ | refine w_auga ?_ | refine w_seti ?_ | refine w_mut ?_ | refine w_frz ?_ | refine w_new ?_ | refine w_ext ?_ | refine w_for ?_ | refine w_lc ?_ | refine w_tryA ?_ | refine w_try ?_ | refine w_par ?_))
local macro_rules | `(tactic| array_mem_dec) => `(tactic| (first | ((with_reducible apply w_kV); exact rfl) | (with_reducible first | refine w_kC ?_ | refine w_bop ?_ | refine w_tst ?_ | refine w_val ?_ | refine w_and ?_ | refine w_or ?_ | refine w_not ?_ | refine w_andV ?_ | refine w_orV ?_ | refine w_chain ?_ | refine w_ifK ?_ | refine w_nil ?_ | refine w_cons ?_ | refine w_tup ?_ | refine w_lst ?_ | refine w_call ?_ | refine w_neg ?_ | refine w_b1 ?_ | refine w_bn ?_ | refine w_isi ?_ | refine w_met ?_ | refine w_pnone ?_ | refine w_psome ?_ | refine w_cut ?_ | refine w_yes ?_)))
local macro_rules | `(tactic| array_get_dec) => `(tactic| (with_reducible refine w_seqB ?_))
local macro_rules | `(tactic| array_get_dec) => `(tactic| array_mem_dec)
local macro_rules | `(tactic| decreasing_trivial_pre_omega) => `(tactic| (with_reducible refine w_seq ?_))
local macro_rules | `(tactic| decreasing_trivial_pre_omega) => `(tactic| array_mem_dec)
local macro_rules | `(tactic| sizeOf_list_dec) => `(tactic| (try simp only [List.set, Int.reduceToNat, List.map_cons, List.map_nil, Nat.reduceSub, List.reduceReplicate, List.cons_append, List.nil_append, wipeA, aset_aset, List.getElem?_cons_zero, List.getElem?_cons_succ]))
variable {CR CS CF CP gX : Nat} {α : AH} {Q : QD} {E : QX}
def ST (CS : Nat) (α : AH) (A : Ads) (l : List Rw) (w : Int) : Prop := StAt CS α A ⟨[], [], l.map up, [], [], w⟩
theorem at_go {A : Ads} {l : List Rw} {w : Int} (S : ST CS α A l w) (hl : l.length ≤ 1000) (h : Q (.list (l.map rD)) α) : f_Store_attic CR CS CF CP gX [dref A.p] α Q E := by
  refine attic_go S (by show (l.map up).length ≤ 1000; rw [List.length_map]; exact hl) ?_
  show Q (.list ((l.map up).map olU)) α
  rw [up_map]
  exact h
theorem vw_ve {v : Int × Int} {R : D → Prop} (h : R (ve v)) : oq (vw α (ve v)) R := ⟨_, rfl, h⟩
theorem vw_rD {v : Rw} {R : D → Prop} (h : R (rD v)) : oq (vw α (rD v)) R := ⟨_, rfl, h⟩
theorem w_sortSet {ma : ME} {ρ : En} (h : ma ρ α (fun o α1 =>
  (∃ ks : List Str, vw α1 o = some (.list (ks.map .str)) ∧ ks.length < 64 ∧ ∀ ys : List Str, PyProof.Rows.sortedS ys = true → ys.Nodup → (∀ k, k ∈ ys ↔ k ∈ ks) → Q (.list (ys.map .str)) α1) ∨
  ∃ ks : List Int, vw α1 o = some (.list (ks.map .int)) ∧ ks.length < 64 ∧ ∀ ys : List Int, ys.Pairwise (· < ·) → (∀ k, k ∈ ys ↔ k ∈ ks) → Q (.list (ys.map .int)) α1) E) : sortSetK ma ρ α Q E := h
local macro_rules | `(tactic| array_mem_dec) => `(tactic| (with_reducible first | refine vw_ve ?_ | refine vw_rD ?_ | refine w_sortSet ?_))
def kD (r : Rw) : D := .tuple [ve r.2.1, ctD r.2.2]
theorem rd_set {x : Rw} {ρ : En} {i j k : Nat} {R : En → Prop} (h : R (((ρ.set i (some (.str x.1))).set j (some (ve x.2.1))).set k (some (ctD x.2.2)))) : oq (tgTup 3 (tgCons (setv i) (tgCons (setv j) (tgCons (setv k) tgNil))) (rD x) ρ) R :=
  oq_tgTup rfl (oq_tgCons (oq_setv (oq_tgCons (oq_setv (oq_tgCons (oq_setv (oq_tgNil h)))))))
theorem kept_go {A : Ads} {l : List Rw} {w : Int} {n : Str} (S : ST CS α A l w) (hl : l.length ≤ 1000) (h : Q (.list ((fil n l).map kD)) α) : f_kept CR CS CF CP gX [dref A.p, .str n] α Q E := by
  unfold f_kept m_kept
  refine w_runP rfl ?_
  sizeOf_list_dec
  (repeat' array_get_dec)
  refine meth_st S rfl rfl ?_
  (repeat' array_get_dec)
  refine at_go S hl ?_
  (repeat' array_get_dec)
  refine lc_fm l rD (nm n) kD rfl (by omega) trivial (fun x hx => ?_) ?_
  · refine rd_set ?_
    refine ⟨fun R hR => ?_, fun _ R hR => ?_⟩
    · sizeOf_list_dec
      (repeat' decreasing_trivial_pre_omega)
      exact hR
    · sizeOf_list_dec
      (repeat' decreasing_trivial_pre_omega)
      exact hR
  · (repeat' decreasing_trivial_pre_omega)
    rw [arst_self]
    exact h
theorem size_go {A : Ads} {l : List Rw} {w : Int} (S : ST CS α A l w) (hl : l.length ≤ 1000) (h : Q (.int (size l)) α) : f_size_of CR CS CF CP gX [dref A.p] α Q E := by
  unfold f_size_of m_size_of
  refine w_runP rfl ?_
  sizeOf_list_dec
  (repeat' array_get_dec)
  refine meth_st S rfl rfl ?_
  (repeat' array_get_dec)
  refine at_go S hl ?_
  (repeat' array_get_dec)
  refine lc_map l rD (fun r => .int (r.2.2.length : Int)) rfl (by omega) trivial (fun x hx => ?_) ?_
  · refine rd_set ?_
    intro R hR
    sizeOf_list_dec
    (repeat' decreasing_trivial_pre_omega)
    unfold ctD
    (repeat' decreasing_trivial_pre_omega)
    rw [List.length_map]
    exact hR
  · (repeat' array_get_dec)
    refine oq_sum (f := fun r : Rw => (r.2.2.length : Int)) ?_
    (repeat' array_get_dec)
    rw [arst_self]
    exact h
theorem first_go {A : Ads} {l : List Rw} {w : Int} {n : Str} {i : Nat} (S : ST CS α A l w) (hl : l.length ≤ 1000) (ok : ∀ x ∈ l, okR x) (hn : PyData.strOk n = true) (hi : i < l.length) (h1 : nm n l[i] = true) (h2 : ∀ m (hm : m < i), nm n (l[m]'(by omega)) = false) (h : Q (.int (i : Nat)) α) : f_first_of CR CS CF CP gX [dref A.p, .str n] α Q E := by
  unfold f_first_of m_first_of
  refine w_runP rfl ?_
  sizeOf_list_dec
  (repeat' array_get_dec)
  refine meth_st S rfl rfl ?_
  (repeat' array_get_dec)
  refine at_go S hl ?_
  (repeat' array_get_dec)
  refine lc_map l rD (fun r => .str r.1) rfl (by omega) trivial (fun x hx => ?_) ?_
  · refine rd_set ?_
    intro R hR
    sizeOf_list_dec
    (repeat' decreasing_trivial_pre_omega)
    exact hR
  · (repeat' array_get_dec)
    (refine bar_of ?_; sizeOf_list_dec; (repeat' array_get_dec))
    refine w_kV rfl ⟨_, rfl, w_kV rfl ⟨_, rfl, ?_⟩⟩
    (repeat' array_get_dec)
    have ok1 : okD 60 (.list (l.map fun r => PyData.str r.1)) = true := by
      show (l.map fun r => PyData.str r.1).all (okD 59) = true
      rw [List.all_eq_true]
      intro d hd
      obtain ⟨r, hr, rfl⟩ := List.mem_map.mp hd
      exact (ok r hr).1
    have e : (l.map fun r => PyData.str r.1).findIdx? (fun z => PyData.eqv z (.str n)) = some i := by
      rw [List.findIdx?_eq_some_iff_getElem]
      refine ⟨by simpa using hi, ?_, fun m hm => ?_⟩
      · simp only [List.getElem_map]
        show (l[i].1 == n) = true
        simpa [nm] using h1
      · simp only [List.getElem_map]
        have := h2 m hm
        show ¬ (((l[m]'(by omega)).1 == n) = true)
        simpa [nm] using this
    refine ⟨.int (i : Nat), ?_, ?_⟩
    · show (if okD 60 (.list (l.map fun r => PyData.str r.1)) = true ∧ PyData.strOk n = true then ((l.map fun r => PyData.str r.1).findIdx? fun z => PyData.eqv z (.str n)).map fun j => PyData.int (j : Nat) else none) = _
      rw [if_pos ⟨ok1, hn⟩, e]
      rfl
    · (repeat' array_get_dec)
      rw [arst_self]
      exact h
theorem oq_popAt {ds : List D} {i : Nat} {R : D × List D → Prop} (l : ds.length ≤ 100000) (hi : i < ds.length) (h : R (ds[i], ds.eraseIdx i)) : oq (muPopAt ds [.int (i : Nat)]) R := by
  refine ⟨_, ?_, h⟩
  show (if 0 ≤ ((i : Nat) : Int) ∧ ((i : Nat) : Int) < ds.length ∧ ds.length ≤ 100000 then _ else none) = _
  rw [if_pos ⟨by omega, by omega, l⟩, Int.toNat_natCast, List.getElem?_eq_getElem hi]
  rfl
theorem map_erase {β γ : Type} (f : β → γ) : ∀ (l : List β) (i : Nat), (l.map f).eraseIdx i = (l.eraseIdx i).map f
  | [], i => by simp
  | x :: l, 0 => by simp
  | x :: l, i + 1 => by simp [map_erase f l i]
theorem drop_go {A : Ads} {l : List Rw} {w : Int} {i : Nat} (S : ST CS α A l w) (hl : l.length ≤ 1000) (hi : i < l.length) (h : ∀ α' w', ST CS α' A (l.eraseIdx i) w' → Oth A α α' → Q .none α') : f_Store_attic_drop CR CS CF CP gX [dref A.p, .int (i : Nat)] α Q E := by
  unfold f_Store_attic_drop m_Store_attic_drop
  refine w_runP rfl ?_
  sizeOf_list_dec
  (repeat' array_get_dec)
  refine meth_st S rfl rfl ?_
  (repeat' array_get_dec)
  refine wnow_go S fun α1 S1 O1 => ?_
  have ho : α1 A.o = some (.list (l.map rD)) := by
    have := S1.o
    rw [← up_map]
    exact this
  (repeat' array_get_dec)
  (refine bar_of ?_; sizeOf_list_dec; (repeat' array_get_dec))
  refine oq_popAt (by rw [List.length_map]; omega) (by rw [List.length_map]; exact hi) ?_
  (repeat' array_get_dec)
  have S2 := S1.seto ((l.eraseIdx i).map up)
  rw [up_map, ← map_erase] at S2
  have O2 := O1.trans (Oth.set (d := .list ((l.map rD).eraseIdx i)) in_o)
  rw [arst_oth S S2 O2]
  exact h _ _ S2 O2
def ruD (CR : Nat) (e t : Int) : D := oD CR [(.str "each", .int e), (.str "total", .int t)]
theorem ru_e {e t : Int} {R : D → Prop} (h : R (.int e)) : oq (fldD CR "each" (ruD CR e t)) R := ⟨_, by
  show (if Int.ofNat CR = Int.ofNat CR then _ else _) = _
  rw [if_pos rfl]
  rfl, h⟩
theorem ru_t {e t : Int} {R : D → Prop} (h : R (.int t)) : oq (fldD CR "total" (ruD CR e t)) R := ⟨_, by
  show (if Int.ofNat CR = Int.ofNat CR then _ else _) = _
  rw [if_pos rfl]
  rfl, h⟩
theorem vw_ru {e t : Int} {R : D → Prop} (h : R (ruD CR e t)) : oq (vw α (ruD CR e t)) R := ⟨_, rfl, h⟩
local macro_rules | `(tactic| array_mem_dec) => `(tactic| (with_reducible first | refine ru_e ?_ | refine ru_t ?_ | refine vw_ru ?_))
theorem Oth.aset {A : Ads} {g : Addr} {c d : D} {α' : AH} (hg : g ∉ A.all) (h : Oth A (Hz.aset α g c) α') : Oth A (Hz.aset α g d) (Hz.aset α' g d) := fun a ha => by
  by_cases e : a = g
  · rw [e, aset_same, aset_same]
  · rw [aset_ne e, aset_ne e, h a ha, aset_ne e]
theorem ST.put {A : Ads} {l : List Rw} {w : Int} {g : Addr} {d : D} (S : ST CS α A l w) (hg : g ∉ A.all) : ST CS (Hz.aset α g d) A l w := StAt.but S hg fun a ha => aset_ne ha
/-- the store stands at A with the rows l, the def's own list g holds gone; nothing else has changed -/
structure Ty (CS : Nat) (α : AH) (A : Ads) (g : Addr) (l gone : List Rw) (α' : AH) : Prop where
  st : ∃ w, ST CS α' A l w
  gn : α' g = some (.list (gone.map rD))
  ot : ∀ a, a ∉ A.all → a ≠ g → α' a = α a
theorem fil_len (n : Str) (l : List Rw) : (fil n l).length ≤ l.length := List.length_filter_le _ _
theorem Ty.more {A : Ads} {g : Addr} {l gone : List Rw} {α' : AH} (T : Ty CS α A g l gone α') (hg : g ∉ A.all) (r : Rw) : Ty CS α A g l (gone ++ [r]) (Hz.aset α' g (.list (gone.map rD ++ [rD r]))) := by
  obtain ⟨⟨w, S⟩, h2, h3⟩ := T
  refine ⟨⟨w, S.put hg⟩, by rw [aset_same, List.map_append]; rfl, fun a h1 h2 => by rw [aset_ne h2, h3 a h1 h2]⟩
theorem Ty.drop {A : Ads} {g : Addr} {l l' gone : List Rw} {α' α2 : AH} {w' : Int} (T : Ty CS α A g l gone α') (hg : g ∉ A.all) (S : ST CS α2 A l' w') (O : Oth A α' α2) : Ty CS α A g l' gone α2 :=
  ⟨⟨w', S⟩, (O g hg).trans T.gn, fun a h1 h2 => (O a h1).trans (T.ot a h1 h2)⟩
theorem tidy_go {A : Ads} {l : List Rw} {w e t : Int} {ys : List Str} (S : ST CS α A l w) (hl : l.length < 64) (ok : ∀ x ∈ l, okR x) (he : 0 ≤ e) (ht : 0 ≤ t)
    (h1 : PyProof.Rows.sortedS ys = true) (n1 : ys.Nodup) (hin : ∀ x ∈ l, x.1 ∈ ys)
    (h : ∀ α' w', ST CS α' A (tdy e.toNat t ys l).2 w' → Oth A α α' → Q (.list ((tdy e.toNat t ys l).1.map rD)) α') : f_tidy CR CS CF CP gX [dref A.p, ruD CR e t] α Q E := by
  unfold f_tidy m_tidy
  refine w_runP rfl ?_
  sizeOf_list_dec
  (repeat' array_get_dec)
  intro g hg
  have hgA : g ∉ A.all := fun hm => by
    have := StAt.isS S g hm
    rw [hg] at this
    cases this
  (repeat' array_get_dec)
  refine bar_of ?_
  sizeOf_list_dec
  have S0 : ST CS (Hz.aset α g (.list [])) A l w := S.put hgA
  refine w_seqI (fun ρ α' => ∃ x y, ρ = [some (dref A.p), some (ruD CR e t), some (dref g), x, y, none] ∧ Ty CS α A g (ys.foldl (stp e.toNat) ([], l)).2 (ys.foldl (stp e.toNat) ([], l)).1 α') ?_ fun X hX => ?_
  · rintro ρ α' ⟨x, y, rfl, T⟩
    have hlen := fold_len (each := e.toNat) ys ([], l)
    simp only [List.length_nil] at hlen
    generalize hs : ys.foldl (stp e.toNat) ([], l) = s at *
    refine w_seqI (fun ρ α' => ∃ x y, ρ = [some (dref A.p), some (ruD CR e t), some (dref g), x, y, none] ∧ Ty CS α A g (tdy e.toNat t ys l).2 (tdy e.toNat t ys l).1 α') ?_ fun X hX => ?_
    · rintro ρ α' ⟨x, y, rfl, T⟩
      (repeat' array_get_dec)
      refine fr_of T.gn ?_
      (repeat' array_get_dec)
      obtain ⟨⟨w', S'⟩, g2, g3⟩ := T
      have O : Oth A α (adel α' g) := fun a ha => by
        by_cases z : a = g
        · rw [z, adel_same, hg]
        · rw [adel_ne z, g3 a ha z]
      have S2 : ST CS (adel α' g) A (tdy e.toNat t ys l).2 w' := StAt.but S' hgA fun a ha => adel_ne ha
      rw [arst_oth S S2 O]
      exact h _ _ S2 O
    · refine w_while (fun m ρ α' => ∃ l' gone x y, ρ = [some (dref A.p), some (ruD CR e t), some (dref g), x, y, none] ∧ m = l'.length ∧ l'.length < 64 ∧ Ty CS α A g l' gone α' ∧ gone ++ (dropT t l').1 = (tdy e.toNat t ys l).1 ∧ (dropT t l').2 = (tdy e.toNat t ys l).2 ∧ gone.length + l'.length < 64) s.2.length ⟨s.2, s.1, x, y, rfl, rfl, by omega, T, by unfold tdy; rw [hs], by unfold tdy; rw [hs], by omega⟩ ?_
      rintro m ρ α' ⟨l', gone, x, y, rfl, hm, hl', T, e1, e2, e3⟩ Y hY
      obtain ⟨w', S'⟩ := T.st
      (repeat' array_get_dec)
      refine size_go S' (by omega) ?_
      (repeat' array_get_dec)
      · rename_i hlt
        cases l' with
        | nil => exfalso; unfold size at hlt; simp at hlt; omega
        | cons r l2 =>
          unfold dropT at e1 e2
          rw [if_pos hlt] at e1 e2
          refine cel_of T.gn ?_
          refine meth_st S' rfl rfl ?_
          (repeat' array_get_dec)
          refine at_go S' (by omega) ?_
          (repeat' array_get_dec)
          refine oq_ix_0 ?_
          (repeat' array_get_dec)
          refine cel_of T.gn ?_
          refine oq_append (by rw [List.length_map]; simp only [List.length_cons] at e3; omega) ?_
          (repeat' array_get_dec)
          (refine bar_of ?_; sizeOf_list_dec; (repeat' array_get_dec))
          have T2 := T.more hgA r
          obtain ⟨w2, S2⟩ := T2.st
          refine meth_st S2 rfl rfl ?_
          (repeat' array_get_dec)
          refine drop_go (i := 0) S2 (by omega) (by simp) fun α3 w3 S3 O3 => ?_
          (repeat' array_get_dec)
          refine hY l2.length _ _ (by simp only [List.length_cons] at hm; omega) ⟨l2, gone ++ [r], x, y, rfl, rfl, by simp only [List.length_cons] at hl'; omega, T2.drop hgA S3 O3, by simpa using e1, e2, by simp only [List.length_append, List.length_cons, List.length_nil] at *; omega⟩
      · rename_i hlt
        refine hX _ _ ⟨x, y, rfl, ?_⟩
        have hd : dropT t l' = ([], l') := by
          cases l' with
          | nil => rfl
          | cons r l2 => unfold dropT; rw [if_neg hlt]
        rw [hd] at e1 e2
        rw [List.append_nil] at e1
        rw [← e1, ← e2]
        exact T
  · (repeat' array_get_dec)
    refine meth_st S0 rfl rfl ?_
    (repeat' array_get_dec)
    refine at_go S0 (by omega) ?_
    (repeat' array_get_dec)
    refine lc_map l rD (fun r => .str r.1) rfl (by omega) trivial (fun x hx => ?_) ?_
    · refine ⟨_, rfl, ?_⟩
      intro R hR
      sizeOf_list_dec
      (repeat' decreasing_trivial_pre_omega)
      unfold rD
      (repeat' decreasing_trivial_pre_omega)
      exact hR
    · (repeat' array_get_dec)
      refine .inl ⟨l.map (·.1), by rw [List.map_map]; rfl, by rw [List.length_map]; exact hl, fun zs g1 g2 g3 => ?_⟩
      have hz : zs = ys.filter fun n => decide (n ∈ l.map (·.1)) := present h1 n1 g1 g2 fun n => by
        rw [g3, decide_eq_true_eq]
        refine ⟨fun hm => ⟨?_, hm⟩, fun hm => hm.2⟩
        obtain ⟨x, hx, rfl⟩ := List.mem_map.mp hm
        exact hin x hx
      have hf : zs.foldl (stp e.toNat) ([], l) = ys.foldl (stp e.toNat) ([], l) := by
        rw [hz]
        exact fold_skip ys ([], l) fun n _ hq => by simpa using hq
      rw [← hf] at hX
      have hys : ∀ n ∈ zs, PyData.strOk n = true := fun n hn => by
        obtain ⟨x, hx, rfl⟩ := List.mem_map.mp ((g3 n).mp hn)
        exact (ok x hx).1
      clear hz hf g1 g2 g3
      (repeat' array_get_dec)
      refine for_map (xs := zs) (u := .str) rfl (fun k ρ α' => ∃ x y, ρ = [some (dref A.p), some (ruD CR e t), some (dref g), x, y, none] ∧ Ty CS α A g ((zs.take k).foldl (stp e.toNat) ([], l)).2 ((zs.take k).foldl (stp e.toNat) ([], l)).1 α') ⟨none, none, rfl, ⟨⟨w, S0⟩, aset_same, fun a _ ha => aset_ne ha⟩⟩ ?_ ?_
      · rintro ρ α' ⟨x, y, rfl, T⟩
        rw [List.take_length] at T
        exact hX _ _ ⟨x, y, rfl, T⟩
      · rintro k hk ρ α' ⟨x, y, rfl, T⟩ Y hY
        have hl1 := fold_len (each := e.toNat) (zs.take k) ([], l)
        simp only [List.length_nil] at hl1
        have hok1 : ∀ r ∈ ((zs.take k).foldl (stp e.toNat) ([], l)).2, okR r := fun r hr => ok r (fold_sub hr)
        have hnext : (zs.take (k + 1)).foldl (stp e.toNat) ([], l) = stp e.toNat ((zs.take k).foldl (stp e.toNat) ([], l)) zs[k] := by
          rw [← List.take_append_getElem hk, List.foldl_append]
          rfl
        rw [hnext] at hY
        have hn := hys zs[k] (List.getElem_mem hk)
        generalize zs[k] = n at *
        generalize (zs.take k).foldl (stp e.toNat) ([], l) = s at *
        sizeOf_list_dec
        (repeat' array_get_dec)
        refine w_while (fun m ρ α' => ∃ l' gone y, ρ = [some (dref A.p), some (ruD CR e t), some (dref g), some (.str n), y, none] ∧ m = l'.length ∧ l'.length + gone.length < 64 ∧ (∀ r ∈ l', okR r) ∧ Ty CS α A g l' gone α' ∧ gone ++ (fil n l').take ((fil n l').length - e.toNat) = (stp e.toNat s n).1 ∧ erN (nm n) ((fil n l').length - e.toNat) l' = (stp e.toNat s n).2) s.2.length ⟨s.2, s.1, y, rfl, rfl, by omega, hok1, T, rfl, rfl⟩ ?_
        rintro m ρ α' ⟨l', gone, y, rfl, hm, hl', hok', T, e1, e2⟩ Z hZ
        obtain ⟨w', S'⟩ := T.st
        (repeat' array_get_dec)
        refine kept_go S' (by omega) ?_
        (repeat' array_get_dec)
        all_goals rw [List.length_map] at *
        · rename_i hlt
          have hk1 : (fil n l').length - e.toNat = ((fil n l').tail.length - e.toNat) + 1 := by rw [List.length_tail]; omega
          cases hf : fil n l' with
          | nil => rw [hf] at hlt; simp at hlt; omega
          | cons r rest =>
            obtain ⟨i, hi, g1, g2, g3, g4⟩ := er_at (p := nm n) hf
            have hi2 : (er (nm n) l').length + 1 = l'.length := by
              rw [← g4, List.length_eraseIdx, if_pos hi]
              omega
            refine first_go S' (by omega) hok' hn hi (by rw [g1]; exact g2) g3 ?_
            (repeat' array_get_dec)
            (refine bar_of ?_; sizeOf_list_dec; (repeat' array_get_dec))
            refine cel_of T.gn ?_
            refine meth_st S' rfl rfl ?_
            (repeat' array_get_dec)
            refine at_go S' (by omega) ?_
            (repeat' array_get_dec)
            refine oq_ix_mf (xs := l') (u := rD) rfl hi ?_
            rw [g1]
            (repeat' array_get_dec)
            refine cel_of T.gn ?_
            refine oq_append (by rw [List.length_map]; omega) ?_
            (repeat' array_get_dec)
            (refine bar_of ?_; sizeOf_list_dec; (repeat' array_get_dec))
            have T2 := T.more hgA r
            obtain ⟨w2, S2⟩ := T2.st
            refine meth_st S2 rfl rfl ?_
            (repeat' array_get_dec)
            refine drop_go (i := i) S2 (by omega) hi fun α3 w3 S3 O3 => ?_
            rw [g4] at S3
            (repeat' array_get_dec)
            rw [hk1, hf] at e1 e2
            refine hZ (er (nm n) l').length _ _ (by omega) ⟨er (nm n) l', gone ++ [r], _, rfl, rfl, by simp only [List.length_append, List.length_cons, List.length_nil]; omega, fun x hx => hok' x (er_mem hx), T2.drop hgA S3 O3, ?_, ?_⟩
            · rw [← e1]
              unfold fil at hf ⊢
              rw [er_filter, hf]
              simp
            · rw [← e2]
              unfold fil at hf ⊢
              rw [er_filter, hf]
              rfl
        · rename_i hlt
          refine hY _ _ ⟨_, _, rfl, ?_⟩
          have h0 : (fil n l').length - e.toNat = 0 := by omega
          rw [h0] at e1 e2
          simp only [List.take_zero, List.append_nil, erN] at e1 e2
          rw [← e1, ← e2]
          exact T
end K27
namespace K27
open PySem L2 Hz
local macro_rules | `(tactic| array_mem_dec) => `(tactic| (first | ((with_reducible apply fd_cons); exact trivial) | ((with_reducible apply fd_nil); exact trivial) | ((with_reducible apply oq_isiB (b := true)); exact rfl) | ((with_reducible apply oq_isiB (b := false)); exact rfl) | ((with_reducible apply w_xi); exact rfl; exact decide_eq_true rfl; exact if_pos rfl) | ((with_reducible apply w_xf); exact rfl; exact decide_eq_true rfl; exact rfl) | ((with_reducible apply w_frzS); exact rfl; (first | assumption | exact aset_same); (try simp only [List.set])) | ((with_reducible apply rg1_of); (first | omega | decide)) | ((with_reducible apply rg2_of); (first | omega | decide)) | ((with_reducible apply lok); exact rfl) | ((with_reducible refine it2_dec ?_ ?_) <;> intro)))
local macro_rules | `(tactic| array_mem_dec) => `(tactic| (first | ((with_reducible apply dc_c); (first | assumption | exact aset_same); (first | exact rfl | exact tD_real _ _)) | ((with_reducible apply cdi_of); (first | assumption | exact aset_same); (first | exact rfl | exact tD_real _ _)) | ((with_reducible apply dc_d); (first | exact rfl | exact tD_real _ _)) | ((with_reducible apply dc_f); (first | exact rfl | exact tD_real _ _)) | ((with_reducible apply lk_of); exact rfl) | ((with_reducible apply oq_setv2); (simp only [List.set, wipeA]; exact rfl)) | ((with_reducible apply cal_of); exact rfl; (try simp only [List.cons_append, List.nil_append, List.append_nil])) | ((with_reducible apply w_aug); exact rfl) | ((with_reducible apply cel_of); (first | assumption | exact aset_same)) | ((with_reducible apply ceo_of); (first | assumption | exact aset_same)) | ((with_reducible apply tlG_r); (first | assumption | exact aset_same)) | ((with_reducible apply fr_of); (first | assumption | exact aset_same))))
local macro_rules | `(tactic| array_mem_dec) => `(tactic| (with_reducible first | refine w_dictD ?_ | refine w_dictP ?_ | refine w_sortD ?_ | refine w_isiC ?_))
local macro_rules | `(tactic| array_mem_dec) => `(tactic| (with_reducible first | refine pr2_of ?_ | refine fl_f ?_ | refine fl_t ?_ | refine fl_o ?_ | refine fl_r ?_ | refine fl_n ?_ | refine fl_w ?_ | refine fl_m ?_ | refine ctD_list ?_ | refine ctD_tup ?_ | refine vw_ct ?_ | refine ru_e ?_ | refine ru_t ?_ | refine vw_ru ?_ | refine vw_ve ?_ | refine vw_rD ?_ | refine w_sortSet ?_ | refine w_dget ?_ | refine w_dget1 ?_ | refine w_dget2 ?_ | refine w_din ?_ | refine w_dnotin ?_ | refine w_dpop1 ?_ | refine w_dpop2 ?_ | refine w_dput ?_ | refine w_daug ?_ | refine w_lenD ?_ | refine w_dnew ?_ | refine w_fz ?_ | refine w_listD ?_))
local macro_rules | `(tactic| array_mem_dec) => `(tactic| (with_reducible first | refine tb_b ?_ | refine ti_b ?_ | refine ts_b ?_ | refine we_nx ?_ | refine we_rt ?_ | refine we_ex ?_ | refine wn_nx ?_ | refine wn_rt ?_ | refine wn_bk ?_ | refine wn_ct ?_ | refine wn_ex ?_ | refine wl_nx ?_ | refine wl_rt ?_ | refine wl_bk ?_ | refine wl_ct ?_ | refine wl_ex ?_ | refine wx_nx ?_ | refine wx_rt ?_ | refine wx_bk ?_ | refine wx_ct ?_ | refine wx_ex ?_ | refine wh_nx ?_ | refine wh_rt ?_ | refine wh_bk ?_ | refine wh_ct ?_ | refine it2_t ?_ | refine it2_f ?_ | refine it2_not ?_ | refine tlG_l ?_ | refine ttG_t ?_))
local macro_rules | `(tactic| array_mem_dec) => `(tactic| ((with_reducible refine oq_id ?_); (first | (with_reducible first | refine vw_i ?_ | refine vw_s ?_ | refine vw_b ?_ | refine vw_n ?_ | refine vw_l ?_ | refine vw_t ?_ | refine vw_sc ?_ | refine vw_o ?_ | refine mv_nil ?_ | refine mv_cons ?_ | refine oq_tgNil ?_ | refine oq_tgCons ?_ | refine oq_add_i ?_ | refine oq_sub ?_ | refine oq_lt ?_ | refine oq_le ?_ | refine oq_gt ?_ | refine oq_ge ?_ | refine oq_eq_i ?_ | refine oq_ne_i ?_ | refine oq_eq_s ?_ | refine oq_ne_s ?_ | refine oq_eq_b ?_ | refine oq_ne_b ?_ | refine oq_is ?_ | refine oq_isNot ?_ | refine oq_in_s ?_ | refine oq_notIn_s ?_ | refine oq_len_l ?_ | refine oq_len_t ?_ | refine oq_int ?_ | refine oq_abs ?_ | refine oq_ord ?_ | refine oq_cut_l ?_ | refine oq_cut_t ?_ | refine oq_list_l ?_ | refine oq_list_t ?_ | refine oq_tuple_l ?_ | refine oq_tuple_t ?_ | refine oq_max2 ?_ | refine oq_min2 ?_ | refine oq_some ?_ | refine oq_len_sc ?_ | refine oq_eq_il ?_ | refine oq_ne_il ?_ | refine oq_eq_it ?_ | refine oq_ne_it ?_ | refine oq_lt_il ?_ | refine oq_lt_it ?_ | refine oq_iadd_i ?_ | refine oq_isT ?_ | refine oq_isNotT ?_) | (first | ((with_reducible apply vw_st); assumption) | ((with_reducible apply oq_tgTup); exact rfl) | ((with_reducible apply oq_ix_lk); exact rfl) | ((with_reducible apply oq_ix_tk); exact rfl) | ((with_reducible apply vw_r); (first | assumption | exact aset_same)) | ((with_reducible apply oq_ixN_k); exact rfl; (try simp only [List.set, Int.reduceToNat])) | ((with_reducible apply oq_mod); (first | omega | decide)) | ((with_reducible apply oq_div); (first | omega | decide)) | ((with_reducible apply oq_mul); (first | omega | decide)) | ((with_reducible apply oq_pow); (first | omega | decide)) | ((with_reducible apply oq_shl); (first | omega | decide)) | ((with_reducible apply oq_shr); (first | omega | decide))) | (first | ((with_reducible apply oq_add_s); (first | omega | decide)) | ((with_reducible apply oq_len_s); (first | omega | decide)) | ((with_reducible apply oq_cut_s); (first | omega | decide)) | ((with_reducible apply oq_append); (first | omega | decide)) | ((with_reducible apply oq_insert); (first | omega | decide)) | ((with_reducible apply oq_rep); (first | omega | decide)) | ((with_reducible apply oq_cat); (first | omega | decide))))))
local macro_rules | `(tactic| array_mem_dec) => `(tactic| (with_reducible first | refine w_list ?_ | refine w_tuple ?_ | refine w_str ?_ | refine w_range1 ?_ | refine w_range2 ?_ | refine w_range3 ?_ | refine w_next ?_ | refine w_break ?_ | refine w_cont ?_ | refine w_drop ?_ | refine w_ret ?_ | refine w_retN ?_ | refine w_if ?_ | refine w_asg ?_ | refine w_raise ?_ | refine w_fld ?_ | refine w_seta ?_ | refine w_auga ?_ | refine w_seti ?_ | refine w_mut ?_ | refine w_frz ?_ | refine w_new ?_ | refine w_ext ?_ | refine w_for ?_ | refine w_lc ?_ | refine w_tryA ?_ | refine w_try ?_ | refine w_par ?_))
local macro_rules | `(tactic| array_mem_dec) => `(tactic| (first | ((with_reducible apply w_kV); exact rfl) | (with_reducible first | refine w_kC ?_ | refine w_bop ?_ | refine w_tst ?_ | refine w_val ?_ | refine w_and ?_ | refine w_or ?_ | refine w_not ?_ | refine w_andV ?_ | refine w_orV ?_ | refine w_chain ?_ | refine w_ifK ?_ | refine w_nil ?_ | refine w_cons ?_ | refine w_tup ?_ | refine w_lst ?_ | refine w_call ?_ | refine w_neg ?_ | refine w_b1 ?_ | refine w_bn ?_ | refine w_isi ?_ | refine w_met ?_ | refine w_pnone ?_ | refine w_psome ?_ | refine w_cut ?_ | refine w_yes ?_)))
local macro_rules | `(tactic| array_get_dec) => `(tactic| (with_reducible refine w_seqB ?_))
local macro_rules | `(tactic| array_get_dec) => `(tactic| array_mem_dec)
local macro_rules | `(tactic| decreasing_trivial_pre_omega) => `(tactic| (with_reducible refine w_seq ?_))
local macro_rules | `(tactic| decreasing_trivial_pre_omega) => `(tactic| array_mem_dec)
local macro_rules | `(tactic| sizeOf_list_dec) => `(tactic| (try simp only [List.set, Int.reduceToNat, List.map_cons, List.map_nil, Nat.reduceSub, List.reduceReplicate, List.cons_append, List.nil_append, wipeA, aset_aset, List.getElem?_cons_zero, List.getElem?_cons_succ]))
variable {CR CS CF CP gX : Nat} {α : AH} {Q : QD} {E : QX}
def addR (r : Rw) (l : List Rw) : List Rw := if r ∈ l then l else l ++ [r]
theorem addR_mem {r x : Rw} {l : List Rw} (h : x ∈ addR r l) : x ∈ l ∨ x = r := by
  unfold addR at h
  split at h
  · exact .inl h
  · rcases List.mem_append.mp h with h | h
    · exact .inl h
    · exact .inr (List.mem_singleton.mp h)
theorem addR_len {r : Rw} {l : List Rw} : (addR r l).length ≤ l.length + 1 := by
  unfold addR
  split
  · omega
  · simp
theorem keep_go {A : Ads} {l : List Rw} {w e t : Int} {ys : List Str} {r : Rw} (S : ST CS α A l w) (hl : l.length < 62) (ok : ∀ x ∈ l, okR x) (okr : okR r) (he : 0 ≤ e) (ht : 0 ≤ t)
    (h1 : PyProof.Rows.sortedS ys = true) (n1 : ys.Nodup) (hin : ∀ x ∈ l, x.1 ∈ ys) (hr : r.1 ∈ ys)
    (h : ∀ α' w', ST CS α' A (tdy e.toNat t ys (addR r l)).2 w' → Oth A α α' → Q (.list ((tdy e.toNat t ys (addR r l)).1.map rD)) α') : f_keep CR CS CF CP gX [dref A.p, ruD CR e t, .str r.1, ve r.2.1, ctD r.2.2] α Q E := by
  unfold f_keep m_keep
  refine w_runP rfl ?_
  sizeOf_list_dec
  refine w_seqI (fun ρ α' => ρ = [some (dref A.p), some (ruD CR e t), some (.str r.1), some (ve r.2.1), some (ctD r.2.2)] ∧ (∃ w', ST CS α' A (addR r l) w') ∧ Oth A α α') ?_ fun X hX => ?_
  · rintro ρ α' ⟨rfl, ⟨w', S'⟩, O'⟩
    (repeat' array_get_dec)
    refine tidy_go S' (by have := addR_len (r := r) (l := l); omega) (fun x hx => ?_) he ht h1 n1 (fun x hx => ?_) fun α2 w2 S2 O2 => ?_
    · rcases addR_mem hx with h | rfl
      · exact ok x h
      · exact okr
    · rcases addR_mem hx with h | rfl
      · exact hin x h
      · exact hr
    · (repeat' array_get_dec)
      rw [arst_oth S S2 (O'.trans O2)]
      exact h _ _ S2 (O'.trans O2)
  · (repeat' array_get_dec)
    refine meth_st S rfl rfl ?_
    (repeat' array_get_dec)
    refine at_go S (by omega) ?_
    (repeat' array_get_dec)
    refine oq_notIn_r (r := r) ok okr ?_
    (repeat' array_get_dec)
    · rename_i hm
      have hm' : r ∈ l := by simpa using hm
      refine hX _ _ ⟨rfl, ⟨w, ?_⟩, Oth.refl⟩
      unfold addR
      rw [if_pos hm']
      exact S
    · rename_i hm
      refine meth_st S rfl rfl ?_
      (repeat' array_get_dec)
      refine put_go S (by show (l.map up).length < 1000; rw [List.length_map]; omega) fun α1 S1 O1 => ?_
      (repeat' array_get_dec)
      refine hX _ _ ⟨rfl, ⟨w + 1, ?_⟩, O1⟩
      have hm' : r ∉ l := by simpa using hm
      unfold addR
      rw [if_neg hm']
      have e : (l ++ [r]).map up = l.map up ++ [(r.1, ve r.2.1, r.2.2)] := by simp [up]
      unfold ST
      rw [e]
      exact S1
def pm (n : Str) (v : Int × Int) (r : Rw) : Bool := decide (r.1 = n) && decide (r.2.1 = v)
theorem okD_ve (k : Nat) (v : Int × Int) : okD (k + 2) (ve v) = true := by
  show ((okD k (.int _) && (okD k (.int _) && true)) && true) = true
  have : ∀ i, okD k (.int i) = true := fun i => by cases k <;> rfl
  rw [this, this]
  rfl
def cut2 (r : Rw) : D := .tuple [.str r.1, ve r.2.1]
theorem vw_c2 {r : Rw} {R : D → Prop} (h : R (cut2 r)) : oq (vw α (cut2 r)) R := ⟨_, rfl, h⟩
local macro_rules | `(tactic| array_mem_dec) => `(tactic| (with_reducible first | refine vw_c2 ?_))
theorem eqv_cut2 (r : Rw) (n : Str) (v : Int × Int) : PyData.eqv (cut2 r) (.tuple [.str n, ve v]) = pm n v r := by
  show ((r.1 == n) && (PyData.eqv (ve r.2.1) (ve v) && true)) = _
  rw [ve_eqv]
  unfold pm
  by_cases h : r.1 = n <;> simp [h]
theorem okD_2 {s : Str} (v : Int × Int) (h : PyData.strOk s = true) : okD 60 (.tuple [.str s, ve v]) = true := by
  show (okD 59 (.str s) && (okD 59 (ve v) && true)) = true
  rw [show okD 59 (.str s) = true from h, okD_ve 57]
  rfl
theorem dEqB_2 {r : Rw} {n : Str} {v : Int × Int} (h1 : okR r) (h2 : PyData.strOk n = true) : dEqB (cut2 r) (.tuple [.str n, ve v]) = some (pm n v r) := by
  show (if okD 60 (cut2 r) = true ∧ okD 60 (.tuple [.str n, ve v]) = true then some (PyData.eqv (cut2 r) (.tuple [.str n, ve v])) else none) = _
  rw [if_pos ⟨okD_2 _ h1.1, okD_2 _ h2⟩, eqv_cut2]
theorem cut_r {r : Rw} {R : D → Prop} (h : R (cut2 r)) : oq (dCut (rD r) none (some 2)) R := ⟨_, rfl, h⟩
theorem range_first {q : Nat → Bool} {n i : Nat} (hi : i < n) (h1 : q i = true) (h2 : ∀ m, m < i → q m = false) : ∃ rest, (List.range n).filter q = i :: rest := by
  obtain ⟨m, rfl⟩ : ∃ m, n = i + (m + 1) := ⟨n - i - 1, by omega⟩
  rw [List.range_add, List.filter_append, List.filter_eq_nil_iff.mpr (by
    intro a ha
    rw [h2 a (List.mem_range.mp ha)]
    decide), List.nil_append, List.range_succ_eq_map, List.map_cons]
  rw [List.filter_cons_of_pos (by simpa using h1)]
  exact ⟨(List.map (fun x => i + x) ((List.range m).map Nat.succ)).filter q, by rw [Nat.add_zero]⟩
theorem let_go {A : Ads} {l : List Rw} {w : Int} {n : Str} {v : Int × Int} (S : ST CS α A l w) (hl : l.length < 62) (ok : ∀ x ∈ l, okR x) (hn : PyData.strOk n = true)
    (h : ∀ α' w', ST CS α' A (l.filter fun r => !pm n v r) w' → Oth A α α' → Q (.int ((l.filter (pm n v)).length : Nat)) α') : f_let_go CR CS CF CP gX [dref A.p, .str n, ve v] α Q E := by
  unfold f_let_go m_let_go
  refine w_runP rfl ?_
  sizeOf_list_dec
  (repeat' array_get_dec)
  refine bar_of ?_
  sizeOf_list_dec
  refine w_seqI (fun ρ α' => ∃ x y z u, ρ = [some (dref A.p), some (.str n), some (ve v), some (.int ((l.filter (pm n v)).length : Nat)), x, y, z, u] ∧ (∃ w', ST CS α' A (l.filter fun r => !pm n v r) w') ∧ Oth A α α') ?_ fun X hX => ?_
  · rintro ρ α' ⟨x, y, z, u, rfl, ⟨w', S'⟩, O'⟩
    (repeat' array_get_dec)
    rw [arst_oth S S' O']
    exact h _ _ S' O'
  · refine w_while (fun m ρ α' => ∃ l' k x y z u, ρ = [some (dref A.p), some (.str n), some (ve v), some (.int (k : Nat)), x, y, z, u] ∧ m = l'.length ∧ l'.length < 62 ∧ (∀ r ∈ l', okR r) ∧ (∃ w', ST CS α' A l' w') ∧ Oth A α α' ∧ k + (l'.filter (pm n v)).length = (l.filter (pm n v)).length ∧ erN (pm n v) (l'.filter (pm n v)).length l' = l.filter fun r => !pm n v r) l.length ⟨l, 0, _, _, _, _, rfl, rfl, hl, ok, ⟨w, S⟩, Oth.refl, by omega, erN_all l⟩ ?_
    rintro m ρ α' ⟨l', k, x, y, z, u, rfl, hm, hl', hok', ⟨w', S'⟩, O', e1, e2⟩ Y hY
    (repeat' array_get_dec)
    refine kept_go S' (by omega) ?_
    (repeat' array_get_dec)
    refine lc_map (fil n l') kD (fun r => ve r.2.1) rfl (by have := fil_len n l'; omega) trivial (fun x hx => ?_) ?_
    · refine oq_tgTup rfl (oq_tgCons (oq_setv (oq_tgCons (oq_setv (oq_tgNil ?_)))))
      intro R hR
      sizeOf_list_dec
      (repeat' decreasing_trivial_pre_omega)
      exact hR
    · (repeat' array_get_dec)
      have ha : ((fil n l').map fun r => ve r.2.1).any (fun z => PyData.eqv z (ve v)) = decide (0 < (l'.filter (pm n v)).length) := by
        rw [List.any_map]
        have e3 : l'.filter (pm n v) = (fil n l').filter fun r => decide (r.2.1 = v) := by
          unfold fil
          rw [List.filter_filter]
          congr 1
          funext r
          unfold pm nm
          rw [Bool.and_comm]
        rw [e3]
        generalize fil n l' = f
        induction f with
        | nil => rfl
        | cons r f ih =>
          rw [List.any_cons, ih]
          show (PyData.eqv (ve r.2.1) (ve v) || _) = _
          rw [ve_eqv]
          by_cases hv : r.2.1 = v
          · rw [List.filter_cons_of_pos (by simpa using hv)]
            simp [hv]
          · rw [List.filter_cons_of_neg (by simpa using hv)]
            simp [hv]
      refine ⟨.bool (decide (0 < (l'.filter (pm n v)).length)), ?_, ?_⟩
      · show ((if okD 60 (ve v) = true ∧ okD 60 (.list ((fil n l').map fun r => ve r.2.1)) = true then some _ else none).map _ : Option D) = _
        have ok2 : okD 60 (.list ((fil n l').map fun r => ve r.2.1)) = true := by
          show ((fil n l').map fun r => ve r.2.1).all (okD 59) = true
          rw [List.all_eq_true]
          intro d hd
          obtain ⟨r, _, rfl⟩ := List.mem_map.mp hd
          exact okD_ve 57 _
        rw [if_pos ⟨okD_ve 58 v, ok2⟩, ha]
        rfl
      · (repeat' array_get_dec)
        · rename_i hlt
          cases hf : l'.filter (pm n v) with
          | nil => rw [hf] at hlt; simp at hlt
          | cons r rest =>
            obtain ⟨i, hi, g1, g2, g3, g4⟩ := er_at hf
            have hi2 : (er (pm n v) l').length + 1 = l'.length := by
              rw [← g4, List.length_eraseIdx, if_pos hi]
              omega
            have hq : ∃ rest2, (List.range l'.length).filter (fun j => (l'[j]?.map (pm n v)).getD false) = i :: rest2 := range_first hi (by rw [List.getElem?_eq_getElem hi, g1]; exact g2) fun j hj => by
              rw [List.getElem?_eq_getElem (by omega)]
              exact g3 j hj
            obtain ⟨rest2, hq⟩ := hq
            refine meth_st S' rfl rfl ?_
            (repeat' array_get_dec)
            refine at_go S' (by omega) ?_
            (repeat' array_get_dec)
            rw [List.length_map]
            refine rg1_of (by omega) ?_
            rw [Int.toNat_natCast, nums0]
            refine lc_fm (List.range l'.length) (fun k => .int (k : Int)) (fun j => (l'[j]?.map (pm n v)).getD false) (fun k => .int (k : Int)) rfl (by rw [List.length_range]; omega) trivial (fun j hj => ?_) ?_
            · have hj := List.mem_range.mp hj
              refine ⟨_, rfl, fun R hR => ?_, fun _ R hR => ?_⟩
              · sizeOf_list_dec
                (repeat' array_get_dec)
                refine meth_st S' rfl rfl ?_
                (repeat' array_get_dec)
                refine at_go S' (by omega) ?_
                (repeat' array_get_dec)
                refine oq_ix_mf (xs := l') (u := rD) rfl hj ?_
                (repeat' array_get_dec)
                refine cut_r ?_
                (repeat' array_get_dec)
                refine oq_eq_d (dEqB_2 (hok' _ (List.getElem_mem hj)) hn) ?_
                (repeat' array_get_dec)
                rw [List.getElem?_eq_getElem hj] at hR
                exact hR
              · sizeOf_list_dec
                (repeat' decreasing_trivial_pre_omega)
                exact hR
            · rw [hq, List.map_cons]
              (repeat' array_get_dec)
              (refine bar_of ?_; sizeOf_list_dec; (repeat' array_get_dec))
              refine meth_st S' rfl rfl ?_
              (repeat' array_get_dec)
              refine oq_ix_0 ?_
              (repeat' array_get_dec)
              refine drop_go (i := i) S' (by omega) hi fun α3 w3 S3 O3 => ?_
              rw [g4] at S3
              (repeat' array_get_dec)
              (refine bar_of ?_; sizeOf_list_dec; (repeat' array_get_dec))
              have ef : (er (pm n v) l').filter (pm n v) = rest := by rw [er_filter, hf]; rfl
              rw [hf] at e1 e2
              refine hY (er (pm n v) l').length _ _ (by omega) ⟨er (pm n v) l', k + 1, _, _, _, _, rfl, rfl, by omega, fun x hx => hok' x (er_mem hx), ⟨w3, S3⟩, O'.trans O3, ?_, ?_⟩
              · rw [ef]
                simp only [List.length_cons] at e1
                omega
              · rw [ef]
                exact e2
        · rename_i hlt
          have h0 : (l'.filter (pm n v)).length = 0 := by omega
          rw [h0] at e1 e2
          have e3 : l' = l.filter fun r => !pm n v r := e2
          have e4 : k = (l.filter (pm n v)).length := by omega
          subst e4
          rw [e3] at S'
          exact hX _ _ ⟨_, _, _, _, rfl, ⟨w', S'⟩, O'⟩
end K27
namespace K27
open PySem L2 Hz
local macro_rules | `(tactic| array_mem_dec) => `(tactic| (first | ((with_reducible apply fd_cons); exact trivial) | ((with_reducible apply fd_nil); exact trivial) | ((with_reducible apply oq_isiB (b := true)); exact rfl) | ((with_reducible apply oq_isiB (b := false)); exact rfl) | ((with_reducible apply w_xi); exact rfl; exact decide_eq_true rfl; exact if_pos rfl) | ((with_reducible apply w_xf); exact rfl; exact decide_eq_true rfl; exact rfl) | ((with_reducible apply w_frzS); exact rfl; (first | assumption | exact aset_same); (try simp only [List.set])) | ((with_reducible apply rg1_of); (first | omega | decide)) | ((with_reducible apply rg2_of); (first | omega | decide)) | ((with_reducible apply lok); exact rfl) | ((with_reducible refine it2_dec ?_ ?_) <;> intro)))
local macro_rules | `(tactic| array_mem_dec) => `(tactic| (first | ((with_reducible apply dc_c); (first | assumption | exact aset_same); (first | exact rfl | exact tD_real _ _)) | ((with_reducible apply cdi_of); (first | assumption | exact aset_same); (first | exact rfl | exact tD_real _ _)) | ((with_reducible apply dc_d); (first | exact rfl | exact tD_real _ _)) | ((with_reducible apply dc_f); (first | exact rfl | exact tD_real _ _)) | ((with_reducible apply lk_of); exact rfl) | ((with_reducible apply oq_setv2); (simp only [List.set, wipeA]; exact rfl)) | ((with_reducible apply cal_of); exact rfl; (try simp only [List.cons_append, List.nil_append, List.append_nil])) | ((with_reducible apply w_aug); exact rfl) | ((with_reducible apply cel_of); (first | assumption | exact aset_same)) | ((with_reducible apply ceo_of); (first | assumption | exact aset_same)) | ((with_reducible apply tlG_r); (first | assumption | exact aset_same)) | ((with_reducible apply fr_of); (first | assumption | exact aset_same))))
local macro_rules | `(tactic| array_mem_dec) => `(tactic| (with_reducible first | refine w_fz ?_ | refine w_listD ?_ | refine w_dictD ?_ | refine w_dictP ?_ | refine w_sortD ?_ | refine w_isiC ?_))
local macro_rules | `(tactic| array_mem_dec) => `(tactic| (with_reducible first | refine pr2_of ?_ | refine fl_f ?_ | refine fl_t ?_ | refine fl_o ?_ | refine fl_r ?_ | refine fl_n ?_ | refine fl_w ?_ | refine fl_m ?_ | refine ctD_list ?_ | refine ctD_tup ?_ | refine vw_ct ?_ | refine ru_e ?_ | refine ru_t ?_ | refine vw_ru ?_ | refine vw_ve ?_ | refine vw_rD ?_ | refine vw_c2 ?_ | refine w_sortSet ?_ | refine w_mk ?_ | refine w_dget ?_ | refine w_dget1 ?_ | refine w_dget2 ?_ | refine w_din ?_ | refine w_dnotin ?_ | refine w_dpop1 ?_ | refine w_dpop2 ?_ | refine w_dput ?_ | refine w_daug ?_ | refine w_lenD ?_ | refine w_dnew ?_))
local macro_rules | `(tactic| array_mem_dec) => `(tactic| (with_reducible first | refine tb_b ?_ | refine ti_b ?_ | refine ts_b ?_ | refine we_nx ?_ | refine we_rt ?_ | refine we_ex ?_ | refine wn_nx ?_ | refine wn_rt ?_ | refine wn_bk ?_ | refine wn_ct ?_ | refine wn_ex ?_ | refine wl_nx ?_ | refine wl_rt ?_ | refine wl_bk ?_ | refine wl_ct ?_ | refine wl_ex ?_ | refine wx_nx ?_ | refine wx_rt ?_ | refine wx_bk ?_ | refine wx_ct ?_ | refine wx_ex ?_ | refine wh_nx ?_ | refine wh_rt ?_ | refine wh_bk ?_ | refine wh_ct ?_ | refine it2_t ?_ | refine it2_f ?_ | refine it2_not ?_ | refine tlG_l ?_ | refine ttG_t ?_))
local macro_rules | `(tactic| array_mem_dec) => `(tactic| ((with_reducible refine oq_id ?_); (first | (with_reducible first | refine vw_i ?_ | refine vw_s ?_ | refine vw_b ?_ | refine vw_n ?_ | refine vw_l ?_ | refine vw_t ?_ | refine vw_sc ?_ | refine vw_o ?_ | refine mv_nil ?_ | refine mv_cons ?_ | refine oq_tgNil ?_ | refine oq_tgCons ?_ | refine oq_add_i ?_ | refine oq_sub ?_ | refine oq_lt ?_ | refine oq_le ?_ | refine oq_gt ?_ | refine oq_ge ?_ | refine oq_eq_i ?_ | refine oq_ne_i ?_ | refine oq_eq_s ?_ | refine oq_ne_s ?_ | refine oq_eq_b ?_ | refine oq_ne_b ?_ | refine oq_is ?_ | refine oq_isNot ?_ | refine oq_in_s ?_ | refine oq_notIn_s ?_ | refine oq_len_l ?_ | refine oq_len_t ?_ | refine oq_int ?_ | refine oq_abs ?_ | refine oq_ord ?_ | refine oq_cut_l ?_ | refine oq_cut_t ?_ | refine oq_list_l ?_ | refine oq_list_t ?_ | refine oq_tuple_l ?_ | refine oq_tuple_t ?_ | refine oq_max2 ?_ | refine oq_min2 ?_ | refine oq_some ?_ | refine oq_len_sc ?_ | refine oq_eq_il ?_ | refine oq_ne_il ?_ | refine oq_eq_it ?_ | refine oq_ne_it ?_ | refine oq_lt_il ?_ | refine oq_lt_it ?_ | refine oq_iadd_i ?_ | refine oq_isT ?_ | refine oq_isNotT ?_) | (first | ((with_reducible apply vw_st); assumption) | ((with_reducible apply oq_tgTup); exact rfl) | ((with_reducible apply oq_ix_lk); exact rfl) | ((with_reducible apply oq_ix_tk); exact rfl) | ((with_reducible apply vw_r); (first | assumption | exact aset_same)) | ((with_reducible apply oq_ixN_k); exact rfl; (try simp only [List.set, Int.reduceToNat])) | ((with_reducible apply oq_mod); (first | omega | decide)) | ((with_reducible apply oq_div); (first | omega | decide)) | ((with_reducible apply oq_mul); (first | omega | decide)) | ((with_reducible apply oq_pow); (first | omega | decide)) | ((with_reducible apply oq_shl); (first | omega | decide)) | ((with_reducible apply oq_shr); (first | omega | decide))) | (first | ((with_reducible apply oq_add_s); (first | omega | decide)) | ((with_reducible apply oq_len_s); (first | omega | decide)) | ((with_reducible apply oq_cut_s); (first | omega | decide)) | ((with_reducible apply oq_append); (first | omega | decide)) | ((with_reducible apply oq_insert); (first | omega | decide)) | ((with_reducible apply oq_rep); (first | omega | decide)) | ((with_reducible apply oq_cat); (first | omega | decide))))))
local macro_rules | `(tactic| array_mem_dec) => `(tactic| (with_reducible first | refine w_list ?_ | refine w_tuple ?_ | refine w_str ?_ | refine w_range1 ?_ | refine w_range2 ?_ | refine w_range3 ?_ | refine w_next ?_ | refine w_break ?_ | refine w_cont ?_ | refine w_drop ?_ | refine w_ret ?_ | refine w_retN ?_ | refine w_if ?_ | refine w_asg ?_ | refine w_raise ?_ | refine w_fld ?_ | refine w_seta ?_ | refine w_auga ?_ | refine w_seti ?_ | refine w_mut ?_ | refine w_frz ?_ | refine w_new ?_ | refine w_ext ?_ | refine w_for ?_ | refine w_lc ?_ | refine w_tryA ?_ | refine w_try ?_ | refine w_par ?_))
local macro_rules | `(tactic| array_mem_dec) => `(tactic| (first | ((with_reducible apply w_kV); exact rfl) | (with_reducible first | refine w_kC ?_ | refine w_bop ?_ | refine w_tst ?_ | refine w_val ?_ | refine w_and ?_ | refine w_or ?_ | refine w_not ?_ | refine w_andV ?_ | refine w_orV ?_ | refine w_chain ?_ | refine w_ifK ?_ | refine w_nil ?_ | refine w_cons ?_ | refine w_tup ?_ | refine w_lst ?_ | refine w_call ?_ | refine w_neg ?_ | refine w_b1 ?_ | refine w_bn ?_ | refine w_isi ?_ | refine w_met ?_ | refine w_pnone ?_ | refine w_psome ?_ | refine w_cut ?_ | refine w_yes ?_)))
local macro_rules | `(tactic| array_get_dec) => `(tactic| (with_reducible refine w_seqB ?_))
local macro_rules | `(tactic| array_get_dec) => `(tactic| array_mem_dec)
local macro_rules | `(tactic| decreasing_trivial_pre_omega) => `(tactic| (with_reducible refine w_seq ?_))
local macro_rules | `(tactic| decreasing_trivial_pre_omega) => `(tactic| array_mem_dec)
local macro_rules | `(tactic| sizeOf_list_dec) => `(tactic| (try simp only [List.set, Int.reduceToNat, List.map_cons, List.map_nil, Nat.reduceSub, List.reduceReplicate, List.cons_append, List.nil_append, wipeA, aset_aset, List.getElem?_cons_zero, List.getElem?_cons_succ]))
variable {CR CS CF CP gX : Nat} {α : AH} {Q : QD} {E : QX}
theorem w_sortL {ma : ME} {ρ : En} (h : ma ρ α (fun o α1 => (∃ ks : List Str, vw α1 o = some (.list (ks.map .str)) ∧ ks.length < 64 ∧ ∀ ys : List Str, ys.Perm ks → PyProof.Rows.sortedS ys = true → Q (.list (ys.map .str)) α1) ∨ ∃ ks : List Int, vw α1 o = some (.list (ks.map .int)) ∧ ks.length < 64 ∧ ∀ ys : List Int, ys.Perm ks → ys.Pairwise (· ≤ ·) → Q (.list (ys.map .int)) α1) E) : sortLK ma ρ α Q E := h
local macro_rules | `(tactic| array_mem_dec) => `(tactic| (with_reducible first | refine w_sortL ?_))
theorem draw_ok {ns : List Int} {a b n : Int} {p : Addr} {α : AH} (hp : α p = some (.list [.int a, .int b])) (hn : 0 < n ∧ n < 2 ^ 80) {Q : QD} {E : QX} (q : ∀ d a' b', 0 ≤ d → d < n → Q (.int d) (aset α p (.list [.int a', .int b']))) :
    f_law_draw CR CS CF CP gX [dref p, scriptD ns, .int n] α Q E := by
  unfold f_law_draw m_law_draw
  refine w_runP rfl ?_
  sizeOf_list_dec
  have h0 := hn.1
  refine w_seqI (fun ρ α' => ∃ a b y z, ρ = [some (dref p), some (scriptD ns), some (.int n), none, y, z] ∧ α' = aset α p (.list [.int a, .int b])) ?_ fun X hX => ?_
  · rintro _ _ ⟨a, b, y, z, rfl, rfl⟩
    (repeat' decreasing_trivial_pre_omega)
    sizeOf_list_dec
    rw [arst_old ⟨_, hp⟩, arst_self]
    exact q _ _ _ (Int.emod_nonneg _ (by omega)) (Int.emod_lt_of_pos _ h0)
  · have hid : α = aset α p (.list [.int a, .int b]) := (aset_id hp).symm
    have fin : ∀ a' b' y z, X [some (dref p), some (scriptD ns), some (.int n), none, y, z] (aset α p (.list [.int a', .int b'])) := fun a' b' y z => hX _ _ ⟨a', b', y, z, rfl, rfl⟩
    (repeat' decreasing_trivial_pre_omega)
    · have h1 : 0 ≤ a % ↑ns.length := Int.emod_nonneg _ (by omega)
      have h2 : a % ↑ns.length < ↑ns.length := Int.emod_lt_of_pos _ (by omega)
      refine oq_ix_sc h1 h2 fun z _ => ?_
      (repeat' decreasing_trivial_pre_omega)
      all_goals (sizeOf_list_dec; exact fin _ _ _ _)
    all_goals first | (sizeOf_list_dec; exact fin _ _ _ _) | (rw [hid]; exact fin _ _ _ _)
def DrAt (p : Addr) (α : AH) : Prop := ∃ a b, α p = some (.list [.int a, .int b])
theorem DrAt.isS {p : Addr} (h : DrAt p α) : (α p).isSome = true := by
  obtain ⟨a, b, h⟩ := h
  rw [h]
  rfl
theorem dr_go {ns : List Int} {p : Addr} {n : Int} (h : DrAt p α) (hn : 0 < n ∧ n < 2 ^ 80) (q : ∀ d α', 0 ≤ d → d < n → DrAt p α' → But p α α' → Q (.int d) α') : f_law_draw CR CS CF CP gX [dref p, scriptD ns, .int n] α Q E := by
  obtain ⟨a, b, h1⟩ := h
  exact draw_ok h1 hn fun d a' b' g1 g2 => q d _ g1 g2 ⟨a', b', aset_same⟩ fun x hx => aset_ne hx
theorem arst_but {p : Addr} {α' : AH} (h : DrAt p α) (k : But p α α') : arst α α' = α' := by
  funext a
  unfold arst
  by_cases e : a = p
  · rw [e, if_pos h.isS]
  · rw [k a e]
    cases q : α a with
    | none => rfl
    | some c => rfl
def NM : List Str := ["a", "b", "a/b", "Z9", "c", "longer/names/are/here/abcdefghijklmnopqr"]
theorem NM_ok : ∀ n ∈ NM, PyData.strOk n = true := by decide +kernel
theorem name_go {ns : List Int} {p : Addr} (h : DrAt p α) (q : ∀ n α', n ∈ NM → DrAt p α' → But p α α' → Q (.str n) α') : f_law_name CR CS CF CP gX [dref p, scriptD ns] α Q E := by
  unfold f_law_name m_law_name
  refine w_runP rfl ?_
  sizeOf_list_dec
  (repeat' array_get_dec)
  refine dr_go h (by decide) fun d α1 g1 g2 D1 B1 => ?_
  (repeat' array_get_dec)
  refine oq_ix_mf (xs := NM) (u := .str) (k := d.toNat) (by omega) (by show d.toNat < 6; omega) ?_
  (repeat' array_get_dec)
  rw [arst_but h B1]
  exact q _ _ (List.getElem_mem _) D1 B1
theorem cont_go {ns : List Int} {p : Addr} (h : DrAt p α) (q : ∀ c α', c.length ≤ 8 → DrAt p α' → But p α α' → Q (ctD c) α') : f_law_content CR CS CF CP gX [dref p, scriptD ns, .int 2] α Q E := by
  unfold f_law_content m_law_content
  refine w_runP rfl ?_
  sizeOf_list_dec
  (repeat' array_get_dec)
  refine dr_go h (by decide) fun d α1 g1 g2 D1 B1 => ?_
  (repeat' array_get_dec)
  (refine bar_of ?_; sizeOf_list_dec; (repeat' array_get_dec))
  (refine bar_of ?_; sizeOf_list_dec; (repeat' array_get_dec))
  refine dr_go D1 (by decide) fun k α2 k1 k2 D2 B2 => ?_
  (repeat' array_get_dec)
  refine for_nums (fun j ρ α' => ∃ c x, c.length ≤ 4 * j ∧ ρ = [some (dref p), some (scriptD ns), some (.int 2), some (.list ([[1, 2, 3, 4], [0, 0, 0, 0], [255, 254, 253, 252], [5], [9, 9], [d, 7, 7, 7]].map ctD)), some (ctD c), x] ∧ DrAt p α' ∧ But p α α') ⟨[], none, by simp, rfl, D2, B1.trans B2⟩ ?_ ?_
  · rintro ρ α' ⟨c, x, hc, rfl, D3, B3⟩
    (repeat' array_get_dec)
    (refine bar_of ?_; sizeOf_list_dec; (repeat' array_get_dec))
    rw [arst_but h B3]
    exact q c _ (by omega) D3 B3
  · rintro j hj ρ α' ⟨c, x, hc, rfl, D3, B3⟩ X hX
    sizeOf_list_dec
    (repeat' array_get_dec)
    refine dr_go D3 (by decide) fun i α4 i1 i2 D4 B4 => ?_
    (repeat' array_get_dec)
    have hi : i.toNat < 6 := by omega
    refine oq_ix_mf (xs := [[1, 2, 3, 4], [0, 0, 0, 0], [255, 254, 253, 252], [5], [9, 9], [d, 7, 7, 7]]) (u := ctD) (k := i.toNat) (by omega) hi ?_
    have hl : ∀ w ∈ [[1, 2, 3, 4], [0, 0, 0, 0], [255, 254, 253, 252], [5], [9, 9], [d, 7, 7, 7]], w.length ≤ 4 := by
      intro w hw
      simp only [List.mem_cons, List.not_mem_nil, or_false] at hw
      rcases hw with rfl | rfl | rfl | rfl | rfl | rfl <;> simp
    have hw := hl _ (List.getElem_mem (l := [[1, 2, 3, 4], [0, 0, 0, 0], [255, 254, 253, 252], [5], [9, 9], [d, 7, 7, 7]]) hi)
    generalize [[1, 2, 3, 4], [0, 0, 0, 0], [255, 254, 253, 252], [5], [9, 9], [d, 7, 7, 7]][i.toNat] = w at *
    (repeat' array_get_dec)
    refine oq_add_l (by rw [List.length_map, List.length_map]; omega) ?_
    (repeat' array_get_dec)
    have e : PyData.list (c.map .int ++ w.map .int) = ctD (c ++ w) := by unfold ctD; rw [List.map_append]
    rw [e]
    exact hX _ _ ⟨c ++ w, _, by rw [List.length_append]; omega, rfl, D4, B3.trans B4⟩
theorem cut_k {ds : List D} {k : Nat} (h1 : k ≤ ds.length) : cutD ds none (some (k : Int)) = ds.take k := by
  unfold cutD
  rw [HT.sIx_nat, show HT.sIx ds.length 0 none = 0 from rfl, Nat.sub_zero, List.drop_zero, Nat.min_eq_left h1]
theorem rm_go {l : List Rw} {r : Rw} {rest : List Rw} {n : Str} {R : D × List D → Prop} (ok : ∀ x ∈ l, okR x) (hf : fil n l = r :: rest) (h : R (.none, (er (nm n) l).map rD)) : oq (muRemove (l.map rD) [rD r]) R := by
  obtain ⟨i, hi, g1, g2, g3, g4⟩ := er_at hf
  have okr : okR r := ok r (by rw [← g1]; exact List.getElem_mem hi)
  have e : (l.map rD).findIdx? (fun z => PyData.eqv z (rD r)) = some i := find_first hi (by rw [rD_eqv, g1]; exact decide_eq_true rfl) fun m hm => by
    rw [rD_eqv]
    refine decide_eq_false fun z => ?_
    have := g3 m hm
    rw [z, g2] at this
    cases this
  refine ⟨_, ?_, h⟩
  show (if okD 60 (.list (l.map rD)) = true ∧ okD 60 (rD r) = true then ((l.map rD).findIdx? fun z => PyData.eqv z (rD r)).map fun j => (PyData.none, (l.map rD).eraseIdx j) else none) = _
  rw [if_pos ⟨rDs_ok ok 56, rD_ok okr 57⟩, e]
  show some (PyData.none, (l.map rD).eraseIdx i) = _
  rw [map_erase, g4]
/-- the law's lists -/
structure Tl (α : AH) (q g : Addr) (l gone : List Rw) (α' : AH) : Prop where
  ls : α' q = some (.list (l.map rD))
  gn : α' g = some (.list (gone.map rD))
  ot : ∀ a, a ≠ q → a ≠ g → α' a = α a
theorem tidied_go {q : Addr} {l : List Rw} {e t : Int} (hq : α q = some (.list (l.map rD))) (hl : l.length < 64) (ok : ∀ x ∈ l, okR x) (he : 0 ≤ e) (ht : 0 ≤ t)
    (h : ∀ ys : List Str, ys.Perm NM → PyProof.Rows.sortedS ys = true → Q (.list ((tdy e.toNat t ys l).1.map rD)) (Hz.aset α q (.list ((tdy e.toNat t ys l).2.map rD)))) : f_law_tidied CR CS CF CP gX [dref q, .int e, .int t] α Q E := by
  unfold f_law_tidied m_law_tidied
  refine w_runP rfl ?_
  sizeOf_list_dec
  (repeat' array_get_dec)
  intro g hg
  have nq : q ≠ g := fun z => by rw [z, hg] at hq; cases hq
  (repeat' array_get_dec)
  refine bar_of ?_
  sizeOf_list_dec
  refine w_seqI (fun ρ α' => ∃ ys x y z, ρ = [some (dref q), some (.int e), some (.int t), some (dref g), x, y, z] ∧ ys.Perm NM ∧ PyProof.Rows.sortedS ys = true ∧ Tl α q g (ys.foldl (stp e.toNat) ([], l)).2 (ys.foldl (stp e.toNat) ([], l)).1 α') ?_ fun X hX => ?_
  · rintro ρ α' ⟨ys, x, y, z, rfl, y1, y2, T⟩
    have hlen := fold_len (each := e.toNat) ys ([], l)
    simp only [List.length_nil] at hlen
    generalize hs : ys.foldl (stp e.toNat) ([], l) = s at *
    refine w_seqI (fun ρ α' => ∃ x y z, ρ = [some (dref q), some (.int e), some (.int t), some (dref g), x, y, z] ∧ Tl α q g (tdy e.toNat t ys l).2 (tdy e.toNat t ys l).1 α') ?_ fun X hX => ?_
    · rintro ρ α' ⟨x, y, z, rfl, T⟩
      (repeat' array_get_dec)
      refine fr_of T.gn ?_
      (repeat' array_get_dec)
      have e1 : arst α (adel α' g) = Hz.aset α q (.list ((tdy e.toNat t ys l).2.map rD)) := by
        funext a
        unfold arst
        by_cases za : a = q
        · rw [za, hq, aset_same, adel_ne nq, T.ls]
          rfl
        · rw [aset_ne za]
          by_cases zg : a = g
          · rw [zg, hg]
            rfl
          · rw [adel_ne zg, T.ot a za zg]
            cases α a <;> rfl
      rw [e1]
      exact h ys y1 y2
    · refine w_while (fun m ρ α' => ∃ l' gone x y z, ρ = [some (dref q), some (.int e), some (.int t), some (dref g), x, y, z] ∧ m = l'.length ∧ Tl α q g l' gone α' ∧ gone ++ (dropT t l').1 = (tdy e.toNat t ys l).1 ∧ (dropT t l').2 = (tdy e.toNat t ys l).2 ∧ gone.length + l'.length < 64) s.2.length ⟨s.2, s.1, x, y, z, rfl, rfl, T, by unfold tdy; rw [hs], by unfold tdy; rw [hs], by omega⟩ ?_
      rintro m ρ α' ⟨l', gone, x, y, z, rfl, hm, T, e1, e2, e3⟩ Y hY
      (repeat' array_get_dec)
      refine tlG_r T.ls ?_
      refine lc_map l' rD (fun r => .int (r.2.2.length : Int)) rfl (by omega) T.ls (fun x hx => ?_) ?_
      · refine ⟨_, rfl, ?_⟩
        intro R hR
        sizeOf_list_dec
        (repeat' decreasing_trivial_pre_omega)
        unfold rD
        (repeat' decreasing_trivial_pre_omega)
        unfold ctD
        (repeat' decreasing_trivial_pre_omega)
        rw [List.length_map]
        exact hR
      · (repeat' array_get_dec)
        refine oq_sum (f := fun r : Rw => (r.2.2.length : Int)) ?_
        (repeat' array_get_dec)
        · rename_i hlt
          cases l' with
          | nil => exfalso; simp at hlt; omega
          | cons r l2 =>
            unfold dropT at e1 e2
            rw [if_pos (show t < size (r :: l2) from hlt)] at e1 e2
            refine cel_of T.gn ?_
            (repeat' array_get_dec)
            refine cel_of T.ls ?_
            (repeat' array_get_dec)
            refine cel_of T.ls ?_
            refine oq_popAt (i := 0) (by rw [List.length_map]; omega) (by simp) ?_
            (repeat' array_get_dec)
            refine cel_of (by rw [aset_ne (Ne.symm nq)]; exact T.gn) ?_
            refine oq_append (by rw [List.length_map]; simp only [List.length_cons] at e3; omega) ?_
            (repeat' array_get_dec)
            refine hY l2.length _ _ (by simp only [List.length_cons] at hm; omega) ⟨l2, gone ++ [r], x, y, z, rfl, rfl, ⟨?_, ?_, fun a a1 a2 => ?_⟩, by simpa using e1, e2, by simp only [List.length_append, List.length_cons, List.length_nil] at *; omega⟩
            · rw [aset_ne nq, aset_same]
              rfl
            · rw [aset_same, List.map_append]
              rfl
            · rw [aset_ne a2, aset_ne a1, T.ot a a1 a2]
        · rename_i hlt
          refine hX _ _ ⟨x, y, z, rfl, ?_⟩
          have hd : dropT t l' = ([], l') := by
            cases l' with
            | nil => rfl
            | cons r l2 => unfold dropT; rw [if_neg (show ¬ t < size (r :: l2) from hlt)]
          rw [hd] at e1 e2
          rw [List.append_nil] at e1
          rw [← e1, ← e2]
          exact T
  · (repeat' array_get_dec)
    refine lc_map NM (fun n => .str n) (fun n => .str n) rfl (by decide) trivial (fun x hx => ?_) ?_
    · refine ⟨_, rfl, ?_⟩
      intro R hR
      sizeOf_list_dec
      (repeat' decreasing_trivial_pre_omega)
      exact hR
    · (repeat' array_get_dec)
      refine .inl ⟨NM, rfl, by decide, fun ys y1 y2 => ?_⟩
      (repeat' array_get_dec)
      refine for_map (xs := ys) (u := .str) rfl (fun k ρ α' => ∃ x y z, ρ = [some (dref q), some (.int e), some (.int t), some (dref g), x, y, z] ∧ Tl α q g ((ys.take k).foldl (stp e.toNat) ([], l)).2 ((ys.take k).foldl (stp e.toNat) ([], l)).1 α') ⟨none, none, none, rfl, ⟨by rw [aset_ne nq]; exact hq, aset_same, fun a _ ha => aset_ne ha⟩⟩ ?_ ?_
      · rintro ρ α' ⟨x, y, z, rfl, T⟩
        rw [List.take_length] at T
        exact hX _ _ ⟨ys, x, y, z, rfl, y1, y2, T⟩
      · rintro k hk ρ α' ⟨x, y, z, rfl, T⟩ Y hY
        have hl1 := fold_len (each := e.toNat) (ys.take k) ([], l)
        simp only [List.length_nil] at hl1
        have hok1 : ∀ r ∈ ((ys.take k).foldl (stp e.toNat) ([], l)).2, okR r := fun r hr => ok r (fold_sub hr)
        have hnext : (ys.take (k + 1)).foldl (stp e.toNat) ([], l) = stp e.toNat ((ys.take k).foldl (stp e.toNat) ([], l)) ys[k] := by
          rw [← List.take_append_getElem hk, List.foldl_append]
          rfl
        rw [hnext] at hY
        generalize ys[k] = n at *
        generalize (ys.take k).foldl (stp e.toNat) ([], l) = s at *
        sizeOf_list_dec
        (repeat' array_get_dec)
        refine tlG_r T.ls ?_
        refine lc_fm s.2 rD (nm n) rD rfl (by omega) T.ls (fun x hx => ?_) ?_
        · refine ⟨_, rfl, fun R hR => ?_, fun _ R hR => ?_⟩
          · sizeOf_list_dec
            (repeat' decreasing_trivial_pre_omega)
            unfold rD
            (repeat' decreasing_trivial_pre_omega)
            exact hR
          · sizeOf_list_dec
            (repeat' decreasing_trivial_pre_omega)
            exact hR
        · (repeat' array_get_dec)
          (refine bar_of ?_; sizeOf_list_dec; (repeat' array_get_dec))
          rw [List.length_map]
          have hmax : (if (((s.2.filter (nm n)).length : Int) - e) > 0 then (((s.2.filter (nm n)).length : Int) - e) else 0) = (((fil n s.2).length - e.toNat : Nat) : Int) := by
            show (if (((fil n s.2).length : Int) - e) > 0 then (((fil n s.2).length : Int) - e) else 0) = _
            split <;> omega
          rw [hmax, cut_k (by rw [List.length_map]; show _ ≤ (fil n s.2).length; omega)]
          rw [← List.map_take]
          refine for_map (xs := (s.2.filter (nm n)).take ((fil n s.2).length - e.toNat)) (u := rD) rfl (fun j ρ α' => ∃ l' z, ρ = [some (dref q), some (.int e), some (.int t), some (dref g), some (.str n), some (.list ((s.2.filter (nm n)).map rD)), z] ∧ Tl α q g l' (s.1 ++ (fil n s.2).take j) α' ∧ fil n l' = (fil n s.2).drop j ∧ (∀ r ∈ l', okR r) ∧ erN (nm n) ((fil n s.2).length - e.toNat - j) l' = (stp e.toNat s n).2 ∧ l'.length ≤ s.2.length) ⟨s.2, _, rfl, by simpa using T, by simp, hok1, rfl, Nat.le_refl _⟩ ?_ ?_
          · rintro ρ α' ⟨l', z, rfl, T', f1, ok', f2, f3⟩
            have hk2 : ((s.2.filter (nm n)).take ((fil n s.2).length - e.toNat)).length = (fil n s.2).length - e.toNat := by
              rw [List.length_take]
              show min _ (fil n s.2).length = _
              omega
            rw [hk2] at T' f2
            rw [Nat.sub_self] at f2
            refine hY _ _ ⟨_, _, _, rfl, ?_⟩
            rw [← f2]
            exact T'
          · rintro j hj ρ α' ⟨l', z, rfl, T', f1, ok', f2, f3⟩ Z hZ
            rw [List.length_take] at hj
            have hj1 : j < (fil n s.2).length := by
              have : (fil n s.2).length = (s.2.filter (nm n)).length := rfl
              omega
            have hj2 : j < (fil n s.2).length - e.toNat := by omega
            have hjl : (fil n s.2).length ≤ s.2.length := fil_len _ _
            rw [List.drop_eq_getElem_cons hj1] at f1
            have er1 : ((s.2.filter (nm n)).take ((fil n s.2).length - e.toNat))[j]'(by rw [List.length_take]; exact hj) = (fil n s.2)[j] := by
              rw [List.getElem_take]
              rfl
            rw [er1]
            sizeOf_list_dec
            (repeat' array_get_dec)
            refine cel_of T'.gn ?_
            (repeat' array_get_dec)
            refine cel_of T'.gn ?_
            refine oq_append (by rw [List.length_map, List.length_append, List.length_take]; omega) ?_
            (repeat' array_get_dec)
            (refine bar_of ?_; sizeOf_list_dec; (repeat' array_get_dec))
            refine cel_of (by rw [aset_ne nq]; exact T'.ls) ?_
            (repeat' array_get_dec)
            refine cel_of (by rw [aset_ne nq]; exact T'.ls) ?_
            refine rm_go ok' f1 ?_
            (repeat' array_get_dec)
            refine hZ _ _ ⟨er (nm n) l', _, rfl, ⟨?_, ?_, fun a a1 a2 => ?_⟩, ?_, fun r hr => ok' r (er_mem hr), ?_, ?_⟩
            · rw [aset_same]
            · rw [aset_ne (Ne.symm nq), aset_same, ← List.take_append_getElem hj1]
              simp only [List.map_append, List.map_cons, List.map_nil, List.append_assoc]
            · rw [aset_ne a1, aset_ne a2, T'.ot a a1 a2]
            · unfold fil at f1 ⊢
              rw [er_filter, f1]
              rfl
            · have : (fil n s.2).length - e.toNat - j = ((fil n s.2).length - e.toNat - (j + 1)) + 1 := by omega
              rw [this] at f2
              exact f2
            · have := er_length (p := nm n) l'
              omega
end K27
namespace K27
open PySem L2 Hz
local macro_rules | `(tactic| array_mem_dec) => `(tactic| (first | ((with_reducible apply fd_cons); exact trivial) | ((with_reducible apply fd_nil); exact trivial) | ((with_reducible apply oq_isiB (b := true)); exact rfl) | ((with_reducible apply oq_isiB (b := false)); exact rfl) | ((with_reducible apply w_xi); exact rfl; exact decide_eq_true rfl; exact if_pos rfl) | ((with_reducible apply w_xf); exact rfl; exact decide_eq_true rfl; exact rfl) | ((with_reducible apply w_frzS); exact rfl; (first | assumption | exact aset_same); (try simp only [List.set])) | ((with_reducible apply rg1_of); (first | omega | decide)) | ((with_reducible apply rg2_of); (first | omega | decide)) | ((with_reducible apply lok); exact rfl) | ((with_reducible refine it2_dec ?_ ?_) <;> intro)))
local macro_rules | `(tactic| array_mem_dec) => `(tactic| (first | ((with_reducible apply dc_c); (first | assumption | exact aset_same); (first | exact rfl | exact tD_real _ _)) | ((with_reducible apply cdi_of); (first | assumption | exact aset_same); (first | exact rfl | exact tD_real _ _)) | ((with_reducible apply dc_d); (first | exact rfl | exact tD_real _ _)) | ((with_reducible apply dc_f); (first | exact rfl | exact tD_real _ _)) | ((with_reducible apply lk_of); exact rfl) | ((with_reducible apply oq_setv2); (simp only [List.set, wipeA]; exact rfl)) | ((with_reducible apply cal_of); exact rfl; (try simp only [List.cons_append, List.nil_append, List.append_nil])) | ((with_reducible apply w_aug); exact rfl) | ((with_reducible apply cel_of); (first | assumption | exact aset_same)) | ((with_reducible apply ceo_of); (first | assumption | exact aset_same)) | ((with_reducible apply tlG_r); (first | assumption | exact aset_same)) | ((with_reducible apply fr_of); (first | assumption | exact aset_same))))
local macro_rules | `(tactic| array_mem_dec) => `(tactic| (with_reducible first | refine w_fz ?_ | refine w_listD ?_ | refine w_dictD ?_ | refine w_dictP ?_ | refine w_sortD ?_ | refine w_isiC ?_))
local macro_rules | `(tactic| array_mem_dec) => `(tactic| (with_reducible first | refine pr2_of ?_ | refine fl_f ?_ | refine fl_t ?_ | refine fl_o ?_ | refine fl_r ?_ | refine fl_n ?_ | refine fl_w ?_ | refine fl_m ?_ | refine ctD_list ?_ | refine ctD_tup ?_ | refine vw_ct ?_ | refine ru_e ?_ | refine ru_t ?_ | refine vw_ru ?_ | refine vw_ve ?_ | refine vw_rD ?_ | refine vw_c2 ?_ | refine w_sortSet ?_ | refine w_mk ?_ | refine w_dget ?_ | refine w_dget1 ?_ | refine w_dget2 ?_ | refine w_din ?_ | refine w_dnotin ?_ | refine w_dpop1 ?_ | refine w_dpop2 ?_ | refine w_dput ?_ | refine w_daug ?_ | refine w_lenD ?_ | refine w_dnew ?_))
local macro_rules | `(tactic| array_mem_dec) => `(tactic| (with_reducible first | refine tb_b ?_ | refine ti_b ?_ | refine ts_b ?_ | refine we_nx ?_ | refine we_rt ?_ | refine we_ex ?_ | refine wn_nx ?_ | refine wn_rt ?_ | refine wn_bk ?_ | refine wn_ct ?_ | refine wn_ex ?_ | refine wl_nx ?_ | refine wl_rt ?_ | refine wl_bk ?_ | refine wl_ct ?_ | refine wl_ex ?_ | refine wx_nx ?_ | refine wx_rt ?_ | refine wx_bk ?_ | refine wx_ct ?_ | refine wx_ex ?_ | refine wh_nx ?_ | refine wh_rt ?_ | refine wh_bk ?_ | refine wh_ct ?_ | refine it2_t ?_ | refine it2_f ?_ | refine it2_not ?_ | refine tlG_l ?_ | refine ttG_t ?_))
local macro_rules | `(tactic| array_mem_dec) => `(tactic| ((with_reducible refine oq_id ?_); (first | (with_reducible first | refine vw_i ?_ | refine vw_s ?_ | refine vw_b ?_ | refine vw_n ?_ | refine vw_l ?_ | refine vw_t ?_ | refine vw_sc ?_ | refine vw_o ?_ | refine mv_nil ?_ | refine mv_cons ?_ | refine oq_tgNil ?_ | refine oq_tgCons ?_ | refine oq_add_i ?_ | refine oq_sub ?_ | refine oq_lt ?_ | refine oq_le ?_ | refine oq_gt ?_ | refine oq_ge ?_ | refine oq_eq_i ?_ | refine oq_eq_s ?_ | refine oq_eq_b ?_ | refine oq_ne_b ?_ | refine oq_is ?_ | refine oq_isNot ?_ | refine oq_in_s ?_ | refine oq_notIn_s ?_ | refine oq_len_l ?_ | refine oq_len_t ?_ | refine oq_int ?_ | refine oq_abs ?_ | refine oq_ord ?_ | refine oq_cut_l ?_ | refine oq_cut_t ?_ | refine oq_list_l ?_ | refine oq_list_t ?_ | refine oq_tuple_l ?_ | refine oq_tuple_t ?_ | refine oq_max2 ?_ | refine oq_min2 ?_ | refine oq_some ?_ | refine oq_len_sc ?_ | refine oq_eq_il ?_ | refine oq_ne_il ?_ | refine oq_eq_it ?_ | refine oq_ne_it ?_ | refine oq_lt_il ?_ | refine oq_lt_it ?_ | refine oq_iadd_i ?_ | refine oq_isT ?_ | refine oq_isNotT ?_) | (first | ((with_reducible apply vw_st); assumption) | ((with_reducible apply oq_tgTup); exact rfl) | ((with_reducible apply oq_ix_lk); exact rfl) | ((with_reducible apply oq_ix_tk); exact rfl) | ((with_reducible apply vw_r); (first | assumption | exact aset_same)) | ((with_reducible apply oq_ixN_k); exact rfl; (try simp only [List.set, Int.reduceToNat])) | ((with_reducible apply oq_mod); (first | omega | decide)) | ((with_reducible apply oq_div); (first | omega | decide)) | ((with_reducible apply oq_mul); (first | omega | decide)) | ((with_reducible apply oq_pow); (first | omega | decide)) | ((with_reducible apply oq_shl); (first | omega | decide)) | ((with_reducible apply oq_shr); (first | omega | decide))) | (first | ((with_reducible apply oq_add_s); (first | omega | decide)) | ((with_reducible apply oq_len_s); (first | omega | decide)) | ((with_reducible apply oq_cut_s); (first | omega | decide)) | ((with_reducible apply oq_append); (first | omega | decide)) | ((with_reducible apply oq_insert); (first | omega | decide)) | ((with_reducible apply oq_rep); (first | omega | decide)) | ((with_reducible apply oq_cat); (first | omega | decide))))))
local macro_rules | `(tactic| array_mem_dec) => `(tactic| (with_reducible first | refine w_list ?_ | refine w_tuple ?_ | refine w_str ?_ | refine w_range1 ?_ | refine w_range2 ?_ | refine w_range3 ?_ | refine w_next ?_ | refine w_break ?_ | refine w_cont ?_ | refine w_drop ?_ | refine w_ret ?_ | refine w_retN ?_ | refine w_if ?_ | refine w_asg ?_ | refine w_raise ?_ | refine w_fld ?_ | refine w_seta ?_ | refine w_auga ?_ | refine w_seti ?_ | refine w_mut ?_ | refine w_new ?_ | refine w_ext ?_ | refine w_for ?_ | refine w_lc ?_ | refine w_tryA ?_ | refine w_try ?_ | refine w_par ?_))
local macro_rules | `(tactic| array_mem_dec) => `(tactic| (first | ((with_reducible apply w_kV); exact rfl) | (with_reducible first | refine w_kC ?_ | refine w_bop ?_ | refine w_tst ?_ | refine w_val ?_ | refine w_and ?_ | refine w_or ?_ | refine w_not ?_ | refine w_andV ?_ | refine w_orV ?_ | refine w_chain ?_ | refine w_ifK ?_ | refine w_nil ?_ | refine w_cons ?_ | refine w_tup ?_ | refine w_lst ?_ | refine w_call ?_ | refine w_neg ?_ | refine w_b1 ?_ | refine w_bn ?_ | refine w_isi ?_ | refine w_met ?_ | refine w_pnone ?_ | refine w_psome ?_ | refine w_cut ?_ | refine w_yes ?_)))
local macro_rules | `(tactic| array_get_dec) => `(tactic| (with_reducible refine w_seqB ?_))
local macro_rules | `(tactic| array_get_dec) => `(tactic| array_mem_dec)
local macro_rules | `(tactic| decreasing_trivial_pre_omega) => `(tactic| (with_reducible refine w_seq ?_))
local macro_rules | `(tactic| decreasing_trivial_pre_omega) => `(tactic| array_mem_dec)
local macro_rules | `(tactic| sizeOf_list_dec) => `(tactic| (try simp only [List.set, Int.reduceToNat, List.map_cons, List.map_nil, Nat.reduceSub, List.reduceReplicate, List.cons_append, List.nil_append, wipeA, aset_aset, List.getElem?_cons_zero, List.getElem?_cons_succ]))
variable {CR CS CF CP gX : Nat} {α : AH} {Q : QD} {E : QX}
theorem w_eqI {C : Nat} {fm : Fm} {ma mb : ME} {ρ : En} (h : ma ρ α (fun d α1 => mb ρ α1 (fun e α2 => oq (vw α2 d) fun d' => oq (vw α2 e) fun e' => (isOb C d' = true ∧ (isOb C e' = true ∨ isSq e' = true)) ∧ fm [d, e] α2 (fun r α3 => ∃ b, r = .bool b ∧ Q (.bool b) α3) NX) E) E) : eqIK C fm ma mb ρ α Q E := h
theorem dEqB_self {d : D} (h : okD 60 d = true) : dEqB d d = some true := by
  have e := PySem.SeqAt.eqv_refl _ (okD_ok 60 _ h).1
  unfold dEqB
  cases d with
  | str s => simp
  | _ => simp only [h, e, and_self, if_true]
theorem oq_ne_self {d : D} {R : D → Prop} (h : okD 60 d = true) (q : R (.bool false)) : oq (dNe d d) R := oq_ne_d (dEqB_self h) q
theorem ru_go {β : AH} {p : Addr} {e t : D} (q : Q .none (aset β p (oD CR [(.str "each", e), (.str "total", t)]))) : f_Rule_init CR CS CF CP gX [dref p, e, t] (aset β p (oD CR [])) Q E := by
  unfold f_Rule_init m_Rule_init
  refine w_runF rfl ?_
  sizeOf_list_dec
  (repeat' decreasing_trivial_pre_omega)
  refine ⟨by show (0 : Nat) < 900; decide, ?_⟩
  (repeat' decreasing_trivial_pre_omega)
  refine ⟨by show (1 : Nat) < 900; decide, ?_⟩
  (repeat' decreasing_trivial_pre_omega)
  simp only [aset_aset]
  exact q
theorem ru_k {a b : Int} {ρ : En} (h : Q (ruD CR a b) α) : frzK (mkK CR 2 (f_Rule_init CR CS CF CP gX) [] (consK (kC (.int a)) (consK (kC (.int b)) nilK))) ρ α Q E := by
  refine w_frz ?_
  (repeat' array_get_dec)
  refine ⟨rfl, fun r hr => ?_⟩
  refine ru_go ?_
  refine ⟨rfl, ?_⟩
  refine fr_of aset_same ?_
  rw [adel_aset hr]
  exact h
theorem isi_y {e t : Int} {R : Bool → Prop} (h : R true) : oq (isiCB CR (ruD CR e t)) R := ⟨true, by
  have h2 : isOb CR (ruD CR e t) = true := by
    unfold isOb ruD oD
    simp
  show (if _ then _ else _) = _
  simp [h2], h⟩
theorem req_go {a b c d : Int} (h : Q (.bool (decide (a = c ∧ b = d))) α) : f_Rule_eq CR CS CF CP gX [ruD CR a b, ruD CR c d] α Q E := by
  refine (?_ : pu _ _ _) α Q E h
  unfold f_Rule_eq m_Rule_eq
  refine pu_P rfl fun α R X hR => ?_
  sizeOf_list_dec
  (repeat' array_get_dec)
  refine isi_y ?_
  (repeat' array_get_dec)
  (refine bar_of ?_; sizeOf_list_dec; (repeat' array_get_dec))
  have e : dEqB (.tuple [.int a, .int b]) (.tuple [.int c, .int d]) = some (decide (a = c ∧ b = d)) := by
    have := dEqB_it [a, b] [c, d]
    rw [show (decide ([a, b] = [c, d])) = decide (a = c ∧ b = d) by simp] at this
    exact this
  refine oq_eq_d e ?_
  (repeat' array_get_dec)
  exact hR
theorem req_t {a b : Int} {ds : List D} (h : Q (.bool false) α) : f_Rule_eq CR CS CF CP gX [ruD CR a b, .tuple ds] α Q E := by
  refine (?_ : pu _ _ _) α Q E h
  unfold f_Rule_eq m_Rule_eq
  refine pu_P rfl fun α R X hR => ?_
  sizeOf_list_dec
  (repeat' array_get_dec)
  refine ⟨false, rfl, ?_⟩
  (repeat' array_get_dec)
  exact hR
theorem ru_ob {a b : Int} : isOb CR (ruD CR a b) = true := by
  unfold isOb ruD oD
  simp
theorem eq_y {a b c d : Int} {z : Bool} {ρ : En} (e : decide (a = c ∧ b = d) = z) (h : Q (.bool z) α) : eqIK CR (f_Rule_eq CR CS CF CP gX) (frzK (mkK CR 2 (f_Rule_init CR CS CF CP gX) [] (consK (kC (.int a)) (consK (kC (.int b)) nilK)))) (frzK (mkK CR 2 (f_Rule_init CR CS CF CP gX) [] (consK (kC (.int c)) (consK (kC (.int d)) nilK)))) ρ α Q E :=
  w_eqI (ru_k (ru_k ⟨_, rfl, _, rfl, ⟨ru_ob, .inl ru_ob⟩, req_go ⟨z, by rw [e], h⟩⟩))
theorem eq_n {a b c d : Int} {ρ : En} (h : Q (.bool false) α) : eqIK CR (f_Rule_eq CR CS CF CP gX) (frzK (mkK CR 2 (f_Rule_init CR CS CF CP gX) [] (consK (kC (.int a)) (consK (kC (.int b)) nilK)))) (tupK (consK (kC (.int c)) (consK (kC (.int d)) nilK))) ρ α Q E :=
  w_eqI (ru_k (w_tup (w_cons (w_kC (w_cons (w_kC (w_nil ⟨by show 2 ≤ 100000; decide, _, rfl, _, rfl, ⟨ru_ob, .inr rfl⟩, req_t ⟨false, rfl, h⟩⟩)))))))
/-- all that stands: the store's rows m, the law's rows l -/
structure J (CS : Nat) (α : AH) (p : Addr) (A : Ads) (q : Addr) (m l : List Rw) : Prop where
  dr : DrAt p α
  st : ∃ w, ST CS α A m w
  ls : α q = some (.list (l.map rD))
  pA : p ∉ A.all
  qA : q ∉ A.all
  pq : p ≠ q
  ok : ∀ r ∈ l, okR r ∧ r.1 ∈ NM
theorem J.but {p q : Addr} {A : Ads} {m l : List Rw} {α' : AH} (h : J CS α p A q m l) (D : DrAt p α') (B : But p α α') : J CS α' p A q m l := by
  obtain ⟨h1, ⟨w, h2⟩, h3, h4, h5, h6, h7⟩ := h
  exact ⟨D, ⟨w, StAt.but h2 h4 B⟩, (B q (Ne.symm h6)).trans h3, h4, h5, h6, h7⟩
/-- the store has new rows -/
theorem J.sto {p q : Addr} {A : Ads} {m m' l : List Rw} {α' : AH} {w : Int} (h : J CS α p A q m l) (S : ST CS α' A m' w) (O : Oth A α α') : J CS α' p A q m' l := by
  obtain ⟨h1, _, h3, h4, h5, h6, h7⟩ := h
  obtain ⟨a, b, h1⟩ := h1
  exact ⟨⟨a, b, (O p h4).trans h1⟩, ⟨w, S⟩, (O q h5).trans h3, h4, h5, h6, h7⟩
/-- the law's list is another -/
theorem J.law {p q : Addr} {A : Ads} {m l l' : List Rw} (h : J CS α p A q m l) (hl : ∀ r ∈ l', okR r ∧ r.1 ∈ NM) : J CS (Hz.aset α q (.list (l'.map rD))) p A q m l' := by
  obtain ⟨h1, ⟨w, h2⟩, h3, h4, h5, h6, h7⟩ := h
  obtain ⟨a, b, h1⟩ := h1
  exact ⟨⟨a, b, by rw [aset_ne h6]; exact h1⟩, ⟨w, h2.put h5⟩, aset_same, h4, h5, h6, hl⟩
/-- .. in a new cell -/
theorem J.new {p q q' : Addr} {A : Ads} {m l l' : List Rw} (h : J CS α p A q m l) (hq : α q' = none) (hl : ∀ r ∈ l', okR r ∧ r.1 ∈ NM) : J CS (Hz.aset α q' (.list (l'.map rD))) p A q' m l' := by
  obtain ⟨h1, ⟨w, h2⟩, h3, h4, h5, h6, h7⟩ := h
  have n1 : p ≠ q' := fun e => by
    have := h1.isS
    rw [e, hq] at this
    cases this
  have n2 : q' ∉ A.all := fun hm => by
    have := StAt.isS h2 q' hm
    rw [hq] at this
    cases this
  obtain ⟨a, b, h1⟩ := h1
  exact ⟨⟨a, b, by rw [aset_ne n1]; exact h1⟩, ⟨w, h2.put n2⟩, aset_same, h4, n2, n1, hl⟩
def YS : List Str := ["Z9", "a", "a/b", "b", "c", "longer/names/are/here/abcdefghijklmnopqr"]
theorem YS_s : PyProof.Rows.sortedS YS = true := by decide +kernel
theorem YS_n : YS.Nodup := by decide +kernel
theorem YS_p : YS.Perm NM := List.isPerm_iff.mp (by decide +kernel)
theorem YS_m : ∀ n, n ∈ NM ↔ n ∈ YS := fun n => YS_p.mem_iff.symm
theorem law_td {q : Addr} {l : List Rw} {e t : Int} (hq : α q = some (.list (l.map rD))) (hl : l.length < 64) (ok : ∀ x ∈ l, okR x ∧ x.1 ∈ NM) (he : 0 ≤ e) (ht : 0 ≤ t)
    (h : Q (.list ((tdy e.toNat t YS l).1.map rD)) (Hz.aset α q (.list ((tdy e.toNat t YS l).2.map rD)))) : f_law_tidied CR CS CF CP gX [dref q, .int e, .int t] α Q E :=
  tidied_go hq hl (fun x hx => (ok x hx).1) he ht fun ys y1 y2 => by
    obtain rfl := sS_eq (y1.trans YS_p.symm) y2 YS_s
    exact h
theorem td_ok {e : Nat} {t : Int} {l : List Rw} (h : ∀ r ∈ l, okR r ∧ r.1 ∈ NM) : ∀ r ∈ (tdy e t YS l).2, okR r ∧ r.1 ∈ NM := fun r hr => h r (tdy_mem hr)
theorem td_ok1 {e : Nat} {t : Int} {l : List Rw} (h : ∀ r ∈ l, okR r ∧ r.1 ∈ NM) : ∀ r ∈ (tdy e t YS l).1, okR r := fun r hr => (h r (tdy_mem1 hr)).1
theorem kD_ok {l : List Rw} : okD 60 (.list (l.map kD)) = true := by
  show (l.map kD).all (okD 59) = true
  rw [List.all_eq_true]
  intro d hd
  obtain ⟨r, _, rfl⟩ := List.mem_map.mp hd
  show (okD 58 (ve r.2.1) && (okD 58 (ctD r.2.2) && true)) = true
  rw [okD_ve 56, show okD 58 (ctD r.2.2) = true from okD_ints 57 _]
  rfl
theorem addR_nm {r : Rw} {l : List Rw} (h : ∀ x ∈ l, okR x ∧ x.1 ∈ NM) (hr : okR r ∧ r.1 ∈ NM) : ∀ x ∈ addR r l, okR x ∧ x.1 ∈ NM := fun x hx => by
  rcases addR_mem hx with h' | rfl
  · exact h x h'
  · exact hr
theorem law_true (CR CS CF CP gX : Nat) (ns : List Int) (hns : ns.length ≤ 63) : f_law CR CS CF CP gX [scriptD ns] (fun _ => none) (fun d _ => d = .bool true) (fun _ _ => False) := by
  unfold f_law m_law
  refine w_runF rfl ?_
  sizeOf_list_dec
  generalize (fun _ => none : AH) = α0
  (repeat' array_get_dec)
  intro p hp
  (repeat' array_get_dec)
  (refine bar_of ?_; sizeOf_list_dec; (repeat' array_get_dec))
  intro x hx
  (repeat' array_get_dec)
  rw [adel_aset hx]
  refine ⟨rfl, fun st hst => ?_⟩
  refine st_go aset_same fun α1 A hA S O fresh => ?_
  subst hA
  refine ⟨rfl, ?_⟩
  (repeat' array_get_dec)
  (refine bar_of ?_; sizeOf_list_dec; (repeat' array_get_dec))
  intro q hq
  have np : A.p ≠ p := (aset_none hst).1
  have hpA : p ∉ A.all := fun hm => by
    have := fresh p hm (Ne.symm np)
    rw [aset_ne (Ne.symm np), aset_same] at this
    cases this
  have hqA : q ∉ A.all := fun hm => by
    have := StAt.isS S q hm
    rw [hq] at this
    cases this
  have D1 : α1 p = some (.list [.int 0, .int 0]) := by rw [O p hpA, aset_ne (Ne.symm np), aset_same]
  have npq : p ≠ q := fun e => by rw [e, hq] at D1; cases D1
  have J0 : J CS (Hz.aset α1 q (.list [])) p A q [] [] := ⟨⟨0, 0, by rw [aset_ne npq]; exact D1⟩, ⟨0, ST.put S hqA⟩, aset_same, hpA, hqA, npq, by simp⟩
  clear D1 S O fresh
  generalize Hz.aset α1 q (.list []) = α2 at *
  (repeat' array_get_dec)
  (refine bar_of ?_; sizeOf_list_dec; (repeat' array_get_dec))
  refine dr_go J0.dr (by decide) fun n α3 n0 n1 D3 B3 => ?_
  replace J0 := J0.but D3 B3
  clear D3 B3
  (repeat' array_get_dec)
  refine for_nums (fun k ρ α' => ∃ q l x4 x5 x6 x7 x8 x9 x10 x11 x12, ρ = [some (scriptD ns), some (dref p), some (dref A.p), some (dref q), x4, x5, x6, x7, x8, x9, x10, x11, x12] ∧ J CS α' p A q l l ∧ l.length ≤ k) ⟨q, [], none, none, none, none, none, none, none, none, none, rfl, J0, by simp⟩ ?_ ?_
  · rintro ρ α' ⟨q, l, x4, x5, x6, x7, x8, x9, x10, x11, x12, rfl, J1, hl⟩
    (repeat' array_get_dec)
    (refine bar_of ?_; sizeOf_list_dec; (repeat' array_get_dec))
    refine eq_y (z := true) (by decide) ?_
    (repeat' array_get_dec)
    refine eq_y (z := false) (by decide) ?_
    (repeat' array_get_dec)
    refine eq_n ?_
    (repeat' array_get_dec)
    rfl
  · rintro k hk ρ α' ⟨q, l, x4, x5, x6, x7, x8, x9, x10, x11, x12, rfl, J1, hl⟩ X hX
    have hk21 : k < 21 := by omega
    sizeOf_list_dec
    (repeat' array_get_dec)
    refine w_frz ?_
    (repeat' array_get_dec)
    refine dr_go J1.dr (by decide) fun e α4 e0 e1 D4 B4 => ?_
    replace J1 := J1.but D4 B4
    (repeat' array_get_dec)
    refine dr_go J1.dr (by decide) fun t α5 t0 t1 D5 B5 => ?_
    replace J1 := J1.but D5 B5
    (repeat' array_get_dec)
    refine ⟨rfl, fun r hr => ?_⟩
    refine ru_go ?_
    refine ⟨rfl, ?_⟩
    refine ⟨r, _, rfl, aset_same, ?_⟩
    rw [adel_aset hr, show oD CR [(.str "each", .int e), (.str "total", .int t)] = ruD CR e t from rfl]
    (repeat' array_get_dec)
    (refine bar_of ?_; sizeOf_list_dec; (repeat' array_get_dec))
    refine name_go J1.dr fun n α6 hn D6 B6 => ?_
    replace J1 := J1.but D6 B6
    (repeat' array_get_dec)
    (refine bar_of ?_; sizeOf_list_dec; (repeat' array_get_dec))
    refine dr_go J1.dr (by decide) fun v1 α7 _ _ D7 B7 => ?_
    replace J1 := J1.but D7 B7
    (repeat' array_get_dec)
    refine dr_go J1.dr (by decide) fun v2 α8 _ _ D8 B8 => ?_
    replace J1 := J1.but D8 B8
    (repeat' array_get_dec)
    rw [show PyData.tuple [.tuple [.int (1 + v1), .int (1 + v2)]] = ve (1 + v1, 1 + v2) from rfl]
    generalize (1 + v1, 1 + v2) = v
    (refine bar_of ?_; sizeOf_list_dec; (repeat' array_get_dec))
    refine dr_go J1.dr (by decide) fun kd α9 _ _ D9 B9 => ?_
    replace J1 := J1.but D9 B9
    clear D4 B4 D5 B5 D6 B6 D7 B7 D8 B8 D9 B9
    have hn' := NM_ok n hn
    (repeat' array_get_dec)
    refine bar_of ?_
    sizeOf_list_dec
    refine w_seqI (fun ρ α' => ∃ q l x4 x7 x8 x9 x10 x11 x12, ρ = [some (scriptD ns), some (dref p), some (dref A.p), some (dref q), x4, some (ruD CR e t), some (.str n), x7, x8, x9, x10, x11, x12] ∧ J CS α' p A q l l ∧ l.length ≤ k + 1) ?_ fun Y hY => ?_
    · clear J1 hl q l
      rintro ρ α' ⟨q, l, x4, x7, x8, x9, x10, x11, x12, rfl, J1, hl⟩
      obtain ⟨w, S1⟩ := J1.st
      have hq := J1.ls
      have ok := fun r hr => (J1.ok r hr).1
      have ol : okD 60 (.list (l.map rD)) = true := rDs_ok ok 56
      (repeat' array_get_dec)
      refine meth_st S1 rfl rfl ?_
      (repeat' array_get_dec)
      refine at_go S1 (by omega) ?_
      (repeat' array_get_dec)
      refine oq_ne_self ol ?_
      (repeat' array_get_dec)
      refine size_go S1 (by omega) ?_
      (repeat' array_get_dec)
      refine lc_map l rD (fun r => .int (r.2.2.length : Int)) rfl (by omega) hq (fun x hx => ?_) ?_
      · refine ⟨_, rfl, ?_⟩
        intro R hR
        sizeOf_list_dec
        (repeat' decreasing_trivial_pre_omega)
        unfold rD
        (repeat' decreasing_trivial_pre_omega)
        unfold ctD
        (repeat' decreasing_trivial_pre_omega)
        rw [List.length_map]
        exact hR
      · (repeat' array_get_dec)
        refine oq_sum (f := fun r : Rw => (r.2.2.length : Int)) ?_
        (repeat' array_get_dec)
        refine oq_ne_self (d := .int (size l)) rfl ?_
        (repeat' array_get_dec)
        (refine bar_of ?_; sizeOf_list_dec; (repeat' array_get_dec))
        refine kept_go S1 (by omega) ?_
        (repeat' array_get_dec)
        refine lc_fm l rD (nm n) kD rfl (by omega) hq (fun x hx => ?_) ?_
        · refine ⟨_, rfl, fun R hR => ?_, fun _ R hR => ?_⟩
          · sizeOf_list_dec
            (repeat' decreasing_trivial_pre_omega)
            unfold rD
            (repeat' decreasing_trivial_pre_omega)
            exact hR
          · sizeOf_list_dec
            (repeat' decreasing_trivial_pre_omega)
            unfold rD
            (repeat' decreasing_trivial_pre_omega)
            exact hR
        · (repeat' array_get_dec)
          refine oq_ne_self (d := .list ((fil n l).map kD)) kD_ok ?_
          (repeat' array_get_dec)
          exact hX _ _ ⟨q, l, _, _, _, _, _, _, _, _, _, rfl, J1, hl⟩
    · obtain ⟨w, S1⟩ := J1.st
      have hq := J1.ls
      have ok := fun r hr => (J1.ok r hr).1
      have okm := J1.ok
      have hys : ∀ x ∈ l, x.1 ∈ YS := fun x hx => (YS_m _).mp (okm x hx).2
      refine w_if ?_
      (repeat' array_get_dec)
      · refine cont_go J1.dr fun c α10 hc D10 B10 => ?_
        replace J1 := J1.but D10 B10
        clear S1 hq D10 B10
        have hr : okR (n, v, c) ∧ n ∈ NM := ⟨⟨hn', hc⟩, hn⟩
        have hla := addR_len (r := (n, v, c)) (l := l)
        (repeat' array_get_dec)
        refine bar_of ?_
        sizeOf_list_dec
        refine w_seqI (fun ρ α' => ρ = [some (scriptD ns), some (dref p), some (dref A.p), some (dref q), some (.int (0 + (k : Nat))), some (ruD CR e t), some (.str n), some (ve v), some (.int kd), some (ctD c), x10, x11, x12] ∧ J CS α' p A q l (addR (n, v, c) l)) ?_ fun Z hZ => ?_
        · rintro ρ α' ⟨rfl, J2⟩
          (repeat' array_get_dec)
          refine law_td J2.ls (by omega) J2.ok e0 t0 ?_
          have J3 := J2.law (td_ok (e := e.toNat) (t := t) J2.ok)
          have h1 := td_ok1 (e := e.toNat) (t := t) J2.ok
          obtain ⟨w3, S3⟩ := J3.st
          have hlt := tdy_len (each := e.toNat) (t := t) (ys := YS) (l := addR (n, v, c) l)
          (repeat' array_get_dec)
          (refine bar_of ?_; sizeOf_list_dec; (repeat' array_get_dec))
          refine keep_go (r := (n, v, c)) (ys := YS) S3 (by omega) ok hr.1 e0 t0 YS_s YS_n hys ((YS_m n).mp hn) fun α11 w11 S11 O11 => ?_
          have J4 := J3.sto S11 O11
          (repeat' array_get_dec)
          refine oq_ne_self (rDs_ok h1 56) ?_
          (repeat' array_get_dec)
          exact hY _ _ ⟨q, _, _, _, _, _, _, _, _, rfl, J4, by omega⟩
        · obtain ⟨w10, S10⟩ := J1.st
          have hq := J1.ls
          (repeat' array_get_dec)
          refine oq_notIn_r (r := (n, v, c)) ok hr.1 ?_
          (repeat' array_get_dec)
          · rename_i hm
            refine hZ _ _ ⟨rfl, ?_⟩
            have hm' : (n, v, c) ∈ l := by simpa using hm
            unfold addR
            rw [if_pos hm']
            exact J1
          · rename_i hm
            refine oq_append (by rw [List.length_map]; omega) ?_
            (repeat' array_get_dec)
            have hm' : (n, v, c) ∉ l := by simpa using hm
            have J2 := J1.law (l' := addR (n, v, c) l) (addR_nm J1.ok hr)
            have e : (addR (n, v, c) l).map rD = l.map rD ++ [.tuple [.str n, ve v, ctD c]] := by
              unfold addR
              rw [if_neg hm', List.map_append]
              rfl
            rw [e] at J2
            exact hZ _ _ ⟨rfl, J2⟩
      · refine tidy_go (ys := YS) S1 (by omega) ok e0 t0 YS_s YS_n hys fun α11 w11 S11 O11 => ?_
        have J2 := J1.sto S11 O11
        (repeat' array_get_dec)
        refine law_td J2.ls (by omega) J2.ok e0 t0 ?_
        have J3 := J2.law (td_ok (e := e.toNat) (t := t) J2.ok)
        have h1 := td_ok1 (e := e.toNat) (t := t) J2.ok
        have hlt := tdy_len (each := e.toNat) (t := t) (ys := YS) (l := l)
        (repeat' array_get_dec)
        refine oq_ne_self (rDs_ok h1 56) ?_
        (repeat' array_get_dec)
        exact hY _ _ ⟨q, _, _, _, _, _, _, _, _, rfl, J3, by omega⟩
      · refine lc_fm l rD (pm n v) rD rfl (by omega) hq (fun x hx => ?_) ?_
        · refine ⟨_, rfl, fun R hR => ?_, fun _ R hR => ?_⟩
          · sizeOf_list_dec
            (repeat' array_get_dec)
            refine cut_r ?_
            (repeat' array_get_dec)
            refine oq_eq_d (dEqB_2 (ok x hx) hn') ?_
            (repeat' array_get_dec)
            exact hR
          · sizeOf_list_dec
            (repeat' decreasing_trivial_pre_omega)
            exact hR
        · (repeat' array_get_dec)
          rw [List.length_map]
          (refine bar_of ?_; sizeOf_list_dec; (repeat' array_get_dec))
          refine lc_fm l rD (fun r => !pm n v r) rD rfl (by omega) hq (fun x hx => ?_) ?_
          · refine ⟨_, rfl, fun R hR => ?_, fun _ R hR => ?_⟩
            · sizeOf_list_dec
              (repeat' array_get_dec)
              refine cut_r ?_
              (repeat' array_get_dec)
              refine oq_ne_d (dEqB_2 (ok x hx) hn') ?_
              (repeat' array_get_dec)
              exact hR
            · sizeOf_list_dec
              (repeat' decreasing_trivial_pre_omega)
              exact hR
          · (repeat' array_get_dec)
            intro q2 hq2
            have J2 := J1.new (l' := l.filter fun r => !pm n v r) hq2 fun r hr => okm r (List.mem_filter.mp hr).1
            obtain ⟨w2, S2⟩ := J2.st
            have hlt := List.length_filter_le (fun r => !pm n v r) l
            (repeat' array_get_dec)
            (refine bar_of ?_; sizeOf_list_dec; (repeat' array_get_dec))
            refine let_go S2 (by omega) ok hn' fun α11 w11 S11 O11 => ?_
            have J3 := J2.sto S11 O11
            (repeat' array_get_dec)
            refine oq_ne_self (d := .int _) rfl ?_
            (repeat' array_get_dec)
            exact hY _ _ ⟨q2, _, _, _, _, _, _, _, _, rfl, J3, by omega⟩
end K27
open PySem PySem.W PyProof.Rows in
set_option maxRecDepth 100000 in
set_option maxHeartbeats 0 in
theorem PySem.Challenge.cw_folderkin_k27_attics_holds : PySem.Challenge.rw_folderkin_k27_attics.Holds := by
  w_on; o_law; k_head; (case hw => w_witness2)
  k_fill
  refine Hz.walk_law (l := PySem.Challenge.rw_folderkin_k27_attics) (k := 7) (x := "_law_script") rfl rfl ⟨rfl, by decide, by decide⟩ (fun w h Y => PySem.W.kIn_of Y) ?F
  case F =>
    intro w mg fa h KX G hmg
    refine' K27.all_mk KX G hmg ?aC_Rule ?aC_Store ?aC_FolderkinError ?aC_PowerCut ?a0 ?i0 ?l0 ?c0 ?k0 ?a1 ?i1 ?l1 ?c1 ?k1 ?a2 ?l2 ?c2 ?k2 ?a3 ?l3 ?c3 ?k3 ?a4 ?l4 ?c4 ?k4 ?a5 ?l5 ?c5 ?k5 ?a6 ?l6 ?c6 ?k6 ?a7 ?l7 ?c7 ?k7 ?a8 ?i8 ?l8 ?c8 ?k8 ?a9 ?i9 ?l9 ?c9 ?k9 ?a10 ?i10 ?l10 ?c10 ?k10 ?a11 ?i11 ?l11 ?c11 ?k11 ?a12 ?i12 ?l12 ?c12 ?k12 ?a13 ?l13 ?c13 ?k13 ?a14 ?l14 ?c14 ?k14 ?a15 ?l15 ?c15 ?k15 ?a16 ?l16 ?c16 ?k16 ?a17 ?l17 ?c17 ?k17 ?pg_Rule ?hd_Rule ?po_Rule ?sa_Rule ?mk_Rule ?kc_Rule ?cha_Rule ?chn_Rule ?cht_Rule ?chm_Rule ?cic_Rule ?cty_Rule ?nNoneType_Rule ?nbool_Rule ?nint_Rule ?nstr_Rule ?nlist_Rule ?ntuple_Rule ?na_each_Rule ?na_total_Rule ?pg_Store ?hd_Store ?po_Store ?sa_Store ?mk_Store ?kc_Store ?cha_Store ?chn_Store ?cht_Store ?chm_Store ?cic_Store ?cty_Store ?nNoneType_Store ?nbool_Store ?nint_Store ?nstr_Store ?nlist_Store ?ntuple_Store ?na_files_Store ?na_temps_Store ?na_old_Store ?na_records_Store ?na_fresh_Store ?na_writes_Store ?na_most_Store ?lX ?cX ?oX ?vX ?fX ?ceX ?dX ?kX ?tX ?tpX ?topX ?suX ?e0_FolderkinError ?ez_FolderkinError ?e1_FolderkinError ?e2_FolderkinError ?e3_FolderkinError ?e4_FolderkinError ?e5_FolderkinError ?e6_FolderkinError ?e7_FolderkinError ?e8_FolderkinError ?e9_FolderkinError ?ea_FolderkinError ?eb_FolderkinError ?ec_FolderkinError ?ed_FolderkinError ?ee_FolderkinError ?ef_FolderkinError ?eg_FolderkinError ?eh_FolderkinError ?e0_PowerCut ?ez_PowerCut ?e1_PowerCut ?e2_PowerCut ?e3_PowerCut ?e4_PowerCut ?e5_PowerCut ?e6_PowerCut ?e7_PowerCut ?e8_PowerCut ?e9_PowerCut ?ea_PowerCut ?eb_PowerCut ?ec_PowerCut ?ed_PowerCut ?ee_PowerCut ?ef_PowerCut ?eg_PowerCut ?eh_PowerCut ?z_int ?z_isinstance ?z_len ?z_list ?z_max ?z_range ?z_set ?z_sorted ?z_sum K27.law_true
    (case aC_Rule => k_is)
    (case aC_Store => k_is)
    (case aC_FolderkinError => k_is)
    (case aC_PowerCut => k_is)
    (case ea_FolderkinError => k_is)
    (case ea_PowerCut => k_is)
    (case a0 => k_is)
    (case i0 => k_is)
    (case l0 => k_is)
    (case c0 => k_is)
    (case k0 => k_is)
    (case a1 => k_is)
    (case i1 => k_is)
    (case l1 => k_is)
    (case c1 => k_is)
    (case k1 => k_is)
    (case a2 => k_is)
    (case l2 => k_is)
    (case c2 => k_is)
    (case k2 => k_is)
    (case a3 => k_is)
    (case l3 => k_is)
    (case c3 => k_is)
    (case k3 => k_is)
    (case a4 => k_is)
    (case l4 => k_is)
    (case c4 => k_is)
    (case k4 => k_is)
    (case a5 => k_is)
    (case l5 => k_is)
    (case c5 => k_is)
    (case k5 => k_is)
    (case a6 => k_is)
    (case l6 => k_is)
    (case c6 => k_is)
    (case k6 => k_is)
    (case a7 => k_is)
    (case l7 => k_is)
    (case c7 => k_is)
    (case k7 => k_is)
    (case a8 => k_is)
    (case i8 => k_is)
    (case l8 => k_is)
    (case c8 => k_is)
    (case k8 => k_is)
    (case a9 => k_is)
    (case i9 => k_is)
    (case l9 => k_is)
    (case c9 => k_is)
    (case k9 => k_is)
    (case a10 => k_is)
    (case i10 => k_is)
    (case l10 => k_is)
    (case c10 => k_is)
    (case k10 => k_is)
    (case a11 => k_is)
    (case i11 => k_is)
    (case l11 => k_is)
    (case c11 => k_is)
    (case k11 => k_is)
    (case a12 => k_is)
    (case i12 => k_is)
    (case l12 => k_is)
    (case c12 => k_is)
    (case k12 => k_is)
    (case a13 => k_is)
    (case l13 => k_is)
    (case c13 => k_is)
    (case k13 => k_is)
    (case a14 => k_is)
    (case l14 => k_is)
    (case c14 => k_is)
    (case k14 => k_is)
    (case a15 => k_is)
    (case l15 => k_is)
    (case c15 => k_is)
    (case k15 => k_is)
    (case a16 => k_is)
    (case l16 => k_is)
    (case c16 => k_is)
    (case k16 => k_is)
    (case a17 => k_is)
    (case l17 => k_is)
    (case c17 => k_is)
    (case k17 => k_is)
    (case pg_Rule => k_is)
    (case hd_Rule => k_is)
    (case po_Rule => k_is)
    (case sa_Rule => k_is)
    (case mk_Rule => k_is)
    (case kc_Rule => k_is)
    (case cha_Rule => k_is)
    (case chn_Rule => k_is)
    (case cht_Rule => k_is)
    (case chm_Rule => k_is)
    (case cic_Rule => k_is)
    (case cty_Rule => k_is)
    (case nNoneType_Rule => k_is)
    (case nbool_Rule => k_is)
    (case nint_Rule => k_is)
    (case nstr_Rule => k_is)
    (case nlist_Rule => k_is)
    (case ntuple_Rule => k_is)
    (case na_each_Rule => k_is)
    (case na_total_Rule => k_is)
    (case pg_Store => k_is)
    (case hd_Store => k_is)
    (case po_Store => k_is)
    (case sa_Store => k_is)
    (case mk_Store => k_is)
    (case kc_Store => k_is)
    (case cha_Store => k_is)
    (case chn_Store => k_is)
    (case cht_Store => k_is)
    (case chm_Store => k_is)
    (case cic_Store => k_is)
    (case cty_Store => k_is)
    (case nNoneType_Store => k_is)
    (case nbool_Store => k_is)
    (case nint_Store => k_is)
    (case nstr_Store => k_is)
    (case nlist_Store => k_is)
    (case ntuple_Store => k_is)
    (case na_files_Store => k_is)
    (case na_temps_Store => k_is)
    (case na_old_Store => k_is)
    (case na_records_Store => k_is)
    (case na_fresh_Store => k_is)
    (case na_writes_Store => k_is)
    (case na_most_Store => k_is)
    (case lX => k_is)
    (case cX => k_is)
    (case oX => k_is)
    (case vX => rfl)
    (case fX => decide +kernel)
    (case ceX => k_is)
    (case dX => k_is)
    (case kX => k_is)
    (case tX => k_is)
    (case tpX => k_is)
    (case topX => decide +kernel)
    (case suX => k_is)
    (case e0_FolderkinError => k_is)
    (case ez_FolderkinError => rfl)
    (case e1_FolderkinError => k_is)
    (case e2_FolderkinError => k_is)
    (case e3_FolderkinError => k_is)
    (case e4_FolderkinError => k_is)
    (case e5_FolderkinError => k_is)
    (case e6_FolderkinError => k_is)
    (case e7_FolderkinError => ks_is)
    (case e8_FolderkinError => k_is)
    (case e9_FolderkinError => k_is)
    (case eb_FolderkinError => k_is)
    (case ec_FolderkinError => k_is)
    (case ed_FolderkinError => k_is)
    (case ee_FolderkinError => k_is)
    (case ef_FolderkinError => k_is)
    (case eg_FolderkinError => k_is)
    (case eh_FolderkinError => k_is)
    (case e0_PowerCut => k_is)
    (case ez_PowerCut => rfl)
    (case e1_PowerCut => k_is)
    (case e2_PowerCut => k_is)
    (case e3_PowerCut => k_is)
    (case e4_PowerCut => k_is)
    (case e5_PowerCut => k_is)
    (case e6_PowerCut => k_is)
    (case e7_PowerCut => ks_is)
    (case e8_PowerCut => k_is)
    (case e9_PowerCut => k_is)
    (case eb_PowerCut => k_is)
    (case ec_PowerCut => k_is)
    (case ed_PowerCut => k_is)
    (case ee_PowerCut => k_is)
    (case ef_PowerCut => k_is)
    (case eg_PowerCut => k_is)
    (case eh_PowerCut => k_is)
    (case z_int => k_is)
    (case z_isinstance => k_is)
    (case z_len => k_is)
    (case z_list => k_is)
    (case z_max => k_is)
    (case z_range => k_is)
    (case z_set => k_is)
    (case z_sorted => k_is)
    (case z_sum => k_is)
