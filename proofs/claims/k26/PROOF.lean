import PyProof.Rows.All
import Wide.All
import OpenK.AllK
import Wide.FinOn
import HandS.ForMost
import HandS.ForExc
import HandS.CallSlots
import HandS.IsInst
import HandS.TupAny
import HandS.Deep
import HandS.Wide
import HandS.Zip
import KE.DataCmp
import HandS.OwnEq
import HandS.SlotsOwn
import HandS.Defaults
import HandS.ExcInit
import HandS.ExcSuper
import HandS.ExcField
import HandS.ExcIs
import KE.KSuper
import KE.KExcSuper
import HandS.TryOnly
import HandS.Iter
import HandS.More
import HandS.Replace
import HandS.StrMore
import PyProof.Rows.StrRev
import HandS.Style
import KE.DatumOrd
import PyProof.StrLawsFirst
import PyProof.StrLawsChain
import PyProof.Rows.StrDouble
import PyProof.StrOps2
import HandS.WordsDict
import HandS.DictEq
import HandS.WideBits
import KE.GoesComp
import KE.GoesRaise
import HandS.Strs
import HandS.Set
import HandS.SetFor
import PyProof.Rows.SortShellAny
import PySem.Challenge.RW_folderkin_k26_whole_pulls
import KE.RegKSuper
set_option Elab.async false
set_option linter.all false
set_option maxRecDepth 100000
set_option maxHeartbeats 4000000
namespace Hz
open PySem L2
abbrev D := PyData
abbrev Frag := PySem.W.Frag
/-- the heap without the addresses that B hides -/
def hide (B : Addr → Bool) (H : Hp) : Hp := fun a => if B a = true then none else H a
def Sub (H H' : Hp) : Prop := ∀ a o, H a = some o → H' a = some o
theorem Sub.refl (H : Hp) : Sub H H := fun _ _ h => h
theorem Sub.trans {H H1 H2 : Hp} (a : Sub H H1) (b : Sub H1 H2) : Sub H H2 := fun x o h => b x o (a x o h)
theorem hide_some {B : Addr → Bool} {H : Hp} {a : Addr} {o : HO} (h : hide B H a = some o) : B a = false ∧ H a = some o := by
  unfold hide at h
  split at h
  · cases h
  · rename_i q
    exact ⟨by simpa using q, h⟩
theorem hide_of {B : Addr → Bool} {H : Hp} {a : Addr} {o : HO} (b : B a = false) (h : H a = some o) : hide B H a = some o := by
  unfold hide
  rw [b]
  exact h
theorem hide_sub (B : Addr → Bool) (H : Hp) : Sub (hide B H) H := fun a o h => (hide_some h).2
theorem Sub.new {H : Hp} {p : Addr} {o : HO} (h : H p = none) : Sub H (upd H p o) := fun a u e => by
  rw [upd_ne (ne_of_none e h)]
  exact e
def kD : Key → D
  | .inl i => .int i
  | .inr x => .str x
/-- a tuple that begins with a pair of a whole number and something: its object is known -/
def needX : List D → Bool
  | .tuple [.int _, _] :: _ => true
  | _ => false
def ExT (o : Obj) : Prop := o.cls = .type "tuple" ∧ o.dict = none
def XT (H : Hp) (a : Addr) : Prop := ∃ (o : Obj) (u : HO), H a = some (.frz o u) ∧ ExT o
theorem XT.mono {H H' : Hp} {a : Addr} (e : Sub H H') (h : XT H a) : XT H' a := let ⟨o, u, h1, h2⟩ := h; ⟨o, u, e _ _ h1, h2⟩
mutual
/-- v, in H, is the datum d -/
inductive Rp (K : Frag) (H : Hp) : V → D → Prop
  | non : Rp K H .non .none
  | bl (b : Bool) : Rp K H (.bl b) (.bool b)
  | int (i : Int) : Rp K H (.int i) (.int i)
  | str (x : Str) : Rp K H (.str x) (.str x)
  | lst {a : Addr} {xs : List V} {ds : List D} : SqL K H a xs → RpL K H xs ds → Rp K H (.ref a) (.list ds)
  | tup {a : Addr} {xs : List V} {ds : List D} : SqT K H a xs → RpL K H xs ds → (needX ds = true → XT H a) → Rp K H (.ref a) (.tuple ds)
  | dct {a : Addr} {kvs : List (Key × V)} {ds : List (D × D)} : Rd H a (.dK kvs) → RpK K H kvs ds → Rp K H (.ref a) (.dict ds)
  | obj {a C dx : Addr} {fs : List (Str × V)} {ds : List (D × D)} : H a = some (.ins C dx fs) → RpF K H fs ds → Rp K H (.ref a) (.dict ((.none, .int (Int.ofNat C)) :: ds))
  /-- a dict that stays as it is -/
  | fdc {a : Addr} {o : Obj} {kvs : List (Key × V)} {ds : List (D × D)} : H a = some (.frz o (.dK kvs)) → RpK K H kvs ds → Rp K H (.ref a) (.dict ((.none, .none) :: ds))
  | fnc {a : Addr} : Rp K H (.ref a) (.dict [(.bool true, .int (Int.ofNat a))])
  /-- a thing that may change: its address -/
  | ref {a : Addr} : Rp K H (.ref a) (.dict [(.bool false, .int (Int.ofNat a))])
  /-- a caught exception: its dict, its class -/
  | exc {a dx C : Addr} {fs : List (Str × V)} {ds : List (D × D)} : H dx = some (.xd fs) → RpF K H fs ds → Rp K H (.ref a) (.dict ((.bool true, .tuple [.int (Int.ofNat a), .int (Int.ofNat dx), .int (Int.ofNat C)]) :: ds))
inductive RpL (K : Frag) (H : Hp) : List V → List D → Prop
  | nil : RpL K H [] []
  | cons {v : V} {vs : List V} {d : D} {ds : List D} : Rp K H v d → RpL K H vs ds → RpL K H (v :: vs) (d :: ds)
inductive RpK (K : Frag) (H : Hp) : List (Key × V) → List (D × D) → Prop
  | nil : RpK K H [] []
  | cons {k : Key} {v : V} {vs : List (Key × V)} {d : D} {ds : List (D × D)} : Rp K H v d → RpK K H vs ds → RpK K H ((k, v) :: vs) ((kD k, d) :: ds)
inductive RpF (K : Frag) (H : Hp) : List (Str × V) → List (D × D) → Prop
  | nil : RpF K H [] []
  | cons {f : Str} {v : V} {vs : List (Str × V)} {d : D} {ds : List (D × D)} : Rp K H v d → RpF K H vs ds → RpF K H ((f, v) :: vs) ((.str f, d) :: ds)
end
theorem sub_rd {H H' : Hp} {a : Addr} {u : HO} (e : Sub H H') (h : Rd H a u) : Rd H' a u := by
  rcases h with h | ⟨o, h⟩
  · exact Or.inl (e a _ h)
  · exact Or.inr ⟨o, e a _ h⟩
theorem sub_l {K : Frag} {H H' : Hp} {a : Addr} {xs : List V} (e : Sub H H') (h : SqL K H a xs) : SqL K H' a xs := by
  rcases h with h | h
  · exact Or.inl (sub_rd e h)
  · exact Or.inr h
theorem sub_t {K : Frag} {H H' : Hp} {a : Addr} {xs : List V} (e : Sub H H') (h : SqT K H a xs) : SqT K H' a xs := by
  rcases h with h | h
  · exact Or.inl (sub_rd e h)
  · exact Or.inr h
mutual
theorem Rp.mono {K : Frag} {H H' : Hp} (e : Sub H H') : ∀ {v : V} {d : D}, Rp K H v d → Rp K H' v d
  | _, _, .non => .non
  | _, _, .bl b => .bl b
  | _, _, .int i => .int i
  | _, _, .str x => .str x
  | _, _, .lst h r => .lst (sub_l e h) (RpL.mono e r)
  | _, _, .tup h r x => .tup (sub_t e h) (RpL.mono e r) fun n => (x n).mono e
  | _, _, .dct h r => .dct (sub_rd e h) (RpK.mono e r)
  | _, _, .obj h r => .obj (e _ _ h) (RpF.mono e r)
  | _, _, .fdc h r => .fdc (e _ _ h) (RpK.mono e r)
  | _, _, .fnc => .fnc
  | _, _, .ref => .ref
  | _, _, .exc h r => .exc (e _ _ h) (RpF.mono e r)
theorem RpL.mono {K : Frag} {H H' : Hp} (e : Sub H H') : ∀ {v : List V} {d : List D}, RpL K H v d → RpL K H' v d
  | _, _, .nil => .nil
  | _, _, .cons h r => .cons (Rp.mono e h) (RpL.mono e r)
theorem RpK.mono {K : Frag} {H H' : Hp} (e : Sub H H') : ∀ {v : List (Key × V)} {d : List (D × D)}, RpK K H v d → RpK K H' v d
  | _, _, .nil => .nil
  | _, _, .cons h r => .cons (Rp.mono e h) (RpK.mono e r)
theorem RpF.mono {K : Frag} {H H' : Hp} (e : Sub H H') : ∀ {v : List (Str × V)} {d : List (D × D)}, RpF K H v d → RpF K H' v d
  | _, _, .nil => .nil
  | _, _, .cons h r => .cons (Rp.mono e h) (RpF.mono e r)
end
theorem RpL.length {K : Frag} {H : Hp} : ∀ {vs : List V} {ds : List D}, RpL K H vs ds → vs.length = ds.length
  | _, _, .nil => rfl
  | _, _, .cons _ r => by rw [List.length_cons, List.length_cons, RpL.length r]
theorem RpL.get' {K : Frag} {H : Hp} : ∀ {vs : List V} {ds : List D} {i : Nat} {d : D}, RpL K H vs ds → ds[i]? = some d → ∃ v, vs[i]? = some v ∧ Rp K H v d
  | _, _, _, _, .nil, e => by simp at e
  | _, _, 0, _, .cons h r, e => by
    simp at e
    subst e
    exact ⟨_, rfl, h⟩
  | _, _, i + 1, v, .cons h r, e => by
    obtain ⟨d, h1, h2⟩ := RpL.get' (i := i) (d := v) r (by simpa using e)
    exact ⟨d, by simpa using h1, h2⟩
theorem RpL.append {K : Frag} {H : Hp} : ∀ {vs us : List V} {ds es : List D}, RpL K H vs ds → RpL K H us es → RpL K H (vs ++ us) (ds ++ es)
  | _, _, _, _, .nil, s => s
  | _, _, _, _, .cons h r, s => .cons h (RpL.append r s)
theorem RpL.set {K : Frag} {H : Hp} {v : V} {d : D} (q : Rp K H v d) : ∀ {vs : List V} {ds : List D} (i : Nat), RpL K H vs ds → RpL K H (vs.set i v) (ds.set i d)
  | _, _, _, .nil => .nil
  | _, _, 0, .cons _ r => .cons q r
  | _, _, i + 1, .cons h r => .cons h (RpL.set q i r)
theorem RpL.take {K : Frag} {H : Hp} : ∀ {vs : List V} {ds : List D} (n : Nat), RpL K H vs ds → RpL K H (vs.take n) (ds.take n)
  | _, _, 0, _ => .nil
  | _, _, _ + 1, .nil => .nil
  | _, _, n + 1, .cons h r => .cons h (RpL.take n r)
theorem RpL.drop {K : Frag} {H : Hp} : ∀ {vs : List V} {ds : List D} (n : Nat), RpL K H vs ds → RpL K H (vs.drop n) (ds.drop n)
  | _, _, 0, r => r
  | _, _, _ + 1, .nil => .nil
  | _, _, n + 1, .cons _ r => RpL.drop n r
theorem RpL.ints {K : Frag} {H : Hp} : ∀ ns : List Int, RpL K H (ns.map V.int) (ns.map PyData.int)
  | [] => .nil
  | n :: ns => .cons (.int n) (RpL.ints ns)
theorem RpL.of_ints {K : Frag} {H : Hp} : ∀ {ns : List Int} {vs : List V}, RpL K H vs (ns.map PyData.int) → vs = ns.map V.int
  | [], _, h => by cases h; rfl
  | n :: ns, _, h => by
    cases h with
    | cons a b =>
      cases a
      rw [RpL.of_ints b]
      rfl
theorem RpL.strs {K : Frag} {H : Hp} : ∀ ns : List Str, RpL K H (ns.map V.str) (ns.map PyData.str)
  | [] => .nil
  | n :: ns => .cons (.str n) (RpL.strs ns)
/-- a value that may be read: its own node may be hidden, its parts are not -/
inductive Rs (K : Frag) (B : Addr → Bool) (H : Hp) : V → D → Prop
  | vis {v : V} {d : D} : Rp K (hide B H) v d → Rs K B H v d
  | lst {a : Addr} {xs : List V} {ds : List D} : SqL K H a xs → RpL K (hide B H) xs ds → Rs K B H (.ref a) (.list ds)
  | dct {a : Addr} {kvs : List (Key × V)} {ds : List (D × D)} : Rd H a (.dK kvs) → RpK K (hide B H) kvs ds → Rs K B H (.ref a) (.dict ds)
  | obj {a C dx : Addr} {fs : List (Str × V)} {ds : List (D × D)} : H a = some (.ins C dx fs) → RpF K (hide B H) fs ds → Rs K B H (.ref a) (.dict ((.none, .int (Int.ofNat C)) :: ds))
  | fdc {a : Addr} {o : Obj} {kvs : List (Key × V)} {ds : List (D × D)} : H a = some (.frz o (.dK kvs)) → RpK K (hide B H) kvs ds → Rs K B H (.ref a) (.dict ((.none, .none) :: ds))
theorem Rs.rp {K : Frag} {B : Addr → Bool} {H : Hp} {v : V} {d : D} (h : Rs K B H v d) : Rp K H v d := by
  cases h with
  | vis h => exact h.mono (hide_sub B H)
  | lst h r => exact .lst h (r.mono (hide_sub B H))
  | dct h r => exact .dct h (r.mono (hide_sub B H))
  | obj h r => exact .obj h (r.mono (hide_sub B H))
  | fdc h r => exact .fdc h (r.mono (hide_sub B H))
theorem Rs.list {K : Frag} {B : Addr → Bool} {H : Hp} {v : V} {ds : List D} (h : Rs K B H v (.list ds)) : ∃ a xs, v = .ref a ∧ SqL K H a xs ∧ RpL K (hide B H) xs ds := by
  cases h with
  | vis h =>
    cases h with
    | lst h r => exact ⟨_, _, rfl, sub_l (hide_sub B H) h, r⟩
  | lst h r => exact ⟨_, _, rfl, h, r⟩
theorem Rs.tuple {K : Frag} {B : Addr → Bool} {H : Hp} {v : V} {ds : List D} (h : Rs K B H v (.tuple ds)) : ∃ a xs, v = .ref a ∧ SqT K H a xs ∧ RpL K (hide B H) xs ds := by
  cases h with
  | vis h =>
    cases h with
    | tup h r x => exact ⟨_, _, rfl, sub_t (hide_sub B H) h, r⟩
theorem Rs.int {K : Frag} {B : Addr → Bool} {H : Hp} {v : V} {i : Int} (h : Rs K B H v (.int i)) : v = .int i := by
  cases h with
  | vis h => cases h; rfl
theorem Rs.bool {K : Frag} {B : Addr → Bool} {H : Hp} {v : V} {i : Bool} (h : Rs K B H v (.bool i)) : v = .bl i := by
  cases h with
  | vis h => cases h; rfl
theorem Rs.str {K : Frag} {B : Addr → Bool} {H : Hp} {v : V} {i : Str} (h : Rs K B H v (.str i)) : v = .str i := by
  cases h with
  | vis h => cases h; rfl
theorem Rs.none {K : Frag} {B : Addr → Bool} {H : Hp} {v : V} (h : Rs K B H v .none) : v = .non := by
  cases h with
  | vis h => cases h; rfl
theorem Rp.inti {K : Frag} {H : Hp} {v : V} {i : Int} (h : Rp K H v (.int i)) : v = .int i := by cases h; rfl
theorem Rp.booli {K : Frag} {H : Hp} {v : V} {i : Bool} (h : Rp K H v (.bool i)) : v = .bl i := by cases h; rfl
theorem Rp.stri {K : Frag} {H : Hp} {v : V} {i : Str} (h : Rp K H v (.str i)) : v = .str i := by cases h; rfl
theorem Rp.nonei {K : Frag} {H : Hp} {v : V} (h : Rp K H v .none) : v = .non := by cases h; rfl
mutual
def plain : D → Bool
  | .dict _ => false
  | .list ds => plains ds
  | .tuple ds => plains ds
  | _ => true
def plains : List D → Bool
  | [] => true
  | d :: ds => plain d && plains ds
end
mutual
theorem Rp.dp {K : Frag} {H : Hp} : ∀ {v : V} {d : D}, Rp K H v d → plain d = true → Dp K H v d
  | _, _, .non, _ => .non
  | _, _, .bl b, _ => .bl b
  | _, _, .int i, _ => .int i
  | _, _, .str x, _ => .str x
  | _, _, .lst h r, p => .lst h (RpL.dp r (by simpa [plain] using p))
  | _, _, .tup h r _, p => .tup h (RpL.dp r (by simpa [plain] using p))
  | _, _, .dct h r, p => by simp [plain] at p
  | _, _, .obj h r, p => by simp [plain] at p
  | _, _, .fdc h r, p => by simp [plain] at p
  | _, _, .fnc, p => by simp [plain] at p
  | _, _, .ref, p => by simp [plain] at p
  | _, _, .exc _ _, p => by simp [plain] at p
theorem RpL.dp {K : Frag} {H : Hp} : ∀ {v : List V} {d : List D}, RpL K H v d → plains d = true → DpAll K H v d
  | _, _, .nil, _ => .nil
  | _, _, .cons (d := d) (ds := ds) h r, p => by
    have q : plain d = true ∧ plains ds = true := by simpa [plains] using p
    exact .cons (Rp.dp h q.1) (RpL.dp r q.2)
end
end Hz
namespace Hz
open PySem L2
def OwnAt (K : Frag) (Hh : Hp) (o : Option HO) : D → Prop
  | .list ds => ∃ vs, o = some (.lst vs) ∧ RpL K Hh vs ds
  | .dict ds => ∃ kvs, o = some (.dK kvs) ∧ RpK K Hh kvs ds
  | _ => False
theorem OwnAt.mono {K : Frag} {H H' : Hp} {o : Option HO} {d : D} (e : Sub H H') (h : OwnAt K H o d) : OwnAt K H' o d := by
  cases d with
  | list ds => obtain ⟨vs, a, b⟩ := h; exact ⟨vs, a, b.mono e⟩
  | dict ds => obtain ⟨vs, a, b⟩ := h; exact ⟨vs, a, b.mono e⟩
  | _ => exact h.elim
theorem OwnAt.ne {K : Frag} {H : Hp} {o : Option HO} {d : D} (h : OwnAt K H o d) : ∃ u, o = some u := by
  cases d with
  | list ds => obtain ⟨vs, a, b⟩ := h; exact ⟨_, a⟩
  | dict ds => obtain ⟨vs, a, b⟩ := h; exact ⟨_, a⟩
  | _ => exact h.elim
/-- what stands at a cell -/
inductive CellAt (K : Frag) (Hh : Hp) : Option HO → D → Prop
  | own {o : Option HO} {d : D} : OwnAt K Hh o d → CellAt K Hh o d
  | obj {C dx : Addr} {fs : List (Str × V)} {ds : List (D × D)} : RpF K Hh fs ds → CellAt K Hh (some (.ins C dx fs)) (.dict ((.none, .int (Int.ofNat C)) :: ds))
  /-- a dict that is walked: it stays as it is -/
  | lck {o : Obj} {kvs : List (Key × V)} {ds : List (D × D)} : RpK K Hh kvs ds → CellAt K Hh (some (.frz o (.dK kvs))) (.dict ((.none, .none) :: ds))
theorem CellAt.mono {K : Frag} {H H' : Hp} {o : Option HO} {d : D} (e : Sub H H') (h : CellAt K H o d) : CellAt K H' o d := by
  cases h with
  | own h => exact .own (h.mono e)
  | obj h => exact .obj (h.mono e)
  | lck h => exact .lck (h.mono e)
theorem CellAt.ne {K : Frag} {H : Hp} {o : Option HO} {d : D} (h : CellAt K H o d) : ∃ u, o = some u := by
  cases h with
  | own h => exact h.ne
  | obj h => exact ⟨_, rfl⟩
  | lck h => exact ⟨_, rfl⟩
/-- a cell that is seen, as a datum -/
theorem CellAt.rp {K : Frag} {Hh : Hp} {l : Addr} {d : D} (h : CellAt K Hh (Hh l) d) : Rp K Hh (.ref l) d := by
  generalize e : Hh l = o at h
  cases h with
  | own h =>
    cases d with
    | list ds => obtain ⟨vs, a, b⟩ := h; exact .lst (.inl (.inl (e.trans a))) b
    | dict ds => obtain ⟨vs, a, b⟩ := h; exact .dct (.inl (e.trans a)) b
    | _ => exact h.elim
  | obj h => exact .obj e h
  | lck h => exact .fdc e h
theorem CellAt.rs {K : Frag} {B : Addr → Bool} {H : Hp} {l : Addr} {d : D} (h : CellAt K (hide B H) (H l) d) : Rs K B H (.ref l) d := by
  generalize e : H l = o at h
  cases h with
  | own h =>
    cases d with
    | list ds => obtain ⟨vs, a, b⟩ := h; exact .lst (.inl (.inl (e.trans a))) b
    | dict ds => obtain ⟨vs, a, b⟩ := h; exact .dct (.inl (e.trans a)) b
    | _ => exact h.elim
  | obj h => exact .obj e h
  | lck h => exact .fdc e h
abbrev En := List (Option D)
/-- what stands in the cells -/
abbrev AH := Addr → Option D
def aset (α : AH) (a : Addr) (c : D) : AH := fun b => if b = a then some c else α b
def adel (α : AH) (a : Addr) : AH := fun b => if b = a then none else α b
/-- the cells of α' that α has -/
def arst (α α' : AH) : AH := fun b => if (α b).isSome = true then α' b else none
theorem aset_same {α : AH} {a : Addr} {c : D} : aset α a c a = some c := if_pos rfl
theorem aset_ne {α : AH} {a b : Addr} {c : D} (h : b ≠ a) : aset α a c b = α b := if_neg h
theorem adel_same {α : AH} {a : Addr} : adel α a a = none := if_pos rfl
theorem adel_ne {α : AH} {a b : Addr} (h : b ≠ a) : adel α a b = α b := if_neg h
theorem adel_aset {α : AH} {a : Addr} {c : D} (h : α a = none) : adel (aset α a c) a = α := by
  funext b
  by_cases e : b = a
  · rw [e, adel_same, h]
  · rw [adel_ne e, aset_ne e]
theorem aset_aset {α : AH} {a : Addr} {c d : D} : aset (aset α a c) a d = aset α a d := by
  funext b
  by_cases e : b = a
  · rw [e, aset_same, aset_same]
  · rw [aset_ne e, aset_ne e, aset_ne e]
theorem aset_comm {α : AH} {a b : Addr} {c d : D} (h : a ≠ b) : aset (aset α a c) b d = aset (aset α b d) a c := by
  funext x
  by_cases e : x = b
  · subst e
    rw [aset_same, aset_ne (Ne.symm h), aset_same]
  · by_cases e2 : x = a
    · subst e2
      rw [aset_ne e, aset_same, aset_same]
    · rw [aset_ne e, aset_ne e2, aset_ne e2, aset_ne e]
theorem aset_id {α : AH} {a : Addr} {c : D} (h : α a = some c) : aset α a c = α := by
  funext b
  by_cases e : b = a
  · rw [e, aset_same, h]
  · rw [aset_ne e]
theorem arst_self {α : AH} : arst α α = α := by
  funext b
  unfold arst
  split
  · rfl
  · rename_i h
    cases q : α b with
    | none => rfl
    | some c => rw [q] at h; exact absurd rfl h
theorem arst_new {α α' : AH} {a : Addr} {c : D} (h : α a = none) : arst α (aset α' a c) = arst α α' := by
  funext b
  unfold arst
  split
  · rename_i e
    rw [aset_ne (fun z => by rw [z, h] at e; cases e)]
  · rfl
theorem arst_old {α α' : AH} {a : Addr} {c : D} (h : ∃ d, α a = some d) : arst α (aset α' a c) = aset (arst α α') a c := by
  obtain ⟨d, h⟩ := h
  funext b
  by_cases e : b = a
  · rw [e, aset_same]
    unfold arst
    rw [h, aset_same]
    rfl
  · rw [aset_ne e]
    unfold arst
    rw [aset_ne e]
def dref (a : Addr) : D := .dict [(.bool false, .int (Int.ofNat a))]
/-- a datum as it may be read: a cell by its content -/
def vw (α : AH) : D → Option D
  | .dict ((.bool false, .int n) :: _) => α n.toNat
  | d => some d
/-- the heap bears the cells; B hides all that may change -/
structure Bs (K : Frag) (B : Addr → Bool) (H : Hp) (α : AH) : Prop where
  cel : ∀ a c, α a = some c → B a = true ∧ CellAt K (hide B H) (H a) c
  bk : ∀ a, B a = true → ∃ o, H a = some o
structure SR (K : Frag) (B : Addr → Bool) (σ : St) (H : Hp) (ρ : En) (α : AH) : Prop where
  len : σ.length = ρ.length
  val : ∀ (i : Nat) d, ρ[i]? = some (some d) → ∃ v, σ[i]? = some (some v) ∧ Rp K (hide B H) v d
  bs : Bs K B H α
/-- from a state to a later one -/
structure Af (K : Frag) (B : Addr → Bool) (H : Hp) (α : AH) (B' : Addr → Bool) (H' : Hp) (α' : AH) : Prop where
  sub : Sub (hide B H) (hide B' H')
  bs : Bs K B' H' α'
  keep : ∀ b, B b = true → α b = none → B' b = true ∧ H' b = H b
  fr : ∀ b, α b = none → H b ≠ none → α' b = none
  grow : ∀ b o, H b = some o → ∃ o', H' b = some o'
  lk : ∀ b ds, α b = some (.dict ((.none, .none) :: ds)) → H' b = H b ∧ (α' b = none ∨ α' b = some (.dict ((.none, .none) :: ds)))
def ins (l : Addr) (B : Addr → Bool) : Addr → Bool := fun a => decide (a = l) || B a
def del (l : Addr) (B : Addr → Bool) : Addr → Bool := fun a => !decide (a = l) && B a
theorem ins_self {l : Addr} {B : Addr → Bool} : ins l B l = true := by unfold ins; simp
theorem ins_or {l a : Addr} {B : Addr → Bool} (h : ins l B a = true) : a = l ∨ B a = true := by
  unfold ins at h
  simpa using h
theorem ins_of {l a : Addr} {B : Addr → Bool} (h : B a = true) : ins l B a = true := by unfold ins; simp [h]
theorem ins_ne {l a : Addr} {B : Addr → Bool} (h : a ≠ l) : ins l B a = B a := by unfold ins; simp [h]
theorem del_self {l : Addr} {B : Addr → Bool} : del l B l = false := by unfold del; simp
theorem del_ne {l a : Addr} {B : Addr → Bool} (h : a ≠ l) : del l B a = B a := by unfold del; simp [h]
theorem hide_mono {B B' : Addr → Bool} {H : Hp} (h : ∀ a, B' a = true → B a = true) : Sub (hide B H) (hide B' H) := fun a o e => by
  obtain ⟨e1, e2⟩ := hide_some e
  refine hide_of ?_ e2
  cases q : B' a with
  | false => rfl
  | true => rw [h a q] at e1; cases e1
theorem hsub {B : Addr → Bool} {H H' : Hp} (e : Sub H H') : Sub (hide B H) (hide B H') := fun b o q => hide_of (hide_some q).1 (e _ _ (hide_some q).2)
theorem sub_ins {l : Addr} {B : Addr → Bool} {H H' : Hp} (h : H l = none) (e : Sub (hide B H) (hide B H')) : Sub (hide B H) (hide (ins l B) H') := fun a o q => by
  obtain ⟨e1, e2⟩ := hide_some q
  refine hide_of ?_ (hide_some (e _ _ q)).2
  rw [ins_ne (fun z => by rw [z, h] at e2; cases e2)]
  exact e1
section
variable {K : Frag} {B B' B1 B2 : Addr → Bool} {σ σ' : St} {H H' H1 H2 : Hp} {ρ ρ' : En} {α α' α1 α2 : AH} {l : Addr} {c d : D} {v : V}
theorem Bs.fresh (S : Bs K B H α) (h : H l = none) : B l = false := by
  cases q : B l with
  | false => rfl
  | true =>
    obtain ⟨o, e⟩ := S.bk l q
    rw [h] at e
    cases e
theorem Bs.none (S : Bs K B H α) (h : B l = false) : α l = none := by
  cases q : α l with
  | none => rfl
  | some c => rw [(S.cel l c q).1] at h; cases h
theorem Bs.new (S : Bs K B H α) (h : H l = Option.none) : α l = Option.none := S.none (S.fresh h)
theorem Bs.at_ (S : Bs K B H α) (h : α l = some c) : ∃ o, H l = some o := S.bk l (S.cel l c h).1
theorem Af.refl (S : Bs K B H α) : Af K B H α B H α := ⟨Sub.refl _, S, fun _ h _ => ⟨h, rfl⟩, fun _ h _ => h, fun _ o e => ⟨o, e⟩, fun _ _ e => ⟨rfl, .inr e⟩⟩
theorem Af.trans (S : Bs K B H α) (a : Af K B H α B1 H1 α1) (b : Af K B1 H1 α1 B2 H2 α2) : Af K B H α B2 H2 α2 := by
  refine ⟨a.sub.trans b.sub, b.bs, fun c h n => ?_, fun c n h => ?_, fun c o e => ?_, fun c ds e => ?_⟩
  · obtain ⟨h1, h2⟩ := a.keep c h n
    obtain ⟨o, e⟩ := S.bk c h
    obtain ⟨h3, h4⟩ := b.keep c h1 (a.fr c n (by rw [e]; exact fun z => nomatch z))
    exact ⟨h3, h4.trans h2⟩
  · cases q : H c with
    | none => exact absurd q h
    | some o =>
      obtain ⟨o', e'⟩ := a.grow c o q
      exact b.fr c (a.fr c n h) (by rw [e']; exact fun z => nomatch z)
  · obtain ⟨o', e'⟩ := a.grow c o e
    exact b.grow c o' e'
  · obtain ⟨h1, h2⟩ := a.lk c ds e
    obtain ⟨o, g⟩ := S.bk c (S.cel c _ e).1
    rcases h2 with h2 | h2
    · have hn : α2 c = Option.none := b.fr c h2 (by rw [h1, g]; exact fun z => nomatch z)
      cases q : B1 c with
      | true => exact ⟨(b.keep c q h2).2.trans h1, .inl hn⟩
      | false => exact ⟨(hide_some (b.sub c o (hide_of q (h1.trans g)))).2.trans g.symm, .inl hn⟩
    · obtain ⟨h3, h4⟩ := b.lk c ds h2
      exact ⟨h3.trans h1, h4⟩
theorem SR.step (S : SR K B σ H ρ α) (a : Af K B H α B' H' α') : SR K B' σ H' ρ α' := ⟨S.len, fun i d e => by
  obtain ⟨v, g1, g2⟩ := S.val i d e
  exact ⟨v, g1, g2.mono a.sub⟩, a.bs⟩
/-- the heap only grew -/
theorem Bs.grow (S : Bs K B H α) (e : Sub H H') : Bs K B H' α := ⟨fun a c h => by
  obtain ⟨h1, h2⟩ := S.cel a c h
  obtain ⟨u, g⟩ := h2.ne
  refine ⟨h1, ?_⟩
  rw [g] at h2
  rw [e _ _ g]
  exact h2.mono (hsub e), fun a h => by
  obtain ⟨o, g⟩ := S.bk a h
  exact ⟨o, e _ _ g⟩⟩
theorem Af.of_sub (S : Bs K B H α) (e : Sub H H') : Af K B H α B H' α := ⟨hsub e, S.grow e, fun b h _ => ⟨h, by
  obtain ⟨o, g⟩ := S.bk b h
  rw [g, e _ _ g]⟩, fun _ h _ => h, fun b o g => ⟨o, e _ _ g⟩, fun b ds h => ⟨by
  obtain ⟨o, g⟩ := S.bk b (S.cel b _ h).1
  rw [g, e _ _ g], .inr h⟩⟩
/-- a new cell -/
theorem Af.cell (S : Bs K B H α) (e : Sub H H') (h : H l = none) (o : CellAt K (hide (ins l B) H') (H' l) c) : Af K B H α (ins l B) H' (aset α l c) := by
  have hs : Sub (hide B H) (hide (ins l B) H') := sub_ins h (hsub e)
  refine ⟨hs, ⟨fun a d q => ?_, fun a q => ?_⟩, fun b hb n => ⟨ins_of hb, ?_⟩, fun b n hb => ?_, fun b o g => ⟨o, e _ _ g⟩, fun b ds hb => ?_⟩
  · by_cases z : a = l
    · subst z
      rw [aset_same] at q
      cases q
      exact ⟨ins_self, o⟩
    · rw [aset_ne z] at q
      obtain ⟨h1, h2⟩ := S.cel a d q
      obtain ⟨u, g⟩ := h2.ne
      refine ⟨ins_of h1, ?_⟩
      rw [g] at h2
      rw [e _ _ g]
      exact h2.mono hs
  · rcases ins_or q with z | z
    · subst z
      exact o.ne
    · obtain ⟨o', g⟩ := S.bk a z
      exact ⟨o', e _ _ g⟩
  · obtain ⟨o', g⟩ := S.bk b hb
    rw [g, e _ _ g]
  · by_cases z : b = l
    · subst z
      exact absurd h hb
    · rw [aset_ne z]
      exact n
  · obtain ⟨o', g⟩ := S.bk b (S.cel b _ hb).1
    rw [aset_ne (fun z => by rw [z, h] at g; cases g), g, e _ _ g]
    exact ⟨rfl, .inr hb⟩
/-- another content of a cell -/
theorem Af.write {o : HO} (S : Bs K B H α) (h : α l = some d) (hc : CellAt K (hide B H) (some o) c) (nl : ∀ ds, d ≠ .dict ((.none, .none) :: ds) := by intro ds h; cases h) : Af K B H α B (upd H l o) (aset α l c) := by
  have bl : B l = true := (S.cel l d h).1
  have hh : hide B (upd H l o) = hide B H := by
    funext a
    unfold hide
    by_cases q : a = l
    · rw [q, bl]
      rfl
    · rw [upd_ne q]
  have hs : Sub (hide B H) (hide B (upd H l o)) := by rw [hh]; exact Sub.refl _
  refine ⟨hs, ⟨fun a e q => ?_, fun a q => ?_⟩, fun b hb n => ⟨hb, ?_⟩, fun b n hb => ?_, fun b u g => ?_, fun b ds hb => ?_⟩
  · by_cases z : a = l
    · subst z
      rw [aset_same] at q
      cases q
      rw [upd_same, hh]
      exact ⟨bl, hc⟩
    · rw [aset_ne z] at q
      obtain ⟨h1, h2⟩ := S.cel a e q
      rw [upd_ne z, hh]
      exact ⟨h1, h2⟩
  · by_cases z : a = l
    · exact ⟨o, by rw [z, upd_same]⟩
    · rw [upd_ne z]
      exact S.bk a q
  · rw [upd_ne (fun z => by rw [z, h] at n; cases n)]
  · rw [aset_ne (fun z => by rw [z, h] at n; cases n)]
    exact n
  · by_cases z : b = l
    · exact ⟨o, by rw [z, upd_same]⟩
    · exact ⟨u, by rw [upd_ne z]; exact g⟩
  · have z : b ≠ l := fun z => by
      rw [z, h] at hb
      exact nl ds (Option.some.inj hb)
    rw [upd_ne z, aset_ne z]
    exact ⟨rfl, .inr hb⟩
/-- a cell becomes a datum -/
theorem Af.frz (S : Bs K B H α) (a : Af K B H α B' H' α') (h : α' l = some c) : Af K B H α (del l B') H' (adel α' l) ∧ Rp K (hide (del l B') H') (.ref l) c := by
  have hs : Sub (hide B' H') (hide (del l B') H') := hide_mono fun b hb => by
    by_cases z : b = l
    · subst z; rw [del_self] at hb; cases hb
    · rw [del_ne z] at hb; exact hb
  obtain ⟨bl, hc⟩ := a.bs.cel l c h
  refine ⟨⟨a.sub.trans hs, ⟨fun b e q => ?_, fun b q => ?_⟩, fun b hb n => ?_, fun b n hb => ?_, a.grow, fun b ds hb => ?_⟩, ?_⟩
  · have z : b ≠ l := fun z => by rw [z, adel_same] at q; cases q
    rw [adel_ne z] at q
    obtain ⟨h1, h2⟩ := a.bs.cel b e q
    exact ⟨by rw [del_ne z]; exact h1, h2.mono hs⟩
  · have z : b ≠ l := fun z => by rw [z, del_self] at q; cases q
    rw [del_ne z] at q
    exact a.bs.bk b q
  · obtain ⟨h1, h2⟩ := a.keep b hb n
    have z : b ≠ l := fun z => by
      subst z
      obtain ⟨o, g⟩ := S.bk b hb
      rw [a.fr b n (by rw [g]; exact fun z => nomatch z)] at h
      cases h
    exact ⟨by rw [del_ne z]; exact h1, h2⟩
  · by_cases z : b = l
    · rw [z, adel_same]
    · rw [adel_ne z]
      exact a.fr b n hb
  · obtain ⟨h1, h2⟩ := a.lk b ds hb
    refine ⟨h1, ?_⟩
    by_cases z : b = l
    · rw [z, adel_same]
      exact .inl rfl
    · rw [adel_ne z]
      exact h2
  · refine CellAt.rp ?_
    obtain ⟨o, g⟩ := hc.ne
    rw [g] at hc
    rw [hide_of del_self g]
    exact hc.mono hs
/-- the new cells are forgotten -/
theorem Af.rst (S : Bs K B H α) (a : Af K B H α B' H' α') : ∃ B2, Af K B H α B2 H' (arst α α') ∧ Sub (hide B' H') (hide B2 H') := by
  have hs : Sub (hide B' H') (hide (fun b => B' b && ((α b).isSome || !(α' b).isSome)) H') := hide_mono fun b hb => by simp at hb; exact hb.1
  refine ⟨_, ⟨a.sub.trans hs, ⟨fun b e q => ?_, fun b q => a.bs.bk b (by simp at q; exact q.1)⟩, fun b hb n => ?_, fun b n hb => ?_, a.grow, fun b ds hb => ?_⟩, hs⟩
  · unfold arst at q
    split at q
    · rename_i z
      obtain ⟨h1, h2⟩ := a.bs.cel b e q
      exact ⟨by simp [h1, z], h2.mono hs⟩
    · cases q
  · obtain ⟨h1, h2⟩ := a.keep b hb n
    obtain ⟨o, g⟩ := S.bk b hb
    have z := a.fr b n (by rw [g]; exact fun z => nomatch z)
    exact ⟨by simp [h1, z], h2⟩
  · unfold arst
    rw [n]
    rfl
  · unfold arst
    rw [hb]
    exact a.lk b ds hb
theorem vw_rs (S : Bs K B H α) (h : Rp K (hide B H) v c) (e : vw α c = some d) : Rs K B H v d := by
  have go : vw α c = some c → Rs K B H v d := fun z => by
    rw [z] at e
    cases e
    exact .vis h
  cases h with
  | ref => exact (S.cel _ _ e).2.rs
  | dct a r =>
    cases r with
    | nil => exact go rfl
    | @cons k _ _ _ _ r1 r2 => cases k <;> exact go rfl
  | _ => exact go rfl
theorem Rp.cell {a : Addr} {H : Hp} (h : Rp K H v (dref a)) : v = .ref a := by
  generalize e : dref a = z at h
  cases h with
  | ref =>
    have e1 := List.cons.inj (PyData.dict.inj e)
    have e2 : PyData.int (Int.ofNat a) = PyData.int (Int.ofNat _) := congrArg Prod.snd e1.1
    rw [Int.ofNat.inj (PyData.int.inj e2)]
  | dct _ r =>
    cases r with
    | nil => cases e
    | @cons k _ _ _ _ r1 r2 =>
      have e1 := (List.cons.inj (PyData.dict.inj e)).1
      have e2 : PyData.bool false = kD k := congrArg Prod.fst e1
      cases k <;> cases e2
  | _ => cases e
end
structure C0 where
  P : Program
  w : World
  K : Frag
  mg : Str → Option Value
  base : Heap
  k : Nat
  top : Bool
  cm : Bool := true
  xc : Option (Addr × Addr × Nat) := none
  oc : List Str := []
abbrev C0.at_ (c : C0) (k : Nat) : C0 := { c with k := k, top := true, cm := true, xc := none, oc := [] }
/-- the contexts of a block of a def: its names, its scope -/
structure In (c : C0) (N : List Str) (sc : Scope) (X : Cx) : Prop where
  P : X.prog = c.P
  w : X.w = c.w
  K : X.K = c.K
  mg : X.mg = c.mg
  base : X.base = c.base
  rm : c.cm = true → Room c.k X.A
  un : X.A.units + 200 < cLine
  N : X.N = N
  sc : X.env.scope = sc
  calm : c.cm = true → X.calm = true
  fn : c.top = true → X.fn = fun _ => true
  po : PassesOwn (model X.prog X.w) X.A X.env X.xe
  fs : c.top = true → X.stack = X.env :: X.outer ∧ X.env.frame = some X.env.locals
  xi : ∀ a dx C, c.xc = some (a, dx, C) → ∃ (Y : Cx) (oe : Obj) (pn : List (Addr × Obj)), X = Y.suite a ((a, oe) :: pn) ∧ Zc (.ref C) (some dx) oe ∧ ∃ vs, oe.data = .fields vs
  oc : ∀ x, c.oc.contains x = true → X.fn x = true
section
variable {c : C0} {N : List Str} {sc : Scope} {X : Cx}
theorem In.u64 (I : In c N sc X) : X.A.units + 64 < cLine := by have := I.un; omega
theorem In.u65 (I : In c N sc X) : X.A.units + 65 < cLine := by have := I.un; omega
theorem In.gl {x : Str} (I : In c N sc X) (h : sc.names.lookup x = some .globalImplicit) : Gl X x := by
  show X.env.scope.names.lookup x = _
  rw [I.sc]
  exact h
theorem In.vis {x : Str} (I : In c N sc X) (h : Vis sc x) : Vis X.env.scope x := by
  rw [I.sc]
  exact h
end
/-- an exception: its class, its attributes -/
structure Ex where
  C : Nat
  fs : List (D × D)
abbrev QD := D → AH → Prop
abbrev QX := Ex → AH → Prop
abbrev ME := En → AH → QD → QX → Prop
abbrev MT := En → AH → (Bool → AH → Prop) → QX → Prop
abbrev ML := En → AH → (List D → AH → Prop) → QX → Prop
def XR (K : Frag) (Hh : Hp) (cls : Value) (d : Option Addr) (x : Ex) : Prop := cls = .ref x.C ∧ ∃ dx fs, d = some dx ∧ Hh dx = some (.xd fs) ∧ RpF K Hh fs x.fs
theorem XR.mono {K : Frag} {H H' : Hp} {cls : Value} {d : Option Addr} {x : Ex} (e : Sub H H') (h : XR K H cls d x) : XR K H' cls d x := by
  obtain ⟨h1, dx, fs, h2, h3, h4⟩ := h
  exact ⟨h1, dx, fs, h2, e _ _ h3, h4.mono e⟩
/-- what the wish W grants: the exceptions that E takes -/
def SX (K : Frag) (W : WX) (B : Addr → Bool) (σ : St) (H : Hp) (α : AH) (E : QX) : Prop := ∀ x B' α' cls d H', Af K B H α B' H' α' → XR K (hide B' H') cls d x → E x α' → W cls d σ H'
theorem SX.after {K : Frag} {W : WX} {B B1 : Addr → Bool} {σ : St} {H H1 : Hp} {α α1 : AH} {E : QX} (S : Bs K B H α) (h : SX K W B σ H α E) (a : Af K B H α B1 H1 α1) : SX K W B1 σ H1 α1 E := fun x B' α' cls d H' b => h x B' α' cls d H' (a.trans S b)
theorem SX.never {K : Frag} {W : WX} {B : Addr → Bool} {σ : St} {H : Hp} {α : AH} : SX K W B σ H α (fun _ _ => False) := fun _ _ _ _ _ _ _ _ z => z.elim
/-- the reading of an expression grants what m wishes: a datum | a new list or dict, as a cell -/
def Sd (K : Frag) (W : WX) (t : TE) (m : ME) : Prop :=
  ∀ B σ H ρ α, SR K B σ H ρ α → ∀ Qm Em, m ρ α Qm Em → ∀ Q : VK, (∀ v d B' H' α', Af K B H α B' H' α' → Rp K (hide B' H') v d → Qm d α' → Q v H') → SX K W B σ H α Em → t σ H Q
def Sf (K : Frag) (W : WX) (t : TE) (m : ME) : Prop :=
  ∀ B σ H ρ α, SR K B σ H ρ α → ∀ Qm Em, m ρ α Qm Em → ∀ Q : VK, (∀ l c B' H' α', Af K B H α B' H' (aset α' l c) → α' l = none → Qm c α' → Q (.ref l) H') → SX K W B σ H α Em → t σ H Q
def Stt (K : Frag) (W : WX) (t : TT) (m : MT) : Prop :=
  ∀ B σ H ρ α, SR K B σ H ρ α → ∀ Qm Em, m ρ α Qm Em → ∀ Q : Bool → Hp → Prop, (∀ b B' H' α', Af K B H α B' H' α' → Qm b α' → Q b H') → SX K W B σ H α Em → t σ H Q
def SA (K : Frag) (W : WX) (t : TA) (m : ML) : Prop :=
  ∀ B σ H ρ α, SR K B σ H ρ α → ∀ Qm Em, m ρ α Qm Em → ∀ Q : List V → Hp → Prop, (∀ vs ds B' H' α', Af K B H α B' H' α' → RpL K (hide B' H') vs ds → Qm ds α' → Q vs H') → SX K W B σ H α Em → t σ H Q
def JE (c : C0) (N : List Str) (sc : Scope) (e : Expr) (m : ME) : Prop := ∃ t : WX → TE, (∀ X W, In c N sc X → Takes X W → PE X e (t W)) ∧ ∀ W, Sd c.K W (t W) m
def JF (c : C0) (N : List Str) (sc : Scope) (e : Expr) (m : ME) : Prop := ∃ t : WX → TE, (∀ X W, In c N sc X → Takes X W → PE X e (t W)) ∧ ∀ W, Sf c.K W (t W) m
def JT (c : C0) (N : List Str) (sc : Scope) (e : Expr) (m : MT) : Prop := ∃ t : WX → TT, (∀ X W, In c N sc X → Takes X W → PT X e (t W)) ∧ ∀ W, Stt c.K W (t W) m
def JW (c : C0) (N : List Str) (sc : Scope) (e : Expr) (m : MT) : Prop := ∃ t : WX → TT, (∀ X W, In c N sc X → Takes X W → PW X e (t W)) ∧ ∀ W, Stt c.K W (t W) m
def JL (c : C0) (N : List Str) (sc : Scope) (es : List Expr) (m : ML) : Prop := ∃ t : WX → TA, (∀ X W, In c N sc X → Takes X W → PA X es (t W)) ∧ ∀ W, SA c.K W (t W) m
end Hz
namespace Hz
open PySem L2
def oq {α : Type} (o : Option α) (Q : α → Prop) : Prop := ∃ z, o = some z ∧ Q z
def kC (d : D) : ME := fun ρ α Q E => Q d α
def kV (i : Nat) : ME := fun ρ α Q E => ∃ d, ρ[i]? = some (some d) ∧ Q d α
section
variable {c : C0} {N : List Str} {sc : Scope} {K : Frag} {W : WX}
theorem sd_c {v : V} {d : D} (h : ∀ H, Rp K H v d) : Sd K W (tC v) (kC d) := fun B σ H ρ α S Qm Em m Q q x => q v d B H α (Af.refl S.bs) (h _) m
theorem ce_int {i j pos} : JE c N sc (.Constant (.int i) j pos) (kC (.int i)) := ⟨_, fun _ _ _ _ => pe_int, fun _ => sd_c fun _ => .int i⟩
theorem ce_bl {i j pos} : JE c N sc (.Constant (.bool i) j pos) (kC (.bool i)) := ⟨_, fun _ _ _ _ => pe_bl, fun _ => sd_c fun _ => .bl i⟩
theorem ce_non {j pos} : JE c N sc (.Constant .none j pos) (kC .none) := ⟨_, fun _ _ _ _ => pe_non, fun _ => sd_c fun _ => .non⟩
theorem ce_str {i j pos} : JE c N sc (.Constant (.str i) j pos) (kC (.str i)) := ⟨_, fun _ _ _ _ => pe_str, fun _ => sd_c fun _ => .str i⟩
theorem sd_var {i : Nat} : Sd K W (tVar i) (kV i) := fun B σ H ρ α S Qm Em m Q q x => by
  obtain ⟨d, h, m⟩ := m
  obtain ⟨v, h1, h2⟩ := S.val i _ h
  exact ⟨v, h1, q v d B H α (Af.refl S.bs) h2 m⟩
theorem ce_var {i : Nat} {x : Str} {pos : Pos} (hN : N[i]? = some x) (hv : Vis sc x) (hd : (x == ("__debug__" : Str)) = false := by decide) (hcd : (x == ("__classdict__" : Str)) = false := by decide) : JE c N sc (.Name x pos) (kV i) :=
  ⟨fun _ => tVar i, fun X _ I _ => pe_var (by rw [I.N]; exact hN) (I.vis hv) hd hcd, fun _ => sd_var⟩
/-- a name of the module: a constant -/
theorem ce_glob {x : Str} {v : V} {u : Value} {d : D} {pos : Pos} (hg : sc.names.lookup x = some .globalImplicit) (hm : c.mg x = some u) (r : RelV v u) (h : ∀ H, Rp c.K H v d) (hd : (x == ("__debug__" : Str)) = false := by decide) : JE c N sc (.Name x pos) (kC d) :=
  ⟨fun _ => tC v, fun X _ I _ => pe_glob (I.gl hg) (by rw [I.mg]; exact hm) r hd, fun _ => sd_c h⟩
end
def newK (m : ME) : ME := fun ρ α Q E => m ρ α (fun c α1 => ∀ p, α1 p = none → Q (dref p) (aset α1 p c)) E
def frzK (m : ME) : ME := fun ρ α Q E => m ρ α (fun d α1 => ∃ p c, d = dref p ∧ α1 p = some c ∧ Q c (adel α1 p)) E
section
variable {c : C0} {N : List Str} {sc : Scope} {e : Expr} {m : ME}
theorem JF.je (h : JF c N sc e m) : JE c N sc e m := by
  obtain ⟨t, h1, h2⟩ := h
  refine ⟨t, h1, fun W B σ H ρ α S Qm Em mm Q q x => h2 W B σ H ρ α S Qm Em mm Q (fun l c' B' H' α' A hl qm => ?_) x⟩
  obtain ⟨A2, r⟩ := A.frz S.bs aset_same
  rw [adel_aset hl] at A2
  exact q _ c' _ H' α' A2 r qm
theorem JF.new (h : JF c N sc e m) : JE c N sc e (newK m) := by
  obtain ⟨t, h1, h2⟩ := h
  refine ⟨t, h1, fun W B σ H ρ α S Qm Em mm Q q x => h2 W B σ H ρ α S _ Em mm Q (fun l c' B' H' α' A hl qm => ?_) x⟩
  exact q _ _ _ H' _ A .ref (qm l hl)
theorem JE.frz (h : JE c N sc e m) : JE c N sc e (frzK m) := by
  obtain ⟨t, h1, h2⟩ := h
  refine ⟨t, h1, fun W B σ H ρ α S Qm Em mm Q q x => h2 W B σ H ρ α S _ Em mm Q (fun v d B' H' α' A r qm => ?_) x⟩
  obtain ⟨p, c', rfl, hp, qm⟩ := qm
  obtain ⟨A2, r2⟩ := A.frz S.bs hp
  rw [r.cell]
  exact q _ c' _ H' _ A2 r2 qm
end
/-- a two-place operation, by data -/
structure OpD (K : Frag) (XS : Cx → Prop) (f : Value → Value → Sem Value) (g : D → D → Option D) : Prop where
  ex : ∃ r : R2, (∀ X, XS X → OpR X f r) ∧ ∀ (B : Addr → Bool) (H : Hp) (x y : V) (d e z : D), (∀ a, B a = true → ∃ o, H a = some o) → Rs K B H x d → Rs K B H y e → g d e = some z →
    ∀ Q : VK, (∀ v H', Sub H H' → Rp K (hide B H') v z → Q v H') → r x y H Q
def bop (g : D → D → Option D) (ma mb : ME) : ME := fun ρ α Q E => ma ρ α (fun d α1 => mb ρ α1 (fun e α2 => oq (vw α2 d) fun d' => oq (vw α2 e) fun e' => oq (g d' e') fun z => Q z α2) E) E
section
variable {K : Frag} {W : WX} {r : R2} {ta tb : TE} {ma mb : ME} {g : D → D → Option D}
theorem sd_bop (ha : Sd K W ta ma) (hb : Sd K W tb mb) (hr : ∀ (B : Addr → Bool) (H : Hp) (x y : V) (d e z : D), (∀ a, B a = true → ∃ o, H a = some o) → Rs K B H x d → Rs K B H y e → g d e = some z →
    ∀ Q : VK, (∀ v H', Sub H H' → Rp K (hide B H') v z → Q v H') → r x y H Q) : Sd K W (tOp r ta tb) (bop g ma mb) := fun B σ H ρ α S Qm Em m Q q x => by
  refine ha B σ H ρ α S _ Em m _ (fun v d B1 H1 α1 A1 r1 m => ?_) x
  refine hb B1 σ H1 ρ α1 (S.step A1) _ Em m _ (fun u e B2 H2 α2 A2 r2 m => ?_) (x.after S.bs A1)
  obtain ⟨d', hd, e', he, z, hz, m⟩ := m
  refine hr B2 H2 v u d' e' z A2.bs.bk (vw_rs A2.bs (r1.mono A2.sub) hd) (vw_rs A2.bs r2 he) hz _ fun w H3 s3 r3 => ?_
  exact q w z B2 H3 α2 ((A1.trans S.bs A2).trans S.bs (Af.of_sub A2.bs s3)) r3 m
end
section
variable {c : C0} {N : List Str} {sc : Scope} {a b d : Expr} {ma mb md : ME} {g g' : D → D → Option D} {pos : Pos}
theorem ce_op {op : Operator} (ho : OpD c.K (In c N sc) (binaryOp op) g) (ha : JE c N sc a ma) (hb : JE c N sc b mb) : JE c N sc (.BinOp a op b pos) (bop g ma mb) := by
  obtain ⟨r, h1, h2⟩ := ho.ex
  obtain ⟨ta, p1, s1⟩ := ha
  obtain ⟨tb, p2, s2⟩ := hb
  exact ⟨_, fun X W I T => pe_op (h1 X I) (p1 X W I T) (p2 X W I T), fun W => sd_bop (s1 W) (s2 W) h2⟩
theorem ce_cmp {op : CmpOp} (ho : OpD c.K (In c N sc) (compareOp op) g) (ha : JE c N sc a ma) (hb : JE c N sc b mb) (hm : behindInMarks op b = false := by rfl) : JE c N sc (.Compare a [op] [b] pos) (bop g ma mb) := by
  obtain ⟨r, h1, h2⟩ := ho.ex
  obtain ⟨ta, p1, s1⟩ := ha
  obtain ⟨tb, p2, s2⟩ := hb
  exact ⟨_, fun X W I T => pe_cmpR (h1 X I) (p1 X W I T) (p2 X W I T) hm, fun W => sd_bop (s1 W) (s2 W) h2⟩
end
def tst (m : ME) : MT := fun ρ α Q E => m ρ α (fun d α1 => ∃ b, d = .bool b ∧ Q b α1) E
def valK (m : MT) : ME := fun ρ α Q E => m ρ α (fun b α1 => Q (.bool b) α1) E
def andK (ma mb : MT) : MT := fun ρ α Q E => ma ρ α (fun b α1 => if b = true then mb ρ α1 Q E else Q false α1) E
def orK (ma mb : MT) : MT := fun ρ α Q E => ma ρ α (fun b α1 => if b = true then Q true α1 else mb ρ α1 Q E) E
def notK (ma : MT) : MT := fun ρ α Q E => ma ρ α (fun b α1 => Q (!b) α1) E
/-- and, or as values: all but the last bools -/
def andV (ma : MT) (mb : ME) : ME := fun ρ α Q E => ma ρ α (fun b α1 => if b = true then mb ρ α1 Q E else Q (.bool false) α1) E
def orV (ma : MT) (mb : ME) : ME := fun ρ α Q E => ma ρ α (fun b α1 => if b = true then Q (.bool true) α1 else mb ρ α1 Q E) E
/-- a < b < c -/
def chainK (g g' : D → D → Option D) (ma mb md : ME) : ME := fun ρ α Q E => ma ρ α (fun d α1 => mb ρ α1 (fun e α2 => oq (g d e) fun z => ∃ b, z = .bool b ∧ if b = true then md ρ α2 (fun f α3 => oq (g' e f) fun z' => Q z' α3) E else Q (.bool false) α2) E) E
def ifK (mt : MT) (ma mb : ME) : ME := fun ρ α Q E => mt ρ α (fun b α1 => if b = true then ma ρ α1 Q E else mb ρ α1 Q E) E
section
variable {c : C0} {N : List Str} {sc : Scope} {e a b d : Expr} {ma mb md : ME} {ta tb : MT} {g g' : D → D → Option D} {pos : Pos} {rest : List Expr} {K : Frag} {W : WX}
theorem st_tst {te : TE} (h : Sd K W te ma) : Stt K W (tB te) (tst ma) := fun B σ H ρ α S Qm Em m Q q x => h B σ H ρ α S _ Em m _ (fun v d B' H' α' A r m => by
  obtain ⟨k, rfl, m⟩ := m
  exact ⟨k, r.booli, q k B' H' α' A m⟩) x
theorem st_tst2 {te : TE} (h : Sd K W te ma) : Stt K W (tTest te) (tst ma) := fun B σ H ρ α S Qm Em m Q q x => h B σ H ρ α S _ Em m _ (fun v d B' H' α' A r m => by
  obtain ⟨k, rfl, m⟩ := m
  exact ⟨k, r.booli, q k B' H' α' A m⟩) x
theorem jt_val (h : JE c N sc e ma) (he : ∀ (env : PySem.Env) (whole : Sem Value), isTrue e env whole = (do let v ← whole; standAt e.pos; holding [v] (truthy v)) := by intros; rfl) : JT c N sc e (tst ma) := by
  obtain ⟨t, h1, h2⟩ := h
  exact ⟨_, fun X W I T => pt_val (h1 X W I T) (fun w => he _ w), fun W => st_tst (h2 W)⟩
theorem jt_cmp {op : CmpOp} (ho : OpD c.K (In c N sc) (compareOp op) g) (ha : JE c N sc a ma) (hb : JE c N sc b mb) (hm : behindInMarks op b = false := by rfl) : JT c N sc (.Compare a [op] [b] pos) (tst (bop g ma mb)) := by
  obtain ⟨r, h1, h2⟩ := ho.ex
  obtain ⟨ta, p1, s1⟩ := ha
  obtain ⟨tb, p2, s2⟩ := hb
  exact ⟨_, fun X W I T => pt_cmpR (h1 X I) (p1 X W I T) (p2 X W I T) hm, fun W => st_tst2 (sd_bop (s1 W) (s2 W) h2)⟩
theorem st_and {t u : TT} (h1 : Stt K W t ta) (h2 : Stt K W u tb) : Stt K W (tAnd t u) (andK ta tb) := fun B σ H ρ α S Qm Em m Q q x =>
  h1 B σ H ρ α S _ Em m _ (fun b B1 H1 α1 A1 m => by
    cases b with
    | true => exact h2 B1 σ H1 ρ α1 (S.step A1) _ Em m Q (fun b B2 H2 α2 A2 m => q b B2 H2 α2 (A1.trans S.bs A2) m) (x.after S.bs A1)
    | false => exact q false B1 H1 α1 A1 m) x
theorem st_or {t u : TT} (h1 : Stt K W t ta) (h2 : Stt K W u tb) : Stt K W (tOr t u) (orK ta tb) := fun B σ H ρ α S Qm Em m Q q x =>
  h1 B σ H ρ α S _ Em m _ (fun b B1 H1 α1 A1 m => by
    cases b with
    | false => exact h2 B1 σ H1 ρ α1 (S.step A1) _ Em m Q (fun b B2 H2 α2 A2 m => q b B2 H2 α2 (A1.trans S.bs A2) m) (x.after S.bs A1)
    | true => exact q true B1 H1 α1 A1 m) x
theorem st_not {t : TT} (h1 : Stt K W t ta) : Stt K W (tNot t) (notK ta) := fun B σ H ρ α S Qm Em m Q q x => h1 B σ H ρ α S _ Em m _ (fun b B1 H1 α1 A1 m => q _ B1 H1 α1 A1 m) x
theorem jw_and1 (h : JT c N sc a ta) : JW c N sc (.BoolOp .And [a] pos) ta := by
  obtain ⟨t, h1, h2⟩ := h
  exact ⟨t, fun X W I T => pw_and1 (h1 X W I T), h2⟩
theorem jw_or1 (h : JT c N sc a ta) : JW c N sc (.BoolOp .Or [a] pos) ta := by
  obtain ⟨t, h1, h2⟩ := h
  exact ⟨t, fun X W I T => pw_or1 (h1 X W I T), h2⟩
theorem jw_and (h : JT c N sc a ta) (k : JW c N sc (.BoolOp .And (b :: rest) pos) tb) : JW c N sc (.BoolOp .And (a :: b :: rest) pos) (andK ta tb) := by
  obtain ⟨t, h1, h2⟩ := h
  obtain ⟨u, k1, k2⟩ := k
  exact ⟨_, fun X W I T => pw_and (h1 X W I T) (k1 X W I T), fun W => st_and (h2 W) (k2 W)⟩
theorem jw_or (h : JT c N sc a ta) (k : JW c N sc (.BoolOp .Or (b :: rest) pos) tb) : JW c N sc (.BoolOp .Or (a :: b :: rest) pos) (orK ta tb) := by
  obtain ⟨t, h1, h2⟩ := h
  obtain ⟨u, k1, k2⟩ := k
  exact ⟨_, fun X W I T => pw_or (h1 X W I T) (k1 X W I T), fun W => st_or (h2 W) (k2 W)⟩
theorem jt_w (h : JW c N sc a ta) : JT c N sc a ta := by
  obtain ⟨t, h1, h2⟩ := h
  exact ⟨t, fun X W I T => (h1 X W I T).pt, h2⟩
theorem jt_not (h : JT c N sc a ta) : JT c N sc (.UnaryOp .Not a pos) (notK ta) := by
  obtain ⟨t, h1, h2⟩ := h
  exact ⟨_, fun X W I T => pt_not (h1 X W I T), fun W => st_not (h2 W)⟩
theorem je_one {op} (h : JE c N sc a ma) : JE c N sc (.BoolOp op [a] pos) ma := by
  obtain ⟨t, h1, h2⟩ := h
  exact ⟨t, fun X W I T => pe_one (h1 X W I T), h2⟩
theorem je_and (h : JE c N sc a ma) (k : JE c N sc (.BoolOp .And (b :: rest) pos) mb) : JE c N sc (.BoolOp .And (a :: b :: rest) pos) (andV (tst ma) mb) := by
  obtain ⟨t, h1, h2⟩ := h
  obtain ⟨u, k1, k2⟩ := k
  refine ⟨_, fun X W I T => pe_and (h1 X W I T) (k1 X W I T), fun W B σ H ρ α S Qm Em m Q q x => ?_⟩
  refine h2 W B σ H ρ α S _ Em m _ (fun v d B1 H1 α1 A1 r m => ?_) x
  obtain ⟨k, rfl, m⟩ := m
  refine ⟨k, r.booli, ?_⟩
  cases k with
  | true => exact k2 W B1 σ H1 ρ α1 (S.step A1) _ Em m Q (fun v d B2 H2 α2 A2 r2 m => q v d B2 H2 α2 (A1.trans S.bs A2) r2 m) (x.after S.bs A1)
  | false => exact q _ _ B1 H1 α1 A1 (.bl false) m
theorem je_or (h : JE c N sc a ma) (k : JE c N sc (.BoolOp .Or (b :: rest) pos) mb) : JE c N sc (.BoolOp .Or (a :: b :: rest) pos) (orV (tst ma) mb) := by
  obtain ⟨t, h1, h2⟩ := h
  obtain ⟨u, k1, k2⟩ := k
  refine ⟨_, fun X W I T => pe_or (h1 X W I T) (k1 X W I T), fun W B σ H ρ α S Qm Em m Q q x => ?_⟩
  refine h2 W B σ H ρ α S _ Em m _ (fun v d B1 H1 α1 A1 r m => ?_) x
  obtain ⟨k, rfl, m⟩ := m
  refine ⟨k, r.booli, ?_⟩
  cases k with
  | false => exact k2 W B1 σ H1 ρ α1 (S.step A1) _ Em m Q (fun v d B2 H2 α2 A2 r2 m => q v d B2 H2 α2 (A1.trans S.bs A2) r2 m) (x.after S.bs A1)
  | true => exact q _ _ B1 H1 α1 A1 (.bl true) m
end
def nilK : ML := fun ρ α Q E => Q [] α
def consK (ma : ME) (mr : ML) : ML := fun ρ α Q E => ma ρ α (fun d α1 => mr ρ α1 (fun ds α2 => Q (d :: ds) α2) E) E
def tupK (m : ML) : ME := fun ρ α Q E => m ρ α (fun ds α1 => ds.length ≤ 100000 ∧ Q (.tuple ds) α1) E
def lstK (m : ML) : ME := fun ρ α Q E => m ρ α (fun ds α1 => ds.length ≤ 100000 ∧ Q (.list ds) α1) E
section
variable {c : C0} {N : List Str} {sc : Scope} {e : Expr} {es : List Expr} {ma : ME} {mr : ML} {pos : Pos} {K : Frag} {W : WX}
theorem sa_nil : SA K W tNil nilK := fun B σ H ρ α S Qm Em m Q q x => q [] [] B H α (Af.refl S.bs) .nil m
theorem jl_nil : JL c N sc [] nilK := ⟨_, fun _ _ _ _ => pa_nil, fun _ => sa_nil⟩
theorem sa_cons {te : TE} {t : TA} (h : Sd K W te ma) (k : SA K W t mr) : SA K W (tCons te t) (consK ma mr) := fun B σ H ρ α S Qm Em m Q q x =>
  h B σ H ρ α S _ Em m _ (fun v d B1 H1 α1 A1 r1 m => k B1 σ H1 ρ α1 (S.step A1) _ Em m _ (fun vs ds B2 H2 α2 A2 r2 m => q (v :: vs) (d :: ds) B2 H2 α2 (A1.trans S.bs A2) (.cons (r1.mono A2.sub) r2) m) (x.after S.bs A1)) x
theorem jl_cons (h : JE c N sc e ma) (k : JL c N sc es mr) (hs : ∀ env, starEach (e :: es) env = (false, eval e env) :: starEach es env := by intros; rfl) : JL c N sc (e :: es) (consK ma mr) := by
  obtain ⟨t, h1, h2⟩ := h
  obtain ⟨u, k1, k2⟩ := k
  exact ⟨_, fun X W I T => pa_cons (h1 X W I T) (k1 X W I T) (hs _), fun W => sa_cons (h2 W) (k2 W)⟩
theorem own_new {H : Hp} {B : Addr → Bool} {p : Addr} {vs : List V} {ds : List D} (h : H p = none) (r : RpL K (hide B H) vs ds) : OwnAt K (hide (ins p B) (upd H p (.lst vs))) (upd H p (.lst vs) p) (.list ds) :=
  ⟨vs, upd_same, r.mono (sub_ins h (hsub (Sub.new h)))⟩
theorem sz5 {n : Nat} (h : n ≤ 100000) : n ≤ sizeLine := Nat.le_trans h (by decide)
/-- a new tuple, its object known -/
theorem tnew {X : Cx} {pins : List (Addr × Obj)} {σ : L2.St} {H : Hp} {s : Shared} {xs : List V} {us : List Value} (I : Inv X pins σ H s) (r : Vals xs us) (z : xs.length ≤ sizeLine) :
    Inv X pins σ (upd H s.heap.objs.size (.frz { cls := .type "tuple", data := .seq us.toArray } (.tup xs))) { s with heap := s.heap.push { cls := .type "tuple", data := .seq us.toArray } } :=
  I.laid (t' := s.toks) (fun b u e => Heap.get?_push_of_some _ e) (Nat.le_refl _) ⟨Heap.get?_push_size _ rfl, z, us, r, ⟨_, Heap.get?_push_size _ rfl, rfl, _, rfl⟩⟩
def tTupX (t : TA) : TE := fun σ H Q => t σ H fun xs H1 => xs.length ≤ sizeLine ∧ ∀ p o, ExT o → H1 p = none → Q (.ref p) (upd H1 p (.frz o (.tup xs)))
theorem pe_tupX {X : Cx} {es : List Expr} {t : TA} {x1} {pos : Pos} (h : PA X es t) : PE X (.Tuple es x1 pos) (tTupX t) := by
  refine ⟨fun pins s σ H Q I hq => ?_⟩
  refine wpAny_Tuple_spliced (thn (h.run pos pins s σ H _ I hq) fun us s1 ⟨xs, H1, I1, r, z, q⟩ => ⟨by rw [← r.length]; exact z, ?_⟩)
  exact ⟨.ref s1.heap.objs.size, _, tnew I1 r z, rfl, q _ _ ⟨rfl, rfl⟩ (I1.hok.fresh (Nat.le_refl _))⟩
theorem tup_new {K : Frag} {B : Addr → Bool} {H : Hp} {p : Addr} {o : Obj} {vs : List V} {ds : List D} (bk : ∀ a, B a = true → ∃ o, H a = some o) (x : ExT o) (h : H p = none) (r : RpL K (hide B H) vs ds) : Sub H (upd H p (.frz o (.tup vs))) ∧ Rp K (hide B (upd H p (.frz o (.tup vs)))) (.ref p) (.tuple ds) := by
  have bp : B p = false := by
    cases q : B p with
    | false => rfl
    | true => obtain ⟨o, e⟩ := bk p q; rw [h] at e; cases e
  exact ⟨Sub.new h, .tup (.inl (.inr ⟨o, hide_of bp upd_same⟩)) (r.mono (hsub (Sub.new h))) fun _ => ⟨o, _, hide_of bp upd_same, x⟩⟩
theorem je_tup {x1} (h : JL c N sc es mr) : JE c N sc (.Tuple es x1 pos) (tupK mr) := by
  obtain ⟨t, h1, h2⟩ := h
  refine ⟨_, fun X W I T => pe_tupX (h1 X W I T), fun W B σ H ρ α S Qm Em m Q q x => ?_⟩
  refine h2 W B σ H ρ α S _ Em m _ (fun vs ds B1 H1 α1 A1 r1 m => ⟨by rw [r1.length]; exact sz5 m.1, fun p o ho hp => ?_⟩) x
  obtain ⟨s1, r2⟩ := tup_new A1.bs.bk ho hp r1
  exact q _ _ _ _ _ (A1.trans S.bs (Af.of_sub A1.bs s1)) r2 m.2
theorem jf_lst (h : JL c N sc es mr) : JF c N sc (.List es pos) (lstK mr) := by
  obtain ⟨t, h1, h2⟩ := h
  refine ⟨_, fun X W I T => pe_lst (h1 X W I T), fun W B σ H ρ α S Qm Em m Q q x => ?_⟩
  refine h2 W B σ H ρ α S _ Em m _ (fun vs ds B1 H1 α1 A1 r1 m => ⟨by rw [r1.length]; exact sz5 m.1, fun p hp => ?_⟩) x
  exact q p _ _ _ α1 (A1.trans S.bs (Af.cell A1.bs (Sub.new hp) hp (.own (own_new hp r1)))) (A1.bs.new hp) m.2
end
abbrev Fm := List D → AH → QD → QX → Prop
/-- what a def promises -/
def spD (K : Frag) (fm : Fm) : Sp := fun vs H Q E => ∃ (B : Addr → Bool) (α : AH) (ds : List D) (Qm : QD) (Em : QX), Bs K B H α ∧ RpL K (hide B H) vs ds ∧ fm ds α Qm Em ∧
  (∀ v d B' H' α', Af K B H α B' H' α' → Rp K (hide B' H') v d → Qm d α' → Q v H') ∧ ∀ x B' α' cls d H', Af K B H α B' H' α' → XR K (hide B' H') cls d x → Em x α' → E cls d H'
/-- a def of the text as its data say -/
abbrev FnD (c : C0) (k : Nat) (x : Str) (np : Nat) (ds : List D) (fm : Fm) : Prop := ∃ (f : Addr) (fd : FuncData) (ps : List Str) (dV : List Value) (dvs : List V), FnOk c.P c.w c.K c.mg c.base (L2.CX c.P c.w) k f fd ps (fun vs H Q E => vs.length = ps.length ∧ spD c.K fm vs H Q E) ∧ c.mg x = some (.ref f) ∧ PySem.W.keepIn c.K (.ref f) = true ∧ Binds c.K fd ps dV ∧ Vals dvs dV ∧ (∀ H, RpL c.K H dvs ds) ∧ ps.length = np + ds.length
theorem FnD.ex {c : C0} {k : Nat} {x : Str} {np : Nat} {ds : List D} {fm : Fm} (h : FnD c k x np ds fm) : ∃ (f : Addr) (fd : FuncData) (ps : List Str) (dV : List Value) (dvs : List V), FnOk c.P c.w c.K c.mg c.base (L2.CX c.P c.w) k f fd ps (fun vs H Q E => vs.length = ps.length ∧ spD c.K fm vs H Q E) ∧ c.mg x = some (.ref f) ∧ PySem.W.keepIn c.K (.ref f) = true ∧ Binds c.K fd ps dV ∧ Vals dvs dV ∧ (∀ H, RpL c.K H dvs ds) ∧ ps.length = np + ds.length := h
section
variable {c : C0} {N : List Str} {sc : Scope} {e : Expr} {es : List Expr} {mr : ML} {pos p : Pos} {K : Frag} {W : WX} {x : Str}
/-- the number of arguments is asked -/
def callN (np : Nat) (fm : Fm) (ds : List D) (m : ML) : ME := fun ρ α Q E => m ρ α (fun as α1 => as.length = np ∧ fm (as ++ ds) α1 Q E) E
theorem sd_call {ta : TA} {fm : Fm} {np n : Nat} {ds : List D} {dvs : List V} (hd : ∀ H, RpL K H dvs ds) (hn : n = np + ds.length) (h : SA K W ta mr) : Sd K W (tCallSD (fun vs H Q E => vs.length = n ∧ spD K fm vs H Q E) dvs (WE W) ta) (callN np fm ds mr) := fun B σ H ρ α S Qm Em m Q q x => by
  refine h B σ H ρ α S _ Em m _ (fun vs as B1 H1 α1 A1 ra m => ?_) x
  refine ⟨by rw [List.length_append, ra.length, m.1, hn, (hd H1).length], B1, α1, as ++ ds, Qm, Em, A1.bs, ra.append (hd _), m.2, fun v d B2 H2 α2 A2 r2 m => q v d B2 H2 α2 (A1.trans S.bs A2) r2 m, fun y B2 α2 cls d H2 A2 r2 m => x y B2 α2 cls d H2 (A1.trans S.bs A2) r2 m⟩
theorem je_call {fm : Fm} {np k : Nat} {ds : List D} (F : FnD c k x np ds fm) (hk : k ≤ c.k) (hg : sc.names.lookup x = some .globalImplicit) (ha : JL c N sc (e :: es) mr) (hc : c.cm = true := by rfl)
    (hdb : (x == ("__debug__" : Str)) = false := by decide) (he : ∀ env, starEach (e :: es) env = (false, eval e env) :: starEach es env := by intros; rfl) (hpl : ∀ env, (backTo pos (starEach es env)).any (·.1) = false := by intros; rfl) :
    JE c N sc (.Call (.Name x p) (e :: es) [] pos) (callN np fm ds mr) := by
  obtain ⟨f, fd, ps, dV, dvs, F, h1, h2, h3, h4, h5, h6⟩ := F.ex
  obtain ⟨t, p1, s1⟩ := ha
  refine ⟨fun W => tCallSD (fun vs H Q E => vs.length = ps.length ∧ spD c.K fm vs H Q E) dvs (WE W) (t W), fun X W I T => ?_, fun W => sd_call h5 h6 (s1 W)⟩
  have F' : FnOk X.prog X.w X.K X.mg X.base (L2.CX X.prog X.w) k f fd ps (fun vs H Q E => vs.length = ps.length ∧ spD c.K fm vs H Q E) := by
    rw [I.P, I.w, I.K, I.mg, I.base]
    exact F
  exact pe_callSD F' ((I.rm hc).mono hk) (I.gl hg) (by rw [I.mg]; exact h1) (by rw [I.K]; exact h2) (by rw [I.K]; exact h3) h4 (fun σ => passAt T σ) (p1 X W I T) hdb (he _) (hpl _)
end
end Hz
namespace Hz
open PySem L2
/-- what is wished behind a statement -/
structure Md where
  nx : En → AH → Prop
  rt : D → AH → Prop
  bk : En → AH → Prop
  ct : En → AH → Prop
  ex : Ex → En → AH → Prop
abbrev MS := En → AH → Md → Prop
structure Fi (K : Frag) (B : Addr → Bool) (H : Hp) (α : AH) (D : Md) (Dn : Ends) : Prop where
  nx : ∀ B' σ' H' ρ' α', Af K B H α B' H' α' → SR K B' σ' H' ρ' α' → D.nx ρ' α' → Dn.nx σ' H'
  rt : ∀ v d B' H' α', Af K B H α B' H' α' → Rp K (hide B' H') v d → D.rt d α' → Dn.rt v H'
  bk : ∀ B' σ' H' ρ' α', Af K B H α B' H' α' → SR K B' σ' H' ρ' α' → D.bk ρ' α' → Dn.bk σ' H'
  ct : ∀ B' σ' H' ρ' α', Af K B H α B' H' α' → SR K B' σ' H' ρ' α' → D.ct ρ' α' → Dn.ct σ' H'
def FX (K : Frag) (W : WX) (B : Addr → Bool) (H : Hp) (α : AH) (D : Md) : Prop := ∀ x B' σ' ρ' α' cls d H', Af K B H α B' H' α' → SR K B' σ' H' ρ' α' → XR K (hide B' H') cls d x → D.ex x ρ' α' → W cls d σ' H'
def SS (K : Frag) (W : WX) (t : TS) (m : MS) : Prop := ∀ B σ H ρ α, SR K B σ H ρ α → ∀ D, m ρ α D → ∀ Dn : Ends, Fi K B H α D Dn → FX K W B H α D → t Dn σ H
def JS (c : C0) (N : List Str) (sc : Scope) (s : Stmt) (m : MS) : Prop := ∃ t : WX → TS, (∀ X W, In c N sc X → Takes X W → PS X s (t W)) ∧ ∀ W, SS c.K W (t W) m
def JB (c : C0) (N : List Str) (sc : Scope) (s : List Stmt) (m : MS) : Prop := ∃ t : WX → TS, (∀ X W, In c N sc X → Takes X W → PSs X s (t W)) ∧ ∀ W, SS c.K W (t W) m
section
variable {K : Frag} {W : WX} {B B1 : Addr → Bool} {σ : St} {H H1 : Hp} {ρ : En} {α α1 : AH} {D : Md} {Dn : Ends}
theorem Fi.after (S : Bs K B H α) (h : Fi K B H α D Dn) (a : Af K B H α B1 H1 α1) : Fi K B1 H1 α1 D Dn :=
  ⟨fun B' σ' H' ρ' α' b => h.nx B' σ' H' ρ' α' (a.trans S b), fun v d B' H' α' b => h.rt v d B' H' α' (a.trans S b), fun B' σ' H' ρ' α' b => h.bk B' σ' H' ρ' α' (a.trans S b), fun B' σ' H' ρ' α' b => h.ct B' σ' H' ρ' α' (a.trans S b)⟩
theorem FX.after (S : Bs K B H α) (h : FX K W B H α D) (a : Af K B H α B1 H1 α1) : FX K W B1 H1 α1 D := fun x B' σ' ρ' α' cls d H' b => h x B' σ' ρ' α' cls d H' (a.trans S b)
/-- an expression of a statement raises at the statement's slots -/
theorem FX.sx (S : SR K B σ H ρ α) (h : FX K W B H α D) : SX K W B σ H α (fun x α' => D.ex x ρ α') := fun x B' α' cls d H' a r e => h x B' σ ρ α' cls d H' a (S.step a) r e
end
def nextS : MS := fun ρ α D => D.nx ρ α
def seqS (m1 m2 : MS) : MS := fun ρ α D => m1 ρ α { D with nx := fun ρ1 α1 => m2 ρ1 α1 D }
def breakS : MS := fun ρ α D => D.bk ρ α
def contS : MS := fun ρ α D => D.ct ρ α
def dropS (m : ME) : MS := fun ρ α D => m ρ α (fun _ α1 => D.nx ρ α1) (fun x α1 => D.ex x ρ α1)
def retS (m : ME) : MS := fun ρ α D => m ρ α (fun d α1 => D.rt d α1) (fun x α1 => D.ex x ρ α1)
def retN : MS := fun ρ α D => D.rt .none α
def ifS (mt : MT) (m1 m2 : MS) : MS := fun ρ α D => mt ρ α (fun b α1 => if b = true then m1 ρ α1 D else m2 ρ α1 D) (fun x α1 => D.ex x ρ α1)
def setv (i : Nat) (d : D) (ρ : En) : Option En := some (ρ.set i (some d))
def asgS (m : ME) (g : D → En → Option En) : MS := fun ρ α D => m ρ α (fun d α1 => oq (g d ρ) fun ρ1 => D.nx ρ1 α1) (fun x α1 => D.ex x ρ α1)
/-- the cell in a slot becomes a datum -/
def frzS (i : Nat) (m : MS) : MS := fun ρ α D => ∃ p c, ρ[i]? = some (some (dref p)) ∧ α p = some c ∧ m (ρ.set i (some c)) (adel α p) D
section
variable {c : C0} {N : List Str} {sc : Scope} {K : Frag} {W : WX} {t u : TS} {m m1 m2 : MS} {s : Stmt} {rest b1 b2 : List Stmt} {me : ME} {mt : MT} {e : Expr} {pos p1 : Pos} {i : Nat} {x : Str}
theorem ss_next : SS K W tNext nextS := fun B σ H ρ α S D m Dn h x => h.nx B σ H ρ α (Af.refl S.bs) S m
theorem ss_seq (h1 : SS K W t m1) (h2 : SS K W u m2) : SS K W (tSeq t u) (seqS m1 m2) := fun B σ H ρ α S D m Dn h x =>
  h1 B σ H ρ α S _ m _ ⟨fun B' σ' H' ρ' α' a S' m' => h2 B' σ' H' ρ' α' S' D m' Dn (h.after S.bs a) (x.after S.bs a), h.rt, h.bk, h.ct⟩ x
theorem jb_nil : JB c N sc [] nextS := ⟨_, fun _ _ _ _ => pss_nil, fun _ => ss_next⟩
theorem jb_cons (h : JS c N sc s m1) (k : JB c N sc rest m2) : JB c N sc (s :: rest) (seqS m1 m2) := by
  obtain ⟨t, h1, h2⟩ := h
  obtain ⟨u, k1, k2⟩ := k
  exact ⟨_, fun X W I T => pss_cons (h1 X W I T) (k1 X W I T), fun W => ss_seq (h2 W) (k2 W)⟩
theorem jb_one (h : JS c N sc s m1) : JB c N sc [s] m1 := by
  obtain ⟨t, h1, h2⟩ := h
  exact ⟨_, fun X W I T => pss_one (h1 X W I T), h2⟩
theorem js_expr (h : JE c N sc e me) (hs : ∀ env, swapsWith e none pos.line env = pure false := by intros; rfl) : JS c N sc (.Expr e pos) (dropS me) := by
  obtain ⟨t, h1, h2⟩ := h
  exact ⟨_, fun X W I T => ps_expr (h1 X W I T) (hs _), fun W B σ H ρ α S D m Dn h x => h2 W B σ H ρ α S _ _ m _ (fun v d B' H' α' A r q => h.nx B' σ H' ρ α' A (S.step A) q) (x.sx S)⟩
theorem js_ret (h : JE c N sc e me) : JS c N sc (.Return (some e) pos) (retS me) := by
  obtain ⟨t, h1, h2⟩ := h
  exact ⟨_, fun X W I T => ps_ret (h1 X W I T), fun W B σ H ρ α S D m Dn h x => h2 W B σ H ρ α S _ _ m _ (fun v d B' H' α' A r q => h.rt v d B' H' α' A r q) (x.sx S)⟩
theorem js_if (ht : JT c N sc e mt) (h1 : JB c N sc b1 m1) (h2 : JB c N sc b2 m2) : JS c N sc (.If e b1 b2 pos) (ifS mt m1 m2) := by
  obtain ⟨t, p1, s1⟩ := ht
  obtain ⟨u, p2, s2⟩ := h1
  obtain ⟨w, p3, s3⟩ := h2
  refine ⟨_, fun X W I T => ps_if (p1 X W I T) (p2 X W I T) (p3 X W I T), fun W B σ H ρ α S D m Dn h x => s1 W B σ H ρ α S _ _ m _ (fun b B' H' α' A q => ?_) (x.sx S)⟩
  cases b with
  | true => exact s2 W B' σ H' ρ α' (S.step A) D q Dn (h.after S.bs A) (x.after S.bs A)
  | false => exact s3 W B' σ H' ρ α' (S.step A) D q Dn (h.after S.bs A) (x.after S.bs A)
end
/-- a target at the slots js -/
def SgT (K : Frag) (js : List Nat) (g : TG) (mg : D → En → Option En) : Prop :=
  ∀ B σ H ρ α v d ρ', SR K B σ H ρ α → Rp K (hide B H) v d → mg d ρ = some ρ' → ∀ Q : St → Hp → Prop, (∀ σ', SR K B σ' H ρ' α → (∀ j, j ∉ js → σ'[j]? = σ[j]? ∧ ρ'[j]? = ρ[j]?) → σ'.length = σ.length → Q σ' H) → g v σ H Q
def SgTs (K : Frag) (js : List Nat) (g : TGs) (mg : List D → En → Option En) : Prop :=
  ∀ B σ H ρ α vs ds ρ', SR K B σ H ρ α → RpL K (hide B H) vs ds → mg ds ρ = some ρ' → ∀ Q : St → Hp → Prop, (∀ σ', SR K B σ' H ρ' α → (∀ j, j ∉ js → σ'[j]? = σ[j]? ∧ ρ'[j]? = ρ[j]?) → σ'.length = σ.length → Q σ' H) → g vs σ H Q
theorem SR.set {K : Frag} {B : Addr → Bool} {σ : St} {H : Hp} {ρ : En} {α : AH} {i : Nat} {v : V} {d : D} (S : SR K B σ H ρ α) (r : Rp K (hide B H) v d) : SR K B (σ.set i (some v)) H (ρ.set i (some d)) α := by
  refine ⟨by simpa using S.len, fun j d' e => ?_, S.bs⟩
  by_cases q : i = j
  · subst q
    have hl : i < ρ.length := by simpa using (List.getElem?_eq_some_iff.mp e).1
    rw [List.getElem?_set_self hl] at e
    cases e
    exact ⟨v, List.getElem?_set_self (by rw [S.len]; exact hl), r⟩
  · rw [List.getElem?_set_ne q] at e
    obtain ⟨w, a, b⟩ := S.val j d' e
    exact ⟨w, by rw [List.getElem?_set_ne q]; exact a, b⟩
theorem sgt_name {K : Frag} {i : Nat} : SgT K [i] (gName i) (setv i) := fun B σ H ρ α v d ρ' S r e Q q => by
  cases e
  refine q _ (S.set r) (fun j hj => ?_) (by simp)
  have z : i ≠ j := fun z => hj (by simp [z])
  exact ⟨List.getElem?_set_ne z, List.getElem?_set_ne z⟩
def tgNil : List D → En → Option En := fun ds ρ => match ds with
  | [] => some ρ
  | _ => none
def tgCons (mg : D → En → Option En) (mr : List D → En → Option En) : List D → En → Option En := fun ds ρ => match ds with
  | d :: r => (mg d ρ).bind (mr r)
  | [] => none
def tgTup (n : Nat) (mr : List D → En → Option En) : D → En → Option En := fun d ρ => match d with
  | .tuple ds => if ds.length = n then mr ds ρ else none
  | _ => none
def JTg (c : C0) (N : List Str) (sc : Scope) (e : Expr) (js : List Nat) (mg : D → En → Option En) : Prop := ∃ g, (∀ X, In c N sc X → PG X e g) ∧ SgT c.K js g mg
def JTgs (c : C0) (N : List Str) (sc : Scope) (es : List Expr) (js : List Nat) (mg : List D → En → Option En) : Prop := ∃ g, (∀ X, In c N sc X → PGs X es g) ∧ SgTs c.K js g mg
section
variable {K : Frag} {mg : D → En → Option En} {mr : List D → En → Option En} {js ks : List Nat} {n : Nat}
theorem sgts_nil : SgTs K [] gNil tgNil := fun B σ H ρ α vs ds ρ' S r e Q q => by
  cases r with
  | nil =>
    cases e
    exact ⟨rfl, q σ S (fun _ _ => ⟨rfl, rfl⟩) rfl⟩
  | cons _ _ => cases e
theorem sgts_cons {g : TG} {u : TGs} (h : SgT K js g mg) (k : SgTs K ks u mr) : SgTs K (js ++ ks) (gCons g u) (tgCons mg mr) := fun B σ H ρ α vs ds ρ' S r e Q q => by
  cases r with
  | nil => cases e
  | cons r1 r2 =>
    rename_i v vs d ds
    unfold tgCons at e
    cases z : mg d ρ with
    | none => simp [z] at e
    | some ρ1 =>
      simp only [z, Option.bind_some] at e
      refine ⟨v, vs, rfl, h B σ H ρ α v d ρ1 S r1 z _ fun σ1 b1 l1 n1 => ?_⟩
      refine k B σ1 H ρ1 α vs ds ρ' b1 r2 e _ fun σ2 b2 l2 n2 => q σ2 b2 (fun j hj => ?_) (n2.trans n1)
      rw [List.mem_append, not_or] at hj
      obtain ⟨a1, a2⟩ := l1 j hj.1
      obtain ⟨a3, a4⟩ := l2 j hj.2
      exact ⟨a3.trans a1, a4.trans a2⟩
theorem sgt_tup {u : TGs} (k : SgTs K ks u mr) : SgT K ks (gTup K n u) (tgTup n mr) := fun B σ H ρ α v d ρ' S r e Q q => by
  unfold tgTup at e
  split at e
  · rename_i ds
    split at e
    · rename_i hn
      cases r with
      | tup ht rr _ =>
        refine ⟨_, _, rfl, sub_t (hide_sub B H) ht, ?_, ?_⟩
        · rw [rr.length]; exact hn
        · exact k B σ H ρ α _ ds ρ' S rr e Q q
    · cases e
  · cases e
end
/-- a name that may be stored -/
def Sto (c : C0) (sc : Scope) (x : Str) : Prop := sc.names.lookup x = some .local ∨ ((c.top || c.oc.contains x) = true ∧ sc.names.lookup x = some .cell)
section
variable {c : C0} {N : List Str} {sc : Scope} {e value : Expr} {es : List Expr} {js ks : List Nat} {mg : D → En → Option En} {mr : List D → En → Option En} {pos p1 p2 : Pos} {i j n k : Nat} {x : Str} {me mi : ME} {K : Frag} {W : WX}
theorem Sto.loc {X : Cx} (h : Sto c sc x) (I : In c N sc X) : Loc X.env.scope x := by
  rw [I.sc]
  rcases h with h | ⟨_, h⟩
  · exact .inl h
  · exact .inr h
theorem Sto.vis (h : Sto c sc x) : Vis sc x := by
  rcases h with h | ⟨_, h⟩
  · exact .inl h
  · exact .inr (.inl h)
theorem Sto.fn {X : Cx} (h : Sto c sc x) (I : In c N sc X) : X.fn x = true ∨ X.env.scope.names.lookup x = some .local := by
  rw [I.sc]
  rcases h with h | ⟨h, _⟩
  · exact .inr h
  · rcases Bool.or_eq_true _ _ ▸ h with h | h
    · rw [I.fn h]; exact .inl rfl
    · exact .inl (I.oc _ h)
theorem jtg_name (nd : N.Nodup) (hN : N[i]? = some x) (hs : Sto c sc x) : JTg c N sc (.Name x pos) [i] (setv i) :=
  ⟨_, fun X I => pg_name (by rw [I.N]; exact nd) (by rw [I.N]; exact hN) (hs.loc I) (hs.fn I), sgt_name⟩
theorem jtgs_nil : JTgs c N sc [] [] tgNil := ⟨_, fun _ _ => pgs_nil, sgts_nil⟩
theorem jtgs_cons (h : JTg c N sc e js mg) (k : JTgs c N sc es ks mr) (hs : ∀ env, (assignEach (e :: es) env).map (·.2) = assign e env :: (assignEach es env).map (·.2) := by intros; rfl) : JTgs c N sc (e :: es) (js ++ ks) (tgCons mg mr) := by
  obtain ⟨g, h1, h2⟩ := h
  obtain ⟨u, k1, k2⟩ := k
  exact ⟨_, fun X I => pgs_cons (h1 X I) (k1 X I) (hs _), sgts_cons h2 k2⟩
theorem jtg_tup (h : JTgs c N sc es js mr) (hc : c.cm = true := by rfl) (hn : ∀ env, (assignEach es env).length = n := by intros; rfl) (hst : ∀ env, (assignEach es env).findIdx? (·.1) = none := by intros; rfl) : JTg c N sc (.Tuple es k pos) js (tgTup n mr) := by
  obtain ⟨u, k1, k2⟩ := h
  refine ⟨gTup c.K n u, fun X I => ?_, sgt_tup k2⟩
  have q := pg_tup (k := k) (pos := pos) (I.calm hc) (k1 X I) (hn _) (hst _)
  rw [I.K] at q
  exact q
theorem ss_asg {te : TE} {g : TG} (h : Sd K W te me) (k : SgT K js g mg) : SS K W (tAsg te g) (asgS me mg) := fun B σ H ρ α S D m Dn h' x =>
  h B σ H ρ α S _ _ m _ (fun v d B' H' α' A r q => by
    obtain ⟨ρ', e, q⟩ := q
    exact k B' σ H' ρ α' v d ρ' (S.step A) r e _ fun σ' S' _ _ => h'.nx B' σ' H' ρ' α' A S' q) (x.sx S)
theorem js_set (nd : N.Nodup) (hN : N[i]? = some x) (hs : Sto c sc x) (h : JE c N sc e me) (hw : ∀ env, swapsWith e (some (.Name x p1)) pos.line env = pure false := by intros; rfl) : JS c N sc (.Assign [.Name x p1] e pos) (asgS me (setv i)) := by
  obtain ⟨t, h1, h2⟩ := h
  exact ⟨_, fun X W I T => ps_set (by rw [I.N]; exact nd) (by rw [I.N]; exact hN) (hs.loc I) (h1 X W I T) (hw _) (hs.fn I), fun W => ss_asg (h2 W) sgt_name⟩
theorem js_asg (h : JE c N sc value me) (g : JTg c N sc e js mg) (hs : ∀ env, swapsWithSole [e] value pos.line env = pure false := by intros; rfl) (hw : ∀ env, swappedStores [e] value env = pure none := by intros; rfl)
    (h1 : ∀ env, (assignEach [e] env).map (·.2) = [assign e env] := by intros; rfl) : JS c N sc (.Assign [e] value pos) (asgS me mg) := by
  obtain ⟨t, a1, a2⟩ := h
  obtain ⟨u, b1, b2⟩ := g
  exact ⟨_, fun X W I T => ps_asg (a1 X W I T) (b1 X I) (hs _) (hw _) (h1 _), fun W => ss_asg (a2 W) b2⟩
end
def augS (g : D → D → Option D) (i : Nat) (me : ME) : MS := fun ρ α D => ∃ d, ρ[i]? = some (some d) ∧ me ρ α (fun e α1 => oq (g d e) fun z => D.nx (ρ.set i (some z)) α1) (fun x α1 => D.ex x ρ α1)
section
variable {c : C0} {N : List Str} {sc : Scope} {e : Expr} {pos p1 : Pos} {x : Str} {me : ME} {g : D → D → Option D}
/-- a, b = x, y -/
def parS (i j : Nat) (ml : ML) : MS := fun ρ α D => ml ρ α (fun ds α1 => ∃ d e, ds = [d, e] ∧ D.nx ((ρ.set i (some d)).set j (some e)) α1) (fun x α1 => D.ex x ρ α1)
theorem js_aug {op : Operator} {i : Nat} (nd : N.Nodup) (ho : OpD c.K (In c N sc) (inplaceOp op) g) (h : JE c N sc e me) (hN : N[i]? = some x := by rfl) (hs : Sto c sc x := by first | exact Or.inl rfl | exact Or.inr ⟨rfl, rfl⟩) : JS c N sc (.AugAssign (.Name x p1) op e pos) (augS g i me) := by
  obtain ⟨r, h1, h2⟩ := ho.ex
  obtain ⟨t, a1, a2⟩ := h
  refine ⟨_, fun X W I T => ps_aug (by rw [I.N]; exact nd) (by rw [I.N]; exact hN) (hs.loc I) (a1 X W I T) (h1 X I) (hs.fn I), fun W B σ H ρ α S D m Dn h' x => ?_⟩
  obtain ⟨d, e0, m⟩ := m
  obtain ⟨v, g1, g2⟩ := S.val i d e0
  refine ⟨v, g1, a2 W B σ H ρ α S _ _ m _ (fun w d1 B1 H1 α1 A1 r1 m => ?_) (x.sx S)⟩
  obtain ⟨z, hz, m⟩ := m
  refine h2 B1 H1 v w d d1 z A1.bs.bk (.vis (g2.mono A1.sub)) (.vis r1) hz _ fun y H2 s2 r2 => ?_
  have A2 := A1.trans S.bs (Af.of_sub A1.bs s2)
  exact h'.nx _ _ _ _ _ A2 ((S.step A2).set r2) m
end
structure MuD (K : Frag) (XS : Cx → Prop) (id : String) (f : List D → List D → Option (D × List D)) : Prop where
  ex : ∃ r : V → List V → Hp → VK → Prop, (∀ X, XS X → MtR X id r) ∧ ∀ (B : Addr → Bool) (H : Hp) (l : Addr) (vs : List V) (ds : List D) (us : List V) (as : List D) (z : D) (ds' : List D),
    (∀ a, B a = true → ∃ o, H a = some o) → B l = true → H l = some (.lst vs) → RpL K (hide B H) vs ds → RpL K (hide B H) us as → f ds as = some (z, ds') →
    ∀ Q : VK, (∀ y vs', RpL K (hide B H) vs' ds' → Rp K (hide B H) y z → Q y (upd H l (.lst vs'))) → r (.ref l) us H Q
/-- a cell that holds a list -/
def cellL (α : AH) (o : D) (Q : Addr → List D → Prop) : Prop := ∃ a ds, o = dref a ∧ α a = some (.list ds) ∧ Q a ds
/-- vs: are the arguments read through their cells? -/
def mapV (α : AH) : List D → Option (List D)
  | [] => some []
  | d :: ds => (vw α d).bind fun z => (mapV α ds).map fun r => z :: r
def mutK (f : List D → List D → Option (D × List D)) (mo : ME) (ma : ML) : ME := fun ρ α Q E => mo ρ α (fun o α1 => cellL α1 o fun _ _ => ma ρ α1 (fun as α2 => cellL α2 o fun a ds => oq (f ds as) fun z => Q z.1 (aset α2 a (.list z.2))) E) E
section
variable {c : C0} {N : List Str} {sc : Scope} {e e2 o : Expr} {es : List Expr} {pos p1 p2 p3 : Pos} {i : Nat} {x m : Str} {me mi mo : ME} {ma : ML} {K : Frag} {W : WX} {id : String} {f : List D → List D → Option (D × List D)} {r : V → List V → Hp → VK → Prop}
theorem Bs.list {B : Addr → Bool} {H : Hp} {α : AH} {l : Addr} {ds : List D} (S : Bs K B H α) (h : α l = some (.list ds)) : B l = true ∧ ∃ vs, H l = some (.lst vs) ∧ RpL K (hide B H) vs ds := by
  obtain ⟨h1, h2⟩ := S.cel l _ h
  refine ⟨h1, ?_⟩
  generalize ez : PyData.list ds = z at h2
  generalize eo : H l = o at h2
  cases h2 with
  | own h =>
    subst ez
    exact h
  | obj h => cases ez
  | lck h => cases ez
theorem dref_inj {a b : Addr} (h : dref a = dref b) : a = b := by
  have e1 := List.cons.inj (PyData.dict.inj h)
  have e2 : PyData.int (Int.ofNat a) = PyData.int (Int.ofNat b) := congrArg Prod.snd e1.1
  exact Int.ofNat.inj (PyData.int.inj e2)
theorem sd_mut {to : TE} {ta : TA} (ho : Sd K W to mo) (h : SA K W ta ma) (hr : ∀ (B : Addr → Bool) (H : Hp) (l : Addr) (vs : List V) (ds : List D) (us : List V) (as : List D) (z : D) (ds' : List D),
    (∀ a, B a = true → ∃ o, H a = some o) → B l = true → H l = some (.lst vs) → RpL K (hide B H) vs ds → RpL K (hide B H) us as → f ds as = some (z, ds') →
    ∀ Q : VK, (∀ y vs', RpL K (hide B H) vs' ds' → Rp K (hide B H) y z → Q y (upd H l (.lst vs'))) → r (.ref l) us H Q) : Sd K W (tBM K "list" r to ta) (mutK f mo ma) := fun B σ H ρ α S Qm Em m Q q x => by
  refine ho B σ H ρ α S _ Em m _ (fun v o B1 H1 α1 A1 r1 m => ?_) x
  obtain ⟨a, ds, rfl, e1, m⟩ := m
  obtain ⟨b1, vs, g1, g2⟩ := A1.bs.list e1
  have hv := r1.cell
  subst hv
  refine ⟨.inl ⟨rfl, vs, .inl (.inl g1)⟩, ?_⟩
  refine h B1 σ H1 ρ α1 (S.step A1) _ Em m _ (fun us as B2 H2 α2 A2 ra m => ?_) (x.after S.bs A1)
  obtain ⟨a', ds', ea, e2, z, hz, m⟩ := m
  have ea' := dref_inj ea
  subst ea'
  obtain ⟨b2, vs', g3, g4⟩ := A2.bs.list e2
  obtain ⟨z1, z2⟩ := z
  refine hr B2 H2 a vs' ds' us as z1 z2 A2.bs.bk b2 g3 g4 ra hz _ fun y ws k1 k2 => ?_
  have w := Af.write (o := .lst ws) (c := .list z2) A2.bs e2 (.own ⟨_, rfl, k1⟩)
  exact q y z1 B2 _ _ ((A1.trans S.bs A2).trans S.bs w) (k2.mono w.sub) m
theorem je_mut (ho : MuD c.K (In c N sc) id f) (slot : Slot "list" m id) (hty : typeOf (.builtin id) = pure (.type "method_descriptor")) (h1 : JE c N sc o mo) (h : JL c N sc (e :: es) ma)
    (hbase : ∀ env, attributeBase o m env (eval o env) = eval o env := by intros; rfl)
    (hfew : ∀ env, ((backTo p3 (starEach (e :: es) env)).all (fun x => !x.1) && (backToKw p3 (keywordEach [] env)).all (fun x => x.1.isSome) && decide ((e :: es).length + ([] : List Keyword).length + (if ([] : List Keyword).isEmpty then 0 else 1) < 30)) = true := by intros; rfl)
    (hline : (p2.endLine == p3.line) = true := by rfl) (hs : ∀ env, starEach (e :: es) env = (false, eval e env) :: starEach es env := by intros; rfl) (hplain : ∀ env, (backTo p3 (starEach es env)).any (·.1) = false := by intros; rfl) :
    JE c N sc (.Call (.Attribute o m p2) (e :: es) [] p3) (mutK f mo ma) := by
  obtain ⟨t, a1, a2⟩ := h
  obtain ⟨u, b1, b2⟩ := h1
  obtain ⟨r, hr1, hr2⟩ := ho.ex
  refine ⟨fun W => tBM c.K "list" r (u W) (t W), fun X W I T => ?_, fun W => sd_mut (b2 W) (a2 W) hr2⟩
  have q := pe_bm (cpos := p3) (apos := p2) PySem.F.plainAttrs_list slot hty (hr1 X I) (b1 X W I T) (a1 X W I T) (hbase _) (hfew _) hline (hs _) (hplain _)
  rw [I.K] at q
  exact q
def muAppend (ds as : List D) : Option (D × List D) := match as with
  | [d] => if ds.length < 100000 then some (.none, ds ++ [d]) else none
  | _ => none
theorem mu_append {XS : Cx → Prop} : MuD K XS "list.append" muAppend := ⟨_, fun X _ => mt_append, fun B H l vs ds us as z ds' bk bl hl r ra e Q q => by
  unfold muAppend at e
  split at e
  · rename_i d
    split at e
    · rename_i hn
      cases e
      cases ra with
      | cons r1 r2 =>
        cases r2
        exact ⟨l, vs, _, rfl, rfl, hl, Nat.lt_of_lt_of_le (by rw [r.length]; exact hn) (by decide), q _ _ (r.append (.cons r1 .nil)) .non⟩
    · cases e
  · cases e⟩
/-- o[k] = e, o a list that changes -/
def setiS (me mo mi : ME) : MS := fun ρ α D => me ρ α (fun d α1 => mo ρ α1 (fun o α2 => mi ρ α2 (fun k α3 => cellL α3 o fun a ds => ∃ i, k = .int i ∧ oq (ixN ds.length i) fun j => D.nx ρ (aset α3 a (.list (ds.set j d)))) (fun x α1 => D.ex x ρ α1)) (fun x α1 => D.ex x ρ α1)) (fun x α1 => D.ex x ρ α1)
theorem ss_seti {te to ti : TE} (h : Sd K W te me) (ho : Sd K W to mo) (hi : Sd K W ti mi) : SS K W (tAsg te (gSub to ti rSetL)) (setiS me mo mi) := fun B σ H ρ α S D m Dn h' x => by
  refine h B σ H ρ α S _ _ m _ (fun v d B1 H1 α1 A1 r1 m => ?_) (x.sx S)
  have S1 := S.step A1
  refine ho B1 σ H1 ρ α1 S1 _ _ m _ (fun w o B2 H2 α2 A2 r2 m => ?_) ((x.sx S).after S.bs A1)
  have A12 := A1.trans S.bs A2
  refine hi B2 σ H2 ρ α2 (S.step A12) _ _ m _ (fun y k B3 H3 α3 A3 r3 m => ?_) ((x.sx S).after S.bs A12)
  obtain ⟨a, ds, rfl, e, i, rfl, j, hj, m⟩ := m
  obtain ⟨b1, vs, g1, g2⟩ := A3.bs.list e
  have hw := r2.cell
  subst hw
  refine ⟨a, vs, i, j, rfl, r3.inti, g1, by rw [g2.length]; exact hj, ?_⟩
  have w := Af.write (o := .lst (vs.set j v)) (c := .list (ds.set j d)) A3.bs e (.own ⟨_, rfl, g2.set (r1.mono (A2.sub.trans A3.sub)) j⟩)
  have A := (A12.trans S.bs A3).trans S.bs w
  exact h'.nx _ _ _ _ _ A (S.step A) m
theorem js_seti (h : JE c N sc e me) (ho : JE c N sc o mo) (hi : JE c N sc e2 mi)
    (ha : ∀ env v, assign (.Subscript o e2 p2) env v = (do
      let ov ← holding [v] (eval o env)
      let iv ← holding [v, ov] (eval e2 env)
      standAt p2
      holding [v, ov, iv] (setItem ov iv v)
      release [v, ov, iv] []) := by intros; rfl)
    (hs : ∀ env, swapsWithSole [.Subscript o e2 p2] e pos.line env = pure false := by intros; rfl) (hw : ∀ env, swappedStores [.Subscript o e2 p2] e env = pure none := by intros; rfl)
    (h1 : ∀ env, (assignEach [.Subscript o e2 p2] env).map (·.2) = [assign (.Subscript o e2 p2) env] := by intros; rfl) :
    JS c N sc (.Assign [.Subscript o e2 p2] e pos) (setiS me mo mi) := by
  obtain ⟨t, a1, a2⟩ := h
  obtain ⟨w, d1, d2⟩ := ho
  obtain ⟨u, b1, b2⟩ := hi
  exact ⟨_, fun X W I T => ps_asg (a1 X W I T) (pg_sub (d1 X W I T) (b1 X W I T) set_list (ha _)) (hs _) (hw _) (h1 _), fun W => ss_seti (a2 W) (d2 W) (b2 W)⟩
end
end Hz
namespace Hz
open PySem L2
/-- what is walked: its data, what must stay so while it is walked -/
abbrev MI := En → AH → (List D → (AH → Prop) → AH → Prop) → QX → Prop
def ItOk (K : Frag) (J : It) (G : AH → Prop) (B : Addr → Bool) (H : Hp) (α : AH) (ds : List D) : Prop := ∀ B' H' α', Af K B H α B' H' α' → Sub (hide B H) (hide B' H') → Bs K B' H' α' → G α' →
  (∀ (i : Nat) d, ds[i]? = some d → J.go i H' ∧ ∀ x H'', J.yld i H' x H'' → Sub H' H'' ∧ Rp K (hide B' H'') x d) ∧ J.stop ds.length H'
def SI (K : Frag) (W : WX) (wi : TI) (m : MI) : Prop :=
  ∀ B σ H ρ α, SR K B σ H ρ α → ∀ Qm Em, m ρ α Qm Em → ∀ R : It → Hp → Prop, (∀ J ds G B' H' α', Af K B H α B' H' α' → ItOk K J G B' H' α' ds → Qm ds G α' → R J H') → SX K W B σ H α Em → wi σ H R
def JI (c : C0) (N : List Str) (sc : Scope) (tg iter : Expr) (m : MI) : Prop := ∃ wi : WX → TI, (∀ X W, In c N sc X → Takes X W → PI X tg iter (wi W)) ∧ ∀ W, SI c.K W (wi W) m
def listK (m : ME) : MI := fun ρ α Q E => m ρ α (fun d α1 => ∃ ds, vw α1 d = some (.list ds) ∧ Q ds (fun α' => vw α' d = some (.list ds)) α1) E
def tupleK (m : ME) : MI := fun ρ α Q E => m ρ α (fun d α1 => ∃ ds, d = .tuple ds ∧ Q ds (fun _ => True) α1) E
/-- lo, lo + 1, .., n of them -/
def nums (lo : Int) : Nat → List D
  | 0 => []
  | n + 1 => .int lo :: nums (lo + 1) n
theorem nums_length : ∀ (n : Nat) (lo : Int), (nums lo n).length = n
  | 0, _ => rfl
  | n + 1, lo => by
    show (nums (lo + 1) n).length + 1 = n + 1
    rw [nums_length n]
theorem nums_get : ∀ (n : Nat) (lo : Int) (i : Nat) (d : D), (nums lo n)[i]? = some d → i < n ∧ d = .int (lo + i)
  | 0, _, i, d, h => by simp [nums] at h
  | n + 1, lo, 0, d, h => by
    simp [nums] at h
    exact ⟨by omega, by rw [← h]; simp⟩
  | n + 1, lo, i + 1, d, h => by
    have h' : (nums (lo + 1) n)[i]? = some d := h
    obtain ⟨a, b⟩ := nums_get n (lo + 1) i d h'
    refine ⟨by omega, ?_⟩
    rw [b]
    congr 1
    omega
def rangeK1 (m : ML) : MI := fun ρ α Q E => m ρ α (fun ds α1 => ∃ n : Int, ds = [.int n] ∧ (-(2 ^ 62) ≤ n ∧ n < 2 ^ 62) ∧ Q (nums 0 n.toNat) (fun _ => True) α1) E
def rangeK2 (m : ML) : MI := fun ρ α Q E => m ρ α (fun ds α1 => ∃ a b : Int, ds = [.int a, .int b] ∧ (-(2 ^ 62) ≤ a ∧ a < 2 ^ 62 ∧ -(2 ^ 62) ≤ b ∧ b < 2 ^ 62) ∧ Q (nums a (b - a).toNat) (fun _ => True) α1) E
section
variable {c : C0} {N : List Str} {sc : Scope} {e a b tg : Expr} {pos p : Pos} {me : ME} {ma : ML} {K : Frag} {W : WX}
theorem si_list {te : TE} (h : Sd K W te me) : SI K W (iList K te) (listK me) := fun B σ H ρ α S Qm Em m R q x => by
  refine h B σ H ρ α S _ Em m _ (fun v d B1 H1 α1 A r m => ?_) x
  obtain ⟨ds, hd, m⟩ := m
  cases r with
  | lst hs rr =>
    cases hd
    refine ⟨_, rfl, ⟨_, sub_l (hide_sub B1 H1) hs⟩, q _ ds _ B1 H1 α1 A (fun B' H' α' _ sb bs g => ⟨fun i d hi => ?_, ?_⟩) m⟩
    · obtain ⟨v, g1, g2⟩ := rr.get' hi
      refine ⟨⟨_, v, sub_l ((sb.trans (hide_sub B' H'))) hs, g1⟩, fun x H'' y => ?_⟩
      obtain ⟨rfl, y⟩ := y
      refine ⟨Sub.refl _, ?_⟩
      have := y _ (sub_l (sb.trans (hide_sub B' _)) hs)
      rw [g1] at this
      cases this
      exact g2.mono sb
    · exact ⟨_, sub_l ((sb.trans (hide_sub B' H'))) hs, by rw [rr.length]; exact Nat.le_refl _⟩
  | @ref a =>
    obtain ⟨b1, vs, g1, g2⟩ := A.bs.list (show α1 a = some (.list ds) from hd)
    refine ⟨a, rfl, ⟨vs, .inl (.inl g1)⟩, q _ ds _ B1 H1 α1 A (fun B' H' α' _ sb bs g => ?_) m⟩
    obtain ⟨b2, us, k1, k2⟩ := bs.list (show α' a = some (.list ds) from g)
    refine ⟨fun i d hi => ?_, ⟨us, .inl (.inl k1), by rw [k2.length]; exact Nat.le_refl _⟩⟩
    obtain ⟨v, l1, l2⟩ := k2.get' hi
    refine ⟨⟨us, v, .inl (.inl k1), l1⟩, fun x H'' y => ?_⟩
    obtain ⟨rfl, y⟩ := y
    refine ⟨Sub.refl _, ?_⟩
    have := y _ (.inl (.inl k1))
    rw [l1] at this
    cases this
    exact l2
  | dct _ r =>
    cases r with
    | nil => cases hd
    | @cons k _ _ _ _ r1 r2 => cases k <;> cases hd
  | _ => cases hd
theorem si_tup {te : TE} (h : Sd K W te me) : SI K W (iTup K te) (tupleK me) := fun B σ H ρ α S Qm Em m R q x => by
  refine h B σ H ρ α S _ Em m _ (fun v d B1 H1 α1 A r m => ?_) x
  obtain ⟨ds, rfl, m⟩ := m
  cases r with
  | tup hs rr _ =>
    refine ⟨_, rfl, ⟨_, sub_t (hide_sub B1 H1) hs⟩, q _ ds _ B1 H1 α1 A (fun B' H' α' _ sb bs g => ⟨fun i d hi => ?_, ?_⟩) m⟩
    · obtain ⟨v, g1, g2⟩ := rr.get' hi
      refine ⟨⟨_, v, sub_t ((sb.trans (hide_sub B' H'))) hs, g1⟩, fun x H'' y => ?_⟩
      obtain ⟨rfl, y⟩ := y
      refine ⟨Sub.refl _, ?_⟩
      have := y _ (sub_t (sb.trans (hide_sub B' _)) hs)
      rw [g1] at this
      cases this
      exact g2.mono sb
    · exact ⟨_, sub_t ((sb.trans (hide_sub B' H'))) hs, by rw [rr.length]; exact Nat.le_refl _⟩
theorem ji_list (h : JE c N sc e me) : JI c N sc tg e (listK me) := by
  obtain ⟨t, h1, h2⟩ := h
  refine ⟨fun W => iList c.K (t W), fun X W I T => ?_, fun W => si_list (h2 W)⟩
  have q := pi_list (tg := tg) (h1 X W I T)
  rw [I.K] at q
  exact q
theorem ji_tup (h : JE c N sc e me) : JI c N sc tg e (tupleK me) := by
  obtain ⟨t, h1, h2⟩ := h
  refine ⟨fun W => iTup c.K (t W), fun X W I T => ?_, fun W => si_tup (h2 W)⟩
  have q := pi_tup (tg := tg) (h1 X W I T)
  rw [I.K] at q
  exact q
theorem it_range {B : Addr → Bool} {H : Hp} {G : AH → Prop} {lo : Int} {n : Nat} {α : AH} : ItOk K (Itr lo n) G B H α (nums lo n) := fun B' H' α' _ sb bk g => ⟨fun i d hi => by
  obtain ⟨a, b⟩ := nums_get n lo i d hi
  refine ⟨a, fun x H'' y => ?_⟩
  obtain ⟨rfl, rfl⟩ := y
  refine ⟨Sub.refl _, ?_⟩
  rw [b]
  exact .int _, by rw [nums_length]; exact Nat.le_refl n⟩
theorem ji_range1 (hg : sc.names.lookup ("range" : Str) = some .globalImplicit) (hm : c.mg ("range" : Str) = none) (h : JL c N sc [a] ma) (hs : ∀ env, starEach [a] env = [(false, eval a env)] := by intros; rfl) : JI c N sc tg (.Call (.Name "range" p) [a] [] pos) (rangeK1 ma) := by
  obtain ⟨t, h1, h2⟩ := h
  refine ⟨fun W => iRng1 (t W), fun X W I T => pi_range1 (I.gl hg) (by rw [I.mg]; exact hm) (h1 X W I T) (hs _), fun W B σ H ρ α S Qm Em m R q x => ?_⟩
  refine h2 W B σ H ρ α S _ Em m _ (fun vs ds B1 H1 α1 A r m => ?_) x
  obtain ⟨n, rfl, hb, m⟩ := m
  cases r with
  | cons r1 r2 =>
    cases r2
    cases r1
    exact ⟨n, rfl, hb.1, hb.2, q _ _ _ B1 H1 α1 A it_range m⟩
theorem ji_range2 (hg : sc.names.lookup ("range" : Str) = some .globalImplicit) (hm : c.mg ("range" : Str) = none) (h : JL c N sc [a, b] ma) (hs : ∀ env, starEach [a, b] env = [(false, eval a env), (false, eval b env)] := by intros; rfl) (hs2 : ∀ env, starEach [b] env = [(false, eval b env)] := by intros; rfl) : JI c N sc tg (.Call (.Name "range" p) [a, b] [] pos) (rangeK2 ma) := by
  obtain ⟨t, h1, h2⟩ := h
  refine ⟨fun W => iRng2 (t W), fun X W I T => pi_range2 (I.gl hg) (by rw [I.mg]; exact hm) (h1 X W I T) (hs _) (hs2 _), fun W B σ H ρ α S Qm Em m R q x => ?_⟩
  refine h2 W B σ H ρ α S _ Em m _ (fun vs ds B1 H1 α1 A r m => ?_) x
  obtain ⟨n, k, rfl, hb, m⟩ := m
  cases r with
  | cons r1 r2 =>
    cases r2 with
    | cons r2 r3 =>
      cases r3
      cases r1
      cases r2
      exact ⟨n, k, rfl, hb, q _ _ _ B1 H1 α1 A it_range m⟩
end
def forD (mg : D → En → Option En) (mb : MS) (G : AH → Prop) (D0 : Md) : List D → En → AH → Prop
  | [], ρ, α => G α ∧ D0.nx ρ α
  | d :: ds, ρ, α => G α ∧ oq (mg d ρ) fun ρ1 => mb ρ1 α { D0 with nx := fun ρ2 α2 => forD mg mb G D0 ds ρ2 α2, ct := fun ρ2 α2 => forD mg mb G D0 ds ρ2 α2, bk := D0.nx }
def forS (mi : MI) (mg : D → En → Option En) (mb : MS) : MS := fun ρ α D => mi ρ α (fun ds G α1 => forD mg mb G D ds ρ α1) (fun x α1 => D.ex x ρ α1)
def whileS (mt : MT) (mb : MS) : MS := fun ρ α D => ∃ V : Nat → En → AH → Prop, (∃ m, V m ρ α) ∧ ∀ m ρ α, V m ρ α → mt ρ α (fun b α1 => if b = true then mb ρ α1 { D with nx := fun ρ2 α2 => ∃ m', m' < m ∧ V m' ρ2 α2, ct := fun ρ2 α2 => ∃ m', m' < m ∧ V m' ρ2 α2, bk := D.nx } else D.nx ρ α1) (fun x α1 => D.ex x ρ α1)
section
variable {c : C0} {N : List Str} {sc : Scope} {e a b tg iter : Expr} {body : List Stmt} {pos p : Pos} {mi : MI} {mg : D → En → Option En} {mb : MS} {mt : MT} {K : Frag} {W : WX} {js : List Nat} {tb : TS} {wi : TI} {g : TG} {tt : TT}
theorem ss_for (hi : SI K W wi mi) (hg : SgT K js g mg) (hb : SS K W tb mb) : SS K W (tFor wi g tb) (forS mi mg mb) := fun B σ H ρ α S D0 m Dn h' x => by
  refine hi B σ H ρ α S _ _ m _ (fun J ds G B1 H1 α1 A ok m => ?_) (x.sx S)
  have S1 := S.step A
  have h1 := h'.after S.bs A
  have x1 := x.after S.bs A
  refine ⟨fun i n σ' H' => ∃ B' ρ' α', Af K B1 H1 α1 B' H' α' ∧ SR K B' σ' H' ρ' α' ∧ n = ds.length - i ∧ i ≤ ds.length ∧ forD mg mb G D0 (ds.drop i) ρ' α', ⟨ds.length, B1, ρ, α1, Af.refl S1.bs, S1, by simp, Nat.zero_le _, by simpa using m⟩, ?_⟩
  rintro i n σ' H' ⟨B', ρ', α', A', S', rfl, hle, hf⟩
  have hG : G α' := by
    cases q : ds.drop i with
    | nil => rw [q] at hf; exact hf.1
    | cons _ _ => rw [q] at hf; exact hf.1
  obtain ⟨go, stop⟩ := ok B' H' α' A' A'.sub S'.bs hG
  by_cases hlt : i < ds.length
  · obtain ⟨d, hd⟩ : ∃ d, ds[i]? = some d := ⟨_, List.getElem?_eq_getElem hlt⟩
    have dr : ds.drop i = d :: ds.drop (i + 1) := by
      rw [List.drop_eq_getElem_cons hlt]
      rw [List.getElem?_eq_getElem hlt] at hd
      cases hd
      rfl
    rw [dr] at hf
    obtain ⟨_, ρ2, e2, hf⟩ := hf
    obtain ⟨g1, g2⟩ := go i d hd
    refine .inr ⟨g1, fun σ2 H2 => ∃ B2 ρ2 α2, Af K B1 H1 α1 B2 H2 α2 ∧ SR K B2 σ2 H2 ρ2 α2 ∧ forD mg mb G D0 (ds.drop (i + 1)) ρ2 α2, fun σ2 H2 ⟨B2, ρ2, α2, k1, k2, k3⟩ => ⟨ds.length - (i + 1), by omega, B2, ρ2, α2, k1, k2, rfl, hlt, k3⟩, fun x H2 y => ?_⟩
    obtain ⟨sb, rx⟩ := g2 x H2 y
    have A2 := A'.trans S1.bs (Af.of_sub S'.bs sb)
    refine hg B' σ' H2 ρ' α' x d ρ2 (S'.step (Af.of_sub S'.bs sb)) rx e2 _ fun σ3 S3 _ _ => ?_
    have nx : ∀ B4 σ4 H4 ρ4 α4, Af K B' H2 α' B4 H4 α4 → SR K B4 σ4 H4 ρ4 α4 → forD mg mb G D0 (ds.drop (i + 1)) ρ4 α4 → ∃ B2 ρ2 α2, Af K B1 H1 α1 B2 H4 α2 ∧ SR K B2 σ4 H4 ρ2 α2 ∧ forD mg mb G D0 (ds.drop (i + 1)) ρ2 α2 := fun B4 σ4 H4 ρ4 α4 a s f => ⟨B4, ρ4, α4, A2.trans S1.bs a, s, f⟩
    refine hb B' σ3 H2 ρ2 α' S3 _ hf _ ⟨nx, fun v d B4 H4 α4 a r z => h1.rt v d B4 H4 α4 (A2.trans S1.bs a) r z, fun B4 σ4 H4 ρ4 α4 a s z => h1.nx B4 σ4 H4 ρ4 α4 (A2.trans S1.bs a) s z, nx⟩ (x1.after S1.bs A2)
  · have ei : i = ds.length := by omega
    subst ei
    rw [List.drop_length] at hf
    exact .inl ⟨stop, h1.nx B' σ' H' ρ' α' A' S' hf.2⟩
theorem js_for (hi : JI c N sc tg iter mi) (hg : JTg c N sc tg js mg) (hb : JB c N sc body mb) (hc : c.cm = true := by rfl) (hs : ∀ env x, foldedSetIterable iter env x = pure x := by intros; rfl) : JS c N sc (.For tg iter body [] pos) (forS mi mg mb) := by
  obtain ⟨wi, a1, a2⟩ := hi
  obtain ⟨g, b1, b2⟩ := hg
  obtain ⟨t, c1, c2⟩ := hb
  exact ⟨_, fun X W I T => ps_for I.po (I.calm hc) (a1 X W I T) (b1 X I) (c1 X W I T) (hs _), fun W => ss_for (a2 W) b2 (c2 W)⟩
theorem ss_while (ht : Stt K W tt mt) (hb : SS K W tb mb) : SS K W (tWhile tt tb) (whileS mt mb) := fun B σ H ρ α S D0 m Dn h' x => by
  obtain ⟨V, ⟨n, hn⟩, step⟩ := m
  refine ⟨fun n σ' H' => ∃ B' ρ' α', Af K B H α B' H' α' ∧ SR K B' σ' H' ρ' α' ∧ V n ρ' α', ⟨n, B, ρ, α, Af.refl S.bs, S, hn⟩, ?_⟩
  rintro n σ' H' ⟨B', ρ', α', A', S', hv⟩
  refine ht B' σ' H' ρ' α' S' _ _ (step n ρ' α' hv) _ (fun b B2 H2 α2 A2 m => ?_) ((x.after S.bs A').sx S')
  have A3 := A'.trans S.bs A2
  have S2 := S'.step A2
  cases b with
  | false => exact h'.nx B2 σ' H2 ρ' α2 A3 S2 m
  | true =>
    show ∃ N : L2.St → Hp → Prop, _
    refine ⟨fun σ2 H2 => ∃ m', m' < n ∧ ∃ B2 ρ2 α2, Af K B H α B2 H2 α2 ∧ SR K B2 σ2 H2 ρ2 α2 ∧ V m' ρ2 α2, fun σ2 H2 z => z, ?_⟩
    have nx : ∀ B4 σ4 H4 ρ4 α4, Af K B2 H2 α2 B4 H4 α4 → SR K B4 σ4 H4 ρ4 α4 → (∃ m', m' < n ∧ V m' ρ4 α4) → ∃ m', m' < n ∧ ∃ B2 ρ2 α2, Af K B H α B2 H4 α2 ∧ SR K B2 σ4 H4 ρ2 α2 ∧ V m' ρ2 α2 := fun B4 σ4 H4 ρ4 α4 a s ⟨m', hm, f⟩ => ⟨m', hm, B4, ρ4, α4, A3.trans S.bs a, s, f⟩
    exact hb B2 σ' H2 ρ' α2 S2 _ m _ ⟨nx, fun v d B4 H4 α4 a r z => h'.rt v d B4 H4 α4 (A3.trans S.bs a) r z, fun B4 σ4 H4 ρ4 α4 a s z => h'.nx B4 σ4 H4 ρ4 α4 (A3.trans S.bs a) s z, nx⟩ (x.after S.bs A3)
theorem js_while (ht : JT c N sc e mt) (hb : JB c N sc body mb) : JS c N sc (.While e body [] pos) (whileS mt mb) := by
  obtain ⟨t, a1, a2⟩ := ht
  obtain ⟨u, b1, b2⟩ := hb
  exact ⟨_, fun X W I T => ps_while I.po (a1 X W I T) (b1 X W I T), fun W => ss_while (a2 W) (b2 W)⟩
end
def wipeA {α : Type} (l : List (Option α)) : List Nat → List (Option α)
  | [] => l
  | v :: vs => (wipeA l vs).set v none
theorem wipe_eq (σ : L2.St) : ∀ vs, wipe σ vs = wipeA σ vs
  | [] => rfl
  | v :: vs => by
    show (wipe σ vs).set v none = _
    rw [wipe_eq σ vs]
    rfl
theorem wipeA_length {α : Type} (l : List (Option α)) : ∀ vs, (wipeA l vs).length = l.length
  | [] => rfl
  | v :: vs => by
    show ((wipeA l vs).set v none).length = _
    rw [List.length_set, wipeA_length l vs]
theorem wipeA_out {α : Type} {l : List (Option α)} {j : Nat} : ∀ {vs : List Nat}, j ∉ vs → (wipeA l vs)[j]? = l[j]?
  | [], _ => rfl
  | v :: vs, h => by
    rw [List.mem_cons, not_or] at h
    show ((wipeA l vs).set v none)[j]? = _
    rw [List.getElem?_set_ne (Ne.symm h.1), wipeA_out h.2]
theorem wipeA_in {α : Type} {l : List (Option α)} {j : Nat} : ∀ {vs : List Nat}, j ∈ vs → j < l.length → (wipeA l vs)[j]? = some none
  | v :: vs, h, hl => by
    show ((wipeA l vs).set v none)[j]? = _
    by_cases e : v = j
    · subst e
      rw [List.getElem?_set_self (by rw [wipeA_length]; exact hl)]
    · rw [List.getElem?_set_ne e]
      rcases List.mem_cons.mp h with z | z
      · exact absurd z.symm e
      · exact wipeA_in z hl
theorem wipeA_some {α : Type} {l : List (Option α)} {j : Nat} {x : α} {vs : List Nat} (h : (wipeA l vs)[j]? = some (some x)) : j ∉ vs ∧ l[j]? = some (some x) := by
  by_cases q : j ∈ vs
  · have hl : j < l.length := by
      have := (List.getElem?_eq_some_iff.mp h).1
      rwa [wipeA_length] at this
    rw [wipeA_in q hl] at h
    cases h
  · rw [wipeA_out q] at h
    exact ⟨q, h⟩
theorem SR.wipe {K : Frag} {B : Addr → Bool} {σ : L2.St} {H : Hp} {ρ : En} {α : AH} {vs : List Nat} (S : SR K B σ H ρ α) : SR K B (wipe σ vs) H (wipeA ρ vs) α := by
  refine ⟨by rw [wipe_eq, wipeA_length, wipeA_length]; exact S.len, fun i d e => ?_, S.bs⟩
  obtain ⟨a, b⟩ := wipeA_some e
  obtain ⟨v, c, d⟩ := S.val i d b
  exact ⟨v, by rw [wipe_eq, wipeA_out a]; exact c, d⟩
theorem wipe_back {σ σ2 : L2.St} {vs js : List Nat} (loc : ∀ j, j ∉ js → σ2[j]? = (wipe σ vs)[j]?) (hj : ∀ j, j ∈ js → j ∈ vs) (hl : σ2.length = (wipe σ vs).length) : wipe σ2 vs = wipe σ vs := by
  rw [wipe_eq, wipe_eq]
  rw [wipe_eq] at loc hl
  refine List.ext_getElem? fun j => ?_
  by_cases q : j ∈ vs
  · by_cases l : j < σ.length
    · rw [wipeA_in q l, wipeA_in q (by rw [hl, wipeA_length]; exact l)]
    · exact (List.getElem?_eq_none (by rw [wipeA_length, hl, wipeA_length]; omega)).trans (List.getElem?_eq_none (by rw [wipeA_length]; omega)).symm
  · rw [wipeA_out q, loc j fun z => q (hj j z)]
/-- a new thing that is hidden, no cell -/
theorem Af.hid {K : Frag} {B : Addr → Bool} {H : Hp} {α : AH} {l : Addr} {o : HO} (S : Bs K B H α) (h : H l = none) : Af K B H α (ins l B) (upd H l o) α := by
  have hs : Sub (hide B H) (hide (ins l B) (upd H l o)) := sub_ins h (hsub (Sub.new h))
  refine ⟨hs, ⟨fun a d q => ?_, fun a q => ?_⟩, fun b hb n => ⟨ins_of hb, ?_⟩, fun b n _ => n, fun b u g => ⟨u, Sub.new h _ _ g⟩, fun b ds hb => ?_⟩
  · obtain ⟨h1, h2⟩ := S.cel a d q
    obtain ⟨u, g⟩ := h2.ne
    refine ⟨ins_of h1, ?_⟩
    rw [g] at h2
    rw [Sub.new h _ _ g]
    exact h2.mono hs
  · rcases ins_or q with z | z
    · exact ⟨o, by rw [z, upd_same]⟩
    · obtain ⟨o', g⟩ := S.bk a z
      exact ⟨o', Sub.new h _ _ g⟩
  · rw [upd_ne (fun z => by
      obtain ⟨o', g⟩ := S.bk b hb
      rw [z, h] at g
      cases g)]
  · obtain ⟨o', g⟩ := S.bk b (S.cel b _ hb).1
    rw [upd_ne (fun z => by rw [z, h] at g; cases g)]
    exact ⟨rfl, .inr hb⟩
theorem Af.hidW {K : Frag} {B B' : Addr → Bool} {H H' : Hp} {α α' : AH} {l : Addr} {o : HO} (S : Bs K B H α) (a : Af K B H α B' H' α') (h : H l = none) (b : B' l = true) (n : α' l = none) : Af K B H α B' (upd H' l o) α' ∧ Sub (hide B' H') (hide B' (upd H' l o)) := by
  have hh : hide B' (upd H' l o) = hide B' H' := by
    funext x
    unfold hide
    by_cases q : x = l
    · rw [q, b]
      rfl
    · rw [upd_ne q]
  refine ⟨⟨by rw [hh]; exact a.sub, ⟨fun x d q => ?_, fun x q => ?_⟩, fun x hx nx => ?_, a.fr, fun x u g => ?_, fun x ds hx => ?_⟩, by rw [hh]; exact Sub.refl _⟩
  · rw [hh, upd_ne (fun z => by rw [z, n] at q; cases q)]
    exact a.bs.cel x d q
  · by_cases z : x = l
    · exact ⟨o, by rw [z, upd_same]⟩
    · rw [upd_ne z]
      exact a.bs.bk x q
  · have z : x ≠ l := fun z => by
      obtain ⟨o', g⟩ := S.bk x hx
      rw [z, h] at g
      cases g
    rw [upd_ne z]
    exact a.keep x hx nx
  · by_cases z : x = l
    · exact ⟨o, by rw [z, upd_same]⟩
    · rw [upd_ne z]
      exact a.grow x u g
  · obtain ⟨o', g⟩ := S.bk x (S.cel x _ hx).1
    rw [upd_ne (fun z => by rw [z, h] at g; cases g)]
    exact a.lk x ds hx
/-- the hidden thing becomes a cell -/
theorem Af.hidC {K : Frag} {B B' : Addr → Bool} {H H' : Hp} {α α' : AH} {l : Addr} {d : D} (S : Bs K B H α) (a : Af K B H α B' H' α') (h : H l = none) (b : B' l = true) (c : CellAt K (hide B' H') (H' l) d) : Af K B H α B' H' (aset α' l d) := by
  refine ⟨a.sub, ⟨fun x e q => ?_, a.bs.bk⟩, a.keep, fun x n hx => ?_, a.grow, fun x ds hx => ?_⟩
  · by_cases z : x = l
    · subst z
      rw [aset_same] at q
      cases q
      exact ⟨b, c⟩
    · rw [aset_ne z] at q
      exact a.bs.cel x e q
  · rw [aset_ne (fun z => by rw [z] at hx; exact hx h)]
    exact a.fr x n hx
  · obtain ⟨o', g⟩ := S.bk x (S.cel x _ hx).1
    rw [aset_ne (fun z => by rw [z, h] at g; cases g)]
    exact a.lk x ds hx
abbrev NX : QX := fun _ _ => False
def yesK : MT := fun _ α Q _ => Q true α
def lcD (vs : List Nat) (mg : D → En → Option En) (mt : MT) (me : ME) (G : AH → Prop) (ρ : En) (Q : D → AH → Prop) : List D → List D → AH → Prop
  | [], acc, α => G α ∧ Q (.list acc) α
  | d :: ds, acc, α => G α ∧ oq (mg d (wipeA ρ vs)) fun ρ1 => mt ρ1 α (fun b α1 => if b = true then me ρ1 α1 (fun y α2 => acc.length < 100000 ∧ lcD vs mg mt me G ρ Q ds (acc ++ [y]) α2) NX else lcD vs mg mt me G ρ Q ds acc α1) NX
def lcK (vs : List Nat) (mi : MI) (mg : D → En → Option En) (mt : MT) (me : ME) : ME := fun ρ α Q E => mi ρ α (fun ds G α1 => lcD vs mg mt me G ρ Q ds [] α1) E
section
variable {K : Frag} {W : WX} {vs js : List Nat} {mi : MI} {mg : D → En → Option En} {mt : MT} {me : ME} {wi : TI} {g : TG} {tt : TT} {te : TE}
theorem sf_lc (hi : SI K W wi mi) (hg : SgT K js g mg) (hj : ∀ j, j ∈ js → j ∈ vs) (ht : Stt K (fun _ _ _ _ => False) tt mt) (he : Sd K (fun _ _ _ _ => False) te me) : Sf K W (tLc wi g tt te vs) (lcK vs mi mg mt me) := fun B σ H ρ α S Qm Em m Q q x => by
  refine hi B σ H ρ α S _ Em m _ (fun J ds G B1 H1 α1 A ok m => ?_) x
  have S1 := S.step A
  intro l hl
  refine ⟨fun i n H' => ∃ B' α' vacc acc, Af K B1 H1 α1 B' H' α' ∧ B' l = true ∧ α' l = none ∧ H' l = some (.lst vacc) ∧ RpL K (hide B' H') vacc acc ∧ n = ds.length - i ∧ i ≤ ds.length ∧ lcD vs mg mt me G ρ Qm (ds.drop i) acc α',
    ⟨ds.length, ins l B1, α1, [], [], Af.hid S1.bs hl, ins_self, S1.bs.new hl, upd_same, .nil, by simp, Nat.zero_le _, by simpa using m⟩, ?_⟩
  rintro i n H' ⟨B', α', vacc, acc, A', bl, nl, el, rl, rfl, hle, hf⟩
  have hG : G α' := by
    cases q : ds.drop i with
    | nil => rw [q] at hf; exact hf.1
    | cons _ _ => rw [q] at hf; exact hf.1
  obtain ⟨go, stop⟩ := ok B' H' α' A' A'.sub A'.bs hG
  by_cases hlt : i < ds.length
  · obtain ⟨d, hd⟩ : ∃ d, ds[i]? = some d := ⟨_, List.getElem?_eq_getElem hlt⟩
    have dr : ds.drop i = d :: ds.drop (i + 1) := by
      rw [List.drop_eq_getElem_cons hlt]
      rw [List.getElem?_eq_getElem hlt] at hd
      cases hd
      rfl
    rw [dr] at hf
    obtain ⟨_, ρ2, e2, hf⟩ := hf
    obtain ⟨g1, g2⟩ := go i d hd
    refine .inr ⟨g1, fun H2 => ∃ B2 α2 vacc acc, Af K B1 H1 α1 B2 H2 α2 ∧ B2 l = true ∧ α2 l = none ∧ H2 l = some (.lst vacc) ∧ RpL K (hide B2 H2) vacc acc ∧ lcD vs mg mt me G ρ Qm (ds.drop (i + 1)) acc α2,
      fun H2 ⟨B2, α2, va, ac, k1, k2, k3, k4, k5, k6⟩ => ⟨ds.length - (i + 1), by omega, B2, α2, va, ac, k1, k2, k3, k4, k5, rfl, hlt, k6⟩, fun x H2 y => ?_⟩
    obtain ⟨sb, rx⟩ := g2 x H2 y
    have Ab := Af.of_sub A'.bs sb
    have A2 := A'.trans S1.bs Ab
    have Sw : SR K B' (wipe σ vs) H2 (wipeA ρ vs) α' := (S1.step A2).wipe
    refine hg B' _ H2 _ α' x d ρ2 Sw rx e2 _ fun σ3 S3 loc len => ⟨wipe_back (fun j h => (loc j h).1) hj len, ?_⟩
    have el2 : H2 l = some (.lst vacc) := sb _ _ el
    refine ht B' σ3 H2 ρ2 α' S3 _ NX hf _ (fun b B3 H3 α3 A3 m => ?_) SX.never
    obtain ⟨b3, h3⟩ := A3.keep l bl nl
    have n3 : α3 l = none := A3.fr l nl (by rw [el2]; exact fun z => nomatch z)
    have r3 := rl.mono (hsub sb |>.trans A3.sub)
    have A13 := A2.trans S1.bs A3
    cases b with
    | false => exact ⟨B3, α3, vacc, acc, A13, b3, n3, h3.trans el2, r3, m⟩
    | true =>
      refine he B3 σ3 H3 ρ2 α3 (S3.step A3) _ NX m _ (fun v d4 B4 H4 α4 A4 r4 m => ?_) SX.never
      obtain ⟨b4, h4⟩ := A4.keep l b3 n3
      have e4 : H4 l = some (.lst vacc) := h4.trans (h3.trans el2)
      have n4 : α4 l = none := A4.fr l n3 (by rw [h3, el2]; exact fun z => nomatch z)
      have A14 := A13.trans S1.bs A4
      have ra := r3.mono A4.sub
      obtain ⟨w1, w2⟩ := Af.hidW (o := .lst (vacc ++ [v])) S1.bs A14 hl b4 n4
      exact ⟨vacc, e4, by rw [ra.length]; exact Nat.lt_of_lt_of_le m.1 (by decide), B4, α4, vacc ++ [v], acc ++ [d4], w1, b4, n4, upd_same, (ra.append (.cons r4 .nil)).mono w2, m.2⟩
  · have ei : i = ds.length := by omega
    subst ei
    rw [List.drop_length] at hf
    refine .inl ⟨stop, ?_⟩
    exact q l (.list acc) B' H' α' (A.trans S.bs (Af.hidC S1.bs A' hl bl (.own ⟨vacc, el, rl⟩))) nl hf.2
theorem Sf.new {m : ME} (h : Sf K W te m) : Sd K W te (newK m) := fun B σ H ρ α S Qm Em mm Q q x => h B σ H ρ α S _ Em mm Q (fun l c' B' H' α' A hl qm => q _ _ _ H' _ A .ref (qm l hl)) x
end
/-- the contexts of a block within -/
abbrev C0.inO (c : C0) (oc : List Str) : C0 := { c with top := false, xc := none, oc := oc }
def JTs (c : C0) (N : List Str) (sc : Scope) (es : List Expr) (m : MT) : Prop := ∃ t : WX → TT, (∀ X W, In c N sc X → Takes X W → PTs X es (t W)) ∧ ∀ W, Stt c.K W (t W) m
section
variable {c : C0} {N : List Str} {sc scope : Scope} {elt tg iter : Expr} {ifs : List Expr} {pos p1 spos : Pos} {own : List (Str × Nat)} {js : List Nat} {mi : MI} {mg : D → En → Option En} {mt : MT} {me : ME} {i : Nat} {x : Str}
theorem In.blk {oc : List Str} (ho : (oc.all fun x => scope.names.lookup x == some .cell) = true) {X : Cx} (I : In c N sc X) (s : Shared) (H : Hp) (C : Addr) (cl : List (Str × Addr)) (fp : List Addr) : In (c.inO oc) N (relS scope sc) (X.blk s H scope (compEnvC scope cl C X.env) fp) :=
  ⟨I.P, I.w, I.K, I.mg, I.base, I.rm, I.un, I.N, by
    show relS scope X.env.scope = _
    rw [I.sc], I.calm, fun h => (by cases h), PassesOwn.never, fun h => (by cases h), fun _ _ _ h => (by cases h), fun x h => by
      have h' := List.all_eq_true.mp ho x (List.contains_iff_mem.mp h)
      exact h'⟩
theorem jts_nil : JTs c N sc [] yesK := ⟨_, fun _ _ _ _ => pts_nil, fun _ B σ H ρ α S Qm Em m Q q x => q true B H α (Af.refl S.bs) m⟩
theorem jts_one {e : Expr} (h : JT c N sc e mt) : JTs c N sc [e] mt := by
  obtain ⟨t, h1, h2⟩ := h
  exact ⟨t, fun X W I T => pts_one (h1 X W I T), h2⟩
theorem jf_lc {oc : List Str} (nd : N.Nodup) (hi : JI c N sc tg iter mi) (ok : BlkOk N sc scope own) (hg : JTg (c.inO oc) N (relS scope sc) tg js mg) (ht : JTs (c.inO oc) N (relS scope sc) ifs mt) (he : JE (c.inO oc) N (relS scope sc) elt me)
    (hj : (js.all fun j => (own.map (·.2)).contains j) = true := by rfl) (hc : c.cm = true := by rfl) (ho : (oc.all fun x => scope.names.lookup x == some .cell) = true := by rfl) (hs : ∀ env x, foldedSetIterable iter env x = pure x := by intros; rfl) : JF c N sc (.ListComp elt [⟨tg, iter, ifs, 0⟩] scope pos) (lcK (own.map (·.2)) mi mg mt me) := by
  obtain ⟨wi, a1, a2⟩ := hi
  obtain ⟨g, b1, b2⟩ := hg
  obtain ⟨tt, c1, c2⟩ := ht
  obtain ⟨te, d1, d2⟩ := he
  refine ⟨fun W => tLc (wi W) g (tt fun _ _ _ _ => False) (te fun _ _ _ _ => False) (own.map (·.2)), fun X W I T => pe_lc (I.calm hc) (by rw [I.N]; exact nd) (a1 X W I T) (by rw [I.N, I.sc]; exact ok) (fun s H C cl fp => b1 _ (I.blk ho s H C cl fp)) (fun s H C cl fp => c1 _ _ (I.blk ho s H C cl fp) takes0) (fun s H C cl fp => d1 _ _ (I.blk ho s H C cl fp) takes0) (hs _), fun W => sf_lc (a2 W) b2 (fun j h => ?_) (c2 _) (d2 _)⟩
  have := (List.all_eq_true.mp hj) j h
  simpa using this
end
/-- p parameters, n slots -/
def runF (p n : Nat) (m : MS) : Fm := fun ds α Q E => ds.length = p ∧ m (ds.map some ++ List.replicate (n - p) none) α { nx := fun _ α' => Q .none α', rt := Q, bk := fun _ _ => False, ct := fun _ _ => False, ex := fun x _ α' => E x α' }
/-- .. that leaves no cell behind but those that were there -/
def runP (p n : Nat) (m : MS) : Fm := fun ds α Q E => runF p n m ds α (fun d α' => Q d (arst α α')) (fun x α' => E x (arst α α'))
section
variable {K : Frag} {B : Addr → Bool} {H : Hp} {α : AH} {vs : List V} {ds : List D} {n : Nat}
theorem entry_sr (S : Bs K B H α) (r : RpL K (hide B H) vs ds) : SR K B (vs.map some ++ List.replicate n none) H (ds.map some ++ List.replicate n none) α := by
  refine ⟨by simp [r.length], fun i d e => ?_, S⟩
  rcases Nat.lt_or_ge i ds.length with hi | hi
  · rw [List.getElem?_append_left (by simpa using hi), List.getElem?_map] at e
    cases q : ds[i]? with
    | none => rw [q] at e; cases e
    | some d' =>
      rw [q] at e
      cases e
      obtain ⟨v, h1, h2⟩ := r.get' q
      refine ⟨v, ?_, h2⟩
      rw [List.getElem?_append_left (by rw [List.length_map, r.length]; exact hi), List.getElem?_map, h1]
      rfl
  · rw [List.getElem?_append_right (by simpa using hi), List.getElem?_replicate] at e
    split at e <;> cases e
theorem Fi.none_ {D : Md} {Q : VK} (h1 : ∀ B' H' ρ' α', Af K B H α B' H' α' → D.nx ρ' α' → Q .non H') (h2 : ∀ v d B' H' α', Af K B H α B' H' α' → Rp K (hide B' H') v d → D.rt d α' → Q v H') (h3 : ∀ ρ' α', ¬ D.bk ρ' α') (h4 : ∀ ρ' α', ¬ D.ct ρ' α') : Fi K B H α D { nx := fun _ H' => Q .non H', rt := Q } :=
  ⟨fun B' σ' H' ρ' α' a _ z => h1 B' H' ρ' α' a z, h2, fun _ _ _ ρ' α' _ _ z => (h3 ρ' α' z).elim, fun _ _ _ ρ' α' _ _ z => (h4 ρ' α' z).elim⟩
end
theorem spD_pure {K : Frag} {p n : Nat} {m : MS} {vs : List V} {H : Hp} {Q : VK} {E : XK} (h : spD K (runP p n m) vs H Q E) : spD K (runF p n m) vs H Q E := by
  obtain ⟨B, α, ds, Qm, Em, S0, r, mm, q, y⟩ := h
  refine ⟨B, α, ds, _, _, S0, r, mm, fun v d B' H' α' a r z => ?_, fun x B' α' cls d H' a xr z => ?_⟩
  · obtain ⟨B2, a2, s2⟩ := a.rst S0
    exact q v d B2 H' _ a2 (r.mono s2) z
  · obtain ⟨B2, a2, s2⟩ := a.rst S0
    exact y x B2 _ cls d H' a2 (xr.mono s2) z
end Hz
namespace Hz
open PySem L2
variable {c : C0} {N : List Str} {sc : Scope}
def okD : Nat → D → Bool
  | _, .none => true
  | _, .bool _ => true
  | _, .int _ => true
  | _, .str x => PyData.strOk x
  | k + 1, .list ds => ds.all (okD k)
  | k + 1, .tuple ds => ds.all (okD k)
  | _, _ => false
theorem okD_all {k : Nat} (h : ∀ d, okD k d = true → d.canLay0 = true ∧ d.depth ≤ k ∧ plain d = true) : ∀ ds : List D, ds.all (okD k) = true → PyData.canLayAll0 ds = true ∧ PyData.depthAll ds ≤ k ∧ plains ds = true
  | [], _ => ⟨rfl, Nat.zero_le _, rfl⟩
  | d :: ds, q => by
    have q' : okD k d = true ∧ ds.all (okD k) = true := by simpa using q
    obtain ⟨a1, a2, a3⟩ := h d q'.1
    obtain ⟨b1, b2, b3⟩ := okD_all h ds q'.2
    refine ⟨by simp [PyData.canLayAll0, a1, b1], ?_, by simp [plains, a3, b3]⟩
    show max d.depth (PyData.depthAll ds) ≤ k
    omega
theorem okD_ok : ∀ (k : Nat) (d : D), okD k d = true → d.canLay0 = true ∧ d.depth ≤ k ∧ plain d = true
  | k, .none, _ => ⟨rfl, by cases k <;> exact Nat.zero_le _, rfl⟩
  | k, .bool _, _ => ⟨rfl, by cases k <;> exact Nat.zero_le _, rfl⟩
  | k, .int _, _ => ⟨rfl, by cases k <;> exact Nat.zero_le _, rfl⟩
  | k, .str x, h => ⟨by cases k <;> exact h, by cases k <;> exact Nat.zero_le _, rfl⟩
  | 0, .list ds, h => by cases h
  | 0, .tuple ds, h => by cases h
  | k + 1, .list ds, h => by
    obtain ⟨a, b, c⟩ := okD_all (okD_ok k) ds h
    exact ⟨a, Nat.succ_le_succ b, c⟩
  | k + 1, .tuple ds, h => by
    obtain ⟨a, b, c⟩ := okD_all (okD_ok k) ds h
    exact ⟨a, Nat.succ_le_succ b, c⟩
  | 0, .dict _, h => by cases h
  | k + 1, .dict _, h => by cases h
theorem okD_shaped {k : Nat} {d : D} (h : okD k d = true) (hk : k ≤ 64) : SeqAt.shaped d = true ∧ plain d = true := by
  obtain ⟨a, b, e⟩ := okD_ok k d h
  exact ⟨by unfold SeqAt.shaped; simp [a]; omega, e⟩
theorem lst_new {K : Frag} {B : Addr → Bool} {H : Hp} {p : Addr} {vs : List V} {ds : List D} (bk : ∀ a, B a = true → ∃ o, H a = some o) (h : H p = none) (r : RpL K (hide B H) vs ds) : Sub H (upd H p (.lst vs)) ∧ Rp K (hide B (upd H p (.lst vs))) (.ref p) (.list ds) := by
  have bp : B p = false := by
    cases q : B p with
    | false => rfl
    | true => obtain ⟨o, e⟩ := bk p q; rw [h] at e; cases e
  exact ⟨Sub.new h, .lst (.inl (.inl (hide_of bp upd_same))) (r.mono (hsub (Sub.new h)))⟩
/-- t + u, its object known -/
def rCatX (K : Frag) : R2 := fun x y H Q => ∃ a b xs ys, x = .ref a ∧ y = .ref b ∧ SqT K H a xs ∧ SqT K H b ys ∧ xs.length + ys.length ≤ sizeLine ∧
  (xs = [] → Q (.ref b) H) ∧ (xs ≠ [] → ys = [] → Q (.ref a) H) ∧ (xs ≠ [] → ys ≠ [] → ∀ p o, ExT o → H p = none → Q (.ref p) (upd H p (.frz o (.tup (xs ++ ys)))))
theorem op_catX {X : Cx} : OpR X (binaryOp .Add) (rCatX X.K) := by
  intro pins s σ H x y v u Q I rx ry h
  obtain ⟨a, b, xs, ys, rfl, rfl, ha, hb, hz, q0, q1, q2⟩ := h
  cases rx
  cases ry
  obtain ⟨its, r1, p1, _⟩ := I.tuple ha
  obtain ⟨its2, r2, p2, _⟩ := I.tuple hb
  by_cases hx : xs = []
  · subst hx
    cases r1
    exact cat_tup0 p1 p2 ⟨.ref b, H, I, rfl, q0 rfl⟩
  · refine HT.cat_tup p1 p2 (fun z => hx (r1.nil_iff.mp z)) (fun z => ⟨.ref a, H, I, rfl, q1 hx (r2.nil_iff.mp z)⟩) (fun z => ?_) (by rw [← r1.length, ← r2.length]; exact hz)
    exact ⟨.ref s.heap.objs.size, _, tnew I (r1.append r2) (by rw [List.length_append]; exact hz), rfl, q2 hx (fun w => z (r2.nil_iff.mpr w)) _ _ ⟨rfl, rfl⟩ (I.hok.fresh (Nat.le_refl _))⟩
/-- list + list, whatever the lists are -/
def rCatL (K : Frag) : R2 := fun x y H Q => ∃ a b xs ys, x = .ref a ∧ y = .ref b ∧ SqL K H a xs ∧ SqL K H b ys ∧ xs.length + ys.length ≤ sizeLine ∧ ∀ p, H p = none → Q (.ref p) (upd H p (.lst (xs ++ ys)))
theorem op_catL {X : Cx} : OpR X (binaryOp .Add) (rCatL X.K) := by
  intro pins s σ H x y v u Q I rx ry h
  obtain ⟨l, b, xs, zs, rfl, rfl, hH, hB, hz, q⟩ := h
  cases rx
  cases ry
  obtain ⟨its, r, pl, z1⟩ := I.list hH
  obtain ⟨its2, r2, pl2, z2⟩ := I.list hB
  have l1 := r.length
  have l2 := r2.length
  obtain ⟨⟨cls, dd, data, sl⟩, ho, hc, n, hd⟩ := pl.isList
  obtain ⟨⟨cls2, dd2, data2, sl2⟩, ho2, hc2, n2, hd2⟩ := pl2.isList
  simp only at hc hd hc2 hd2
  subst hc hd hc2 hd2
  have e : its.toArray ++ its2.toArray = (its ++ its2).toArray := by simp
  refine concat_meets ⟨_, ho, rfl⟩ ⟨_, ho2, rfl⟩ noFill_list_add seq_list_add PySem.F.slot_list_add PySem.F.entry_list_add (PySem.F.args_list_add_2 _ _) (PyProof.Rows.list_addW l b its.toArray its2.toArray n n2 dd dd2 sl sl2 (by rw [List.size_toArray, List.size_toArray]; omega)) ⟨ho, ho2, ?_⟩
  rw [e]
  exact ⟨.ref _, _, I.lnew (t' := s.toks) (r.append r2) (by rw [List.length_append]; omega), rfl, q _ I.fresh⟩
def dAdd : D → D → Option D
  | .int a, .int b => some (.int (a + b))
  | .str a, .str b => if a.length + b.length ≤ 100000 then some (.str (a ++ b)) else none
  | .list a, .list b => if a.length + b.length ≤ 100000 then some (.list (a ++ b)) else none
  | .tuple a, .tuple b => if a.length + b.length ≤ 100000 then some (.tuple (a ++ b)) else none
  | _, _ => none
theorem o_add : OpD c.K (In c N sc) (binaryOp .Add) dAdd := by
  refine ⟨_, fun X I => by
    have h := OpR.or (X := X) op_add (OpR.or op_add_str (OpR.or op_catL op_catX))
    rw [I.K] at h
    exact h, fun B H x y d e z bk hx hy hz Q q => ?_⟩
  unfold dAdd at hz
  split at hz
  · cases hz
    exact .inl ⟨_, _, hx.int, hy.int, q _ H (Sub.refl H) (.int _)⟩
  · split at hz
    · rename_i hl
      cases hz
      exact .inr (.inl ⟨_, _, hx.str, hy.str, sz5 hl, q _ H (Sub.refl H) (.str _)⟩)
    · cases hz
  · split at hz
    · rename_i hl
      cases hz
      obtain ⟨a, xs, rfl, h1, r1⟩ := hx.list
      obtain ⟨b, ys, rfl, h2, r2⟩ := hy.list
      refine .inr (.inr (.inl ⟨a, b, xs, ys, rfl, rfl, h1, h2, by rw [r1.length, r2.length]; exact sz5 hl, fun p hp => ?_⟩))
      obtain ⟨s1, r3⟩ := lst_new bk hp (r1.append r2)
      exact q _ _ s1 r3
    · cases hz
  · split at hz
    · rename_i a b hl
      cases hz
      obtain ⟨a, xs, rfl, h1, r1⟩ := hx.tuple
      obtain ⟨b, ys, rfl, h2, r2⟩ := hy.tuple
      have sub : ∀ {w : Addr} {us : List V} {ds : List D}, Rs c.K B H (.ref w) (.tuple ds) → Rp c.K (hide B H) (.ref w) (.tuple ds) := fun h => by
        cases h with
        | vis h => exact h
      refine .inr (.inr (.inr ⟨a, b, xs, ys, rfl, rfl, h1, h2, by rw [r1.length, r2.length]; exact sz5 hl, fun e => ?_, fun _ e => ?_, fun _ _ p o ho hp => ?_⟩))
      · subst e
        cases r1
        exact q _ H (Sub.refl H) (sub (us := ys) hy)
      · subst e
        cases r2
        rw [List.append_nil] at q
        exact q _ H (Sub.refl H) (sub (us := xs) hx)
      · obtain ⟨s1, r3⟩ := tup_new bk ho hp (r1.append r2)
        exact q _ _ s1 r3
    · cases hz
  · cases hz
/-- list + list, a new list of the def's own -/
def dCat : D → D → Option D
  | .list a, .list b => if a.length + b.length ≤ 100000 then some (.list (a ++ b)) else none
  | _, _ => none
def dSub : D → D → Option D
  | .int a, .int b => some (.int (a - b))
  | _, _ => none
theorem o_sub : OpD c.K (In c N sc) (binaryOp .Sub) dSub := by
  refine ⟨_, fun X I => op_sub, fun B H x y d e z bk hx hy hz Q q => ?_⟩
  unfold dSub at hz
  split at hz
  · cases hz
    exact ⟨_, _, hx.int, hy.int, q _ H (Sub.refl H) (.int _)⟩
  · cases hz
/-- one factor below 2^64 -/
def dMul : D → D → Option D
  | .int a, .int b => if (-(2 ^ 64) < a ∧ a < 2 ^ 64) ∨ (-(2 ^ 64) < b ∧ b < 2 ^ 64) then some (.int (a * b)) else none
  | _, _ => none
theorem o_mul : OpD c.K (In c N sc) (binaryOp .Mult) dMul := by
  refine ⟨_, fun X I => op_mul, fun B H x y d e z bk hx hy hz Q q => ?_⟩
  unfold dMul at hz
  split at hz
  · split at hz
    · rename_i hc
      cases hz
      exact ⟨_, _, hx.int, hy.int, hc, q _ H (Sub.refl H) (.int _)⟩
    · cases hz
  · cases hz
def dMod : D → D → Option D
  | .int a, .int b => if 0 < b then some (.int (a % b)) else none
  | _, _ => none
theorem o_mod : OpD c.K (In c N sc) (binaryOp .Mod) dMod := by
  refine ⟨_, fun X I => op_mod, fun B H x y d e z bk hx hy hz Q q => ?_⟩
  unfold dMod at hz
  split at hz
  · split at hz
    · rename_i hc
      cases hz
      exact ⟨_, _, hx.int, hy.int, hc, q _ H (Sub.refl H) (.int _)⟩
    · cases hz
  · cases hz
/-- a divisor below 2^9000 -/
def dDiv : D → D → Option D
  | .int a, .int b => if 0 < b ∧ b < 2 ^ 80 then some (.int (a / b)) else none
  | _, _ => none
theorem o_div : OpD c.K (In c N sc) (binaryOp .FloorDiv) dDiv := by
  refine ⟨_, fun X I => op_fdivW, fun B H x y d e z bk hx hy hz Q q => ?_⟩
  unfold dDiv at hz
  split at hz
  · split at hz
    · rename_i hc
      cases hz
      exact ⟨_, _, hx.int, hy.int, wide_div (b := 80) hc.1 (by omega) (by decide) (by decide), q _ H (Sub.refl H) (.int _)⟩
    · cases hz
  · cases hz
def dPow : D → D → Option D
  | .int a, .int b => if 0 ≤ b ∧ b ≤ 1000000 ∧ a.natAbs < 2 ^ 64 then some (.int (a ^ b.toNat)) else none
  | _, _ => none
theorem o_pow : OpD c.K (In c N sc) (binaryOp .Pow) dPow := by
  refine ⟨_, fun X I => op_pow, fun B H x y d e z bk hx hy hz Q q => ?_⟩
  unfold dPow at hz
  split at hz
  · split at hz
    · rename_i hc
      cases hz
      exact ⟨_, _, hx.int, hy.int, hc, q _ H (Sub.refl H) (.int _)⟩
    · cases hz
  · cases hz
def dShl : D → D → Option D
  | .int a, .int b => if 0 ≤ b ∧ b ≤ 1000000 ∧ a.natAbs < 2 ^ 64 then some (.int (a * 2 ^ b.toNat)) else none
  | _, _ => none
def dShr : D → D → Option D
  | .int a, .int b => if 0 ≤ b then some (.int (a / 2 ^ b.toNat)) else none
  | _, _ => none
theorem o_shr : OpD c.K (In c N sc) (binaryOp .RShift) dShr := by
  refine ⟨_, fun X I => op_shr, fun B H x y d e z bk hx hy hz Q q => ?_⟩
  unfold dShr at hz
  split at hz
  · split at hz
    · rename_i hc
      cases hz
      exact ⟨_, _, hx.int, hy.int, hc, q _ H (Sub.refl H) (.int _)⟩
    · cases hz
  · cases hz
/-- data that are alike, in order -/
def okC (d e : D) : Bool := okD 60 d && okD 60 e && PySem.W.alike d e && (match d with
  | .none => false
  | _ => true)
theorem okC_all {d e : D} (h : okC d e = true) : okD 60 d = true ∧ okD 60 e = true ∧ PySem.W.alike d e = true ∧ d ≠ .none := by
  unfold okC at h
  simp only [Bool.and_eq_true] at h
  refine ⟨h.1.1.1, h.1.1.2, h.1.2, fun z => ?_⟩
  rw [z] at h
  cases h.2
def rCmpLt (K : Frag) : R2 := fun x y H Q => ∃ d e, Dp K H x d ∧ Dp K H y e ∧ okC d e = true ∧ Q (.bl (PySem.W.dataLt d e)) H
theorem op_cmpLt {X : Cx} (hu : X.A.units + 64 < cLine) : OpR X (compareOp .Lt) (rCmpLt X.K) := by
  intro pins s σ H x y v u Q I rx ry h
  obtain ⟨d, e, hd, he, ok, q⟩ := h
  obtain ⟨k1, k2, k3, k4⟩ := okC_all ok
  obtain ⟨as, r1⟩ := Dp.reads I d x v hd rx
  obtain ⟨bs, r2⟩ := Dp.reads I e y u he ry
  have z := (okD_ok 60 d k1).2.1
  exact PySem.W.lt_data r1 r2 k3 k4 (by omega) ⟨.bl _, H, I, rfl, q⟩
def dLt (d e : D) : Option D := match d, e with
  | .int a, .int b => some (.bool (decide (a < b)))
  | .str a, .str b => some (.bool (decide (a.cps.toList < b.cps.toList)))
  | d, e => if okC d e = true then some (.bool (PySem.W.dataLt d e)) else none
theorem o_lt : OpD c.K (In c N sc) (compareOp .Lt) dLt := by
  refine ⟨_, fun X I => by
    have h := OpR.or (X := X) op_lt (OpR.or op_lt_str (op_cmpLt I.u64))
    rw [I.K] at h
    exact h, fun B H x y d e z bk hx hy hz Q q => ?_⟩
  unfold dLt at hz
  split at hz
  · cases hz
    exact .inl ⟨_, _, hx.int, hy.int, q _ H (Sub.refl H) (.bl _)⟩
  · cases hz
    exact .inr (.inl ⟨_, _, hx.str, hy.str, q _ H (Sub.refl H) (.bl _)⟩)
  · split at hz
    · rename_i ok
      cases hz
      obtain ⟨k1, k2, k3, k4⟩ := okC_all ok
      exact .inr (.inr ⟨_, _, hx.rp.dp (okD_ok 60 _ k1).2.2, hy.rp.dp (okD_ok 60 _ k2).2.2, ok, q _ H (Sub.refl H) (.bl _)⟩)
    · cases hz
def rCmpGt (K : Frag) : R2 := fun x y H Q => ∃ d e, Dp K H x d ∧ Dp K H y e ∧ okC d e = true ∧ Q (.bl (PySem.W.dataLt e d)) H
theorem op_cmpGt {X : Cx} (hu : X.A.units + 64 < cLine) : OpR X (compareOp .Gt) (rCmpGt X.K) := by
  intro pins s σ H x y v u Q I rx ry h
  obtain ⟨d, e, hd, he, ok, q⟩ := h
  obtain ⟨k1, k2, k3, k4⟩ := okC_all ok
  obtain ⟨as, r1⟩ := Dp.reads I d x v hd rx
  obtain ⟨bs, r2⟩ := Dp.reads I e y u he ry
  have z := (okD_ok 60 d k1).2.1
  exact PySem.W.gt_data r1 r2 k3 k4 (by omega) ⟨.bl _, H, I, rfl, q⟩
def dGt (d e : D) : Option D := match d, e with
  | .int a, .int b => some (.bool (decide (b < a)))
  | .str a, .str b => some (.bool (decide (b.cps.toList < a.cps.toList)))
  | d, e => if okC d e = true then some (.bool (PySem.W.dataLt e d)) else none
theorem o_gt : OpD c.K (In c N sc) (compareOp .Gt) dGt := by
  refine ⟨_, fun X I => by
    have h := OpR.or (X := X) op_gt (OpR.or op_gt_str (op_cmpGt I.u64))
    rw [I.K] at h
    exact h, fun B H x y d e z bk hx hy hz Q q => ?_⟩
  unfold dGt at hz
  split at hz
  · cases hz
    exact .inl ⟨_, _, hx.int, hy.int, q _ H (Sub.refl H) (.bl _)⟩
  · cases hz
    exact .inr (.inl ⟨_, _, hx.str, hy.str, q _ H (Sub.refl H) (.bl _)⟩)
  · split at hz
    · rename_i ok
      cases hz
      obtain ⟨k1, k2, k3, k4⟩ := okC_all ok
      exact .inr (.inr ⟨_, _, hx.rp.dp (okD_ok 60 _ k1).2.2, hy.rp.dp (okD_ok 60 _ k2).2.2, ok, q _ H (Sub.refl H) (.bl _)⟩)
    · cases hz
def rCmpLtE (K : Frag) : R2 := fun x y H Q => ∃ d e, Dp K H x d ∧ Dp K H y e ∧ okC d e = true ∧ Q (.bl (!PySem.W.dataLt e d)) H
theorem op_cmpLtE {X : Cx} (hu : X.A.units + 64 < cLine) : OpR X (compareOp .LtE) (rCmpLtE X.K) := by
  intro pins s σ H x y v u Q I rx ry h
  obtain ⟨d, e, hd, he, ok, q⟩ := h
  obtain ⟨k1, k2, k3, k4⟩ := okC_all ok
  obtain ⟨as, r1⟩ := Dp.reads I d x v hd rx
  obtain ⟨bs, r2⟩ := Dp.reads I e y u he ry
  have z := (okD_ok 60 d k1).2.1
  exact PySem.W.le_data r1 r2 k3 k4 (by omega) ⟨.bl _, H, I, rfl, q⟩
def dLe (d e : D) : Option D := match d, e with
  | .int a, .int b => some (.bool (decide (a ≤ b)))
  | d, e => if okC d e = true then some (.bool (!PySem.W.dataLt e d)) else none
theorem o_le : OpD c.K (In c N sc) (compareOp .LtE) dLe := by
  refine ⟨_, fun X I => by
    have h := OpR.or (X := X) op_le (op_cmpLtE I.u64)
    rw [I.K] at h
    exact h, fun B H x y d e z bk hx hy hz Q q => ?_⟩
  unfold dLe at hz
  split at hz
  · cases hz
    exact .inl ⟨_, _, hx.int, hy.int, q _ H (Sub.refl H) (.bl _)⟩
  · split at hz
    · rename_i ok
      cases hz
      obtain ⟨k1, k2, k3, k4⟩ := okC_all ok
      exact .inr (⟨_, _, hx.rp.dp (okD_ok 60 _ k1).2.2, hy.rp.dp (okD_ok 60 _ k2).2.2, ok, q _ H (Sub.refl H) (.bl _)⟩)
    · cases hz
def rCmpGtE (K : Frag) : R2 := fun x y H Q => ∃ d e, Dp K H x d ∧ Dp K H y e ∧ okC d e = true ∧ Q (.bl (!PySem.W.dataLt d e)) H
theorem op_cmpGtE {X : Cx} (hu : X.A.units + 64 < cLine) : OpR X (compareOp .GtE) (rCmpGtE X.K) := by
  intro pins s σ H x y v u Q I rx ry h
  obtain ⟨d, e, hd, he, ok, q⟩ := h
  obtain ⟨k1, k2, k3, k4⟩ := okC_all ok
  obtain ⟨as, r1⟩ := Dp.reads I d x v hd rx
  obtain ⟨bs, r2⟩ := Dp.reads I e y u he ry
  have z := (okD_ok 60 d k1).2.1
  exact PySem.W.ge_data r1 r2 k3 k4 (by omega) ⟨.bl _, H, I, rfl, q⟩
def dGe (d e : D) : Option D := match d, e with
  | .int a, .int b => some (.bool (decide (b ≤ a)))
  | d, e => if okC d e = true then some (.bool (!PySem.W.dataLt d e)) else none
theorem o_ge : OpD c.K (In c N sc) (compareOp .GtE) dGe := by
  refine ⟨_, fun X I => by
    have h := OpR.or (X := X) op_ge (op_cmpGtE I.u64)
    rw [I.K] at h
    exact h, fun B H x y d e z bk hx hy hz Q q => ?_⟩
  unfold dGe at hz
  split at hz
  · cases hz
    exact .inl ⟨_, _, hx.int, hy.int, q _ H (Sub.refl H) (.bl _)⟩
  · split at hz
    · rename_i ok
      cases hz
      obtain ⟨k1, k2, k3, k4⟩ := okC_all ok
      exact .inr (⟨_, _, hx.rp.dp (okD_ok 60 _ k1).2.2, hy.rp.dp (okD_ok 60 _ k2).2.2, ok, q _ H (Sub.refl H) (.bl _)⟩)
    · cases hz
def dEqB (d e : D) : Option Bool := match d, e with
  | .str a, .str b => some (a == b)
  | _, _ => if okD 60 d = true ∧ okD 60 e = true then some (PyData.eqv d e) else none
def dEq (d e : D) : Option D := (dEqB d e).map .bool
def dNe (d e : D) : Option D := (dEqB d e).map fun b => .bool (!b)
theorem o_eq : OpD c.K (In c N sc) (compareOp .Eq) dEq := by
  refine ⟨_, fun X I => by
    have h := OpR.or (X := X) op_eq (op_eqD I.u64)
    rw [I.K] at h
    exact h, fun B H x y d e z bk hx hy hz Q q => ?_⟩
  unfold dEq dEqB at hz
  split at hz
  · simp at hz
    subst hz
    refine .inl ⟨?_, ?_⟩
    · rw [hx.str, hy.str]; rfl
    · rw [hx.str, hy.str, dec_str]
      exact q _ H (Sub.refl H) (.bl _)
  · split at hz
    · rename_i ho
      simp at hz
      subst hz
      obtain ⟨a1, a2⟩ := okD_shaped ho.1 (by decide)
      obtain ⟨b1, b2⟩ := okD_shaped ho.2 (by decide)
      exact .inr ⟨d, e, hx.rp.dp a2, hy.rp.dp b2, a1, b1, q _ H (Sub.refl H) (.bl _)⟩
    · simp at hz
theorem o_ne : OpD c.K (In c N sc) (compareOp .NotEq) dNe := by
  refine ⟨_, fun X I => by
    have h := OpR.or (X := X) op_ne (op_neD I.u64)
    rw [I.K] at h
    exact h, fun B H x y d e z bk hx hy hz Q q => ?_⟩
  unfold dNe dEqB at hz
  split at hz
  · simp at hz
    subst hz
    refine .inl ⟨?_, ?_⟩
    · rw [hx.str, hy.str]; rfl
    · rw [hx.str, hy.str, dec_str]
      exact q _ H (Sub.refl H) (.bl _)
  · split at hz
    · rename_i ho
      simp at hz
      subst hz
      obtain ⟨a1, a2⟩ := okD_shaped ho.1 (by decide)
      obtain ⟨b1, b2⟩ := okD_shaped ho.2 (by decide)
      exact .inr ⟨d, e, hx.rp.dp a2, hy.rp.dp b2, a1, b1, q _ H (Sub.refl H) (.bl _)⟩
    · simp at hz
def isNoneD : D → Bool
  | .none => true
  | _ => false
def dIs : D → D → Option D := fun d e => if isNoneD e then some (.bool (isNoneD d)) else none
def dIsNot : D → D → Option D := fun d e => if isNoneD e then some (.bool (!isNoneD d)) else none
theorem rs_none {K : Frag} {B : Addr → Bool} {H : Hp} {v : V} {d : D} (h : Rs K B H v d) : decide (v = .non) = isNoneD d := by
  have h := h.rp
  cases h <;> rfl
theorem o_is : OpD c.K (In c N sc) (compareOp .Is) dIs := by
  refine ⟨_, fun X I => op_isN, fun B H x y d e z bk hx hy hz Q q => ?_⟩
  unfold dIs at hz
  split at hz
  · rename_i he
    cases hz
    have : e = .none := by
      cases e <;> first | rfl | cases he
    subst this
    refine ⟨hy.none, ?_⟩
    rw [rs_none hx]
    exact q _ H (Sub.refl H) (.bl _)
  · cases hz
theorem o_isNot : OpD c.K (In c N sc) (compareOp .IsNot) dIsNot := by
  refine ⟨_, fun X I => op_notN, fun B H x y d e z bk hx hy hz Q q => ?_⟩
  unfold dIsNot at hz
  split at hz
  · rename_i he
    cases hz
    have : e = .none := by
      cases e <;> first | rfl | cases he
    subst this
    refine ⟨hy.none, ?_⟩
    rw [rs_none hx]
    exact q _ H (Sub.refl H) (.bl _)
  · cases hz
/-- x in a text (one sign) | a list of any data | a tuple of flat data -/
def flatD : D → Bool
  | .none => true
  | .bool _ => true
  | .int _ => true
  | .str _ => true
  | _ => false
theorem flatD_v {K : Frag} {H : Hp} {v : V} {d : D} (h : Rp K H v d) (f : flatD d = true) : flatV v = true := by
  cases h <;> first | rfl | cases f
theorem flatD_all {K : Frag} {H : Hp} : ∀ {vs : List V} {ds : List D}, RpL K H vs ds → ds.all flatD = true → vs.all flatV = true
  | _, _, .nil, _ => rfl
  | _, _, .cons h r, f => by
    simp at f ⊢
    exact ⟨flatD_v h f.1, by simpa using flatD_all r (by simpa using f.2)⟩
theorem eqV_eqv {K : Frag} {H H' : Hp} {v u : V} {d e : D} (h : Rp K H v d) (k : Rp K H' u e) (f : flatD d = true) (g : flatD e = true) : eqV v u = PyData.eqv d e := by
  cases h <;> first | (cases f; done) | (cases k <;> first | (cases g; done) | rfl)
theorem inV_any {K : Frag} {H H' : Hp} {x : V} {d : D} (h : Rp K H' x d) (f : flatD d = true) : ∀ {vs : List V} {ds : List D}, RpL K H vs ds → ds.all flatD = true → inV x vs = ds.any fun z => PyData.eqv z d
  | _, _, .nil, _ => rfl
  | _, _, .cons r rr, g => by
    simp at g
    have ih := inV_any h f rr (by simpa using g.2)
    unfold inV at ih ⊢
    rw [List.any_cons, List.any_cons, ih, eqV_eqv r h g.1 f]
def dInB (d e : D) : Option Bool := match d, e with
  | .str ⟨⟨[c]⟩⟩, .str z => some (decide (c ∈ z.cps.toList))
  | d, .list ds => if okD 60 d = true ∧ okD 60 (.list ds) = true then some (ds.any fun z => PyData.eqv z d) else none
  | d, .tuple ds => if flatD d = true ∧ ds.all flatD = true then some (ds.any fun z => PyData.eqv z d) else none
  | _, _ => none
def dIn (d e : D) : Option D := (dInB d e).map .bool
def dNotIn (d e : D) : Option D := (dInB d e).map fun b => .bool (!b)
theorem o_notIn : OpD c.K (In c N sc) (compareOp .NotIn) dNotIn := by
  refine ⟨_, fun X I => by
    have h := OpR.or (X := X) op_notIn_sign (OpR.or (op_notInD (I.u65)) op_notIn_seq)
    rw [I.K] at h
    exact h, fun B H x y d e z bk hx hy hz Q q => ?_⟩
  unfold dNotIn dInB at hz
  split at hz
  · simp at hz
    subst hz
    exact .inl ⟨_, _, hx.str, hy.str, by simpa using q _ H (Sub.refl H) (.bl _)⟩
  · split at hz
    · rename_i ho
      simp at hz
      subst hz
      obtain ⟨a1, a2⟩ := okD_shaped ho.1 (by decide)
      obtain ⟨b1, b2⟩ := okD_shaped ho.2 (by decide)
      exact .inr (.inl ⟨_, _, hx.rp.dp a2, hy.rp.dp b2, a1, b1, q _ H (Sub.refl H) (.bl _)⟩)
    · simp at hz
  · split at hz
    · rename_i ho
      simp at hz
      subst hz
      obtain ⟨a, xs, rfl, h1, r1⟩ := hy.tuple
      refine .inr (.inr ⟨a, xs, rfl, .inr h1, flatD_v hx.rp ho.1, flatD_all r1 ho.2, ?_⟩)
      rw [if_pos rfl, inV_any hx.rp ho.1 r1 ho.2]
      exact q _ H (Sub.refl H) (.bl _)
    · simp at hz
  · simp at hz
end Hz
namespace Hz
open PySem L2
def negK (m : ME) : ME := fun ρ α Q E => m ρ α (fun d α1 => ∃ i : Int, d = .int i ∧ Q (.int (-i)) α1) E
section
variable {c : C0} {N : List Str} {sc : Scope} {a b : Expr} {ma mb : ME} {g : D → D → Option D} {i : Nat} {pos p1 : Pos} {x : Str}
structure IxD (K : Frag) (XS : Cx → Prop) (g : D → D → Option D) : Prop where
  ex : ∃ r : R2, (∀ X, XS X → IxR X r) ∧ ∀ (B : Addr → Bool) (H : Hp) (x y : V) (d e z : D), (∀ a, B a = true → ∃ o, H a = some o) → Rs K B H x d → Rs K B H y e → g d e = some z →
    ∀ Q : VK, (∀ v H', Sub H H' → Rp K (hide B H') v z → Q v H') → r x y H Q
def dIx : D → D → Option D
  | .list ds, .int i => (ixN ds.length i).bind fun j => ds[j]?
  | .tuple ds, .int i => (ixN ds.length i).bind fun j => ds[j]?
  | .str z, .int i => if z.length ≤ 100000 then (ixN z.cps.toList.length i).bind fun j => (z.cps.toList[j]?).map fun k => .str ⟨#[k]⟩ else none
  | _, _ => none
theorem o_ix : IxD c.K (In c N sc) dIx := by
  refine ⟨_, fun X I => by
    have h := IxR.or (X := X) ix_list (IxR.or ix_tup ix_str)
    rw [I.K] at h
    exact h, fun B H x y d e z bk hx hy hz Q q => ?_⟩
  unfold dIx at hz
  split at hz
  · rename_i ds k
    obtain ⟨a, xs, rfl, h1, r1⟩ := hx.list
    cases hj : ixN ds.length k with
    | none => simp [hj] at hz
    | some j =>
      simp [hj] at hz
      obtain ⟨v, g1, g2⟩ := r1.get' hz
      refine .inl ⟨a, xs, k, v, rfl, hy.int, h1, ?_, q v H (Sub.refl H) g2⟩
      unfold atI
      rw [r1.length, hj]
      exact g1
  · rename_i ds k
    obtain ⟨a, xs, rfl, h1, r1⟩ := hx.tuple
    cases hj : ixN ds.length k with
    | none => simp [hj] at hz
    | some j =>
      simp [hj] at hz
      obtain ⟨v, g1, g2⟩ := r1.get' hz
      refine .inr (.inl ⟨a, xs, k, v, rfl, hy.int, h1, ?_, q v H (Sub.refl H) g2⟩)
      unfold atI
      rw [r1.length, hj]
      exact g1
  · rename_i s k
    split at hz
    · rename_i hl
      cases hj : ixN s.cps.toList.length k with
      | none => rw [hj] at hz; cases hz
      | some j =>
        rw [hj, Option.bind_some] at hz
        cases hk : s.cps.toList[j]? with
        | none => rw [hk] at hz; cases hz
        | some w =>
          rw [hk] at hz
          cases hz
          refine .inr (.inr ⟨s, k, w, hx.str, hy.int, sz5 hl, ?_, q _ H (Sub.refl H) (.str _)⟩)
          unfold atI
          rw [hj]
          exact hk
    · cases hz
  · cases hz
theorem je_ix (ho : IxD c.K (In c N sc) g) (ha : JE c N sc a ma) (hb : JE c N sc b mb) (hs : PlainIx b := by intro _ _; rfl) : JE c N sc (.Subscript a b pos) (bop g ma mb) := by
  obtain ⟨r, h1, h2⟩ := ho.ex
  obtain ⟨ta, p1, s1⟩ := ha
  obtain ⟨tb, p2, s2⟩ := hb
  exact ⟨_, fun X W I T => pe_ix (h1 X I) (p1 X W I T) (p2 X W I T) hs, fun W => sd_bop (s1 W) (s2 W) h2⟩
end
abbrev MP := En → AH → (Option Int → AH → Prop) → QX → Prop
def SP_ (K : Frag) (W : WX) (t : TO) (m : MP) : Prop :=
  ∀ B σ H ρ α, SR K B σ H ρ α → ∀ Qm Em, m ρ α Qm Em → ∀ Q : Option Int → Hp → Prop, (∀ o B' H' α', Af K B H α B' H' α' → Qm o α' → Q o H') → SX K W B σ H α Em → t σ H Q
def JP (c : C0) (N : List Str) (sc : Scope) (e : Option Expr) (m : MP) : Prop := ∃ t : WX → TO, (∀ X W, In c N sc X → Takes X W → PO X e (t W)) ∧ ∀ W, SP_ c.K W (t W) m
def pnone : MP := fun _ α Q _ => Q none α
def psome (m : ME) : MP := fun ρ α Q E => m ρ α (fun d α1 => ∃ i : Int, d = .int i ∧ Q (some i) α1) E
def cutD (xs : List D) (lo hi : Option Int) : List D := (xs.drop (HT.sIx xs.length 0 lo)).take (HT.sIx xs.length xs.length hi - HT.sIx xs.length 0 lo)
def dCut : D → Option Int → Option Int → Option D
  | .list ds, lo, hi => some (.list (cutD ds lo hi))
  | .tuple ds, lo, hi => some (.tuple (cutD ds lo hi))
  | .str z, lo, hi => if z.length ≤ 100000 then some (.str (cutS z lo hi)) else none
  | _, _, _ => none
def cutK (ma : ME) (ml mh : MP) : ME := fun ρ α Q E => ma ρ α (fun d α1 => ml ρ α1 (fun l α2 => mh ρ α2 (fun h α3 => oq (vw α3 d) fun d' => oq (dCut d' l h) fun z => Q z α3) E) E) E
theorem RpL.cut {K : Frag} {H : Hp} {vs : List V} {ds : List D} (r : RpL K H vs ds) (lo hi : Option Int) : RpL K H (cutV vs lo hi) (cutD ds lo hi) := by
  unfold cutV cutD
  rw [r.length]
  exact (r.drop _).take _
section
variable {c : C0} {N : List Str} {sc : Scope} {a : Expr} {lo hi : Option Expr} {ma : ME} {ml mh : MP} {i : Nat} {pos p1 p2 : Pos} {x : Str} {K : Frag} {W : WX}
theorem jp_none : JP c N sc none pnone := ⟨_, fun _ _ _ _ => po_none, fun W B σ H ρ α S Qm Em m Q q x => q _ B H α (Af.refl S.bs) m⟩
theorem jp_some (h : JE c N sc a ma) : JP c N sc (some a) (psome ma) := by
  obtain ⟨t, h1, h2⟩ := h
  refine ⟨_, fun X W I T => po_some (h1 X W I T), fun W B σ H ρ α S Qm Em m Q q x => h2 W B σ H ρ α S _ Em m _ (fun v d B1 H1 α1 A r m => ?_) x⟩
  obtain ⟨z, rfl, m⟩ := m
  exact ⟨z, r.inti, q _ B1 H1 α1 A m⟩
/-- t[lo:hi], its object known -/
def rSlX (K : Frag) : V → Option Int → Option Int → Hp → VK → Prop := fun x lo hi H Q => ∃ a xs, x = .ref a ∧ SqT K H a xs ∧
  (HT.sIx xs.length 0 lo = 0 ∧ HT.sIx xs.length xs.length hi = xs.length → Q (.ref a) H) ∧ (¬ (HT.sIx xs.length 0 lo = 0 ∧ HT.sIx xs.length xs.length hi = xs.length) → ∀ p o, ExT o → H p = none → Q (.ref p) (upd H p (.frz o (.tup (cutV xs lo hi)))))
theorem sl_tupX {X : Cx} : SlR X (rSlX X.K) := by
  intro pins s σ H x v vl vu lo hi sl Q I rx hs pl pu h
  obtain ⟨a, xs, rfl, hx, q1, q2⟩ := h
  cases rx
  obtain ⟨its, r, ht, hz⟩ := I.tuple hx
  have hlen : its.toArray.size = xs.length := by rw [List.size_toArray]; exact r.length.symm
  refine ⟨"tuple", _, PyProof.Rows.slot_tuple_getitem.lookup, ht.typeIs, ?_⟩
  by_cases hw : HT.sIx xs.length 0 lo = 0 ∧ HT.sIx xs.length xs.length hi = xs.length
  · exact getItem_tuple_whole ht hs pl pu (by rw [hlen]; exact hw) ⟨.ref a, H, I, rfl, q1 hw⟩
  · refine HT.getItem_tuple_cut ht hs pl pu (by rw [hlen]; exact hw) ?_ (by rw [hlen]; exact hz)
    rw [hlen]
    exact ⟨.ref s.heap.objs.size, _, tnew I ((r.drop (HT.sIx xs.length 0 lo)).take (HT.sIx xs.length xs.length hi - HT.sIx xs.length 0 lo)) (Nat.le_trans (cutV_length xs lo hi) hz), rfl, q2 hw _ _ ⟨rfl, rfl⟩ (I.hok.fresh (Nat.le_refl _))⟩
def rCutR (K : Frag) : V → Option Int → Option Int → Hp → VK → Prop := fun x lo hi H Q => rSlL K x lo hi H Q ∨ (rSlX K x lo hi H Q ∨ rSlS x lo hi H Q)
theorem cut_read {B : Addr → Bool} {H : Hp} {x : V} {d z : D} {l h : Option Int} (bk : ∀ a, B a = true → ∃ o, H a = some o) (hx : Rs K B H x d) (hz : dCut d l h = some z) : ∀ Q : VK, (∀ v H', Sub H H' → Rp K (hide B H') v z → Q v H') → rCutR K x l h H Q := fun Q q => by
  unfold dCut at hz
  split at hz
  · cases hz
    obtain ⟨a, xs, rfl, h1, r1⟩ := hx.list
    refine .inl ⟨a, xs, rfl, h1, fun p hp => ?_⟩
    obtain ⟨s1, r2⟩ := lst_new bk hp (r1.cut l h)
    exact q _ _ s1 r2
  · rename_i ds
    cases hz
    obtain ⟨a, xs, rfl, h1, r1⟩ := hx.tuple
    refine .inr (.inl ⟨a, xs, rfl, h1, fun w => ?_, fun _ p o ho hp => ?_⟩)
    · have e : cutD ds l h = ds := by
        unfold cutD
        rw [← r1.length, w.1, w.2, List.drop_zero, Nat.sub_zero, r1.length, List.take_length]
      rw [e] at q
      refine q _ H (Sub.refl H) ?_
      cases hx with
      | vis h => exact h
    · obtain ⟨s1, r2⟩ := tup_new bk ho hp (r1.cut l h)
      exact q _ _ s1 r2
  · split at hz
    · rename_i hl
      cases hz
      exact .inr (.inr ⟨_, hx.str, sz5 hl, q _ H (Sub.refl H) (.str _)⟩)
    · cases hz
  · cases hz
theorem sl_cut {X : Cx} : SlR X (rCutR X.K) := SlR.or sl_list (SlR.or sl_tupX sl_str)
theorem sd_cut {t : TE} {u w : TO} (a2 : Sd K W t ma) (b2 : SP_ K W u ml) (c2 : SP_ K W w mh) : Sd K W (tSl (rCutR K) t u w) (cutK ma ml mh) := fun B σ H ρ α S Qm Em m Q q x => by
  refine a2 B σ H ρ α S _ Em m _ (fun v d B1 H1 α1 A1 r1 m => ?_) x
  refine b2 B1 σ H1 ρ α1 (S.step A1) _ Em m _ (fun l B2 H2 α2 A2 m => ?_) (x.after S.bs A1)
  have A12 := A1.trans S.bs A2
  refine c2 B2 σ H2 ρ α2 (S.step A12) _ Em m _ (fun h B3 H3 α3 A3 m => ?_) (x.after S.bs A12)
  obtain ⟨d', hd, z, hz, m⟩ := m
  refine cut_read A3.bs.bk (vw_rs A3.bs (r1.mono (A2.sub.trans A3.sub)) hd) hz _ fun y H4 s4 r4 => ?_
  exact q y z B3 H4 α3 ((A12.trans S.bs A3).trans S.bs (Af.of_sub A3.bs s4)) r4 m
theorem je_cut (ha : JE c N sc a ma) (hl : JP c N sc lo ml) (hh : JP c N sc hi mh) : JE c N sc (.Subscript a (.Slice lo hi none p2) pos) (cutK ma ml mh) := by
  obtain ⟨t, a1, a2⟩ := ha
  obtain ⟨u, b1, b2⟩ := hl
  obtain ⟨w, c1, c2⟩ := hh
  refine ⟨fun W => tSl (rCutR c.K) (t W) (u W) (w W), fun X W I T => ?_, fun W => sd_cut (a2 W) (b2 W) (c2 W)⟩
  have h := pe_slice (p2 := p2) (pos := pos) (sl_cut (X := X)) (a1 X W I T) (b1 X W I T) (c1 X W I T)
  rw [I.K] at h
  exact h
end
inductive RsL (K : Frag) (B : Addr → Bool) (H : Hp) : List V → List D → Prop
  | nil : RsL K B H [] []
  | cons {v : V} {vs : List V} {d : D} {ds : List D} : Rs K B H v d → RsL K B H vs ds → RsL K B H (v :: vs) (d :: ds)
theorem RpL.rs {K : Frag} {B : Addr → Bool} {H : Hp} : ∀ {vs : List V} {ds : List D}, RpL K (hide B H) vs ds → RsL K B H vs ds
  | _, _, .nil => .nil
  | _, _, .cons h r => .cons (.vis h) (RpL.rs r)
theorem RsL.one {K : Frag} {B : Addr → Bool} {H : Hp} {vs : List V} {d : D} (h : RsL K B H vs [d]) : ∃ v, vs = [v] ∧ Rs K B H v d := by
  cases h with
  | cons a b => cases b; exact ⟨_, rfl, a⟩
structure CaD (K : Frag) (XS : Cx → Prop) (fv : Value) (f : List D → Option D) : Prop where
  ex : ∃ r : List V → Hp → VK → Prop, (∀ X, XS X → CallR X fv r) ∧ ∀ (B : Addr → Bool) (H : Hp) (vs : List V) (ds : List D) (z : D), (∀ a, B a = true → ∃ o, H a = some o) → RsL K B H vs ds → f ds = some z →
    ∀ Q : VK, (∀ v H', Sub H H' → Rp K (hide B H') v z → Q v H') → r vs H Q
structure CaF (K : Frag) (XS : Cx → Prop) (fv : Value) (f : List D → Option D) : Prop where
  ex : ∃ r : List V → Hp → VK → Prop, (∀ X, XS X → CallR X fv r) ∧ ∀ (B : Addr → Bool) (H : Hp) (vs : List V) (ds : List D) (z : D), (∀ a, B a = true → ∃ o, H a = some o) → RsL K B H vs ds → f ds = some z →
    ∀ Q : VK, (∀ l H', Sub H H' → H l = none → OwnAt K (hide (ins l B) H') (H' l) z → Q (.ref l) H') → r vs H Q
def b1K (f : List D → Option D) (m : ME) : ME := fun ρ α Q E => m ρ α (fun d α1 => oq (vw α1 d) fun d' => oq (f [d']) fun z => Q z α1) E
def bnK (f : List D → Option D) (m : ML) : ME := fun ρ α Q E => m ρ α (fun ds α1 => oq (mapV α1 ds) fun es => oq (f es) fun z => Q z α1) E
section
variable {c : C0} {N : List Str} {sc : Scope} {e : Expr} {es : List Expr} {me : ME} {ml : ML} {f : List D → Option D} {pos p : Pos} {x : Str} {id T : String} {K : Frag} {W : WX} {r : List V → Hp → VK → Prop}
theorem sd_b1 {te : TE} (h : Sd K W te me) (hr : ∀ (B : Addr → Bool) (H : Hp) (vs : List V) (ds : List D) (z : D), (∀ a, B a = true → ∃ o, H a = some o) → RsL K B H vs ds → f ds = some z → ∀ Q : VK, (∀ v H', Sub H H' → Rp K (hide B H') v z → Q v H') → r vs H Q) :
    Sd K W (tCB r (tCons te tNil)) (b1K f me) := fun B σ H ρ α S Qm Em m Q q x => h B σ H ρ α S _ Em m _ (fun v d B1 H1 α1 A1 r1 m => by
  obtain ⟨d', hd, z, hz, m⟩ := m
  exact hr B1 H1 [v] [d'] _ A1.bs.bk (.cons (vw_rs A1.bs r1 hd) .nil) hz _ fun w H2 s2 r2 => q w z B1 H2 α1 (A1.trans S.bs (Af.of_sub A1.bs s2)) r2 m) x
theorem sf_b1 {te : TE} (h : Sd K W te me) (hr : ∀ (B : Addr → Bool) (H : Hp) (vs : List V) (ds : List D) (z : D), (∀ a, B a = true → ∃ o, H a = some o) → RsL K B H vs ds → f ds = some z → ∀ Q : VK, (∀ l H', Sub H H' → H l = none → OwnAt K (hide (ins l B) H') (H' l) z → Q (.ref l) H') → r vs H Q) :
    Sf K W (tCB r (tCons te tNil)) (b1K f me) := fun B σ H ρ α S Qm Em m Q q x => h B σ H ρ α S _ Em m _ (fun v d B1 H1 α1 A1 r1 m => by
  obtain ⟨d', hd, z, hz, m⟩ := m
  exact hr B1 H1 [v] [d'] _ A1.bs.bk (.cons (vw_rs A1.bs r1 hd) .nil) hz _ fun l H2 s2 hl r2 => q l z _ H2 α1 (A1.trans S.bs (Af.cell A1.bs s2 hl (.own r2))) (A1.bs.new hl) m) x
theorem je_b1 (ho : CaD c.K (In c N sc) (.builtin id) f) (hg : sc.names.lookup x = some .globalImplicit) (hm : c.mg x = none) (hv : bootBuiltins x = some (.builtin id)) (ha : JE c N sc e me) (hn : x ≠ "__name__" := by decide) (hdb : (x == ("__debug__" : Str)) = false := by decide)
    (he : ∀ env, starEach [e] env = (false, eval e env) :: starEach [] env := by intros; rfl) (hpl : ∀ env, (backTo pos (starEach [] env)).any (·.1) = false := by intros; rfl) : JE c N sc (.Call (.Name x p) [e] [] pos) (b1K f me) := by
  obtain ⟨r, h1, h2⟩ := ho.ex
  obtain ⟨t, a1, a2⟩ := ha
  exact ⟨_, fun X W I T => pe_callB (h1 X I) (I.gl hg) (by rw [I.mg]; exact hm) hv (pa_cons (a1 X W I T) pa_nil (he _)) hn hdb (he _) (hpl _), fun W => sd_b1 (a2 W) h2⟩
theorem je_t1 (ho : CaD c.K (In c N sc) (.type T) f) (hg : sc.names.lookup x = some .globalImplicit) (hm : c.mg x = none) (hv : bootBuiltins x = some (.type T)) (ha : JE c N sc e me) (hn : x ≠ "__name__" := by decide) (hdb : (x == ("__debug__" : Str)) = false := by decide)
    (he : ∀ env, starEach [e] env = (false, eval e env) :: starEach [] env := by intros; rfl) (hpl : ∀ env, (backTo pos (starEach [] env)).any (·.1) = false := by intros; rfl) : JE c N sc (.Call (.Name x p) [e] [] pos) (b1K f me) := by
  obtain ⟨r, h1, h2⟩ := ho.ex
  obtain ⟨t, a1, a2⟩ := ha
  exact ⟨_, fun X W I T => pe_callTy (h1 X I) (I.gl hg) (by rw [I.mg]; exact hm) hv (pa_cons (a1 X W I T) pa_nil (he _)) hn hdb (he _) (hpl _), fun W => sd_b1 (a2 W) h2⟩
theorem jf_t1 (ho : CaF c.K (In c N sc) (.type T) f) (hg : sc.names.lookup x = some .globalImplicit) (hm : c.mg x = none) (hv : bootBuiltins x = some (.type T)) (ha : JE c N sc e me) (hn : x ≠ "__name__" := by decide) (hdb : (x == ("__debug__" : Str)) = false := by decide)
    (he : ∀ env, starEach [e] env = (false, eval e env) :: starEach [] env := by intros; rfl) (hpl : ∀ env, (backTo pos (starEach [] env)).any (·.1) = false := by intros; rfl) : JF c N sc (.Call (.Name x p) [e] [] pos) (b1K f me) := by
  obtain ⟨r, h1, h2⟩ := ho.ex
  obtain ⟨t, a1, a2⟩ := ha
  exact ⟨_, fun X W I T => pe_callTy (h1 X I) (I.gl hg) (by rw [I.mg]; exact hm) hv (pa_cons (a1 X W I T) pa_nil (he _)) hn hdb (he _) (hpl _), fun W => sf_b1 (a2 W) h2⟩
/-- isinstance(e, T), T a built-in class -/
def isiB (T : String) : D → Option Bool
  | .none => kitB "NoneType" T
  | .bool _ => kitB "bool" T
  | .int _ => kitB "int" T
  | .str _ => kitB "str" T
  | .list _ => kitB "list" T
  | .tuple _ => kitB "tuple" T
  | _ => none
def isiK (T : String) (m : ME) : ME := fun ρ α Q E => m ρ α (fun d α1 => oq (vw α1 d) fun d' => oq (isiB T d') fun b => Q (.bool b) α1) E
end
section
variable {c : C0} {N : List Str} {sc : Scope}
def dLen : List D → Option D
  | [.list ds] => some (.int ds.length)
  | [.tuple ds] => some (.int ds.length)
  | [.str z] => if z.length ≤ 100000 then some (.int z.length) else none
  | _ => none
theorem c_len : CaD c.K (In c N sc) (.builtin "len") dLen := by
  refine ⟨_, fun X I => by
    have h := call_len (X := X)
    rw [I.K] at h
    exact h, fun B H vs ds z bk hv hz Q q => ?_⟩
  unfold dLen at hz
  split at hz
  · cases hz
    obtain ⟨v, rfl, h⟩ := hv.one
    obtain ⟨a, xs, rfl, h1, r1⟩ := h.list
    exact ⟨_, _, rfl, .inl ⟨xs, h1, r1.length.symm⟩, q _ H (Sub.refl H) (.int _)⟩
  · cases hz
    obtain ⟨v, rfl, h⟩ := hv.one
    obtain ⟨a, xs, rfl, h1, r1⟩ := h.tuple
    exact ⟨_, _, rfl, .inr ⟨xs, h1, r1.length.symm⟩, q _ H (Sub.refl H) (.int _)⟩
  · split at hz
    · rename_i hl
      cases hz
      obtain ⟨v, rfl, h⟩ := hv.one
      rw [h.str]
      exact ⟨_, _, rfl, ⟨sz5 hl, rfl⟩, q _ H (Sub.refl H) (.int _)⟩
    · cases hz
  · cases hz
def dInt : List D → Option D
  | [.int i] => some (.int i)
  | [.bool b] => some (.int (if b then 1 else 0))
  | _ => none
theorem c_int : CaD c.K (In c N sc) (.type "int") dInt := by
  refine ⟨_, fun X I => call_int1, fun B H vs ds z bk hv hz Q q => ?_⟩
  unfold dInt at hz
  split at hz
  · cases hz
    obtain ⟨v, rfl, h⟩ := hv.one
    exact .inl ⟨_, by rw [h.int], q _ H (Sub.refl H) (.int _)⟩
  · cases hz
    obtain ⟨v, rfl, h⟩ := hv.one
    exact .inr ⟨_, by rw [h.bool], q _ H (Sub.refl H) (.int _)⟩
  · cases hz
def dAbs : List D → Option D
  | [.int i] => some (.int (if i < 0 then -i else i))
  | _ => none
def dOrd : List D → Option D
  | [.str x] => if x.length = 1 then some (.int ((x.cps.getD 0 0 : Nat) : Int)) else none
  | _ => none
def dMax2 : List D → Option D
  | [.int i, .int j] => some (.int (if j > i then j else i))
  | _ => none
def dMin2 : List D → Option D
  | [.int i, .int j] => some (.int (if j < i then j else i))
  | _ => none
def toInts : List D → Option (List Int)
  | [] => some []
  | .int i :: r => (toInts r).map fun q => i :: q
  | _ => none
theorem toInts_of : ∀ {ds : List D} {ns : List Int}, toInts ds = some ns → ds = ns.map PyData.int
  | [], ns, h => by cases h; rfl
  | .int i :: r, ns, h => by
    cases q : toInts r with
    | none => simp [toInts, q] at h
    | some l =>
      simp [toInts, q] at h
      subst h
      rw [toInts_of q]
      rfl
  | .none :: _, _, h => by cases h
  | .bool _ :: _, _, h => by cases h
  | .str _ :: _, _, h => by cases h
  | .list _ :: _, _, h => by cases h
  | .tuple _ :: _, _, h => by cases h
  | .dict _ :: _, _, h => by cases h
def dSum : List D → Option D
  | [.list ds] => (toInts ds).map fun ns => .int ns.sum
  | _ => none
theorem c_sum (hc : c.cm = true := by rfl) : CaD c.K (In c N sc) (.builtin "sum") dSum := by
  refine ⟨_, fun X I => by
    have h := cr_sum (X := X) (I.calm hc)
    rw [I.K] at h
    exact h, fun B H vs ds z bk hv hz Q q => ?_⟩
  unfold dSum at hz
  split at hz
  · rename_i ds
    cases q1 : toInts ds with
    | none => simp [q1] at hz
    | some ns =>
      simp [q1] at hz
      subst hz
      obtain ⟨v, rfl, h⟩ := hv.one
      obtain ⟨a, xs, rfl, h1, r1⟩ := h.list
      rw [toInts_of q1] at r1
      rw [r1.of_ints] at h1
      exact ⟨a, ns, rfl, h1, q _ H (Sub.refl H) (.int _)⟩
  · cases hz
def dList : List D → Option D
  | [.list ds] => some (.list ds)
  | [.tuple ds] => some (.list ds)
  | _ => none
theorem cf_list : CaF c.K (In c N sc) (.type "list") dList := by
  refine ⟨_, fun X I => by
    have h := call_list_of (X := X)
    rw [I.K] at h
    exact h, fun B H vs ds z bk hv hz Q q => ?_⟩
  unfold dList at hz
  split at hz
  · cases hz
    obtain ⟨v, rfl, h⟩ := hv.one
    obtain ⟨a, xs, rfl, h1, r1⟩ := h.list
    exact ⟨a, xs, rfl, .inl h1, fun l hl => q _ _ (Sub.new hl) hl (own_new hl r1)⟩
  · cases hz
    obtain ⟨v, rfl, h⟩ := hv.one
    obtain ⟨a, xs, rfl, h1, r1⟩ := h.tuple
    exact ⟨a, xs, rfl, .inr h1, fun l hl => q _ _ (Sub.new hl) hl (own_new hl r1)⟩
  · cases hz
def dTuple : List D → Option D
  | [.list ds] => some (.tuple ds)
  | [.tuple ds] => some (.tuple ds)
  | _ => none
def rTupX (K : Frag) : List V → Hp → VK → Prop := fun xs H Q => ∃ p ys, xs = [.ref p] ∧ ((SqL K H p ys ∧ ∀ l o, ExT o → H l = none → Q (.ref l) (upd H l (.frz o (.tup ys)))) ∨ (SqT K H p ys ∧ Q (.ref p) H))
theorem call_tupX {X : Cx} : CallR X (.type "tuple") (rTupX X.K) := by
  intro pins s σ H xs us Q I r h
  obtain ⟨p, ys, rfl, h⟩ := h
  obtain ⟨u, rfl, rx⟩ := vals1 r
  cases rx
  rcases h with ⟨hq, q⟩ | ⟨hq, q⟩
  · obtain ⟨its, r', pl, hz⟩ := I.list hq
    have hlen := r'.length
    refine call_tuple_list pl.isList (fun h' kp => ?_) (by simp only [List.size_toArray] <;> omega)
    have I1 : Inv X pins σ H { s with heap := h' } := I.kept (t' := s.toks) kp
    exact ⟨.ref h'.objs.size, _, tnew I1 r' hz, rfl, q _ _ ⟨rfl, rfl⟩ (I1.hok.fresh (Nat.le_refl _))⟩
  · obtain ⟨its, r', pl, hz⟩ := I.tuple hq
    exact call_tuple_same pl ⟨.ref p, H, I, rfl, q⟩
theorem c_tuple : CaD c.K (In c N sc) (.type "tuple") dTuple := by
  refine ⟨_, fun X I => by
    have h := call_tupX (X := X)
    rw [I.K] at h
    exact h, fun B H vs ds z bk hv hz Q q => ?_⟩
  unfold dTuple at hz
  split at hz
  · cases hz
    obtain ⟨v, rfl, h⟩ := hv.one
    obtain ⟨a, xs, rfl, h1, r1⟩ := h.list
    refine ⟨a, xs, rfl, .inl ⟨h1, fun l o ho hl => ?_⟩⟩
    obtain ⟨s1, r2⟩ := tup_new bk ho hl r1
    exact q _ _ s1 r2
  · cases hz
    obtain ⟨v, rfl, h⟩ := hv.one
    obtain ⟨a, xs, rfl, h1, r1⟩ := h.tuple
    refine ⟨a, xs, rfl, .inr ⟨h1, q _ H (Sub.refl H) ?_⟩⟩
    cases h with
    | vis h => exact h
  · cases hz
end
structure MeD (K : Frag) (XS : Cx → Prop) (id : String) (f : Str → List D → Option D) : Prop where
  ex : ∃ r : V → List V → Hp → VK → Prop, (∀ X, XS X → MtR X id r) ∧ ∀ (B : Addr → Bool) (H : Hp) (x : Str) (vs : List V) (ds : List D) (z : D), (∀ a, B a = true → ∃ o, H a = some o) → RsL K B H vs ds → f x ds = some z →
    ∀ Q : VK, (∀ v H', Sub H H' → Rp K (hide B H') v z → Q v H') → r (.str x) vs H Q
def metK (f : Str → List D → Option D) (mo : ME) (ma : ML) : ME := fun ρ α Q E => mo ρ α (fun o α1 => ∃ x : Str, o = .str x ∧ ma ρ α1 (fun ds α2 => oq (mapV α2 ds) fun es => oq (f x es) fun z => Q z α2) E) E
section
variable {c : C0} {N : List Str} {sc : Scope} {o e : Expr} {es : List Expr} {mo : ME} {ma : ML} {f : Str → List D → Option D} {p2 p3 : Pos} {m : Str} {id : String} {K : Frag}
def dSplit (x : Str) : List D → Option D
  | [.str b] => if (b.length == 0) = false ∧ x.length + 2 ≤ 100000 then some (.list ((Txt.split x b).map PyData.str)) else none
  | _ => none
end
def strK (m : ME) : MI := fun ρ α Q E => m ρ α (fun d α1 => ∃ x : Str, d = .str x ∧ Q (x.cps.toList.map fun k => .str ⟨#[k]⟩) (fun _ => True) α1) E
end Hz
namespace Hz
open PySem L2
variable {c : C0} {N : List Str} {sc : Scope}
/-- a def as it stands behind the top; js: how many arguments are written somewhere, less than all -/
structure AtF (c : C0) (x qual : Str) (st : Stmt) (ps : List Str) (dvs : List V) (js : List Nat) (f : Addr) : Prop where
  ex : ∃ fd, FunD c.K x qual (defArgs st) (defBody st) (defScope st) dvs [] f fd ∧ Binds c.K fd ps [] ∧ ∀ j ∈ js, ∃ ds, Vals (dvs.drop j) ds ∧ Binds c.K fd ps ds
/-- a def's promise -/
structure Pro (c : C0) (k : Nat) (f : Addr) (ps : List Str) (dvs : List V) (js : List Nat) (fm : Fm) : Prop where
  ex : ∃ fd, FnOk c.P c.w c.K c.mg c.base (L2.CX c.P c.w) k f fd ps (fun vs H Q E => vs.length = ps.length ∧ spD c.K fm vs H Q E) ∧ PySem.W.keepIn c.K (.ref f) = true ∧ Binds c.K fd ps [] ∧ ∀ j ∈ js, ∃ ds, Vals (dvs.drop j) ds ∧ Binds c.K fd ps ds
theorem fn_okD {x qual : Str} {st : Stmt} {dvs : List V} {f : Addr} {fd : FuncData} {ps : List Str} {k : Nat} {m : MS} (F : FunD c.K x qual (defArgs st) (defBody st) (defScope st) dvs [] f fd) (S : FnScope N ps (defScope st)) (h : JB (c.at_ k) N (defScope st) (defBody st) m) (hn : ps.length ≤ N.length := by decide) :
    FnOk c.P c.w c.K c.mg c.base (L2.CX c.P c.w) (k + 1) f fd ps (fun vs H Q E => vs.length = ps.length ∧ spD c.K (runF ps.length N.length m) vs H Q E) := by
  refine F.ok S (fun vs H Q E h => h.1) (fun cdv A outer s H vs Q E hr h' => ?_)
  obtain ⟨hl, B, α, ds, Qm, Em, S0, r, ⟨_, mm⟩, q, y⟩ := h'
  obtain ⟨t, t1, t2⟩ := h
  have tk : Takes (cxOf (L2.CX c.P c.w) c.P c.w c.K c.mg c.base N qual (defScope st) f cdv A outer s H E) (fun cls d _ H => E cls d H) := takes_of rfl rfl rfl rfl
  refine ⟨t _, t1 _ _ ⟨rfl, rfl, rfl, rfl, rfl, fun _ => hr, (Nat.lt_of_le_of_lt (Nat.add_le_add_right (Nat.le_add_right _ _) 200) hr.un : _), rfl, rfl, fun _ => rfl, fun _ => rfl, passes_of rfl, fun _ => ⟨rfl, rfl⟩, fun _ _ _ h => (by cases h), fun _ _ => rfl⟩ tk, ?_⟩
  have es : L2.start N vs = vs.map some ++ List.replicate (N.length - ps.length) none := by
    unfold L2.start
    rw [hl]
  rw [es]
  refine t2 _ B _ H _ α (entry_sr (n := N.length - ps.length) S0 r) _ mm _ (Fi.none_ (fun B' H' ρ' α' a z => q .non .none B' H' α' a .non z) (fun v d B' H' α' a r z => q v d B' H' α' a r z) (fun _ _ z => z) fun _ _ z => z) fun x B' σ' ρ' α' cls d H' a _ xr z => y x B' α' cls d H' a xr z
section
variable {x qual : Str} {st : Stmt} {dvs : List V} {js : List Nat} {f : Addr} {ps : List Str} {k np : Nat} {m : MS} {fm : Fm}
theorem AtF.run (A : AtF c x qual st ps dvs js f) (S : FnScope N ps (defScope st)) (h : JB (c.at_ k) N (defScope st) (defBody st) m) (hn : ps.length ≤ N.length := by decide) : Pro c (k + 1) f ps dvs js (runF ps.length N.length m) := by
  obtain ⟨fd, F, b⟩ := A.ex
  exact ⟨fd, fn_okD F S h hn, F.kp, b⟩
theorem AtF.runP (A : AtF c x qual st ps dvs js f) (S : FnScope N ps (defScope st)) (h : JB (c.at_ k) N (defScope st) (defBody st) m) (hn : ps.length ≤ N.length := by decide) : Pro c (k + 1) f ps dvs js (runP ps.length N.length m) := by
  obtain ⟨fd, F, b⟩ := A.ex
  exact ⟨fd, (fn_okD F S h hn).imp fun vs H Q E z => ⟨z.1, spD_pure z.2⟩, F.kp, b⟩
theorem Pro.mono {j : Nat} (P : Pro c j f ps dvs js fm) (h : j ≤ k) : Pro c k f ps dvs js fm := by
  obtain ⟨fd, F, r⟩ := P.ex
  exact ⟨fd, F.mono h, r⟩
/-- all arguments are written -/
theorem Pro.fn (P : Pro c k f ps dvs js fm) (hm : c.mg x = some (.ref f)) : FnD c k x ps.length [] fm := by
  obtain ⟨fd, F, kp, b, _⟩ := P.ex
  exact ⟨f, fd, ps, [], [], F, hm, kp, b, .nil, fun _ => .nil, rfl⟩
end
def oD (C : Nat) (fs : List (D × D)) : D := .dict ((.none, .int (Int.ofNat C)) :: fs)
def lookF (f : Str) : List (D × D) → Option D
  | [] => none
  | (.str g, d) :: r => if f = g then some d else lookF f r
  | _ => none
def putD (f : Str) (d : D) : List (D × D) → List (D × D)
  | [] => [(.str f, d)]
  | (.str g, x) :: r => if g = f then (.str g, d) :: r else (.str g, x) :: putD f d r
  | q :: r => q :: putD f d r
theorem RpF.look {K : Frag} {H : Hp} {f : Str} {d : D} : ∀ {gs : List (Str × V)} {ds : List (D × D)}, RpF K H gs ds → lookF f ds = some d → ∃ v, gs.lookup f = some v ∧ Rp K H v d
  | _, _, .nil, e => by cases e
  | _, _, .cons (f := g) (v := v) (vs := vs) (d := d') (ds := ds) h r, e => by
    by_cases q : f = g
    · subst q
      have e' : some d' = some d := by
        have : lookF f ((PyData.str f, d') :: ds) = some d' := if_pos rfl
        rw [this] at e
        exact e
      cases e'
      exact ⟨v, by simp [List.lookup], h⟩
    · have e' : lookF f ds = some d := by
        have : lookF f ((PyData.str g, d') :: ds) = lookF f ds := if_neg q
        rw [this] at e
        exact e
      obtain ⟨w, h1, h2⟩ := RpF.look r e'
      refine ⟨w, ?_, h2⟩
      have : (f == g) = false := by simpa using q
      simp [List.lookup, this, h1]
theorem RpF.lookN {K : Frag} {H : Hp} {f : Str} : ∀ {gs : List (Str × V)} {ds : List (D × D)}, RpF K H gs ds → lookF f ds = none → gs.lookup f = none
  | _, _, .nil, e => rfl
  | _, _, .cons (f := g) (v := v) (vs := vs) (d := d') (ds := ds) h r, e => by
    by_cases q : f = g
    · subst q
      have : lookF f ((PyData.str f, d') :: ds) = some d' := if_pos rfl
      rw [this] at e
      cases e
    · have e' : lookF f ds = none := by
        have : lookF f ((PyData.str g, d') :: ds) = lookF f ds := if_neg q
        rw [this] at e
        exact e
      have : (f == g) = false := by simpa using q
      simp [List.lookup, this, RpF.lookN r e']
theorem RpF.length {K : Frag} {H : Hp} : ∀ {gs : List (Str × V)} {ds : List (D × D)}, RpF K H gs ds → gs.length = ds.length
  | _, _, .nil => rfl
  | _, _, .cons h r => by rw [List.length_cons, List.length_cons, RpF.length r]
theorem RpF.put {K : Frag} {H : Hp} {f : Str} {v : V} {d : D} (h : Rp K H v d) : ∀ {gs : List (Str × V)} {ds : List (D × D)}, RpF K H gs ds → RpF K H (putF f v gs) (putD f d ds)
  | _, _, .nil => .cons h .nil
  | _, _, .cons (f := g) (v := u) (vs := vs) (d := e) (ds := ds) a r => by
    show RpF K H (if g = f then (g, v) :: vs else (g, u) :: putF f v vs) (if g = f then (.str g, d) :: ds else (.str g, e) :: putD f d ds)
    by_cases q : g = f
    · rw [if_pos q, if_pos q]
      exact .cons h r
    · rw [if_neg q, if_neg q]
      exact .cons a (RpF.put h r)
theorem RpK.noNone {K : Frag} {H : Hp} : ∀ {kvs : List (Key × V)} {es : List (D × D)}, RpK K H kvs es → ∀ x ds, es = (PyData.none, x) :: ds → False
  | _, _, .nil, x, ds, e => by cases e
  | _, _, .cons (k := k) h r, x, ds, e => by
    have e1 := (List.cons.inj e).1
    have e2 : kD k = .none := congrArg Prod.fst e1
    cases k <;> cases e2
theorem obj_inj {C C' : Nat} {ds ds' : List (D × D)} (h : oD C ds = oD C' ds') : C = C' ∧ ds = ds' := by
  have e1 := List.cons.inj (PyData.dict.inj h)
  have e2 : PyData.int (Int.ofNat C) = PyData.int (Int.ofNat C') := congrArg Prod.snd e1.1
  exact ⟨Int.ofNat.inj (PyData.int.inj e2), e1.2⟩
theorem Rp.oD {K : Frag} {H : Hp} {v : V} {C : Nat} {ds : List (D × D)} (h : Rp K H v (oD C ds)) : ∃ a dx gs, v = .ref a ∧ H a = some (.ins C dx gs) ∧ RpF K H gs ds := by
  generalize e : Hz.oD C ds = z at h
  cases h with
  | dct h r => exact (r.noNone _ _ (PyData.dict.inj e).symm).elim
  | @obj a C' dx fs ds' h r =>
    obtain ⟨rfl, rfl⟩ := obj_inj (show Hz.oD C ds = Hz.oD C' ds' from e)
    exact ⟨_, _, _, rfl, h, r⟩
  | _ => cases e
theorem Rs.oD {K : Frag} {B : Addr → Bool} {H : Hp} {v : V} {C : Nat} {ds : List (D × D)} (h : Rs K B H v (oD C ds)) : ∃ a dx gs, v = .ref a ∧ H a = some (.ins C dx gs) ∧ RpF K (hide B H) gs ds := by
  generalize e : Hz.oD C ds = z at h
  cases h with
  | vis h =>
    subst e
    obtain ⟨a, dx, gs, rfl, h1, h2⟩ := h.oD
    exact ⟨a, dx, gs, rfl, (hide_some h1).2, h2⟩
  | dct h r => exact (r.noNone _ _ (PyData.dict.inj e).symm).elim
  | @obj a C' dx fs ds' h r =>
    obtain ⟨rfl, rfl⟩ := obj_inj (show Hz.oD C ds = Hz.oD C' ds' from e)
    exact ⟨_, _, _, rfl, h, r⟩
  | lst _ _ => cases e
  | fdc _ _ => cases e
theorem Bs.obj {K : Frag} {B : Addr → Bool} {H : Hp} {α : AH} {l : Addr} {C : Nat} {fs : List (D × D)} (S : Bs K B H α) (h : α l = some (oD C fs)) : B l = true ∧ ∃ dx gs, H l = some (.ins C dx gs) ∧ RpF K (hide B H) gs fs := by
  obtain ⟨h1, h2⟩ := S.cel l _ h
  obtain ⟨a, dx, gs, e, k1, k2⟩ := h2.rs.oD
  cases e
  exact ⟨h1, dx, gs, k1, k2⟩
/-- o.f, o of the class at C -/
def fldD (C : Nat) (f : Str) : D → Option D
  | .dict ((.none, .int k) :: fs) => if k = Int.ofNat C then lookF f fs else none
  | _ => none
def fldK (C : Nat) (f : Str) (m : ME) : ME := fun ρ α Q E => m ρ α (fun d α1 => oq (vw α1 d) fun o => oq (fldD C f o) fun z => Q z α1) E
theorem fldD_of {C : Nat} {f : Str} {o z : D} (h : fldD C f o = some z) : ∃ fs, o = oD C fs ∧ lookF f fs = some z := by
  unfold fldD at h
  split at h
  · split at h
    · rename_i hk
      subst hk
      exact ⟨_, rfl, h⟩
    · cases h
  · cases h
theorem je_fld {C : Nat} {f : Str} {e : Expr} {pos : Pos} {m : ME} (h : JE c N sc e m) (cl : Cls c.K C) (na : NoAttr c.K C f) (hb : ∀ env, attributeBase e f env (eval e env) = eval e env := by intros; rfl) : JE c N sc (.Attribute e f pos) (fldK C f m) := by
  obtain ⟨t, h1, h2⟩ := h
  refine ⟨fun W => tFld c.K (t W) f, fun X W I T => ?_, fun W B σ H ρ α S Qm Em m Q q x => h2 W B σ H ρ α S _ Em m _ (fun v d B1 H1 α1 A r m => ?_) x⟩
  · have q := pe_fld (f := f) (pos := pos) (h1 X W I T) (hb _)
    rw [I.K] at q
    exact q
  · obtain ⟨o, ho, z, hz, m⟩ := m
    obtain ⟨fs, rfl, l⟩ := fldD_of hz
    obtain ⟨a, dx, gs, rfl, k1, k2⟩ := (vw_rs A.bs r ho).oD
    obtain ⟨w, l1, rw_⟩ := k2.look l
    exact ⟨a, C, dx, gs, w, rfl, k1, cl, na, l1, q w z B1 H1 α1 A rw_ m⟩
/-- a cell that holds an instance -/
def cellO (C : Nat) (α : AH) (o : D) (Q : Addr → List (D × D) → Prop) : Prop := ∃ a fs, o = dref a ∧ α a = some (oD C fs) ∧ Q a fs
def setaS (C : Nat) (f : Str) (me mo : ME) : MS := fun ρ α D => me ρ α (fun d α1 => mo ρ α1 (fun o α2 => cellO C α2 o fun a fs => fs.length < 900 ∧ D.nx ρ (aset α2 a (oD C (putD f d fs)))) (fun x α1 => D.ex x ρ α1)) (fun x α1 => D.ex x ρ α1)
theorem js_seta {C : Nat} {f : Str} {o e : Expr} {p2 pos : Pos} {me mo : ME} (cl : Cls c.K C) (na : NoAttr c.K C f) (h : JE c N sc e me) (ho : JE c N sc o mo)
    (hs : ∀ env, swapsWith e (some (.Attribute o f p2)) pos.line env = pure false := by intros; rfl) : JS c N sc (.Assign [.Attribute o f p2] e pos) (setaS C f me mo) := by
  obtain ⟨t, h1, h2⟩ := h
  obtain ⟨u, k1, k2⟩ := ho
  refine ⟨fun W => sFld c.K (u W) (t W) f, fun X W I T => ?_, fun W B σ H ρ α S D m Dn h' x => ?_⟩
  · have q := ps_fld (f := f) (pos := pos) (pos' := p2) (k1 X W I T) (h1 X W I T) (hs _)
    rw [I.K] at q
    exact q
  · refine h2 W B σ H ρ α S _ _ m _ (fun v d B1 H1 α1 A1 r1 m => ?_) (x.sx S)
    refine k2 W B1 σ H1 ρ α1 (S.step A1) _ _ m _ (fun w o B2 H2 α2 A2 r2 m => ?_) ((x.sx S).after S.bs A1)
    obtain ⟨a, fs, rfl, e, hl, m⟩ := m
    obtain ⟨b2, dx, gs, g1, g2⟩ := A2.bs.obj e
    have hw := r2.cell
    subst hw
    refine ⟨a, C, dx, gs, rfl, g1, cl, na, by rw [g2.length]; omega, ?_⟩
    have w := Af.write (o := .ins C dx (putF f v gs)) (c := oD C (putD f d fs)) A2.bs e (.obj (g2.put (r1.mono A2.sub)))
    have A := (A1.trans S.bs A2).trans S.bs w
    exact h'.nx _ _ _ _ _ A (S.step A) m
/-- o.f op= e -/
def augaS (C : Nat) (f : Str) (g : D → D → Option D) (mo me : ME) : MS := fun ρ α D => mo ρ α (fun o α1 => cellO C α1 o fun _ fs0 => oq (lookF f fs0) fun d => me ρ α1 (fun e α2 => oq (g d e) fun z => cellO C α2 o fun a fs => fs.length < 900 ∧ D.nx ρ (aset α2 a (oD C (putD f z fs)))) (fun x α1 => D.ex x ρ α1)) (fun x α1 => D.ex x ρ α1)
theorem js_auga {op : Operator} {C : Nat} {f : Str} {o e : Expr} {p2 pos : Pos} {me mo : ME} {g : D → D → Option D} (og : OpD c.K (In c N sc) (inplaceOp op) g) (cl : Cls c.K C) (na : NoAttr c.K C f) (ho : JE c N sc o mo) (h : JE c N sc e me) : JS c N sc (.AugAssign (.Attribute o f p2) op e pos) (augaS C f g mo me) := by
  obtain ⟨r, og1, og2⟩ := og.ex
  obtain ⟨t, h1, h2⟩ := h
  obtain ⟨u, k1, k2⟩ := ho
  refine ⟨fun W => sFldAug c.K (u W) (t W) r f, fun X W I T => ?_, fun W B σ H ρ α S D m Dn h' x => ?_⟩
  · have q := ps_fldaug (f := f) (pos := pos) (tpos := p2) (k1 X W I T) (h1 X W I T) (og1 X I)
    rw [I.K] at q
    exact q
  · refine k2 W B σ H ρ α S _ _ m _ (fun w o B1 H1 α1 A1 r1 m => ?_) (x.sx S)
    obtain ⟨a, fs0, rfl, e, d, hd, m⟩ := m
    obtain ⟨b1, dx, gs, g1, g2⟩ := A1.bs.obj e
    have hw := r1.cell
    subst hw
    obtain ⟨v, l1, l2⟩ := g2.look hd
    refine ⟨a, C, dx, gs, v, rfl, g1, cl, na, l1, ?_⟩
    refine h2 W B1 σ H1 ρ α1 (S.step A1) _ _ m _ (fun y e2 B2 H2 α2 A2 r2 m => ?_) ((x.sx S).after S.bs A1)
    obtain ⟨z, hz, a', fs, ea, e3, hl, m⟩ := m
    cases dref_inj ea
    refine og2 B2 H2 v y d e2 z A2.bs.bk (.vis (l2.mono A2.sub)) (.vis r2) hz _ fun v3 H3 s3 r3 => ?_
    have A3 := (A1.trans S.bs A2).trans S.bs (Af.of_sub A2.bs s3)
    obtain ⟨b3, dx', gs', g3, g4⟩ := A3.bs.obj e3
    refine ⟨dx', gs', g3, by rw [g4.length]; omega, ?_⟩
    have w := Af.write (o := .ins C dx' (putF f v3 gs')) (c := oD C (putD f z fs)) A3.bs e3 (.obj (g4.put r3))
    have A := A3.trans S.bs w
    exact h'.nx _ _ _ _ _ A (S.step A) m
abbrev MtD (c : C0) (k C : Nat) (m : Str) (np : Nat) (ds : List D) (fm : Fm) : Prop := ∃ (f : Addr) (fd : FuncData) (ps : List Str) (dV : List Value) (dvs : List V), FnOk c.P c.w c.K c.mg c.base (L2.CX c.P c.w) k f fd ps (fun vs H Q E => vs.length = ps.length ∧ spD c.K fm vs H Q E) ∧ Meth c.K C m f ∧ Binds c.K fd ps dV ∧ Vals dvs dV ∧ (∀ H, RpL c.K H dvs ds) ∧ ps.length = np + 1 + ds.length
theorem MtD.ex {c : C0} {k C : Nat} {m : Str} {np : Nat} {ds : List D} {fm : Fm} (h : MtD c k C m np ds fm) : ∃ (f : Addr) (fd : FuncData) (ps : List Str) (dV : List Value) (dvs : List V), FnOk c.P c.w c.K c.mg c.base (L2.CX c.P c.w) k f fd ps (fun vs H Q E => vs.length = ps.length ∧ spD c.K fm vs H Q E) ∧ Meth c.K C m f ∧ Binds c.K fd ps dV ∧ Vals dvs dV ∧ (∀ H, RpL c.K H dvs ds) ∧ ps.length = np + 1 + ds.length := h
theorem Pro.mt {f : Addr} {ps : List Str} {k np C : Nat} {m : Str} {dvs : List V} {js : List Nat} {fm : Fm} (P : Pro c k f ps dvs js fm) (M : Meth c.K C m f) (hp : ps.length = np + 1 := by rfl) : MtD c k C m np [] fm := by
  obtain ⟨fd, F, kp, b, _⟩ := P.ex
  exact ⟨f, fd, ps, [], [], F, M, b, .nil, fun _ => .nil, hp⟩
def noF (C : Nat) (m : Str) : D → Bool
  | .dict ((.none, .int k) :: fs) => decide (k = Int.ofNat C) && (lookF m fs).isNone
  | _ => false
theorem noF_of {C : Nat} {m : Str} {d : D} (h : noF C m d = true) : ∃ fs, d = oD C fs ∧ lookF m fs = none := by
  unfold noF at h
  split at h
  · rename_i k fs
    rw [Bool.and_eq_true] at h
    refine ⟨fs, ?_, Option.isNone_iff_eq_none.mp h.2⟩
    unfold oD
    rw [of_decide_eq_true h.1]
  · cases h
def methK (C : Nat) (m : Str) (np : Nat) (fm : Fm) (ds : List D) (mo : ME) (ma : ML) : ME := fun ρ α Q E => mo ρ α (fun o α1 => oq (vw α1 o) fun od => noF C m od = true ∧ ma ρ α1 (fun as α2 => as.length = np ∧ fm (o :: (as ++ ds)) α2 Q E) E) E
def tMethSD (C : Addr) (m : Str) (sp : Sp) (dvs : List V) (E : L2.St → XK) (ta : TE) (t : TA) : TE := fun σ H Q => ta σ H fun x H1 => ∃ a dx fs, x = .ref a ∧ H1 a = some (.ins C dx fs) ∧ fs.lookup m = none ∧
  t σ H1 fun vs H2 => sp (x :: (vs ++ dvs)) H2 Q (E σ)
theorem pe_methSD {X : Cx} {CX : CXT} {k : Nat} {f C : Addr} {fd : FuncData} {ps : List Str} {sp : Sp} {dvs : List V} {ds : List Value} {E : L2.St → XK} {m : Str} {pos apos : Pos} {e o : Expr} {es : List Expr} {ta : TE} {t : TA} {pl : Sem Bool} (he : PE X o ta) (c : Cls X.K C) (hm : Meth X.K C m f) (F : FnOk X.prog X.w X.K X.mg X.base CX k f fd ps sp) (hr : Room k X.A) (hb : Binds X.K fd ps ds) (hd : Vals dvs ds) (hx : ∀ σ, PassesAt CX X σ (E σ)) (ha : PA X (e :: es) t)
    (hst : starEach (e :: es) X.env = (false, eval e X.env) :: starEach es X.env := by rfl) (hpl : (backTo pos (starEach es X.env)).any (·.1) = false := by rfl)
    (ht : eval (.Call (.Attribute o m apos) (e :: es) [] pos) X.env = (do
      let ov ← eval o X.env
      standAt apos.atName
      let (f, first) ← holding [ov] (getMethod ov m pl)
      callWith pos f first (backTo pos (starEach (e :: es) X.env)) (backToKw pos (keywordEach [] X.env))) := by rfl) :
    PE X (.Call (.Attribute o m apos) (e :: es) [] pos) (tMethSD C m sp dvs E ta t) := by
  refine ⟨fun pins s σ H Q I h => ?_⟩
  refine PySem.W.methodCall_KW (pl := pl) (thn (he.run pins s σ H _ I h) fun u s1 ⟨x, H1, I1, rx, a, dx, fs, ex, ea, l, q⟩ => ?_) ht
  subst ex
  obtain rfl : u = Value.ref a := rx
  refine getmeth_ok I1 ea c hm l ?_
  refine PySem.W.callWith_K (first := [.ref a]) (h₀ := X.base) I.ok.mod.kin hm.kp (thn (ha.run pos pins s1 σ H1 _ I1 q) fun us s2 ⟨vs, H2, I2, r, q2⟩ => ⟨I2.kIn, ?_⟩) hst hpl
  exact run_fnSD (us := .ref a :: us) (vs := .ref a :: vs) F hr hb hd (hx σ) I2 (.cons rfl r) q2
theorem pe_methSD0 {X : Cx} {CX : CXT} {k : Nat} {f C : Addr} {fd : FuncData} {ps : List Str} {sp : Sp} {dvs : List V} {ds : List Value} {E : L2.St → XK} {m : Str} {pos apos : Pos} {o : Expr} {ta : TE} {pl : Sem Bool} (he : PE X o ta) (c : Cls X.K C) (hm : Meth X.K C m f) (F : FnOk X.prog X.w X.K X.mg X.base CX k f fd ps sp) (hr : Room k X.A) (hb : Binds X.K fd ps ds) (hd : Vals dvs ds) (hx : ∀ σ, PassesAt CX X σ (E σ))
    (ht : eval (.Call (.Attribute o m apos) [] [] pos) X.env = (do
      let ov ← eval o X.env
      standAt apos.atName
      let (f, first) ← holding [ov] (getMethod ov m pl)
      callWith pos f first (backTo pos (starEach [] X.env)) (backToKw pos (keywordEach [] X.env))) := by rfl) :
    PE X (.Call (.Attribute o m apos) [] [] pos) (tMethSD C m sp dvs E ta tNil) := by
  refine ⟨fun pins s σ H Q I h => ?_⟩
  refine PySem.W.methodCall_KW (pl := pl) (thn (he.run pins s σ H _ I h) fun u s1 ⟨x, H1, I1, rx, a, dx, fs, ex, ea, l, q⟩ => ?_) ht
  subst ex
  obtain rfl : u = Value.ref a := rx
  refine getmeth_ok I1 ea c hm l ?_
  exact PySem.W.callWith_K0 (first := [.ref a]) I1.kIn hm.kp (run_fnSD (us := [.ref a]) (vs := [.ref a]) F hr hb hd (hx σ) I1 (.cons rfl .nil) q)
theorem sd_meth {K : Frag} {W : WX} {C np n : Nat} {m : Str} {fm : Fm} {mo : ME} {ma : ML} {ta : TE} {t : TA} {dvs : List V} {ds : List D} (hd : ∀ H, RpL K H dvs ds) (hn : n = np + 1 + ds.length) (h : Sd K W ta mo) (hr : SA K W t ma) :
    Sd K W (tMethSD C m (fun vs H Q E => vs.length = n ∧ spD K fm vs H Q E) dvs (WE W) ta t) (methK C m np fm ds mo ma) := fun B σ H ρ α S Qm Em mm Q q x => by
  refine h B σ H ρ α S _ Em mm _ (fun v o B1 H1 α1 A1 r1 mm => ?_) x
  obtain ⟨od, ho, hno, mm⟩ := mm
  obtain ⟨fs, rfl, hl⟩ := noF_of hno
  obtain ⟨a, dx, gs, rfl, g1, g2⟩ := (vw_rs A1.bs r1 ho).oD
  refine ⟨a, dx, gs, rfl, g1, g2.lookN hl, ?_⟩
  refine hr B1 σ H1 ρ α1 (S.step A1) _ Em mm _ (fun vs as B2 H2 α2 A2 ra mm => ?_) (x.after S.bs A1)
  have A12 := A1.trans S.bs A2
  have el : (vs ++ dvs).length = as.length + ds.length := by rw [List.length_append, ra.length, (hd H).length]
  refine ⟨by rw [List.length_cons, el, mm.1, hn]; omega, B2, α2, o :: (as ++ ds), Qm, Em, A2.bs, .cons (r1.mono A2.sub) (ra.append (hd _)), mm.2, fun v d B3 H3 α3 A3 r3 m => q v d B3 H3 α3 (A12.trans S.bs A3) r3 m, fun y B3 α3 cls d H3 A3 r3 m => x y B3 α3 cls d H3 (A12.trans S.bs A3) r3 m⟩
theorem je_meth {C j np : Nat} {m : Str} {fm : Fm} {o e : Expr} {es : List Expr} {apos pos : Pos} {mo : ME} {ma : ML} {ds : List D} {pl : Env → Sem Bool} (cl : Cls c.K C) (M : MtD c j C m np ds fm) (hk : j ≤ c.k) (h : JE c N sc o mo) (ha : JL c N sc (e :: es) ma) (hc : c.cm = true := by rfl)
    (hst : ∀ env, starEach (e :: es) env = (false, eval e env) :: starEach es env := by intros; rfl) (hpl : ∀ env, (backTo pos (starEach es env)).any (·.1) = false := by intros; rfl)
    (ht : ∀ env, eval (.Call (.Attribute o m apos) (e :: es) [] pos) env = (do
      let ov ← eval o env
      standAt apos.atName
      let (f, first) ← holding [ov] (getMethod ov m (pl env))
      callWith pos f first (backTo pos (starEach (e :: es) env)) (backToKw pos (keywordEach [] env))) := by intros; rfl) : JE c N sc (.Call (.Attribute o m apos) (e :: es) [] pos) (methK C m np fm ds mo ma) := by
  obtain ⟨f, fd, ps, dV, dvs, F, h1, h2, h3, h4, h5⟩ := M.ex
  obtain ⟨t, p1, s1⟩ := h
  obtain ⟨u, q1, q2⟩ := ha
  refine ⟨fun W => tMethSD C m (fun vs H Q E => vs.length = ps.length ∧ spD c.K fm vs H Q E) dvs (WE W) (t W) (u W), fun X W I T => ?_, fun W => sd_meth h4 h5 (s1 W) (q2 W)⟩
  have F' : FnOk X.prog X.w X.K X.mg X.base (L2.CX X.prog X.w) j f fd ps (fun vs H Q E => vs.length = ps.length ∧ spD c.K fm vs H Q E) := by
    rw [I.P, I.w, I.K, I.mg, I.base]
    exact F
  exact pe_methSD (p1 X W I T) (by rw [I.K]; exact cl) (by rw [I.K]; exact h1) F' ((I.rm hc).mono hk) (by rw [I.K]; exact h2) h3 (fun σ => passAt T σ) (q1 X W I T) (hst _) (hpl _) (ht _)
theorem je_meth0 {C j : Nat} {m : Str} {fm : Fm} {o : Expr} {apos pos : Pos} {mo : ME} {ds : List D} {pl : Env → Sem Bool} (cl : Cls c.K C) (M : MtD c j C m 0 ds fm) (hk : j ≤ c.k) (h : JE c N sc o mo) (hc : c.cm = true := by rfl)
    (ht : ∀ env, eval (.Call (.Attribute o m apos) [] [] pos) env = (do
      let ov ← eval o env
      standAt apos.atName
      let (f, first) ← holding [ov] (getMethod ov m (pl env))
      callWith pos f first (backTo pos (starEach [] env)) (backToKw pos (keywordEach [] env))) := by intros; rfl) : JE c N sc (.Call (.Attribute o m apos) [] [] pos) (methK C m 0 fm ds mo nilK) := by
  obtain ⟨f, fd, ps, dV, dvs, F, h1, h2, h3, h4, h5⟩ := M.ex
  obtain ⟨t, p1, s1⟩ := h
  refine ⟨fun W => tMethSD C m (fun vs H Q E => vs.length = ps.length ∧ spD c.K fm vs H Q E) dvs (WE W) (t W) tNil, fun X W I T => ?_, fun W => sd_meth h4 h5 (s1 W) sa_nil⟩
  have F' : FnOk X.prog X.w X.K X.mg X.base (L2.CX X.prog X.w) j f fd ps (fun vs H Q E => vs.length = ps.length ∧ spD c.K fm vs H Q E) := by
    rw [I.P, I.w, I.K, I.mg, I.base]
    exact F
  exact pe_methSD0 (p1 X W I T) (by rw [I.K]; exact cl) (by rw [I.K]; exact h1) F' ((I.rm hc).mono hk) (by rw [I.K]; exact h2) h3 (fun σ => passAt T σ) (ht _)
abbrev MkD (c : C0) (k : Nat) (x : Str) (C np : Nat) (ds : List D) (fm : Fm) : Prop := ∃ (f : Addr) (fd : FuncData) (ps : List Str) (dV : List Value) (dvs : List V), Mk c.K C f ∧ FnOk c.P c.w c.K c.mg c.base (L2.CX c.P c.w) k f fd ps (fun vs H Q E => vs.length = ps.length ∧ spD c.K fm vs H Q E) ∧ c.mg x = some (.ref C) ∧ Binds c.K fd ps dV ∧ Vals dvs dV ∧ (∀ H, RpL c.K H dvs ds) ∧ ps.length = np + 1 + ds.length
theorem MkD.ex {c : C0} {k : Nat} {x : Str} {C np : Nat} {ds : List D} {fm : Fm} (h : MkD c k x C np ds fm) : ∃ (f : Addr) (fd : FuncData) (ps : List Str) (dV : List Value) (dvs : List V), Mk c.K C f ∧ FnOk c.P c.w c.K c.mg c.base (L2.CX c.P c.w) k f fd ps (fun vs H Q E => vs.length = ps.length ∧ spD c.K fm vs H Q E) ∧ c.mg x = some (.ref C) ∧ Binds c.K fd ps dV ∧ Vals dvs dV ∧ (∀ H, RpL c.K H dvs ds) ∧ ps.length = np + 1 + ds.length := h
theorem Pro.mk_ {f : Addr} {ps : List Str} {k np C : Nat} {x : Str} {dvs : List V} {js : List Nat} {fm : Fm} (P : Pro c k f ps dvs js fm) (M : Mk c.K C f) (hm : c.mg x = some (.ref C)) (hp : ps.length = np + 1 := by rfl) : MkD c k x C np [] fm := by
  obtain ⟨fd, F, kp, b, _⟩ := P.ex
  exact ⟨f, fd, ps, [], [], M, F, hm, b, .nil, fun _ => .nil, hp⟩
def mkK (C np : Nat) (fm : Fm) (ds : List D) (ma : ML) : ME := fun ρ α Q E => ma ρ α (fun as α1 => as.length = np ∧ ∀ p, α1 p = none → fm (dref p :: (as ++ ds)) (aset α1 p (oD C [])) (fun v α2 => v = .none ∧ Q (dref p) α2) E) E
def tMakeSD (C : Addr) (sp : Sp) (dvs : List V) (E : L2.St → XK) (t : TA) : TE := fun σ H Q => t σ H fun vs H1 => ∀ x dx, H1 x = none → H1 dx = none → dx ≠ x →
  sp (.ref x :: (vs ++ dvs)) (upd (upd H1 dx (.own x)) x (.ins C dx [])) (fun v H2 => v = .non ∧ Q (.ref x) H2) (E σ)
theorem run_makeSD {X : Cx} {CX : CXT} {k : Nat} {f C : Addr} {fd : FuncData} {ps : List Str} {sp : Sp} {dvs : List V} {ds : List Value} {E : L2.St → XK} {pins : List (Addr × Obj)} {σ : L2.St} {H : Hp} {s : Shared} {Q : VK} {us : List Value} {vs : List V} (M : Mk X.K C f) (F : FnOk X.prog X.w X.K X.mg X.base CX k f fd ps sp) (hr : Room (k + 1) X.A) (hb : Binds X.K fd ps ds) (hd : Vals dvs ds)
    (hx : PassesAt CX X σ (E σ)) (I : Inv X pins σ H s) (r : Vals vs us)
    (h : ∀ x dx, H x = none → H dx = none → dx ≠ x → sp (.ref x :: (vs ++ dvs)) (upd (upd H dx (.own x)) x (.ins C dx [])) (fun v H2 => v = .non ∧ Q (.ref x) H2) (E σ)) :
    wpAny (model X.prog X.w) X.A (call (.ref C) us) (EP X pins σ Q) X.xe s := by
  have hq := h (s.heap.objs.size + 1) s.heap.objs.size (I.hok.fresh (Nat.le_succ _)) (I.hok.fresh (Nat.le_refl _)) (Nat.ne_of_lt (Nat.lt_succ_self _))
  have I2 := Inv.made (C := C) I
  have r2 : Vals (V.ref (s.heap.objs.size + 1) :: (vs ++ dvs)) (Value.ref (s.heap.objs.size + 1) :: (us ++ ds)) := .cons rfl (r.append hd)
  have hl : (Value.ref (s.heap.objs.size + 1) :: us ++ ds).length = ps.length := by
    have e := r2.length
    rw [F.len _ _ _ _ hq] at e
    exact e.symm
  refine wpAny_call (make_map (f := f) I.kIn M.makes M.init (beq_iff_eq.mp M.fn) (codeAny_mono (F.run _ X.stack _ _ ⟨Value.ref (s.heap.objs.size + 1) :: us, []⟩ (Value.ref (s.heap.objs.size + 1) :: (us ++ ds)) _ _ (E σ) (hr.make C us [])
    (I2.env0.make C us []) (hb _ (Value.ref (s.heap.objs.size + 1) :: us) I2.kIn hl) r2 hq) fun r s' hq' => ?_))
  cases r with
  | error e => exact hx pins _ _ e s' I2 hq'
  | ok fl =>
    cases fl with
    | ret u =>
      obtain ⟨v, H', I3, rv, ev, q3⟩ := I2.after hq'
      subst ev
      exact ⟨rv, ⟨V.ref (s.heap.objs.size + 1), H', I3, rfl, q3⟩⟩
    | next => exact False.elim hq'
    | brk => exact False.elim hq'
    | cont => exact False.elim hq'
theorem pe_makeSD {X : Cx} {CX : CXT} {k : Nat} {f C : Addr} {fd : FuncData} {ps : List Str} {sp : Sp} {dvs : List V} {ds : List Value} {E : L2.St → XK} {x : Str} {p pos : Pos} {e : Expr} {es : List Expr} {t : TA} (M : Mk X.K C f) (F : FnOk X.prog X.w X.K X.mg X.base CX k f fd ps sp) (hr : Room (k + 1) X.A) (hg : Gl X x) (hm : X.mg x = some (.ref C)) (hb : Binds X.K fd ps ds) (hd : Vals dvs ds) (hx : ∀ σ, PassesAt CX X σ (E σ))
    (ha : PA X (e :: es) t) (hdb : (x == ("__debug__" : Str)) = false := by decide) (he : starEach (e :: es) X.env = (false, eval e X.env) :: starEach es X.env := by rfl) (hpl : (backTo pos (starEach es X.env)).any (·.1) = false := by rfl) :
    PE X (.Call (.Name x p) (e :: es) [] pos) (tMakeSD C sp dvs E t) := by
  refine ⟨fun pins s σ H Q I h => ?_⟩
  refine wpAny_Call_Name_kw (ld_glob I hg hm ?_ hdb)
  refine PySem.W.callWith_K (h₀ := X.base) I.ok.mod.kin M.kp (thn (ha.run pos pins s σ H _ I h) fun us s1 ⟨vs, H1, I1, r, q⟩ => ⟨I1.kIn, ?_⟩) he hpl
  exact run_makeSD M F hr hb hd (hx σ) I1 r q
theorem sd_mk {K : Frag} {W : WX} {C np n : Nat} {fm : Fm} {ma : ML} {t : TA} {dvs : List V} {ds : List D} (hd : ∀ H, RpL K H dvs ds) (hn : n = np + 1 + ds.length) (hr : SA K W t ma) :
    Sd K W (tMakeSD C (fun vs H Q E => vs.length = n ∧ spD K fm vs H Q E) dvs (WE W) t) (mkK C np fm ds ma) := fun B σ H ρ α S Qm Em mm Q q x => by
  refine hr B σ H ρ α S _ Em mm _ (fun vs as B1 H1 α1 A1 ra mm => ?_) x
  intro l dx nl ndx ne
  have sb : Sub H1 (upd (upd H1 dx (.own l)) l (.ins C dx [])) := fun b o e => by
    rw [upd_ne (ne_of_none e nl), upd_ne (ne_of_none e ndx)]
    exact e
  have A2 := Af.cell (c := oD C []) A1.bs sb nl (by rw [upd_same]; exact .obj .nil)
  have A12 := A1.trans S.bs A2
  have el : (vs ++ dvs).length = as.length + ds.length := by rw [List.length_append, ra.length, (hd H).length]
  refine ⟨by rw [List.length_cons, el, mm.1, hn]; omega, _, _, dref l :: (as ++ ds), _, Em, A2.bs, .cons .ref ((ra.mono A2.sub).append (hd _)), mm.2 l (A1.bs.new nl), fun v d B3 H3 α3 A3 r3 m => ?_, fun y B3 α3 cls d H3 A3 r3 m => x y B3 α3 cls d H3 (A12.trans S.bs A3) r3 m⟩
  obtain ⟨rfl, m⟩ := m
  exact ⟨r3.nonei, q _ _ B3 H3 α3 (A12.trans S.bs A3) .ref m⟩
theorem je_mk {C j np : Nat} {x : Str} {fm : Fm} {e : Expr} {es : List Expr} {p pos : Pos} {ma : ML} {ds : List D} (M : MkD c j x C np ds fm) (hk : j + 1 ≤ c.k) (hg : sc.names.lookup x = some .globalImplicit) (ha : JL c N sc (e :: es) ma) (hc : c.cm = true := by rfl)
    (hdb : (x == ("__debug__" : Str)) = false := by decide) (he : ∀ env, starEach (e :: es) env = (false, eval e env) :: starEach es env := by intros; rfl) (hpl : ∀ env, (backTo pos (starEach es env)).any (·.1) = false := by intros; rfl) :
    JE c N sc (.Call (.Name x p) (e :: es) [] pos) (mkK C np fm ds ma) := by
  obtain ⟨f, fd, ps, dV, dvs, M, F, h1, h2, h3, h4, h5⟩ := M.ex
  obtain ⟨u, q1, q2⟩ := ha
  refine ⟨fun W => tMakeSD C (fun vs H Q E => vs.length = ps.length ∧ spD c.K fm vs H Q E) dvs (WE W) (u W), fun X W I T => ?_, fun W => sd_mk h4 h5 (q2 W)⟩
  have F' : FnOk X.prog X.w X.K X.mg X.base (L2.CX X.prog X.w) j f fd ps (fun vs H Q E => vs.length = ps.length ∧ spD c.K fm vs H Q E) := by
    rw [I.P, I.w, I.K, I.mg, I.base]
    exact F
  exact pe_makeSD (by rw [I.K]; exact M) F' ((I.rm hc).mono hk) (I.gl hg) (by rw [I.mg]; exact h1) (by rw [I.K]; exact h2) h3 (fun σ => passAt T σ) (q1 X W I T) hdb (he _) (hpl _)
def scriptD (ns : List Int) : D := .list (ns.map PyData.int)
/-- the law's end: its mirror gives True at every script -/
theorem law_fn {f : Addr} {fd : FuncData} {k : Nat} {m : Fm} {x : Str} (F : FnOk c.P c.w c.K c.mg c.base (L2.CX c.P c.w) k f fd [x] (fun vs H Q E => vs.length = [x].length ∧ spD c.K m vs H Q E)) (hm : ∀ ns : List Int, ns.length ≤ 63 → m [scriptD ns] (fun _ => none) (fun d _ => d = .bool true) (fun _ _ => False)) :
    FnOk c.P c.w c.K c.mg c.base (L2.CX c.P c.w) k f fd [x] (fun vs H Q _ => ∃ (a : Addr) (ns : List Int), vs = [.ref a] ∧ SqL c.K H a (ns.map V.int) ∧ ns.length ≤ 63 ∧ ∀ H', Q (.bl true) H') :=
  F.imp fun vs H Q E h => by
    obtain ⟨a, ns, rfl, hS, hl, q⟩ := h
    have hh : hide (fun _ => false) H = H := by
      funext b
      rfl
    refine ⟨rfl, fun _ => false, fun _ => none, [scriptD ns], _, _, ⟨fun a c h => (by cases h), fun a h => (by cases h)⟩, ?_, hm ns hl, fun v d B' H' α' A r m => ?_, fun x B' α' cls d H' A r m => m.elim⟩
    · rw [hh]
      exact .cons (.lst hS (RpL.ints ns)) .nil
    · subst m
      rw [r.booli]
      exact q H'
theorem walk_law {l : PySem.W.OpenLaw} {q : Program} {loose : List Str} {XP : (Str → Option Value) → Heap → Prop} {YP : World → Heap → Prop} {d : DefRec} {K : Params → PySem.W.Frag} {k : Nat} {x : Str} (hn : l.most = some 63) (hdf : d.params.defaults = [])
    (hr : Room k callerA) (hY : ∀ (w : World) (h : Heap), YP w h → (K w.params).In h)
    (F : ∀ (w : World) (mg : Str → Option Value) (fa : Addr) (h : Heap), (K w.params).In h → h.Ns mainGlobals mg → mg d.name = some (.ref fa) →
      ∃ fd : FuncData, (∀ (s : Shared) (u : Value), BindsTo s fd ⟨[u], []⟩ [(x, u)]) ∧ ∀ base : Heap, (K w.params).In base → base.Ns mainGlobals mg → FnOk l.prog w (K w.params) mg base (L2.CX l.prog w) k fa fd [x]
        (fun vs H Q _ => ∃ (a : Addr) (ns : List Int), vs = [.ref a] ∧ SqL (K w.params) H a (ns.map V.int) ∧ ns.length ≤ 63 ∧ ∀ H', Q (.bl true) H')) :
    PySem.W.WalkO q loose XP YP l.row.toRowW d [] (fun f vs => PySem.call f vs) :=
  L2.walk_of (n := 63) (k := k) (x := x) (CX := fun w => L2.CX l.prog w) (sp := fun w vs H Q _ => ∃ (a : Addr) (ns : List Int), vs = [.ref a] ∧ SqL (K w.params) H a (ns.map V.int) ∧ ns.length ≤ 63 ∧ ∀ H', Q (.bl true) H') hn (by decide) hdf hr hY F (fun _ _ a ns hl _ hS => ⟨a, ns, rfl, hS, hl, fun _ => rfl⟩) fun w H s e s' h => by
    obtain ⟨_, _, _, _, _, _, _, _, _, _, _, _, z⟩ := h
    exact z
end Hz
namespace Hz
open PySem L2
section
open PySem.W PySem.Calls PyProof.Rows
variable {prog : Program} {w : World} {A : Around} {E : Value → Shared → Prop} {h : Heap} {g : Array GenState} {d : Drawn} {t : Nat} {os : OsState}
variable {nm q : Str} {C N : Addr} {bs bm : List Value} {hdct : Bool} {sn : List Str} {sub : List Value} {ab : Bool} {col : Option Bool} {dd : Option Addr} {k0 k1 k2 k3 k5 : Option Value}
theorem call_mwVE {u e t0 : Addr} {rest : List Value} {Q : Value → Shared → Prop}
    (hC : h.get? C = some (excClassObj nm q C N bs bm hdct sn sub ab col dd k0 k1 k2 k3 k5 "ValueError.__new__")) (he : h.get? e = some (HandSPX.excO C t0)) (hu : h.get? u = some (kxs_mw "ValueError.__init__" e)) (hrest : rest.length ≤ sizeLine)
    (hq : ∀ h' t1, (∀ b o, b ≠ e → h.get? b = some o → h'.get? b = some o) → h'.get? e = some (HandSPX.excO C t1) → Q .none ⟨h', g, d, t, os⟩) :
    wpAny (model prog w) A (call (.ref u) rest) Q E ⟨h, g, d, t, os⟩ := by
  refine wpAny_call (codeAny_of_tree ?_)
  show wpAny _ A.in1 (callAny (.ref u) ⟨rest, []⟩) _ _ _
  simp only [callAny]
  refine wpAny_bind (wpAny_load hu ?_)
  simp only [kxs_mw, show (Value.type "method-wrapper" == Value.type "method" || Value.type "method-wrapper" == Value.type "builtin_function_or_method" || Value.type "method-wrapper" == Value.type "method-wrapper") = true by decide, if_true]
  refine W.KFB.if_so (by decide) ?_
  refine wpAny_bind (ESX.check_bound F.excBase_ValueError hC he rfl ?_)
  refine wpAny_bind (wpAny_pure (wpAny_pure ?_))
  refine ⟨Code.quiet_builtin _ (by decide +kernel), codeAny_builtin F.excBase_ValueError.initEntry ?_⟩
  rw [Around.under_plainId F.excBase_ValueError.init.plain _]
  wp_walk
  refine hq _ h.objs.size (fun b o hb ho => ?_) ?_
  · rw [Heap.get?_update_other _ _ (Ne.symm hb)]
    exact Heap.get?_push_of_some _ ho
  · rw [Heap.get?_update_self _ (Heap.get?_push_of_some _ he) rfl]
    rfl
end
/-- what the written part says of an exception class whose __init__ is cF's, at fI -/
structure ExC (K : Frag) (cF fI C : Addr) : Prop where
  o : OexC K C
  cl : ∃ cd, PySem.W.clsIn K C = some cd
  sb : PySem.W.mroIn K C (.ref cF) = some true
  su : PySem.W.ks_superIn K C cF "__init__" = some (some (.builtin "ValueError.__init__"))
  ve : PySem.W.subIn K (.ref C) (.type "ValueError") = some true
  np : PySem.W.findIn K (.ref C) "place" = some none
  ini : PySem.W.findIn K (.ref C) "__init__" = some (some (.ref fI))
  hd : PySem.W.hasDictIn K C = true
  ga : PySem.W.findIn K (.ref C) "__getattribute__" = some (some (.builtin "BaseException.__getattribute__"))
  gg : PySem.W.findIn K (.ref C) "__getattr__" = some none
  ca : PySem.W.findIn K (.ref C) "__class__" = some (some (.builtin "object.__class__"))
  cn : PySem.W.specialIn K (.builtin "object.__class__") "__get__" = some (some (.builtin "getset_descriptor.__get__"))
  ct : PySem.W.takesIn K (.builtin "object.__class__") = some true
  cm : PySem.W.mroIn K C (.type "object") = some true
/-- the base class's __init__: its statement st: super().__init__(place); self.place = place -/
structure ExI (P : Program) (K : Frag) (cF fI : Addr) (qual : Str) (st : Stmt) : Prop where
  ex : ∃ (oc doc pm ct : Value) (od an : Option Addr) (kV : Value) (osl : Array (Option Value)) (cda cc : Addr) (ccl cl : Value) (cdd cld : Option Addr) (vs : Array Value) (ccs csl : Array (Option Value)) (file : Str) (tf : Tok) (cdD : ClassData),
    K.lookup fI = some ⟨oc, od, .func (PySem.W.ksFn "__init__" qual (defArgs st) (defBody st) (defScope st) .none kV doc pm an (.ref cda) ct cc), osl⟩ ∧ PySem.W.codeIn K (.ref cda) qual = true ∧
    K.lookup cda = some ⟨ccl, cdd, .fields vs, ccs⟩ ∧ vs[2]? = some (.str file tf) ∧ ((P.main.file : Str) == file) = true ∧ K.lookup cc = some ⟨cl, cld, .cell (some (.ref cF)), csl⟩ ∧ PySem.W.clsIn K cF = some cdD
  kp : PySem.W.keepIn K (.ref fI) = true
  ty : PySem.W.typeIn K (.ref fI) = some (.type "function")
  tp : PySem.W.nsIn K cStatics "thirdparty.any" = some none
  top : (P.main.scope.names.lookup ("super" : Str)).isSome = false
/-- what it promises -/
def spX (K : Frag) (cF fI : Addr) : Sp := fun vs H Q _ => ∃ (a C : Addr) (y : V), vs = [.ref a, y] ∧ ExC K cF fI C ∧ H a = some (exo a C none) ∧ ∀ dx, H dx = none → dx ≠ a → Q .non (upd (upd H dx (exd dx [("place", y)])) a (exo a C (some dx)))
/-- the written form of that def -/
structure InitForm (st : Stmt) : Prop where
  ex : ∃ (p0 p1 p2 p3 p4 p5 q0 q1 q2 q3 : Pos) (pl : Env → Sem Bool), defBody st = [.Expr (.Call (.Attribute (.Call (.Name "super" p0) [] [] p1) "__init__" p2) [.Name "place" p3] [] p4) p5, .Assign [.Attribute (.Name "self" q0) "place" q1] (.Name "place" q2) q3] ∧
    (∀ env, eval (.Call (.Attribute (.Call (.Name "super" p0) [] [] p1) "__init__" p2) [.Name "place" p3] [] p4) env = (do
      let ov ← attributeBase (.Call (.Name "super" p0) [] [] p1) "__init__" env (eval (.Call (.Name "super" p0) [] [] p1) env)
      standAt p2.atName
      let (f, first) ← holding [ov] (getMethod ov "__init__" (pl env))
      callWith p4 f first (backTo p4 (starEach [.Name "place" p3] env)) [])) ∧
    (∀ env, swapsWith (.Call (.Attribute (.Call (.Name "super" p0) [] [] p1) "__init__" p2) [.Name "place" p3] [] p4) none p5.line env = pure false) ∧
    ∀ env, swapsWith (.Name "place" q2) (some (.Attribute (.Name "self" q0) "place" q1)) q3.line env = pure false
  sc : (defScope st).names.lookup ("super" : Str) = some .globalImplicit ∧ (defScope st).names.lookup ("__class__" : Str) = some .free ∧ (defScope st).names.lookup ("self" : Str) = some .local ∧ (defScope st).names.lookup ("place" : Str) = some .local
  kind : (defScope st).kind = .function
  co : (defScope st).isCoroutine = false
  gen : (defScope st).isGenerator = false
  cells : ∀ x ∈ (defScope st).names, x.2 ≠ .cell
  free : ∀ p ∈ (defScope st).names, p.2 = .free → p.1 = ("__class__" : Str)
  hp : ((defArgs st).posonlyargs ++ (defArgs st).args).head?.map (·.arg) = some "self"
  bd : ∀ (kV doc pm : Value) (an : Option Addr) (cda cc : Addr) (ct : Value) (qual : Str) (us : List Value), us.length = 2 → bindArgs (PySem.W.ksFn "__init__" qual (defArgs st) (defBody st) (defScope st) .none kV doc pm an (.ref cda) ct cc) ⟨us, []⟩ = pure ((["self", "place"] : List Str).zip us)
section
open PySem.W PySem.Calls PyProof.Rows
variable {P : Program} {w : World} {K : Frag} {mg : Str → Option Value} {base : Heap}
/-- the context of that def's body -/
def cxI (P : Program) (w : World) (K : Frag) (mg : Str → Option Value) (base : Heap) (env : Env) (A : Around) (outer : List Env) (s : Shared) (H : Hp) (xe : Value → Shared → Prop) : Cx where
  prog := P
  w := w
  K := K
  mg := mg
  base := base
  A := A.deeper env
  N := ["self", "place"]
  s_0 := s
  H_0 := H
  env := env
  outer := outer
  stack := env :: outer
  ex := []
  calm := true
  fn := fun _ => false
  pn := []
  xe := xe
set_option maxRecDepth 200000 in
theorem exi_ok {cF fI : Addr} {qual : Str} {st : Stmt} (T : ExI P K cF fI qual st) (S : InitForm st) (hsup : mg "super" = none) :
    ∃ fd, FnOk P w K mg base (L2.CX P w) 1 fI fd ["self", "place"] (spX K cF fI) ∧ Binds K fd ["self", "place"] [] := by
  obtain ⟨oc, doc, pm, ct, od, an, kV, osl, cda, cc, ccl, cl, cdd, cld, vs, ccs, csl, file, tf, cdD, lk, hcd, hcode, hvs, hfile, hcell, hD⟩ := T.ex
  refine ⟨_, ⟨fun vs H Q E h => ?_, fun A outer s H args us vs' Q E hr e0 hb r hsp => ?_⟩, .all fun us hl => S.bd kV doc pm an cda cc ct qual us hl⟩
  · obtain ⟨a, C, y, rfl, _⟩ := h
    rfl
  obtain ⟨a, C, y, rfl, X, ea, hq⟩ := hsp
  obtain ⟨u1, u2, rfl, ra, ry⟩ : ∃ u1 u2, us = [u1, u2] ∧ RelV (.ref a) u1 ∧ RelV y u2 := by
    cases r with
    | cons r1 r2 =>
      cases r2 with
      | cons r2 r3 =>
        cases r3
        exact ⟨_, _, rfl, r1, r2⟩
  obtain rfl : u1 = Value.ref a := ra
  have KX : K.In s.heap := e0.mod.kin.keeps fun b o e => (e0.bs b o e).1
  have lim : s.heap.NoLimit := e0.mod.nolimit.keeps fun b o e => (e0.bs b o e).1
  obtain ⟨hs, hc, hse, hpl⟩ := S.sc
  refine ks_codeAny_call_defAt (fd := ksFn "__init__" qual (defArgs st) (defBody st) (defScope st) .none kV doc pm an (.ref cda) ct cc) (body := defBody st) hr.depth (KX _ _ lk) rfl lim (codeRec_of KX hcd) rfl hb S.cells (fun x hx => ?_) (fun h₁ hns hk => ?_) S.co S.gen S.kind
  · have hx' : x ∈ [(("self" : Str), Value.ref a), (("place" : Str), u2)] := hx
    rcases List.mem_cons.mp hx' with rfl | hx'
    · exact hse
    · rcases List.mem_cons.mp hx' with rfl | hx'
      · exact hpl
      · cases hx'
  let env : Env := callEnv (ksFn "__init__" qual (defArgs st) (defBody st) (defScope st) .none kV doc pm an (.ref cda) ct cc) s.heap.objs.size fI
  let xe : Value → Shared → Prop := fun e s' => wpAny (model P w) (A.deeper env) (leaving env e) (fun _ s'' => CR (L2.CX P w) outer P w H s Q E (.error e) s'') (fun e' s'' => CR (L2.CX P w) outer P w H s Q E (.error e') s'') s'
  have hcc : base.get? cc = some ⟨cl, cld, .cell (some (.ref cF)), csl⟩ := e0.mod.kin _ _ hcell
  have I0 : L2.Inv (cxI P w K mg base env A outer s H xe) [] [some (.ref a), some y] H { s with heap := h₁, toks := s.toks + (([("self" : Str), "place"] : List Str).zip [Value.ref a, u2]).length } := by
    have one : ∀ x c, env.cells.lookup x = some c → x = "__class__" ∧ c = cc := fun x c e => by
      have e : List.lookup x [(("__class__" : Str), cc)] = some c := e
      by_cases z : x = "__class__"
      · subst z
        simp [List.lookup] at e
        exact ⟨rfl, e.symm⟩
      · have : (x == ("__class__" : Str)) = false := by simpa using z
        simp [List.lookup, this] at e
    have noA : ∀ b : Addr, b ∉ (cxI P w K mg base env A outer s H xe).ex := fun b z => absurd (show b ∈ ([] : List Addr) from z) (by simp)
    refine ⟨⟨e0.mod, S.kind, rfl, rfl, Nat.le_refl _, fun y z c h1 h2 => ?_, fun y hy => ?_, fun y c hf h => (by cases hf), fun _ => hr.hd, Around.frames_deeper e0.frames, .inr ⟨rfl, rfl⟩, fun b z => absurd z (noA b), e0.bs, e0.bsz, fun b _ _ => noA b, fun b z => absurd z (noA b), e0.funs, e0.frf⟩,
      rfl, e0.bare, Un.kept hk, ⟨_, hns, fun i x v h1 h2 h3 => ?_⟩, fun y c h => ?_, e0.hok.fresh (Nat.le_refl _), fun y c h => ?_, fun p hp => absurd (show p ∈ ([] : List (Addr × Obj)) from hp) (by simp), e0.hok.kept hk, rfl⟩
    · rw [(one y c h1).1, (one z c h2).1]
    · rcases hy with hy | hy
      · exact absurd rfl (S.cells _ (PySem.mem_of_lookup (show (defScope st).names.lookup y = some .cell from hy)))
      · have ey : y = "__class__" := S.free _ (PySem.mem_of_lookup (show (defScope st).names.lookup y = some .free from hy)) rfl
        rw [ey]
        exact ⟨cc, by show List.lookup ("__class__" : Str) [(("__class__" : Str), cc)] = some cc; simp [List.lookup]⟩
    · rcases i with _ | _ | i
      · cases h1; cases h2
        exact ⟨.ref a, rfl, .inl ⟨hse, by show List.lookup ("self" : Str) [(("place" : Str), u2), (("self" : Str), Value.ref a)] = some (.ref a); rfl⟩⟩
      · cases h1; cases h2
        exact ⟨u2, ry, .inl ⟨hpl, by show List.lookup ("place" : Str) [(("place" : Str), u2), (("self" : Str), Value.ref a)] = some u2; rfl⟩⟩
      · simp [cxI] at h1
    · obtain ⟨rfl, rfl⟩ := one y c h
      exact ⟨_, _, hk _ _ (KX _ _ hcell), rfl⟩
    · obtain ⟨rfl, rfl⟩ := one y c h
      exact (e0.bs _ _ hcc).2
  obtain ⟨p0, p1, p2, p3, p4, p5, q0, q1, q2, q3, pl, hbody, hev, hsw, hsw2⟩ := S.ex
  show _root_.PySem.wpAt (model P w) (A.deeper env) (.func (defBody st) env) (execs (defBody st) env) _ _ _
  have hx : execs (defBody st) env = execs [.Expr (.Call (.Attribute (.Call (.Name "super" p0) [] [] p1) "__init__" p2) [.Name "place" p3] [] p4) p5, .Assign [.Attribute (.Name "self" q0) "place" q1] (.Name "place" q2) q3] env := by rw [hbody]
  rw [hx]
  obtain ⟨ar, har, har2⟩ : ∃ ar, ((defArgs st).posonlyargs ++ (defArgs st).args).head? = some ar ∧ ar.arg = "self" := by
    have := S.hp
    cases z : ((defArgs st).posonlyargs ++ (defArgs st).args).head? with
    | none => rw [z] at this; cases this
    | some ar => rw [z] at this; exact ⟨ar, rfl, Option.some.inj this⟩
  obtain ⟨mb, hb1, hb2⟩ := I0.mod.blt
  have K0 := I0.kIn
  obtain ⟨oD, hD1, hD2⟩ : ∃ oD, h₁.get? cF = some oD ∧ oD.data = .cls cdD := by
    unfold clsIn at hD
    split at hD
    · rename_i c d cd' sl ho
      cases hD
      exact ⟨_, K0 _ _ ho, rfl⟩
    · cases hD
  obtain ⟨t1, hea⟩ := exo_at I0.hok ea
  obtain ⟨cd, hcd'⟩ := X.cl
  have hsu := X.su
  unfold ks_superIn at hsu
  rw [hcd', Option.bind_some] at hsu
  obtain ⟨nm, q, N, bs, bm, sn, sub, ab, col, dd, k0, k1, k2, k3, k5, hC, hbm⟩ := X.o.cls
  have haC : a ≠ C := fun z => by
    have := (e0.bs _ _ (e0.mod.kin _ _ hC)).2
    rw [← z, ea] at this
    cases this
  have hint : interactive env = false := by
    show ((defScope st).kind == .module && _) = false
    rw [S.kind]
    rfl
  refine ks_wpAt_execs_cons (ks_wpAt_Expr_any (ks_wpAt_MethodCall (pl := pl env) ?_ (hev env)) hint (hsw env))
  refine ks_wpAt_super_base (env := env) hs hc (by decide) rfl (hk _ _ (KX _ _ lk)) rfl har rfl (hk _ _ (KX _ _ hcode)) rfl hvs hfile T.top ?_
  refine ks_loadName_global S.kind hs (loadGlobal_builtin (env := env) (I0.mod.glob.keeps I0.bk) hsup (hb1.keeps I0.bk) ((hb2 _ (by decide)).trans PyProof.Rows.Boot.«super») ⟨rfl, ?_⟩)
  refine wpAny_loadName_free S.kind hc (c := cc) (by show List.lookup ("__class__" : Str) [(("__class__" : Str), cc)] = some cc; simp [List.lookup]) ⟨_, hk _ _ (KX _ _ hcell), rfl⟩ ?_
  rw [har2]
  refine wpAny_loadName_local S.kind hse hns (by show List.lookup ("self" : Str) [(("place" : Str), u2), (("self" : Str), Value.ref a)] = some (.ref a); rfl) ?_
  refine ks_wpAny_isType_cls hD1 hD2 ⟨rfl, ?_⟩
  refine ks_wpAny_call_super hD1 hD2 hea rfl (fun c z => by cases z) (looks_mroIn K0 X.sb) (fun h2 e2 kk2 => ?_)
  have I1 := I0.kept (h' := h2) (t' := s.toks + (([("self" : Str), "place"] : List Str).zip [Value.ref a, u2]).length) kk2
  have K1 := I1.kIn
  have LT : PySem.W.Looks (model P w) h2 (typeOf (.ref a)) (.ref C) := fun A Q E s k q => wpAny_typeOf_ref (k _ _ (kk2 _ _ hea)) q
  refine kxs_getMethod kxs_ValueError e2 (looks_opaque K1 T.tp) (l₀ := cd.mro) (fun A Q E s k q => wpAny_bind ((looks_clsIn K1 hcd') A _ E s k (wpAny_pure q))) rfl K1 hsu (LT.andThen (looks_subIn K1 X.ve)) haC (by decide) ?_
  have I2 := I1.kept (h' := h2.push (kxs_mw "ValueError.__init__" a)) (t' := s.toks + (([("self" : Str), "place"] : List Str).zip [Value.ref a, u2]).length + 1) (fun b o e => Heap.get?_push_of_some _ e)
  have hmw : (h2.push (kxs_mw "ValueError.__init__" a)).get? h2.objs.size = some (kxs_mw "ValueError.__init__" a) := Heap.get?_push_size _ rfl
  show wpAny (model P w) (A.deeper env) (callWith p4 (.ref h2.objs.size) [] (backTo p4 (starEach [.Name "place" p3] env)) []) _ _ _
  refine kxs_callWith (i := "ValueError.__init__") (x := a) rfl (evalArgs_plain ?_)
  show wpAny _ _ (spliced ((false, eval (.Name "place" p3) env) :: backTo p4 (starEach [] env))) _ _ _
  have hns2 := hns.keeps (h' := h2.push (kxs_mw "ValueError.__init__" a)) fun b o e => Heap.get?_push_of_some _ (kk2 b o e)
  refine Calls.spliced_cons (wpAny_Name (wpAny_loadName_local S.kind hpl hns2 (by show List.lookup ("place" : Str) [(("place" : Str), u2), (("self" : Str), Value.ref a)] = some u2; rfl) (Calls.spliced_nil ⟨hmw, ?_⟩)) (by decide))
  refine call_mwVE (I2.kIn _ _ hC) (Heap.get?_push_of_some _ (kk2 _ _ hea)) hmw (by show 1 ≤ sizeLine; decide) (fun h3 t3 kk3 he3 => ?_)
  have I3 := I2.write (t' := s.toks + (([("self" : Str), "place"] : List Str).zip [Value.ref a, u2]).length + 1) (x := a) (e := a) (o := exo a C none) (by rw [ea]; exact True.intro) (.inl rfl) kk3 ⟨_, he3⟩ (exo_ok he3)
  have eu : upd H a (exo a C none) = H := by
    funext b
    by_cases hb : b = a
    · rw [hb, upd_same, ea]
    · rw [upd_ne hb]
  rw [eu] at I3
  have ps := pss_one (ps_ost (pe_var (X := cxI P w K mg base env A outer s H xe) (i := 0) (pos := q0) rfl (.inl hse)) (pe_var (i := 1) (pos := q2) rfl (.inl hpl)) (hsw2 env) (f := "place") (p' := q1) (pos := q3))
  refine wpAt_of_wpAny (wpAny_mono (ps.run [] _ [some (.ref a), some y] H { nx := fun _ H' => Q .non H', rt := fun _ _ => False, bk := fun _ _ => False, ct := fun _ _ => False } I3 ⟨y, rfl, .ref a, rfl, a, C, rfl, X.o, X.np, .inl ⟨ea, hq⟩⟩) (fun f s' hs => ?_) fun _ _ z => z)
  cases f with
  | next =>
    obtain ⟨σ', H', J, q⟩ := hs
    exact ⟨.non, H', J.os, J.bare, J.base, J.hok, rfl, q⟩
  | ret u =>
    obtain ⟨_, _, _, _, _, q⟩ := hs
    exact q.elim
  | brk =>
    obtain ⟨_, _, _, q⟩ := hs
    exact q.elim
  | cont =>
    obtain ⟨_, _, _, q⟩ := hs
    exact q.elim
end
end Hz
namespace Hz
open PySem L2
/-- an exception class of the text, by its facts -/
abbrev ExD (c : C0) (cF fI : Addr) (x : Str) (C : Nat) : Prop := (∃ fd, FnOk c.P c.w c.K c.mg c.base (L2.CX c.P c.w) 1 fI fd ["self", "place"] (spX c.K cF fI) ∧ Binds c.K fd ["self", "place"] []) ∧ (PySem.W.typeIn c.K (.ref fI) = some (.type "function")) ∧ (ExC c.K cF fI C) ∧ (c.mg x = some (.ref C))
theorem ExD.fn {c : C0} {cF fI : Addr} {x : Str} {C : Nat} (h : ExD c cF fI x C) : ∃ fd, FnOk c.P c.w c.K c.mg c.base (L2.CX c.P c.w) 1 fI fd ["self", "place"] (spX c.K cF fI) ∧ Binds c.K fd ["self", "place"] [] := h.1
theorem ExD.ty {c : C0} {cF fI : Addr} {x : Str} {C : Nat} (h : ExD c cF fI x C) : PySem.W.typeIn c.K (.ref fI) = some (.type "function") := h.2.1
theorem ExD.e {c : C0} {cF fI : Addr} {x : Str} {C : Nat} (h : ExD c cF fI x C) : ExC c.K cF fI C := h.2.2.1
theorem ExD.mg {c : C0} {cF fI : Addr} {x : Str} {C : Nat} (h : ExD c cF fI x C) : c.mg x = some (.ref C) := h.2.2.2
def raiseS (C : Nat) (me : ME) : MS := fun ρ α D => me ρ α (fun d α1 => D.ex ⟨C, [(.str "place", d)]⟩ ρ α1) (fun x α1 => D.ex x ρ α1)
section
variable {c : C0} {N : List Str} {sc : Scope} {x : Str} {e : Expr} {p q pos : Pos} {me : ME} {cF fI : Addr} {C : Nat}
theorem js_raise (T : ExD c cF fI x C) (hk : 2 ≤ c.k) (hg : sc.names.lookup x = some .globalImplicit) (h : JE c N sc e me) (hc : c.cm = true := by rfl) (hdb : (x == ("__debug__" : Str)) = false := by decide) (he : ∀ env, starEach [e] env = (false, eval e env) :: starEach [] env := by intros; rfl) (hpl : ∀ env, (backTo q (starEach [] env)).any (·.1) = false := by intros; rfl) :
    JS c N sc (.Raise (some (.Call (.Name x p) [e] [] q)) none pos) (raiseS C me) := by
  obtain ⟨fd, F, b⟩ := T.fn
  obtain ⟨t, h1, h2⟩ := h
  refine ⟨fun W => fun _ σ H => tMkO C (spX c.K cF fI) [] (tCons (t W) tNil) σ H fun cls d H' => W cls d σ H', fun X W I TT => ?_, fun W B σ H ρ α S D m Dn h' x' => ?_⟩
  · have F' : FnOk X.prog X.w X.K X.mg X.base (L2.CX X.prog X.w) 1 fI fd ["self", "place"] (spX c.K cF fI) := by
      rw [I.P, I.w, I.K, I.mg, I.base]
      exact F
    exact ps_raise (I.calm hc) TT (pmk_oex (by rw [I.K]; exact T.e.o) (by rw [I.K]; exact T.e.ini) (by rw [I.K]; exact T.ty) F' ((I.rm hc).mono hk) (by rw [I.K]; exact b) .nil passL (I.gl hg) (by rw [I.mg]; exact T.mg) (pa_cons (h1 X W I TT) pa_nil (he _)) hdb (he _) (hpl _))
  · refine h2 W B σ H ρ α S _ _ m _ (fun v d B1 H1 α1 A1 r1 m => ⟨(show 1 ≤ 1000 by decide), fun a na => ?_⟩) (x'.sx S)
    refine ⟨a, C, v, rfl, T.e, upd_same, fun dx nd ne => ⟨rfl, dx, [("place", v)], upd_same, ?_, ?_, ?_⟩⟩
    · rw [upd_ne ne, upd_same]
    · rw [upd_ne ne] at nd
      exact nd
    · have nd' : H1 dx = none := by rw [upd_ne ne] at nd; exact nd
      have eh : upd (L2.del (upd (upd (upd H1 a (exo a C none)) dx (exd dx [("place", v)])) a (exo a C (some dx))) a) dx (.xd [("place", v)]) = upd H1 dx (.xd [("place", v)]) := by
        funext b
        by_cases hb : b = dx
        · rw [hb, upd_same, upd_same]
        · rw [upd_ne hb, upd_ne hb]
          by_cases hb2 : b = a
          · rw [hb2, L2.del_same, na]
          · rw [L2.del_ne hb2, upd_ne hb2, upd_ne hb, upd_ne hb2]
      rw [eh]
      have Ab := Af.of_sub A1.bs (Sub.new (o := .xd [("place", v)]) nd')
      have A := A1.trans S.bs Ab
      have hB : B1 dx = false := A1.bs.fresh nd'
      exact x' _ B1 σ ρ α1 (.ref C) (some dx) _ A (S.step A) ⟨rfl, dx, _, rfl, hide_of hB upd_same, .cons (r1.mono Ab.sub) .nil⟩ m
end
def tryS (exm : Nat → Option Bool) (mb ms : MS) : MS := fun ρ α D => mb ρ α { D with ex := fun x ρ' α' => oq (exm x.C) fun b => if b = true then ms ρ' α' { D with ex := fun _ _ _ => False } else D.ex x ρ' α' }
/-- the datum of a caught exception -/
def excD (a dx C : Nat) (ds : List (D × D)) : D := .dict ((.bool true, .tuple [.int (Int.ofNat a), .int (Int.ofNat dx), .int (Int.ofNat C)]) :: ds)
def tryA (i : Nat) (exm : Nat → Option Bool) (mb : MS) (ms : Nat → Nat → Nat → MS) : MS := fun ρ α D => mb ρ α { D with ex := fun x ρ' α' => oq (exm x.C) fun b => if b = true then ∀ a dx, ms a dx x.C (ρ'.set i (some (excD a dx x.C x.fs))) α' { nx := fun ρ2 α2 => D.nx (ρ2.set i none) α2, rt := D.rt, bk := fun ρ2 α2 => D.bk (ρ2.set i none) α2, ct := fun ρ2 α2 => D.ct (ρ2.set i none) α2, ex := fun _ _ _ => False } else D.ex x ρ' α' }
/-- what an except clause's class asks -/
def ExM (c : C0) (C : Nat) (exm : Nat → Option Bool) : Prop := ∀ C' b, exm C' = some b → PySem.W.exmOne c.K (.ref C') (.ref C) = some b
abbrev C0.su (c : C0) : C0 := { c with cm := false, xc := none }
abbrev C0.sx (c : C0) (a dx : Addr) (C : Nat) : C0 := { c with cm := false, xc := some (a, dx, C) }
section
variable {c : C0} {N : List Str} {sc : Scope} {x n : Str} {p np pos pos' : Pos} {C : Nat} {exm : Nat → Option Bool} {body suite : List Stmt} {b₀ : Stmt} {mb ms : MS} {i : Nat}
theorem In.tr {X : Cx} (I : In c N sc X) (hx : c.xc = none) {pn : List (Addr × Obj)} {xe : Value → Shared → Prop} (po : PassesOwn (model X.prog X.w) X.A X.env xe) : In c N sc (X.tr pn xe) :=
  ⟨I.P, I.w, I.K, I.mg, I.base, I.rm, I.un, I.N, I.sc, I.calm, I.fn, po, I.fs, fun _ _ _ h => (by rw [hx] at h; cases h), I.oc⟩
theorem In.su {X : Cx} (I : In c N sc X) (a : Addr) (pn : List (Addr × Obj)) : In c.su N sc (X.suite a pn) :=
  ⟨I.P, I.w, I.K, I.mg, I.base, fun h => (by cases h), I.un, I.N, I.sc, fun h => (by cases h), I.fn, PassesOwn.never, I.fs, fun _ _ _ h => (by cases h), I.oc⟩
theorem In.sx {X : Cx} (I : In c N sc X) (a dx : Addr) (C : Nat) {oe : Obj} (pn : List (Addr × Obj)) (hz : Zc (.ref C) (some dx) oe) (hf : ∃ vs, oe.data = .fields vs) : In (c.sx a dx C) N sc (X.suite a ((a, oe) :: pn)) :=
  ⟨I.P, I.w, I.K, I.mg, I.base, fun h => (by cases h), I.un, I.N, I.sc, fun h => (by cases h), I.fn, PassesOwn.never, I.fs, fun _ _ _ h => (by
    cases h
    exact ⟨X, oe, pn, rfl, hz, hf⟩), I.oc⟩
theorem js_try (hg : sc.names.lookup x = some .globalImplicit) (hm : c.mg x = some (.ref C)) (hex : ExM c C exm) (hb : JB c N sc body mb) (hs : JB c.su N sc (b₀ :: suite) ms) (hx : c.xc = none := by rfl) (ht : c.top = true := by rfl) (hdb : (x == ("__debug__" : Str)) = false := by decide) :
    JS c N sc (.Try body [.ExceptHandler (some (.Name x np)) none (b₀ :: suite) pos'] [] [] pos) (tryS exm mb ms) := by
  obtain ⟨t, h1, h2⟩ := hb
  obtain ⟨u, k1, k2⟩ := hs
  refine ⟨fun W Dn σ H => t (wOnly c.K (.ref C) (fun _ _ _ => u fun _ _ _ _ => False) W Dn) Dn σ H, fun X W I T => ?_, fun W B σ H ρ α S D m Dn h' x' => ?_⟩
  · have q := ps_try_only (pos := pos) (pos' := pos') (np := np) (I.fs ht).1 (I.fs ht).2 ⟨I.gl hg, hdb, .inl (by rw [I.mg]; exact hm)⟩ T (fun W' pn xe tk po => h1 _ W' (I.tr hx po) tk) (ts := fun _ _ _ => u fun _ _ _ _ => False) (fun a oe cls d pn hz hf => k1 _ _ (I.su a ((a, oe) :: pn)) takes0)
    rw [I.K] at q
    exact q
  · refine h2 _ B σ H ρ α S _ m Dn ⟨h'.nx, h'.rt, h'.bk, h'.ct⟩ fun y B' σ' ρ' α' cls d H' A S' r z => ?_
    obtain ⟨b, hb, z⟩ := z
    refine ⟨b, by rw [r.1]; exact hex _ _ hb, fun e a na => ?_, fun e => ?_⟩
    · rw [if_pos e] at z
      exact k2 _ B' σ' H' ρ' α' S' _ z Dn (let q := h'.after S.bs A; ⟨q.nx, q.rt, q.bk, q.ct⟩) fun _ _ _ _ _ _ _ _ _ _ _ z => z.elim
    · rw [if_neg (by rw [e]; decide)] at z
      exact x' y B' σ' ρ' α' cls d H' A S' r z
end
def kXf (i : Nat) (f : Str) (isX : Nat → Bool) (a dx C : Nat) : ME := fun ρ α Q E => ∃ ds d, ρ[i]? = some (some (excD a dx C ds)) ∧ isX C = true ∧ lookF f ds = some d ∧ Q d α
end Hz
namespace PySem.W
open PySem PySem.Spec PySem.Calls PyProof.Rows
end PySem.W
namespace Hz
open PySem L2
def kXi (i : Nat) (isX : Nat → Bool) (tab : Nat → Option Bool) (a dx C : Nat) : ME := fun ρ α Q E => ∃ ds b, ρ[i]? = some (some (excD a dx C ds)) ∧ isX C = true ∧ tab C = some b ∧ Q (.bool b) α
end Hz
namespace Hz
open PySem L2
variable {c : C0} {N : List Str} {sc : Scope}
def dRep : D → D → Option D
  | .list a, .int k => if k < 2 ^ 63 ∧ -(2 ^ 63) ≤ k ∧ a.length * k.toNat ≤ 100000 then some (.list (List.replicate k.toNat a).flatten) else none
  | _, _ => none
/-- the new cell is let go, but stays hidden -/
theorem Af.drop {K : Frag} {B B' : Addr → Bool} {H H' : Hp} {α α' : AH} {l : Addr} {d : D} (a : Af K B H α B' H' (aset α' l d)) (n : α' l = none) : Af K B H α B' H' α' :=
  ⟨a.sub, ⟨fun x e q => a.bs.cel x e (by rw [aset_ne (fun z => by rw [z, n] at q; cases q)]; exact q), a.bs.bk⟩, a.keep, fun x nx hx => by
    by_cases z : x = l
    · rw [z]; exact n
    · have := a.fr x nx hx
      rw [aset_ne z] at this
      exact this, a.grow, fun x es hx => by
    obtain ⟨h1, h2⟩ := a.lk x es hx
    refine ⟨h1, ?_⟩
    by_cases z : x = l
    · rw [z]; exact .inl n
    · rw [aset_ne z] at h2; exact h2⟩
def muInsert (ds as : List D) : Option (D × List D) := match as with
  | [.int i, d] => if ds.length < 100000 ∧ 0 ≤ i ∧ i < 2 ^ 63 then some (.none, ds.take i.toNat ++ [d] ++ ds.drop i.toNat) else none
  | _ => none
theorem mu_insert {K : Frag} {XS : Cx → Prop} : MuD K XS "list.insert" muInsert := ⟨_, fun X _ => mt_insert, fun B H l vs ds us as z ds' bk bl hl r ra e Q q => by
  unfold muInsert at e
  split at e
  · rename_i i d
    split at e
    · rename_i hn
      cases e
      cases ra with
      | cons r1 r2 =>
        cases r2 with
        | cons r2 r3 =>
          cases r3
          cases r1
          exact ⟨l, vs, i, _, rfl, rfl, hl, Nat.lt_of_lt_of_le (by rw [r.length]; exact hn.1) (by decide), hn.2.1, hn.2.2, q _ _ (((r.take _).append (.cons r2 .nil)).append (r.drop _)) .non⟩
    · cases e
  · cases e⟩
/-- o.extend(e), e a list -/
def extK (mo me : ME) : ME := fun ρ α Q E => mo ρ α (fun o α1 => cellL α1 o fun _ _ => me ρ α1 (fun e α2 => cellL α2 o fun a ds => ∃ es, vw α2 e = some (.list es) ∧ ds.length + es.length ≤ 100000 ∧ Q .none (aset α2 a (.list (ds ++ es)))) E) E
def numsC (lo st : Int) : Nat → List D
  | 0 => []
  | n + 1 => .int lo :: numsC (lo + st) st n
theorem numsC_length : ∀ (n : Nat) (lo st : Int), (numsC lo st n).length = n
  | 0, _, _ => rfl
  | n + 1, lo, st => congrArg (· + 1) (numsC_length n (lo + st) st)
theorem numsC_get : ∀ (n : Nat) (lo st : Int) (i : Nat) (d : D), (numsC lo st n)[i]? = some d → i < n ∧ d = .int (lo + (i : Nat) * st)
  | 0, lo, st, i, d, h => by simp [numsC] at h
  | n + 1, lo, st, 0, d, h => by
    simp [numsC] at h
    exact ⟨by omega, by rw [← h]; simp⟩
  | n + 1, lo, st, i + 1, d, h => by
    have h' : (numsC (lo + st) st n)[i]? = some d := h
    obtain ⟨a, b⟩ := numsC_get n (lo + st) st i d h'
    refine ⟨by omega, ?_⟩
    rw [b]
    congr 1
    rw [show ((i + 1 : Nat) : Int) = (i : Int) + 1 from rfl, Int.add_mul, Int.one_mul]
    omega
theorem it_rangeC {B : Addr → Bool} {K : Frag} {H : Hp} {G : AH → Prop} {lo st : Int} {n : Nat} : ItOk K (Itc lo st n) G B H α (numsC lo st n) := fun B' H' α' _ sb bk g => ⟨fun i d hi => by
  obtain ⟨a, b⟩ := numsC_get n lo st i d hi
  refine ⟨a, fun x H'' y => ?_⟩
  obtain ⟨rfl, rfl⟩ := y
  refine ⟨Sub.refl _, ?_⟩
  rw [b]
  exact .int _, by rw [numsC_length]; exact Nat.le_refl n⟩
def rangeK3 (m : ML) : MI := fun ρ α Q E => m ρ α (fun ds α1 => ∃ i j k : Int, ds = [.int i, .int j, .int k] ∧ (k ≠ 0 ∧ k.natAbs < 1073741824 ∧ Builtin.Range.small i j k = true) ∧ Q (numsC i k (Builtin.Range.rangeSize i j k).toNat) (fun _ => True) α1) E
theorem ji_range3 {a b e tg : Expr} {p pos : Pos} {ma : ML} (hg : sc.names.lookup ("range" : Str) = some .globalImplicit) (hm : c.mg ("range" : Str) = none) (h : JL c N sc [a, b, e] ma) (hs : ∀ env, starEach [a, b, e] env = (false, eval a env) :: starEach [b, e] env := by intros; rfl) (hpl : ∀ env, (backTo pos (starEach [b, e] env)).any (·.1) = false := by intros; rfl) : JI c N sc tg (.Call (.Name "range" p) [a, b, e] [] pos) (rangeK3 ma) := by
  obtain ⟨t, h1, h2⟩ := h
  refine ⟨fun W => iRng3 (t W), fun X W I T => pi_range3 (I.gl hg) (by rw [I.mg]; exact hm) (h1 X W I T) (hs _) (hpl _), fun W B σ H ρ α S Qm Em m R q x => h2 W B σ H ρ α S _ Em m _ (fun vs ds B1 H1 α1 A r m => ?_) x⟩
  obtain ⟨i, j, k, rfl, hb, m⟩ := m
  cases r with
  | cons r1 r2 =>
    cases r2 with
    | cons r2 r3 =>
      cases r3 with
      | cons r3 r4 =>
        cases r4
        cases r1
        cases r2
        cases r3
        exact ⟨i, j, k, _, rfl, ⟨hb.1, hb.2.1, hb.2.2, PyProof.Rows.rangeSize_toNat i j k⟩, q _ _ _ B1 H1 α1 A it_rangeC m⟩
abbrev HeldD (c : C0) (k : Nat) (f : Addr) (np : Nat) (fm : Fm) : Prop := ∃ (fd : FuncData) (ps : List Str), FnOk c.P c.w c.K c.mg c.base (L2.CX c.P c.w) k f fd ps (fun vs H Q E => vs.length = ps.length ∧ spD c.K fm vs H Q E) ∧ PySem.W.keepIn c.K (.ref f) = true ∧ Binds c.K fd ps [] ∧ ps.length = np
theorem HeldD.ex {c : C0} {k : Nat} {f : Addr} {np : Nat} {fm : Fm} (h : HeldD c k f np fm) : ∃ (fd : FuncData) (ps : List Str), FnOk c.P c.w c.K c.mg c.base (L2.CX c.P c.w) k f fd ps (fun vs H Q E => vs.length = ps.length ∧ spD c.K fm vs H Q E) ∧ PySem.W.keepIn c.K (.ref f) = true ∧ Binds c.K fd ps [] ∧ ps.length = np := h
end Hz
namespace Hz
open PySem L2
variable {c : C0} {N : List Str} {sc : Scope}
section
variable {e b : Expr} {es : List Expr} {me mb : ME} {pos p p1 p2 : Pos} {x : Str} {g : D → D → Option D}
theorem v_ (i : Nat) (hN : N[i]? = some x := by rfl) (hv : Vis sc x := by first | exact Or.inl rfl | exact Or.inr (Or.inl rfl) | exact Or.inr (Or.inr rfl)) (hd : (x == ("__debug__" : Str)) = false := by decide) (hcd : (x == ("__classdict__" : Str)) = false := by decide) : JE c N sc (.Name x pos) (kV i) := ce_var hN hv hd hcd
theorem g_int {i : Int} (hg : sc.names.lookup x = some .globalImplicit := by rfl) (hm : ∃ t, c.mg x = some (.int i t)) (hd : (x == ("__debug__" : Str)) = false := by decide) : JE c N sc (.Name x pos) (kC (.int i)) := by
  obtain ⟨t, h⟩ := hm
  exact ce_glob (v := .int i) hg h ⟨t, rfl⟩ (fun _ => .int i) hd
theorem g_str {i : Str} (hg : sc.names.lookup x = some .globalImplicit := by rfl) (hm : ∃ t, c.mg x = some (.str i t)) (hd : (x == ("__debug__" : Str)) = false := by decide) : JE c N sc (.Name x pos) (kC (.str i)) := by
  obtain ⟨t, h⟩ := hm
  exact ce_glob (v := .str i) hg h ⟨t, rfl⟩ (fun _ => .str i) hd
theorem set_ (i : Nat) (nd : N.Nodup) (h : JE c N sc e me) (hN : N[i]? = some x := by rfl) (hs : Sto c sc x := by first | exact Or.inl rfl | exact Or.inr ⟨rfl, rfl⟩) (hw : ∀ env, swapsWith e (some (.Name x p1)) pos.line env = pure false := by intros; rfl) : JS c N sc (.Assign [.Name x p1] e pos) (asgS me (setv i)) := js_set nd hN hs h hw
theorem tg_ (i : Nat) (nd : N.Nodup) (hN : N[i]? = some x := by rfl) (hs : Sto c sc x := by first | exact Or.inl rfl | exact Or.inr ⟨rfl, rfl⟩) : JTg c N sc (.Name x pos) [i] (setv i) := jtg_name nd hN hs
end
def dIAdd : D → D → Option D
  | .int a, .int b => some (.int (a + b))
  | .str a, .str b => if a.length + b.length ≤ 100000 then some (.str (a ++ b)) else none
  | _, _ => none
theorem o_iadd : OpD c.K (In c N sc) (inplaceOp .Add) dIAdd := by
  refine ⟨_, fun X I => OpR.or (X := X) iop_add iop_add_str, fun B H x y d e z bk hx hy hz Q q => ?_⟩
  unfold dIAdd at hz
  split at hz
  · cases hz
    exact .inl ⟨_, _, hx.int, hy.int, q _ H (Sub.refl H) (.int _)⟩
  · split at hz
    · rename_i hl
      cases hz
      exact .inr ⟨_, _, hx.str, hy.str, sz5 hl, q _ H (Sub.refl H) (.str _)⟩
    · cases hz
  · cases hz
def At (c : C0) (x : Str) (st : Stmt) (ps : List Str) (dvs : List V) (js : List Nat) : Prop := ∃ f, AtF c x x st ps dvs js f ∧ c.mg x = some (.ref f)
def MeAt (c : C0) (C : Nat) (m qual : Str) (st : Stmt) (ps : List Str) (dvs : List V) (js : List Nat) : Prop := ∃ f, AtF c m qual st ps dvs js f ∧ Meth c.K C m f
def InAt (c : C0) (C : Nat) (x qual : Str) (st : Stmt) (ps : List Str) (dvs : List V) (js : List Nat) : Prop := ∃ f, AtF c "__init__" qual st ps dvs js f ∧ Mk c.K C f ∧ c.mg x = some (.ref C)
def PrF (c : C0) (k : Nat) (x : Str) (ps : List Str) (dvs : List V) (js : List Nat) (fm : Fm) : Prop := ∃ f, Pro c k f ps dvs js fm ∧ c.mg x = some (.ref f)
def PrM (c : C0) (k C : Nat) (m : Str) (ps : List Str) (dvs : List V) (js : List Nat) (fm : Fm) : Prop := ∃ f, Pro c k f ps dvs js fm ∧ Meth c.K C m f
def PrI (c : C0) (k C : Nat) (x : Str) (ps : List Str) (dvs : List V) (js : List Nat) (fm : Fm) : Prop := ∃ f, Pro c k f ps dvs js fm ∧ Mk c.K C f ∧ c.mg x = some (.ref C)
section
variable {x m qual : Str} {st : Stmt} {ps : List Str} {dvs : List V} {js : List Nat} {k C np : Nat} {mm : MS} {fm : Fm}
theorem At.run (A : At c x st ps dvs js) (S : FnScope N ps (defScope st)) (h : JB (c.at_ k) N (defScope st) (defBody st) mm) (hn : ps.length ≤ N.length := by decide) : PrF c (k + 1) x ps dvs js (runF ps.length N.length mm) :=
  let ⟨f, a, m⟩ := A; ⟨f, a.run S h hn, m⟩
theorem At.runP (A : At c x st ps dvs js) (S : FnScope N ps (defScope st)) (h : JB (c.at_ k) N (defScope st) (defBody st) mm) (hn : ps.length ≤ N.length := by decide) : PrF c (k + 1) x ps dvs js (Hz.runP ps.length N.length mm) :=
  let ⟨f, a, m⟩ := A; ⟨f, a.runP S h hn, m⟩
theorem MeAt.run (A : MeAt c C m qual st ps dvs js) (S : FnScope N ps (defScope st)) (h : JB (c.at_ k) N (defScope st) (defBody st) mm) (hn : ps.length ≤ N.length := by decide) : PrM c (k + 1) C m ps dvs js (runF ps.length N.length mm) :=
  let ⟨f, a, m⟩ := A; ⟨f, a.run S h hn, m⟩
theorem MeAt.runP (A : MeAt c C m qual st ps dvs js) (S : FnScope N ps (defScope st)) (h : JB (c.at_ k) N (defScope st) (defBody st) mm) (hn : ps.length ≤ N.length := by decide) : PrM c (k + 1) C m ps dvs js (Hz.runP ps.length N.length mm) :=
  let ⟨f, a, m⟩ := A; ⟨f, a.runP S h hn, m⟩
theorem InAt.run (A : InAt c C x qual st ps dvs js) (S : FnScope N ps (defScope st)) (h : JB (c.at_ k) N (defScope st) (defBody st) mm) (hn : ps.length ≤ N.length := by decide) : PrI c (k + 1) C x ps dvs js (runF ps.length N.length mm) :=
  let ⟨f, a, m, q⟩ := A; ⟨f, a.run S h hn, m, q⟩
theorem PrF.fn (P : PrF c k x ps dvs js fm) : FnD c k x ps.length [] fm := let ⟨f, p, m⟩ := P; p.fn m
theorem PrM.mt (P : PrM c k C m ps dvs js fm) (hp : ps.length = np + 1 := by rfl) : MtD c k C m np [] fm := let ⟨f, p, m⟩ := P; p.mt m hp
theorem PrI.mk_ (P : PrI c k C x ps dvs js fm) (hp : ps.length = np + 1 := by rfl) : MkD c k x C np [] fm := let ⟨f, p, m, q⟩ := P; p.mk_ m q hp
end
theorem kit_self {K : Frag} {C : Addr} : PySem.W.kitOne K (.ref C) (.ref C) = some true := if_pos (beq_self_eq_true _)
theorem kit_other {K : Frag} {C : Addr} {T : String} (h1 : PySem.W.isClsIn K C = true) (h2 : PySem.W.typeIn K (.ref C) = some (.type "type")) (h3 : PySem.W.notFirst K C (.type T) = true) : PySem.W.kitOne K (.type T) (.ref C) = some false := by
  have ne : (Value.type T == Value.ref C) = false := by
    cases z : (Value.type T == Value.ref C) with
    | false => rfl
    | true => exact nomatch (eq_of_beq z)
  unfold PySem.W.notFirst at h3
  rw [ne, Bool.false_or] at h3
  unfold PySem.W.kitOne
  rw [if_neg (by rw [ne]; exact Bool.false_ne_true)]
  show (if ((PySem.W.clsIn K C).isSome && PySem.W.typeIn K (.ref C) == some (.type "type")) = true then PySem.W.subIn K (.type T) (.ref C) else none) = some false
  rw [if_pos]
  · exact eq_of_beq h3
  · rw [h2, show (PySem.W.clsIn K C).isSome = true from h1]
    rfl
theorem m_split : MeD c.K (In c N sc) "str.split" dSplit := by
  refine ⟨_, fun X I => by
    have h := mt_split (X := X)
    exact h, fun B H x vs ds z bk hv hz Q q => ?_⟩
  unfold dSplit at hz
  split at hz
  · rename_i b
    split at hz
    · rename_i hl
      cases hz
      obtain ⟨v, rfl, h⟩ := hv.one
      rw [h.str]
      refine ⟨x, b, rfl, rfl, hl.1, Nat.le_trans hl.2 (by decide), fun p hp => ?_⟩
      obtain ⟨s1, r2⟩ := lst_new bk hp (RpL.strs (K := c.K) (H := hide B H) (Txt.split x b))
      exact q _ _ s1 r2
    · cases hz
  · cases hz
end Hz
namespace Hz
open PySem L2
variable {c : C0} {N : List Str} {sc : Scope}
/-- an own class, by its facts -/
structure ClsK (K : Frag) (mg : Str → Option Value) (x : Str) (C : Nat) : Prop where
  mg : mg x = some (.ref C)
  cl : Cls K C
  ha : PySem.W.findIn K (.ref C) "__class__" = some (some (.builtin "object.__class__"))
  hn : PySem.W.specialIn K (.builtin "object.__class__") "__get__" = some (some (.builtin "getset_descriptor.__get__"))
  htk : PySem.W.takesIn K (.builtin "object.__class__") = some true
  hm : PySem.W.mroIn K C (.type "object") = some true
  self : PySem.W.kitOne K (.ref C) (.ref C) = some true
  kNone : PySem.W.kitOne K (.type "NoneType") (.ref C) = some false
  kBool : PySem.W.kitOne K (.type "bool") (.ref C) = some false
  kInt : PySem.W.kitOne K (.type "int") (.ref C) = some false
  kStr : PySem.W.kitOne K (.type "str") (.ref C) = some false
  kList : PySem.W.kitOne K (.type "list") (.ref C) = some false
  kTuple : PySem.W.kitOne K (.type "tuple") (.ref C) = some false
  fList : PySem.W.notFirst K C (.type "list") = true
  fTuple : PySem.W.notFirst K C (.type "tuple") = true
abbrev ClsD (c : C0) (x : Str) (C : Nat) : Prop := ClsK c.K c.mg x C
def isOb (C : Nat) : D → Bool
  | .dict ((.none, .int k) :: _) => decide (k = Int.ofNat C)
  | _ => false
def isiCB (C : Nat) : D → Option Bool
  | .none => some false
  | .bool _ => some false
  | .int _ => some false
  | .str _ => some false
  | .list _ => some false
  | .tuple _ => some false
  | d => if isOb C d = true then some true else none
def isiCK (C : Nat) (m : ME) : ME := fun ρ α Q E => m ρ α (fun d α1 => oq (vw α1 d) fun d' => oq (isiCB C d') fun b => Q (.bool b) α1) E
end Hz
namespace Hz
open PySem L2
section
variable {c : C0} {N : List Str} {sc : Scope}
def dIsT : D → D → Option D
  | .bool a, .bool b => some (.bool (decide (a = b)))
  | _, _ => none
def dIsNotT : D → D → Option D
  | .bool a, .bool b => some (.bool (!decide (a = b)))
  | _, _ => none
theorem o_isT : OpD c.K (In c N sc) (compareOp .Is) dIsT := by
  refine ⟨_, fun X I => op_isBl, fun B H x y d e z bk hx hy hz Q q => ?_⟩
  unfold dIsT at hz
  split at hz
  · cases hz
    exact ⟨_, _, hx.bool, hy.bool, q _ H (Sub.refl H) (.bl _)⟩
  · cases hz
theorem o_isNotT : OpD c.K (In c N sc) (compareOp .IsNot) dIsNotT := by
  refine ⟨_, fun X I => op_notBl, fun B H x y d e z bk hx hy hz Q q => ?_⟩
  unfold dIsNotT at hz
  split at hz
  · cases hz
    exact ⟨_, _, hx.bool, hy.bool, q _ H (Sub.refl H) (.bl _)⟩
  · cases hz
end
end Hz
namespace Hz
open PySem L2
def it2 (b : Bool) (A B : Prop) : Prop := (b = true → A) ∧ (b = false → B)
def tb (d : D) (R : Bool → Prop) : Prop := ∃ b, d = .bool b ∧ R b
def ti (d : D) (R : Int → Prop) : Prop := ∃ b, d = .int b ∧ R b
def ts (d : D) (R : Str → Prop) : Prop := ∃ b, d = .str b ∧ R b
def cal (np : Nat) (fm : Fm) (as : List D) (ds : List D) (α : AH) (Q : QD) (E : QX) : Prop := as.length = np ∧ fm (as ++ ds) α Q E
def pr2 (ds : List D) (R : D → D → Prop) : Prop := ∃ d e, ds = [d, e] ∧ R d e
theorem pr2_of {d e : D} {R : D → D → Prop} (h : R d e) : pr2 [d, e] R := ⟨d, e, rfl, h⟩
def lenOk (ds : List D) (P : Prop) : Prop := ds.length ≤ 100000 ∧ P
theorem lok {ds : List D} {P : Prop} (e : decide (ds.length ≤ 100000) = true) (h : P) : lenOk ds P := ⟨of_decide_eq_true e, h⟩
section
variable {A B : Prop} {b : Bool} {p : Prop} {RB : Bool → Prop}
theorem tb_b (h : RB b) : tb (.bool b) RB := ⟨b, rfl, h⟩
theorem ti_b {R : Int → Prop} {b} (h : R b) : ti (.int b) R := ⟨b, rfl, h⟩
theorem ts_b {R : Str → Prop} {b} (h : R b) : ts (.str b) R := ⟨b, rfl, h⟩
theorem it2_dec [Decidable p] (h : p → A) (k : ¬ p → B) : it2 (decide p) A B := ⟨fun e => h (of_decide_eq_true e), fun e => k (of_decide_eq_false e)⟩
theorem it2_t (h : A) : it2 true A B := ⟨fun _ => h, fun e => (nomatch e)⟩
theorem it2_f (h : B) : it2 false A B := ⟨fun e => (nomatch e), fun _ => h⟩
theorem it2_not (h : it2 b B A) : it2 (!b) A B := by
  cases b with
  | false => exact it2_t (h.2 rfl)
  | true => exact it2_f (h.1 rfl)
theorem oq_id {α : Type} {o : Option α} {Q : α → Prop} (h : oq o Q) : oq o Q := h
theorem oq_some {α : Type} {z : α} {Q : α → Prop} (h : Q z) : oq (some z) Q := ⟨z, rfl, h⟩
theorem oq_of {α : Type} {o : Option α} {z : α} {Q : α → Prop} (e : o = some z) (h : Q z) : oq o Q := ⟨z, e, h⟩
end
section
variable {ρ ρ' : En} {α α' : AH} {Q : QD} {QB : Bool → AH → Prop} {QL : List D → AH → Prop} {QO : Option Int → AH → Prop} {E : QX} {D' : Md} {d e : D} {i j : Nat} {ma mb md : ME} {mt mt2 : MT} {ml : ML} {m1 m2 : MS} {g g' : D → D → Option D} {f : List D → Option D} {fm : Fm} {tg : D → En → Option En} {G : AH → Prop}
def we (Q : QD) (E : QX) : Md := { nx := fun _ α' => Q .none α', rt := Q, bk := fun _ _ => False, ct := fun _ _ => False, ex := fun x _ α' => E x α' }
theorem we_nx (h : Q .none α) : (we Q E).nx ρ α := h
theorem we_rt (h : Q d α) : (we Q E).rt d α := h
theorem we_ex {y : Ex} (h : E y α) : (we Q E).ex y ρ α := h
def wn (D : Md) (n : En → AH → Prop) : Md := { D with nx := n }
def wl (D : Md) (n : En → AH → Prop) : Md := { D with nx := n, ct := n, bk := D.nx }
def wx (D : Md) (x : Ex → En → AH → Prop) : Md := { D with ex := x }
def wh (D : Md) (i : Nat) : Md := { nx := fun ρ2 α2 => D.nx (ρ2.set i none) α2, rt := D.rt, bk := fun ρ2 α2 => D.bk (ρ2.set i none) α2, ct := fun ρ2 α2 => D.ct (ρ2.set i none) α2, ex := fun _ _ _ => False }
section
variable {n : En → AH → Prop} {x : Ex → En → AH → Prop} {y : Ex}
theorem wn_nx (h : n ρ α) : (wn D' n).nx ρ α := h
theorem wn_rt (h : D'.rt d α) : (wn D' n).rt d α := h
theorem wn_bk (h : D'.bk ρ α) : (wn D' n).bk ρ α := h
theorem wn_ct (h : D'.ct ρ α) : (wn D' n).ct ρ α := h
theorem wn_ex (h : D'.ex y ρ α) : (wn D' n).ex y ρ α := h
theorem wl_nx (h : n ρ α) : (wl D' n).nx ρ α := h
theorem wl_rt (h : D'.rt d α) : (wl D' n).rt d α := h
theorem wl_bk (h : D'.nx ρ α) : (wl D' n).bk ρ α := h
theorem wl_ct (h : n ρ α) : (wl D' n).ct ρ α := h
theorem wl_ex (h : D'.ex y ρ α) : (wl D' n).ex y ρ α := h
theorem wx_nx (h : D'.nx ρ α) : (wx D' x).nx ρ α := h
theorem wx_rt (h : D'.rt d α) : (wx D' x).rt d α := h
theorem wx_bk (h : D'.bk ρ α) : (wx D' x).bk ρ α := h
theorem wx_ct (h : D'.ct ρ α) : (wx D' x).ct ρ α := h
theorem wx_ex (h : x y ρ α) : (wx D' x).ex y ρ α := h
theorem wh_nx {i : Nat} (h : D'.nx (ρ.set i none) α) : (wh D' i).nx ρ α := h
theorem wh_rt {i : Nat} (h : D'.rt d α) : (wh D' i).rt d α := h
theorem wh_bk {i : Nat} (h : D'.bk (ρ.set i none) α) : (wh D' i).bk ρ α := h
theorem wh_ct {i : Nat} (h : D'.ct (ρ.set i none) α) : (wh D' i).ct ρ α := h
end
theorem w_kC (h : Q d α) : kC d ρ α Q E := h
theorem w_kV (e : ρ[i]? = some (some d)) (h : Q d α) : kV i ρ α Q E := ⟨d, e, h⟩
theorem w_new (h : ma ρ α (fun c α1 => ∀ p, α1 p = none → Q (dref p) (aset α1 p c)) E) : newK ma ρ α Q E := h
theorem w_frz (h : ma ρ α (fun d α1 => ∃ p c, d = dref p ∧ α1 p = some c ∧ Q c (adel α1 p)) E) : frzK ma ρ α Q E := h
theorem fr_of {p : Addr} {c : D} {α1 : AH} {R : D → AH → Prop} (e : α1 p = some c) (h : R c (adel α1 p)) : ∃ p' c', dref p = dref p' ∧ α1 p' = some c' ∧ R c' (adel α1 p') := ⟨p, c, rfl, e, h⟩
theorem w_bop (h : ma ρ α (fun d α1 => mb ρ α1 (fun e α2 => oq (vw α2 d) fun d' => oq (vw α2 e) fun e' => oq (g d' e') fun z => Q z α2) E) E) : bop g ma mb ρ α Q E := h
theorem w_tst (h : ma ρ α (fun d α1 => tb d fun b => QB b α1) E) : tst ma ρ α QB E := h
theorem w_val (h : mt ρ α (fun b α1 => Q (.bool b) α1) E) : valK mt ρ α Q E := h
theorem w_not (h : mt ρ α (fun b α1 => QB (!b) α1) E) : notK mt ρ α QB E := h
theorem it2_eq {b : Bool} {A B : Prop} : it2 b A B = (if b = true then A else B) := by
  cases b
  · exact propext ⟨fun h => h.2 rfl, fun h => it2_f h⟩
  · exact propext ⟨fun h => h.1 rfl, fun h => it2_t h⟩
theorem w_and (h : mt ρ α (fun b α1 => it2 b (mt2 ρ α1 QB E) (QB false α1)) E) : andK mt mt2 ρ α QB E := by
  simp only [it2_eq] at h
  exact h
theorem w_or (h : mt ρ α (fun b α1 => it2 b (QB true α1) (mt2 ρ α1 QB E)) E) : orK mt mt2 ρ α QB E := by
  simp only [it2_eq] at h
  exact h
theorem w_andV (h : mt ρ α (fun b α1 => it2 b (mb ρ α1 Q E) (Q (.bool false) α1)) E) : andV mt mb ρ α Q E := by
  simp only [it2_eq] at h
  exact h
theorem w_orV (h : mt ρ α (fun b α1 => it2 b (Q (.bool true) α1) (mb ρ α1 Q E)) E) : orV mt mb ρ α Q E := by
  simp only [it2_eq] at h
  exact h
theorem w_ifK (h : mt ρ α (fun b α1 => it2 b (ma ρ α1 Q E) (mb ρ α1 Q E)) E) : ifK mt ma mb ρ α Q E := by
  simp only [it2_eq] at h
  exact h
theorem w_chain (h : ma ρ α (fun d α1 => mb ρ α1 (fun e α2 => oq (g d e) fun z => tb z fun b => it2 b (md ρ α2 (fun f α3 => oq (g' e f) fun z' => Q z' α3) E) (Q (.bool false) α2)) E) E) : chainK g g' ma mb md ρ α Q E := by
  simp only [it2_eq] at h
  exact h
theorem w_nil (h : QL [] α) : nilK ρ α QL E := h
theorem w_cons (h : ma ρ α (fun d α1 => ml ρ α1 (fun ds α2 => QL (d :: ds) α2) E) E) : consK ma ml ρ α QL E := h
theorem w_tup (h : ml ρ α (fun ds α1 => lenOk ds (Q (.tuple ds) α1)) E) : tupK ml ρ α Q E := h
theorem w_lst (h : ml ρ α (fun ds α1 => lenOk ds (Q (.list ds) α1)) E) : lstK ml ρ α Q E := h
theorem w_call {np : Nat} {ds : List D} (h : ml ρ α (fun as α1 => cal np fm as ds α1 Q E) E) : callN np fm ds ml ρ α Q E := h
theorem cal_of {np : Nat} {as ds : List D} (e : as.length = np) (h : fm (as ++ ds) α Q E) : cal np fm as ds α Q E := ⟨e, h⟩
theorem w_neg (h : ma ρ α (fun d α1 => ti d fun i => Q (.int (-i)) α1) E) : negK ma ρ α Q E := h
theorem w_b1 (h : ma ρ α (fun d α1 => oq (vw α1 d) fun d' => oq (f [d']) fun z => Q z α1) E) : b1K f ma ρ α Q E := h
theorem w_bn (h : ml ρ α (fun ds α1 => oq (mapV α1 ds) fun es => oq (f es) fun z => Q z α1) E) : bnK f ml ρ α Q E := h
theorem w_isi {T : String} (h : ma ρ α (fun d α1 => oq (vw α1 d) fun d' => oq (isiB T d') fun b => Q (.bool b) α1) E) : isiK T ma ρ α Q E := h
theorem w_met {f : Str → List D → Option D} (h : ma ρ α (fun o α1 => ts o fun x => ml ρ α1 (fun ds α2 => oq (mapV α2 ds) fun es => oq (f x es) fun z => Q z α2) E) E) : metK f ma ml ρ α Q E := h
theorem w_pnone (h : QO none α) : pnone ρ α QO E := h
theorem w_psome (h : ma ρ α (fun d α1 => ti d fun i => QO (some i) α1) E) : psome ma ρ α QO E := h
theorem w_cut {mlo mhi : MP} (h : ma ρ α (fun d α1 => mlo ρ α1 (fun l α2 => mhi ρ α2 (fun h α3 => oq (vw α3 d) fun d' => oq (dCut d' l h) fun z => Q z α3) E) E) E) : cutK ma mlo mhi ρ α Q E := h
theorem w_yes (h : QB true α) : yesK ρ α QB E := h
def cel (α : AH) (o : D) (Q : Addr → List D → Prop) : Prop := cellL α o Q
theorem cel_of {p : Addr} {ds : List D} {R : Addr → List D → Prop} (e : α p = some (.list ds)) (h : R p ds) : cel α (dref p) R := ⟨p, ds, rfl, e, h⟩
theorem w_mut {fu : List D → List D → Option (D × List D)} (h : ma ρ α (fun o α1 => cel α1 o fun _ _ => ml ρ α1 (fun as α2 => cel α2 o fun a ds => oq (fu ds as) fun z => Q z.1 (aset α2 a (.list z.2))) E) E) : mutK fu ma ml ρ α Q E := h
def exD (P : Option D) (R : List D → Prop) : Prop := ∃ es, P = some (.list es) ∧ R es
theorem w_ext (h : ma ρ α (fun o α1 => cel α1 o fun _ _ => mb ρ α1 (fun e α2 => cel α2 o fun a ds => exD (vw α2 e) fun es => ds.length + es.length ≤ 100000 ∧ Q .none (aset α2 a (.list (ds ++ es)))) E) E) : extK ma mb ρ α Q E := h
theorem w_fld {C : Nat} {f : Str} (h : ma ρ α (fun d α1 => oq (vw α1 d) fun o => oq (fldD C f o) fun z => Q z α1) E) : fldK C f ma ρ α Q E := h
theorem w_meth {C np : Nat} {m : Str} {ds : List D} (h : ma ρ α (fun o α1 => oq (vw α1 o) fun od => noF C m od = true ∧ ml ρ α1 (fun as α2 => cal np (fun xs => fm (o :: xs)) as ds α2 Q E) E) E) : methK C m np fm ds ma ml ρ α Q E := h
theorem w_mk {C np : Nat} {ds : List D} (h : ml ρ α (fun as α1 => as.length = np ∧ ∀ p, α1 p = none → fm (dref p :: (as ++ ds)) (aset α1 p (oD C [])) (fun v α2 => v = .none ∧ Q (dref p) α2) E) E) : mkK C np fm ds ml ρ α Q E := h
section
variable {QI : List D → (AH → Prop) → AH → Prop}
def tlG (α1 : AH) (d : D) (QI : List D → (AH → Prop) → AH → Prop) : Prop := ∃ ds, vw α1 d = some (.list ds) ∧ QI ds (fun α' => vw α' d = some (.list ds)) α1
theorem tlG_l {ds : List D} (h : QI ds (fun _ => True) α) : tlG α (.list ds) QI := by
  refine ⟨ds, rfl, ?_⟩
  have e : (fun α' : AH => vw α' (.list ds) = some (.list ds)) = fun _ => True := funext fun a => propext ⟨fun _ => trivial, fun _ => rfl⟩
  rw [e]
  exact h
theorem tlG_r {p : Addr} {ds : List D} (e : α p = some (.list ds)) (h : QI ds (fun α' => vw α' (dref p) = some (.list ds)) α) : tlG α (dref p) QI := ⟨ds, e, h⟩
theorem w_list (h : ma ρ α (fun d α1 => tlG α1 d QI) E) : listK ma ρ α QI E := h
def ttG (α1 : AH) (d : D) (QI : List D → (AH → Prop) → AH → Prop) : Prop := ∃ ds, d = .tuple ds ∧ QI ds (fun _ => True) α1
theorem ttG_t {ds : List D} (h : QI ds (fun _ => True) α) : ttG α (.tuple ds) QI := ⟨ds, rfl, h⟩
theorem w_tuple (h : ma ρ α (fun d α1 => ttG α1 d QI) E) : tupleK ma ρ α QI E := h
theorem w_str (h : ma ρ α (fun d α1 => ts d fun x => QI (x.cps.toList.map fun k => .str ⟨#[k]⟩) (fun _ => True) α1) E) : strK ma ρ α QI E := h
def rg1 (ds : List D) (R : List D → Prop) : Prop := ∃ n : Int, ds = [.int n] ∧ (-(2 ^ 62) ≤ n ∧ n < 2 ^ 62) ∧ R (nums 0 n.toNat)
theorem rg1_of {n : Int} {R : List D → Prop} (e : -(2 ^ 62) ≤ n ∧ n < 2 ^ 62) (h : R (nums 0 n.toNat)) : rg1 [.int n] R := ⟨n, rfl, e, h⟩
theorem w_range1 (h : ml ρ α (fun ds α1 => rg1 ds fun xs => QI xs (fun _ => True) α1) E) : rangeK1 ml ρ α QI E := h
def rg2 (ds : List D) (R : List D → Prop) : Prop := ∃ a b : Int, ds = [.int a, .int b] ∧ (-(2 ^ 62) ≤ a ∧ a < 2 ^ 62 ∧ -(2 ^ 62) ≤ b ∧ b < 2 ^ 62) ∧ R (nums a (b - a).toNat)
theorem rg2_of {a b : Int} {R : List D → Prop} (e : -(2 ^ 62) ≤ a ∧ a < 2 ^ 62 ∧ -(2 ^ 62) ≤ b ∧ b < 2 ^ 62) (h : R (nums a (b - a).toNat)) : rg2 [.int a, .int b] R := ⟨a, b, rfl, e, h⟩
theorem w_range2 (h : ml ρ α (fun ds α1 => rg2 ds fun xs => QI xs (fun _ => True) α1) E) : rangeK2 ml ρ α QI E := h
def rg3 (ds : List D) (R : List D → Prop) : Prop := ∃ i j k : Int, ds = [.int i, .int j, .int k] ∧ (k ≠ 0 ∧ k.natAbs < 1073741824 ∧ Builtin.Range.small i j k = true) ∧ R (numsC i k (Builtin.Range.rangeSize i j k).toNat)
theorem rg3_of {i j k : Int} {R : List D → Prop} (e : k ≠ 0 ∧ k.natAbs < 1073741824 ∧ Builtin.Range.small i j k = true) (h : R (numsC i k (Builtin.Range.rangeSize i j k).toNat)) : rg3 [.int i, .int j, .int k] R := ⟨i, j, k, rfl, e, h⟩
theorem w_range3 (h : ml ρ α (fun ds α1 => rg3 ds fun xs => QI xs (fun _ => True) α1) E) : rangeK3 ml ρ α QI E := h
end
theorem oq_isiB {T : String} {b : Bool} {R : Bool → Prop} (e : isiB T d = some b) (h : R b) : oq (isiB T d) R := ⟨b, e, h⟩
theorem w_tryA {exm : Nat → Option Bool} {mb : MS} {ms : Nat → Nat → Nat → MS} (h : mb ρ α (wx D' fun x ρ' α' => oq (exm x.C) fun b => it2 b (∀ a dx, ms a dx x.C (ρ'.set i (some (excD a dx x.C x.fs))) α' (wh D' i)) (D'.ex x ρ' α'))) : tryA i exm mb ms ρ α D' := by
  simp only [it2_eq, wx, wh] at h
  exact h
theorem w_try {exm : Nat → Option Bool} {mb ms : MS} (h : mb ρ α (wx D' fun x ρ' α' => oq (exm x.C) fun b => it2 b (ms ρ' α' (wx D' fun _ _ _ => False)) (D'.ex x ρ' α'))) : tryS exm mb ms ρ α D' := by
  simp only [it2_eq, wx] at h
  exact h
theorem w_xi {isX : Nat → Bool} {tab : Nat → Option Bool} {a dx C : Nat} {b : Bool} {ds : List (D × D)} (e : ρ[i]? = some (some (excD a dx C ds))) (h1 : isX C = true) (h2 : tab C = some b) (h : Q (.bool b) α) : kXi i isX tab a dx C ρ α Q E := ⟨ds, b, e, h1, h2, h⟩
theorem w_xf {isX : Nat → Bool} {f : Str} {a dx C : Nat} {ds : List (D × D)} (e : ρ[i]? = some (some (excD a dx C ds))) (h1 : isX C = true) (h2 : lookF f ds = some d) (h : Q d α) : kXf i f isX a dx C ρ α Q E := ⟨ds, d, e, h1, h2, h⟩
theorem w_seq (h : m1 ρ α (wn D' fun ρ1 α1 => m2 ρ1 α1 D')) : seqS m1 m2 ρ α D' := h
theorem w_seqI (I : En → AH → Prop) (h2 : ∀ ρ α, I ρ α → m2 ρ α D') (h1 : ∀ X : En → AH → Prop, (∀ ρ α, I ρ α → X ρ α) → m1 ρ α (wn D' X)) : seqS m1 m2 ρ α D' := h1 _ h2
def bar (f : En → AH → Prop) : En → AH → Prop := f
theorem bar_of {f : En → AH → Prop} (h : f ρ α) : bar f ρ α := h
theorem w_seqB (h : m1 ρ α (wn D' (bar fun ρ1 α1 => m2 ρ1 α1 D'))) : seqS m1 m2 ρ α D' := h
theorem w_next (h : D'.nx ρ α) : nextS ρ α D' := h
theorem w_break (h : D'.bk ρ α) : breakS ρ α D' := h
theorem w_cont (h : D'.ct ρ α) : contS ρ α D' := h
theorem w_drop (h : ma ρ α (fun _ α1 => D'.nx ρ α1) (fun x α1 => D'.ex x ρ α1)) : dropS ma ρ α D' := h
theorem w_ret (h : ma ρ α (fun d α1 => D'.rt d α1) (fun x α1 => D'.ex x ρ α1)) : retS ma ρ α D' := h
theorem w_retN (h : D'.rt .none α) : retN ρ α D' := h
theorem w_if (h : mt ρ α (fun b α1 => it2 b (m1 ρ α1 D') (m2 ρ α1 D')) (fun x α1 => D'.ex x ρ α1)) : ifS mt m1 m2 ρ α D' := by
  simp only [it2_eq] at h
  exact h
theorem w_asg (h : ma ρ α (fun d α1 => oq (tg d ρ) fun ρ1 => D'.nx ρ1 α1) (fun x α1 => D'.ex x ρ α1)) : asgS ma tg ρ α D' := h
theorem oq_setv {R : En → Prop} (h : R (ρ.set i (some d))) : oq (setv i d ρ) R := ⟨_, rfl, h⟩
theorem oq_setv2 {R : En → Prop} (e : ρ.set i (some d) = ρ') (h : R ρ') : oq (setv i d ρ) R := ⟨_, rfl, by rw [e]; exact h⟩
theorem oq_tgNil {R : En → Prop} (h : R ρ) : oq (tgNil [] ρ) R := ⟨_, rfl, h⟩
theorem oq_tgCons {mh : D → En → Option En} {mr : List D → En → Option En} {ds : List D} {R : En → Prop} (h : oq (mh d ρ) fun ρ1 => oq (mr ds ρ1) R) : oq (tgCons mh mr (d :: ds) ρ) R := by
  obtain ⟨r1, e1, r2, e2, q⟩ := h
  exact ⟨r2, by show (mh d ρ).bind (mr ds) = _; simp [e1, e2], q⟩
theorem oq_tgTup {mr : List D → En → Option En} {n : Nat} {ds : List D} {R : En → Prop} (e : ds.length = n) (h : oq (mr ds ρ) R) : oq (tgTup n mr (.tuple ds) ρ) R := by
  obtain ⟨r1, e1, q⟩ := h
  exact ⟨r1, by show (if ds.length = n then mr ds ρ else none) = _; rw [if_pos e, e1], q⟩
theorem w_frzS {p : Addr} {c : D} (e : ρ[i]? = some (some (dref p))) (e2 : α p = some c) (h : m1 (ρ.set i (some c)) (adel α p) D') : frzS i m1 ρ α D' := ⟨p, c, e, e2, h⟩
theorem w_aug {d0 : D} (e0 : ρ[i]? = some (some d0)) (h : ma ρ α (fun e α1 => oq (g d0 e) fun z => D'.nx (ρ.set i (some z)) α1) (fun x α1 => D'.ex x ρ α1)) : augS g i ma ρ α D' := ⟨d0, e0, h⟩
theorem w_seti (h : ma ρ α (fun d α1 => mb ρ α1 (fun o α2 => md ρ α2 (fun k α3 => cel α3 o fun a ds => ti k fun i => oq (ixN ds.length i) fun j => D'.nx ρ (aset α3 a (.list (ds.set j d)))) (fun x α1 => D'.ex x ρ α1)) (fun x α1 => D'.ex x ρ α1)) (fun x α1 => D'.ex x ρ α1)) : setiS ma mb md ρ α D' := h
def ceo (C : Nat) (α : AH) (o : D) (Q : Addr → List (D × D) → Prop) : Prop := cellO C α o Q
theorem ceo_of {C : Nat} {p : Addr} {fs : List (D × D)} {R : Addr → List (D × D) → Prop} (e : α p = some (oD C fs)) (h : R p fs) : ceo C α (dref p) R := ⟨p, fs, rfl, e, h⟩
theorem w_seta {C : Nat} {f : Str} (h : ma ρ α (fun d α1 => mb ρ α1 (fun o α2 => ceo C α2 o fun a fs => fs.length < 900 ∧ D'.nx ρ (aset α2 a (oD C (putD f d fs)))) (fun x α1 => D'.ex x ρ α1)) (fun x α1 => D'.ex x ρ α1)) : setaS C f ma mb ρ α D' := h
theorem w_auga {C : Nat} {f : Str} (h : ma ρ α (fun o α1 => ceo C α1 o fun _ fs0 => oq (lookF f fs0) fun d => mb ρ α1 (fun e α2 => oq (g d e) fun z => ceo C α2 o fun a fs => fs.length < 900 ∧ D'.nx ρ (aset α2 a (oD C (putD f z fs)))) (fun x α1 => D'.ex x ρ α1)) (fun x α1 => D'.ex x ρ α1)) : augaS C f g ma mb ρ α D' := h
theorem w_raise {C : Nat} (h : ma ρ α (fun d α1 => D'.ex ⟨C, [(.str "place", d)]⟩ ρ α1) (fun x α1 => D'.ex x ρ α1)) : raiseS C ma ρ α D' := h
theorem w_for {mi : MI} {mb : MS} (h : mi ρ α (fun ds G α1 => forD tg mb G D' ds ρ α1) (fun x α1 => D'.ex x ρ α1)) : forS mi tg mb ρ α D' := h
theorem for_inv {mb : MS} {ds : List D} (I : List D → En → AH → Prop) (h0 : I ds ρ α) (hG : ∀ ds ρ α, I ds ρ α → G α) (h2 : ∀ ρ α, I [] ρ α → D'.nx ρ α)
    (h1 : ∀ d ds ρ α, I (d :: ds) ρ α → ∀ X : En → AH → Prop, (∀ ρ α, I ds ρ α → X ρ α) → oq (tg d ρ) fun ρ1 => mb ρ1 α (wl D' X)) : forD tg mb G D' ds ρ α := by
  induction ds generalizing ρ α with
  | nil => exact ⟨hG _ _ _ h0, h2 _ _ h0⟩
  | cons d ds ih => exact ⟨hG _ _ _ h0, h1 d ds ρ α h0 _ fun ρ α q => ih q⟩
theorem for_nums {mb : MS} {n : Nat} {lo : Int} (I : Nat → En → AH → Prop) (h0 : I 0 ρ α) (h2 : ∀ ρ α, I n ρ α → D'.nx ρ α)
    (h1 : ∀ k, k < n → ∀ ρ α, I k ρ α → ∀ X : En → AH → Prop, (∀ ρ α, I (k + 1) ρ α → X ρ α) → oq (tg (.int (lo + (k : Nat))) ρ) fun ρ1 => mb ρ1 α (wl D' X)) : forD tg mb (fun _ => True) D' (nums lo n) ρ α := by
  refine for_inv (fun r ρ α => ∃ m k : Nat, k + m = n ∧ r = nums (lo + (k : Nat)) m ∧ I k ρ α) ⟨n, 0, by omega, by simp, h0⟩ (fun _ _ _ _ => trivial) ?_ ?_
  · rintro ρ α ⟨m, k, e1, e2, i⟩
    cases m with
    | zero =>
      obtain rfl : k = n := by omega
      exact h2 _ _ i
    | succ m => simp [nums] at e2
  · rintro d ds ρ α ⟨m, k, e1, e2, i⟩ X hX
    cases m with
    | zero => simp [nums] at e2
    | succ m =>
      obtain ⟨rfl, rfl⟩ := List.cons.inj e2
      refine h1 k (by omega) _ _ i X fun ρ α i => hX _ _ ⟨m, k + 1, by omega, ?_, i⟩
      congr 1
      omega
theorem for_map {β : Type} {mb : MS} {xs : List β} {u : β → D} {ds : List D} (e : ds = xs.map u) (I : Nat → En → AH → Prop) (h0 : I 0 ρ α) (h2 : ∀ ρ α, I xs.length ρ α → D'.nx ρ α)
    (h1 : ∀ k (hk : k < xs.length), ∀ ρ α, I k ρ α → ∀ X : En → AH → Prop, (∀ ρ α, I (k + 1) ρ α → X ρ α) → oq (tg (u xs[k]) ρ) fun ρ1 => mb ρ1 α (wl D' X)) : forD tg mb (fun _ => True) D' ds ρ α := by
  subst e
  refine for_inv (fun r ρ α => ∃ k : Nat, k ≤ xs.length ∧ r = (xs.drop k).map u ∧ I k ρ α) ⟨0, by omega, by simp, h0⟩ (fun _ _ _ _ => trivial) ?_ ?_
  · rintro ρ α ⟨k, e1, e2, i⟩
    have : k = xs.length := by
      have := congrArg List.length e2
      simp at this
      omega
    subst this
    exact h2 _ _ i
  · rintro d ds ρ α ⟨k, e1, e2, i⟩ X hX
    have hk : k < xs.length := by
      have := congrArg List.length e2
      simp at this
      omega
    rw [List.drop_eq_getElem_cons hk, List.map_cons] at e2
    obtain ⟨rfl, rfl⟩ := List.cons.inj e2
    exact h1 k hk _ _ i X fun ρ α i => hX _ _ ⟨k + 1, by omega, rfl, i⟩
theorem w_par {i j : Nat} (h : ml ρ α (fun ds α1 => pr2 ds fun d e => D'.nx ((ρ.set i (some d)).set j (some e)) α1) (fun x α1 => D'.ex x ρ α1)) : parS i j ml ρ α D' := h
theorem fd_nil {mb : MS} (hG : G α) (h : D'.nx ρ α) : forD tg mb G D' [] ρ α := ⟨hG, h⟩
theorem fd_cons {mb : MS} {ds : List D} (hG : G α) (h : oq (tg d ρ) fun ρ1 => mb ρ1 α (wl D' fun ρ2 α2 => forD tg mb G D' ds ρ2 α2)) : forD tg mb G D' (d :: ds) ρ α := ⟨hG, h⟩
theorem w_while {mb : MS} (V : Nat → En → AH → Prop) (n : Nat) (h0 : V n ρ α) (h : ∀ m ρ α, V m ρ α → ∀ X : En → AH → Prop, (∀ m' ρ α, m' < m → V m' ρ α → X ρ α) → mt ρ α (fun b α1 => it2 b (mb ρ α1 (wl D' X)) (D'.nx ρ α1)) (fun x α1 => D'.ex x ρ α1)) : whileS mt mb ρ α D' := by
  refine ⟨V, ⟨n, h0⟩, fun m ρ α v => ?_⟩
  have := h m ρ α v (fun ρ2 α2 => ∃ m', m' < m ∧ V m' ρ2 α2) fun m' ρ α l v => ⟨m', l, v⟩
  simp only [it2_eq] at this
  exact this
theorem w_lc {vs : List Nat} {mi : MI} (h : mi ρ α (fun ds G α1 => lcD vs tg mt ma G ρ Q ds [] α1) E) : lcK vs mi tg mt ma ρ α Q E := h
theorem lc_inv {vs : List Nat} {ds acc : List D} (I : List D → List D → AH → Prop) (h0 : I ds acc α) (hG : ∀ ds acc α, I ds acc α → G α) (h2 : ∀ acc α, I [] acc α → Q (.list acc) α)
    (h1 : ∀ d ds acc α, I (d :: ds) acc α → ∀ X : List D → AH → Prop, (∀ acc α, I ds acc α → X acc α) → oq (tg d (wipeA ρ vs)) fun ρ1 => mt ρ1 α (fun b α1 => it2 b (ma ρ1 α1 (fun y α2 => acc.length < 100000 ∧ X (acc ++ [y]) α2) NX) (X acc α1)) NX) : lcD vs tg mt ma G ρ Q ds acc α := by
  induction ds generalizing acc α with
  | nil => exact ⟨hG _ _ _ h0, h2 _ _ h0⟩
  | cons d ds ih =>
    refine ⟨hG _ _ _ h0, ?_⟩
    have := h1 d ds acc α h0 (fun acc α => lcD vs tg mt ma G ρ Q ds acc α) fun acc α q => ih q
    simp only [it2_eq] at this
    exact this
/-- a comprehension whose test and element leave the cells alone -/
theorem lc_fm {β : Type} {vs : List Nat} (xs : List β) (u : β → D) (p : β → Bool) (g : β → D) {ds : List D} (hds : ds = xs.map u) (hl : xs.length ≤ 100000) (hG : G α)
    (h : ∀ x, x ∈ xs → oq (tg (u x) (wipeA ρ vs)) fun ρ1 => (∀ R : Bool → AH → Prop, R (p x) α → mt ρ1 α R NX) ∧ (p x = true → ∀ R : D → AH → Prop, R (g x) α → ma ρ1 α R NX)) (q : Q (.list ((xs.filter p).map g)) α) : lcD vs tg mt ma G ρ Q ds [] α := by
  refine lc_inv (fun r acc α' => α' = α ∧ ∃ as bs, xs = as ++ bs ∧ acc = (as.filter p).map g ∧ r = bs.map u) ⟨rfl, [], xs, rfl, rfl, hds⟩ (fun _ _ _ e => e.1 ▸ hG) ?_ ?_
  · rintro acc α' ⟨rfl, as, bs, e, rfl, e2⟩
    cases bs with
    | nil =>
      simp at e
      rw [← e]
      exact q
    | cons b bs => simp at e2
  · rintro d r acc α' ⟨rfl, as, bs, e, rfl, e2⟩ X hX
    cases bs with
    | nil => simp at e2
    | cons b bs =>
      simp at e2
      obtain ⟨rfl, rfl⟩ := e2
      obtain ⟨ρ2, e3, g1, g2⟩ := h b (by rw [e]; simp)
      refine ⟨ρ2, e3, g1 _ ⟨fun t => g2 t _ ⟨?_, hX _ _ ⟨rfl, as ++ [b], bs, by simp [e], by simp [t], rfl⟩⟩, fun t => hX _ _ ⟨rfl, as ++ [b], bs, by simp [e], by simp [t], rfl⟩⟩⟩
      have := congrArg List.length e
      have := List.length_filter_le p as
      simp at *
      omega
theorem lc_map {β : Type} {vs : List Nat} (xs : List β) (u : β → D) (g : β → D) {ds : List D} (hds : ds = xs.map u) (hl : xs.length ≤ 100000) (hG : G α)
    (h : ∀ x, x ∈ xs → oq (tg (u x) (wipeA ρ vs)) fun ρ1 => ∀ R : D → AH → Prop, R (g x) α → ma ρ1 α R NX) (q : Q (.list (xs.map g)) α) : lcD vs tg yesK ma G ρ Q ds [] α := by
  refine lc_fm xs u (fun _ => true) g hds hl hG (fun x hx => ?_) (by rw [List.filter_eq_self.mpr (by simp)]; exact q)
  obtain ⟨ρ1, e, k⟩ := h x hx
  exact ⟨ρ1, e, fun R r => r, fun _ R r => k R r⟩
theorem w_runF {p n : Nat} {ds : List D} (hl : ds.length = p) (h : m1 (ds.map some ++ List.replicate (n - p) none) α (we Q E)) : runF p n m1 ds α Q E := ⟨hl, h⟩
theorem w_runP {p n : Nat} {ds : List D} (hl : ds.length = p) (h : m1 (ds.map some ++ List.replicate (n - p) none) α (we (fun d α' => Q d (arst α α')) (fun x α' => E x (arst α α')))) : runP p n m1 ds α Q E := ⟨hl, h⟩
/-- it answers d, leaving the cells -/
def pu (f : Fm) (ds : List D) (d : D) : Prop := ∀ (α : AH) (Q : QD) (E : QX), Q d α → f ds α Q E
/-- it raises x, leaving the cells -/
def px (f : Fm) (ds : List D) (x : Ex) : Prop := ∀ (α : AH) (Q : QD) (E : QX), E x α → f ds α Q E
theorem pu_P {p n : Nat} {ds : List D} (hl : ds.length = p) (h : ∀ (α : AH) (R : QD) (X : QX), R d α → m1 (ds.map some ++ List.replicate (n - p) none) α (we R X)) : pu (runP p n m1) ds d := fun α Q E q =>
  w_runP hl (h α (fun d α' => Q d (arst α α')) (fun x α' => E x (arst α α')) (by rw [arst_self]; exact q))
theorem pu.go {ds : List D} (P : pu fm ds d) (h : Q d α) : fm ds α Q E := P α Q E h
theorem px.go {ds : List D} {x : Ex} (P : px fm ds x) (h : E x α) : fm ds α Q E := P α Q E h
theorem vw_i {R : D → Prop} {i : Int} (h : R (.int i)) : oq (vw α (.int i)) R := ⟨_, rfl, h⟩
theorem vw_s {R : D → Prop} {i : Str} (h : R (.str i)) : oq (vw α (.str i)) R := ⟨_, rfl, h⟩
theorem vw_b {R : D → Prop} {i : Bool} (h : R (.bool i)) : oq (vw α (.bool i)) R := ⟨_, rfl, h⟩
theorem vw_n {R : D → Prop} (h : R .none) : oq (vw α .none) R := ⟨_, rfl, h⟩
theorem vw_l {R : D → Prop} {i : List D} (h : R (.list i)) : oq (vw α (.list i)) R := ⟨_, rfl, h⟩
theorem vw_t {R : D → Prop} {i : List D} (h : R (.tuple i)) : oq (vw α (.tuple i)) R := ⟨_, rfl, h⟩
theorem vw_sc {R : D → Prop} {i : List Int} (h : R (scriptD i)) : oq (vw α (scriptD i)) R := ⟨_, rfl, h⟩
theorem vw_o {R : D → Prop} {C : Nat} {i : List (D × D)} (h : R (oD C i)) : oq (vw α (oD C i)) R := ⟨_, rfl, h⟩
theorem vw_r {R : D → Prop} {p : Addr} {c : D} (e : α p = some c) (h : R c) : oq (vw α (dref p)) R := ⟨_, e, h⟩
theorem mv_nil {R : List D → Prop} (h : R []) : oq (mapV α []) R := ⟨_, rfl, h⟩
theorem mv_cons {R : List D → Prop} {ds : List D} (h : oq (vw α d) fun z => oq (mapV α ds) fun r => R (z :: r)) : oq (mapV α (d :: ds)) R := by
  obtain ⟨z, e, r, e2, q⟩ := h
  exact ⟨_, by unfold mapV; simp [e, e2], q⟩
end
section
variable {Q : D → Prop} {d e : D} {x y z : Int} {s t : Str} {ds es : List D} {i j : Nat} {xs ys : List Int}
theorem oq_add_i {Q : D → Prop} (h : Q (.int (x + y))) : oq (dAdd (.int x) (.int y)) Q := ⟨_, rfl, h⟩
theorem oq_add_s {Q : D → Prop} (l : s.length + t.length ≤ 100000) (h : Q (.str (s ++ t))) : oq (dAdd (.str s) (.str t)) Q := ⟨_, if_pos l, h⟩
theorem oq_add_l {Q : D → Prop} (l : ds.length + es.length ≤ 100000) (h : Q (.list (ds ++ es))) : oq (dAdd (.list ds) (.list es)) Q := ⟨_, if_pos l, h⟩
theorem oq_cat {Q : D → Prop} (l : ds.length + es.length ≤ 100000) (h : Q (.list (ds ++ es))) : oq (dCat (.list ds) (.list es)) Q := ⟨_, if_pos l, h⟩
theorem oq_sub {Q : D → Prop} (h : Q (.int (x - y))) : oq (dSub (.int x) (.int y)) Q := ⟨_, rfl, h⟩
theorem oq_mul {Q : D → Prop} (l : (-(2 ^ 64) < x ∧ x < 2 ^ 64) ∨ (-(2 ^ 64) < y ∧ y < 2 ^ 64)) (h : Q (.int (x * y))) : oq (dMul (.int x) (.int y)) Q := ⟨_, if_pos l, h⟩
theorem oq_mod {Q : D → Prop} (l : 0 < y) (h : Q (.int (x % y))) : oq (dMod (.int x) (.int y)) Q := ⟨_, if_pos l, h⟩
theorem oq_div {Q : D → Prop} (l : 0 < y ∧ y < 2 ^ 80) (h : Q (.int (x / y))) : oq (dDiv (.int x) (.int y)) Q := ⟨_, if_pos l, h⟩
theorem oq_pow {Q : D → Prop} (l : 0 ≤ y ∧ y ≤ 1000000 ∧ x.natAbs < 2 ^ 64) (h : Q (.int (x ^ y.toNat))) : oq (dPow (.int x) (.int y)) Q := ⟨_, if_pos l, h⟩
theorem oq_shl {Q : D → Prop} (l : 0 ≤ y ∧ y ≤ 1000000 ∧ x.natAbs < 2 ^ 64) (h : Q (.int (x * 2 ^ y.toNat))) : oq (dShl (.int x) (.int y)) Q := ⟨_, if_pos l, h⟩
theorem oq_shr {Q : D → Prop} (l : 0 ≤ y) (h : Q (.int (x / 2 ^ y.toNat))) : oq (dShr (.int x) (.int y)) Q := ⟨_, if_pos l, h⟩
theorem oq_lt {Q : D → Prop} (h : Q (.bool (decide (x < y)))) : oq (dLt (.int x) (.int y)) Q := ⟨_, rfl, h⟩
theorem oq_le {Q : D → Prop} (h : Q (.bool (decide (x ≤ y)))) : oq (dLe (.int x) (.int y)) Q := ⟨_, rfl, h⟩
theorem oq_gt {Q : D → Prop} (h : Q (.bool (decide (y < x)))) : oq (dGt (.int x) (.int y)) Q := ⟨_, rfl, h⟩
theorem oq_ge {Q : D → Prop} (h : Q (.bool (decide (y ≤ x)))) : oq (dGe (.int x) (.int y)) Q := ⟨_, rfl, h⟩
theorem oq_eq_i {Q : D → Prop} (h : Q (.bool (decide (x = y)))) : oq (dEq (.int x) (.int y)) Q := ⟨_, rfl, h⟩
theorem oq_ne_i {Q : D → Prop} (h : Q (.bool (!decide (x = y)))) : oq (dNe (.int x) (.int y)) Q := ⟨_, rfl, h⟩
theorem oq_eq_s {Q : D → Prop} (h : Q (.bool (decide (s = t)))) : oq (dEq (.str s) (.str t)) Q := ⟨_, rfl, h⟩
theorem oq_ne_s {Q : D → Prop} (h : Q (.bool (!decide (s = t)))) : oq (dNe (.str s) (.str t)) Q := ⟨_, rfl, h⟩
theorem oq_eq_b {Q : D → Prop} {a b : Bool} (h : Q (.bool (decide (a = b)))) : oq (dEq (.bool a) (.bool b)) Q := ⟨_, by unfold dEq dEqB; cases a <;> cases b <;> rfl, h⟩
theorem oq_ne_b {Q : D → Prop} {a b : Bool} (h : Q (.bool (!decide (a = b)))) : oq (dNe (.bool a) (.bool b)) Q := ⟨_, by unfold dNe dEqB; cases a <;> cases b <;> rfl, h⟩
theorem oq_eq_d {Q : D → Prop} {b : Bool} (e1 : dEqB d e = some b) (h : Q (.bool b)) : oq (dEq d e) Q := ⟨_, by unfold dEq; rw [e1]; rfl, h⟩
theorem oq_ne_d {Q : D → Prop} {b : Bool} (e1 : dEqB d e = some b) (h : Q (.bool (!b))) : oq (dNe d e) Q := ⟨_, by unfold dNe; rw [e1]; rfl, h⟩
theorem oq_is {Q : D → Prop} (h : Q (.bool (isNoneD d))) : oq (dIs d .none) Q := ⟨_, rfl, h⟩
theorem oq_isNot {Q : D → Prop} (h : Q (.bool (!isNoneD d))) : oq (dIsNot d .none) Q := ⟨_, rfl, h⟩
theorem oq_in_s {Q : D → Prop} {k : Nat} (h : Q (.bool (decide (k ∈ t.cps.toList)))) : oq (dIn (.str ⟨#[k]⟩) (.str t)) Q := ⟨_, rfl, h⟩
theorem oq_notIn_s {Q : D → Prop} {k : Nat} (h : Q (.bool (!decide (k ∈ t.cps.toList)))) : oq (dNotIn (.str ⟨#[k]⟩) (.str t)) Q := ⟨_, rfl, h⟩
theorem ixN_in {n : Nat} {i : Int} (h0 : 0 ≤ i) (h1 : i < n) : ixN n i = some i.toNat := by unfold ixN; rw [if_pos h0, if_pos h1]
theorem oq_ix_l {Q : D → Prop} {i : Int} (h0 : 0 ≤ i) (h1 : i < ds.length) (h : ∀ z, ds[i.toNat]? = some z → Q z) : oq (dIx (.list ds) (.int i)) Q := by
  have l : i.toNat < ds.length := by omega
  refine ⟨ds[i.toNat], ?_, h _ (List.getElem?_eq_getElem l)⟩
  show (ixN ds.length i).bind _ = _
  rw [ixN_in h0 h1]
  exact List.getElem?_eq_getElem l
theorem oq_ix_t {Q : D → Prop} {i : Int} (h0 : 0 ≤ i) (h1 : i < ds.length) (h : ∀ z, ds[i.toNat]? = some z → Q z) : oq (dIx (.tuple ds) (.int i)) Q := by
  have l : i.toNat < ds.length := by omega
  refine ⟨ds[i.toNat], ?_, h _ (List.getElem?_eq_getElem l)⟩
  show (ixN ds.length i).bind _ = _
  rw [ixN_in h0 h1]
  exact List.getElem?_eq_getElem l
theorem oq_len_l {Q : D → Prop} (h : Q (.int ds.length)) : oq (dLen [.list ds]) Q := ⟨_, rfl, h⟩
theorem oq_len_t {Q : D → Prop} (h : Q (.int ds.length)) : oq (dLen [.tuple ds]) Q := ⟨_, rfl, h⟩
theorem oq_len_s {Q : D → Prop} (l : s.length ≤ 100000) (h : Q (.int s.length)) : oq (dLen [.str s]) Q := ⟨_, if_pos l, h⟩
theorem oq_int {Q : D → Prop} (h : Q (.int x)) : oq (dInt [.int x]) Q := ⟨_, rfl, h⟩
theorem oq_abs {Q : D → Prop} (h : Q (.int (if x < 0 then -x else x))) : oq (dAbs [.int x]) Q := ⟨_, rfl, h⟩
theorem oq_ord {Q : D → Prop} {k : Nat} (h : Q (.int k)) : oq (dOrd [.str ⟨#[k]⟩]) Q := ⟨_, rfl, h⟩
theorem oq_cut_l {Q : D → Prop} {lo hi : Option Int} (h : Q (.list (cutD ds lo hi))) : oq (dCut (.list ds) lo hi) Q := ⟨_, rfl, h⟩
theorem oq_cut_t {Q : D → Prop} {lo hi : Option Int} (h : Q (.tuple (cutD ds lo hi))) : oq (dCut (.tuple ds) lo hi) Q := ⟨_, rfl, h⟩
theorem oq_cut_s {Q : D → Prop} {lo hi : Option Int} (l : s.length ≤ 100000) (h : Q (.str (cutS s lo hi))) : oq (dCut (.str s) lo hi) Q := ⟨_, if_pos l, h⟩
theorem oq_append {Q : D × List D → Prop} (l : ds.length < 100000) (h : Q (.none, ds ++ [d])) : oq (muAppend ds [d]) Q := ⟨_, if_pos l, h⟩
theorem oq_list_l {Q : D → Prop} (h : Q (.list ds)) : oq (dList [.list ds]) Q := ⟨_, rfl, h⟩
theorem oq_list_t {Q : D → Prop} (h : Q (.list ds)) : oq (dList [.tuple ds]) Q := ⟨_, rfl, h⟩
theorem oq_tuple_l {Q : D → Prop} (h : Q (.tuple ds)) : oq (dTuple [.list ds]) Q := ⟨_, rfl, h⟩
theorem oq_tuple_t {Q : D → Prop} (h : Q (.tuple ds)) : oq (dTuple [.tuple ds]) Q := ⟨_, rfl, h⟩
theorem oq_max2 {Q : D → Prop} (h : Q (.int (if y > x then y else x))) : oq (dMax2 [.int x, .int y]) Q := ⟨_, rfl, h⟩
theorem oq_min2 {Q : D → Prop} (h : Q (.int (if y < x then y else x))) : oq (dMin2 [.int x, .int y]) Q := ⟨_, rfl, h⟩
theorem toInts_map {α : Type} (f : α → Int) : ∀ xs : List α, toInts (xs.map fun x => PyData.int (f x)) = some (xs.map f)
  | [] => rfl
  | x :: xs => by
    show (toInts (xs.map fun x => PyData.int (f x))).map _ = _
    rw [toInts_map f xs]
    rfl
theorem oq_sum {α : Type} {f : α → Int} {xs : List α} {Q : D → Prop} (h : Q (.int (xs.map f).sum)) : oq (dSum [.list (xs.map fun x => .int (f x))]) Q := by
  refine ⟨_, ?_, h⟩
  show (toInts _).map _ = _
  rw [toInts_map]
  rfl
theorem oq_ix_lk {ds : List D} {i : Int} {z : D} {Q : D → Prop} (e : ((ixN ds.length i).bind fun j => ds[j]?) = some z) (h : Q z) : oq (dIx (.list ds) (.int i)) Q := ⟨z, e, h⟩
theorem oq_ix_tk {ds : List D} {i : Int} {z : D} {Q : D → Prop} (e : ((ixN ds.length i).bind fun j => ds[j]?) = some z) (h : Q z) : oq (dIx (.tuple ds) (.int i)) Q := ⟨z, e, h⟩
theorem oq_ixN_k {n : Nat} {i : Int} {j : Nat} {Q : Nat → Prop} (e : ixN n i = some j) (h : Q j) : oq (ixN n i) Q := ⟨j, e, h⟩
theorem oq_len_sc {ns : List Int} {Q : D → Prop} (h : Q (.int ns.length)) : oq (dLen [scriptD ns]) Q := ⟨_, by unfold scriptD dLen; simp, h⟩
theorem oq_ix_sc {ns : List Int} {i : Int} {Q : D → Prop} (h0 : 0 ≤ i) (h1 : i < ns.length) (h : ∀ z, ns[i.toNat]? = some z → Q (.int z)) : oq (dIx (scriptD ns) (.int i)) Q := by
  refine oq_ix_l h0 (by simpa using h1) fun z e => ?_
  have l : i.toNat < ns.length := by omega
  rw [List.getElem?_map, List.getElem?_eq_getElem l] at e
  cases e
  exact h _ (List.getElem?_eq_getElem l)
theorem oq_rep {a : List D} {k : Int} {Q : D → Prop} (l : k < 2 ^ 63 ∧ -(2 ^ 63) ≤ k ∧ a.length * k.toNat ≤ 100000) (h : Q (.list (List.replicate k.toNat a).flatten)) : oq (dRep (.list a) (.int k)) Q := ⟨_, if_pos l, h⟩
theorem oq_insert {ds : List D} {d : D} {i : Int} {Q : D × List D → Prop} (l : ds.length < 100000 ∧ 0 ≤ i ∧ i < 2 ^ 63) (h : Q (.none, ds.take i.toNat ++ [d] ++ ds.drop i.toNat)) : oq (muInsert ds [.int i, d]) Q := ⟨_, if_pos l, h⟩
theorem okD_ints (k : Nat) : ∀ xs : List Int, (xs.map PyData.int).all (okD k) = true
  | [] => rfl
  | x :: xs => by
    rw [List.map_cons, List.all_cons, okD_ints k xs]
    cases k <;> rfl
theorem eqv_ints : ∀ xs ys : List Int, PyData.eqvAll (xs.map PyData.int) (ys.map PyData.int) = decide (xs = ys)
  | [], [] => by simp [PyData.eqvAll]
  | [], y :: ys => by simp [PyData.eqvAll]
  | x :: xs, [] => by simp [PyData.eqvAll]
  | x :: xs, y :: ys => by
    simp only [List.map_cons, PyData.eqvAll, PyData.eqv]
    rw [eqv_ints xs ys]
    by_cases h : x = y <;> simp [h]
theorem dEqB_il (xs ys : List Int) : dEqB (.list (xs.map .int)) (.list (ys.map .int)) = some (decide (xs = ys)) := by
  show (if okD 60 (.list (xs.map .int)) = true ∧ okD 60 (.list (ys.map .int)) = true then _ else _) = _
  rw [if_pos ⟨okD_ints 59 xs, okD_ints 59 ys⟩]
  simp only [PyData.eqv]
  rw [eqv_ints]
theorem dEqB_it (xs ys : List Int) : dEqB (.tuple (xs.map .int)) (.tuple (ys.map .int)) = some (decide (xs = ys)) := by
  show (if okD 60 (.tuple (xs.map .int)) = true ∧ okD 60 (.tuple (ys.map .int)) = true then _ else _) = _
  rw [if_pos ⟨okD_ints 59 xs, okD_ints 59 ys⟩]
  simp only [PyData.eqv]
  rw [eqv_ints]
theorem oq_eq_il (h : Q (.bool (decide (xs = ys)))) : oq (dEq (.list (xs.map .int)) (.list (ys.map .int))) Q := oq_eq_d (dEqB_il xs ys) h
theorem oq_ne_il (h : Q (.bool (!decide (xs = ys)))) : oq (dNe (.list (xs.map .int)) (.list (ys.map .int))) Q := oq_ne_d (dEqB_il xs ys) h
theorem oq_eq_it (h : Q (.bool (decide (xs = ys)))) : oq (dEq (.tuple (xs.map .int)) (.tuple (ys.map .int))) Q := oq_eq_d (dEqB_it xs ys) h
theorem oq_ne_it (h : Q (.bool (!decide (xs = ys)))) : oq (dNe (.tuple (xs.map .int)) (.tuple (ys.map .int))) Q := oq_ne_d (dEqB_it xs ys) h
def lexI : List Int → List Int → Bool
  | [], [] => false
  | [], _ :: _ => true
  | _ :: _, [] => false
  | x :: xs, y :: ys => if x = y then lexI xs ys else decide (x < y)
theorem lexI_eq : ∀ xs ys : List Int, PySem.W.listLt xs ys = lexI xs ys
  | [], [] => rfl
  | [], _ :: _ => rfl
  | _ :: _, [] => rfl
  | x :: xs, y :: ys => by
    show (if x = y then PySem.W.listLt xs ys else _) = (if x = y then lexI xs ys else _)
    rw [lexI_eq xs ys]
    rfl
theorem alike_ints : ∀ xs ys : List Int, PySem.W.alikeAll (xs.map PyData.int) (ys.map PyData.int) = true := fun xs ys => PySem.W.alikeAll_map xs ys
theorem okC_il (xs ys : List Int) : okC (.list (xs.map .int)) (.list (ys.map .int)) = true := by
  unfold okC
  rw [show okD 60 (.list (xs.map .int)) = true from okD_ints 59 xs, show okD 60 (.list (ys.map .int)) = true from okD_ints 59 ys]
  simp only [PySem.W.alike]
  rw [alike_ints]
  rfl
theorem okC_it (xs ys : List Int) : okC (.tuple (xs.map .int)) (.tuple (ys.map .int)) = true := by
  unfold okC
  rw [show okD 60 (.tuple (xs.map .int)) = true from okD_ints 59 xs, show okD 60 (.tuple (ys.map .int)) = true from okD_ints 59 ys]
  simp only [PySem.W.alike]
  rw [alike_ints]
  rfl
theorem lt_il (xs ys : List Int) : PySem.W.dataLt (.list (xs.map .int)) (.list (ys.map .int)) = lexI xs ys := (PySem.W.DatumOrd.lt_eq xs ys).trans (lexI_eq xs ys)
theorem lt_it (xs ys : List Int) : PySem.W.dataLt (.tuple (xs.map .int)) (.tuple (ys.map .int)) = lexI xs ys := (PySem.W.DatumOrd.lt_eq (PySem.W.Tup.mk xs) (PySem.W.Tup.mk ys)).trans (lexI_eq xs ys)
theorem oq_lt_il (h : Q (.bool (lexI xs ys))) : oq (dLt (.list (xs.map .int)) (.list (ys.map .int))) Q := by
  refine ⟨_, ?_, h⟩
  show (if okC _ _ = true then some (PyData.bool (PySem.W.dataLt _ _)) else none) = _
  rw [if_pos (okC_il xs ys), lt_il]
theorem oq_lt_it (h : Q (.bool (lexI xs ys))) : oq (dLt (.tuple (xs.map .int)) (.tuple (ys.map .int))) Q := by
  refine ⟨_, ?_, h⟩
  show (if okC _ _ = true then some (PyData.bool (PySem.W.dataLt _ _)) else none) = _
  rw [if_pos (okC_it xs ys), lt_it]
theorem oq_ix_mf {β : Type} {xs : List β} {u : β → D} {i : Int} {k : Nat} (hi : i = (k : Int)) (h : k < xs.length) (q : Q (u xs[k])) : oq (dIx (.list (xs.map u)) (.int i)) Q := by
  subst hi
  refine oq_ix_l (by omega) (by simpa using h) fun z e => ?_
  rw [Int.toNat_natCast, List.getElem?_map, List.getElem?_eq_getElem h] at e
  cases e
  exact q
theorem numsC_map : ∀ (n : Nat) (lo st : Int), numsC lo st n = (List.range n).map fun k => .int (lo + (k : Nat) * st)
  | 0, _, _ => rfl
  | n + 1, lo, st => by
    rw [List.range_succ_eq_map, List.map_cons, List.map_map]
    show PyData.int lo :: numsC (lo + st) st n = _
    rw [numsC_map n (lo + st) st]
    congr 1
    · simp
    · refine List.map_congr_left fun k _ => ?_
      show PyData.int _ = PyData.int _
      congr 1
      show lo + st + (k : Int) * st = lo + ((k : Int) + 1) * st
      rw [Int.add_mul, Int.one_mul]
      omega
theorem oq_iadd_i (h : Q (.int (x + y))) : oq (dIAdd (.int x) (.int y)) Q := ⟨_, rfl, h⟩
theorem oq_isT {a b : Bool} (q : Q (.bool (decide (a = b)))) : oq (dIsT (.bool a) (.bool b)) Q := ⟨_, rfl, q⟩
theorem oq_isNotT {a b : Bool} (q : Q (.bool (!decide (a = b)))) : oq (dIsNotT (.bool a) (.bool b)) Q := ⟨_, rfl, q⟩
end
end Hz
namespace Hz
open PySem L2
def S (l : List Nat) : Str := ⟨l.toArray⟩
def pos (c : Nat) : List Nat → Nat → List Nat
  | [], _ => []
  | x :: l, i => if x = c then i :: pos c l (i + 1) else pos c l (i + 1)
end Hz
namespace Hz
open PySem L2
end Hz
namespace Hz
open PySem L2
def kEqB : D → D → Bool
  | .int a, .int b => decide (a = b)
  | .str a, .str b => decide (a = b)
  | _, _ => false
def isK : D → Bool
  | .int _ => true
  | .str _ => true
  | _ => false
def realD (ds : List (D × D)) : Bool := ds.all fun p => isK p.1
def lookP (k : D) : List (D × D) → Option D
  | [] => none
  | (j, d) :: r => if kEqB j k = true then some d else lookP k r
def putP (k d : D) (ds : List (D × D)) : List (D × D) := if (lookP k ds).isSome = true then ds.map (fun p => if kEqB p.1 k = true then (p.1, d) else p) else ds ++ [(k, d)]
def dropP (k : D) (ds : List (D × D)) : List (D × D) := ds.filter fun p => !kEqB p.1 k
theorem kEqB_kD (a b : Key) : kEqB (kD a) (kD b) = decide (a = b) := by
  cases a <;> cases b <;> simp [kD, kEqB]
theorem isK_of {d : D} (h : isK d = true) : ∃ k, d = kD k := by
  cases d with
  | int i => exact ⟨.inl i, rfl⟩
  | str i => exact ⟨.inr i, rfl⟩
  | _ => cases h
theorem kD_isK (k : Key) : isK (kD k) = true := by cases k <;> rfl
theorem kD_rp {K : Frag} {H : Hp} {v : V} {k : Key} (h : Rp K H v (kD k)) : v = L2.kV k := by
  cases k with
  | inl i => exact h.inti
  | inr i => exact h.stri
theorem kV_rp {K : Frag} {H : Hp} (k : Key) : Rp K H (L2.kV k) (kD k) := by
  cases k with
  | inl i => exact .int i
  | inr i => exact .str i
theorem RpK.real {K : Frag} {H : Hp} : ∀ {kvs : List (Key × V)} {ds : List (D × D)}, RpK K H kvs ds → realD ds = true
  | _, _, .nil => rfl
  | _, _, .cons (k := k) h r => by
    show (isK (kD k) && realD _) = true
    rw [kD_isK, r.real]
    rfl
theorem RpK.length {K : Frag} {H : Hp} : ∀ {kvs : List (Key × V)} {ds : List (D × D)}, RpK K H kvs ds → kvs.length = ds.length
  | _, _, .nil => rfl
  | _, _, .cons h r => by rw [List.length_cons, List.length_cons, r.length]
theorem RpK.look {K : Frag} {H : Hp} (κ : Key) : ∀ {kvs : List (Key × V)} {ds : List (D × D)}, RpK K H kvs ds → (lookP (kD κ) ds = none ∧ valV kvs κ = none) ∨ ∃ d v, lookP (kD κ) ds = some d ∧ valV kvs κ = some v ∧ Rp K H v d
  | _, _, .nil => .inl ⟨rfl, rfl⟩
  | _, _, .cons (k := k) (v := v) (d := d) h r => by
    have e : kEqB (kD k) (kD κ) = decide (k = κ) := kEqB_kD k κ
    by_cases q : k = κ
    · refine .inr ⟨d, v, ?_, valV_pos q, h⟩
      rw [lookP, e, decide_eq_true q, if_pos rfl]
    · rw [lookP, e, decide_eq_false q, if_neg (by simp), valV_neg q]
      exact r.look κ
theorem RpK.append {K : Frag} {H : Hp} : ∀ {kvs ls : List (Key × V)} {ds es : List (D × D)}, RpK K H kvs ds → RpK K H ls es → RpK K H (kvs ++ ls) (ds ++ es)
  | _, _, _, _, .nil, s => s
  | _, _, _, _, .cons h r, s => .cons h (r.append s)
theorem RpK.mapK {K : Frag} {H : Hp} {κ : Key} {w : V} {e : D} (q : Rp K H w e) : ∀ {kvs : List (Key × V)} {ds : List (D × D)}, RpK K H kvs ds → RpK K H (kvs.map fun kv => if kv.1 = κ then (kv.1, w) else kv) (ds.map fun p => if kEqB p.1 (kD κ) = true then (p.1, e) else p)
  | _, _, .nil => .nil
  | _, _, .cons (k := k) (v := v) (d := d) h r => by
    have z : kEqB (kD k) (kD κ) = decide (k = κ) := kEqB_kD k κ
    rw [List.map_cons, List.map_cons]
    simp only [z]
    by_cases c : k = κ
    · rw [if_pos c, decide_eq_true c, if_pos rfl]
      exact .cons q (r.mapK q)
    · rw [if_neg c, decide_eq_false c, if_neg (by simp)]
      exact .cons h (r.mapK q)
theorem RpK.put {K : Frag} {H : Hp} {κ : Key} {w : V} {e : D} {kvs : List (Key × V)} {ds : List (D × D)} (q : Rp K H w e) (r : RpK K H kvs ds) : RpK K H (putK kvs κ w) (putP (kD κ) e ds) := by
  unfold putK putP
  rw [valV_any]
  rcases r.look κ with ⟨h1, h2⟩ | ⟨d, v, h1, h2, _⟩
  · rw [h1, h2]
    exact r.append (.cons q .nil)
  · rw [h1, h2]
    exact r.mapK q
theorem RpK.drop {K : Frag} {H : Hp} {κ : Key} : ∀ {kvs : List (Key × V)} {ds : List (D × D)}, RpK K H kvs ds → RpK K H (dropK kvs κ) (dropP (kD κ) ds)
  | _, _, .nil => .nil
  | _, _, .cons (k := k) (v := v) (d := d) h r => by
    have z : kEqB (kD k) (kD κ) = decide (k = κ) := kEqB_kD k κ
    have ih := r.drop (κ := κ)
    unfold dropK dropP at ih ⊢
    by_cases c : k = κ
    · rw [List.filter_cons_of_neg (by simp [c]), List.filter_cons_of_neg (by show ¬ (!kEqB (kD k) (kD κ)) = true; rw [z, decide_eq_true c]; simp)]
      exact ih
    · rw [List.filter_cons_of_pos (by simp [c]), List.filter_cons_of_pos (by show (!kEqB (kD k) (kD κ)) = true; rw [z, decide_eq_false c]; rfl)]
      exact .cons h ih
theorem Rs.dictK {K : Frag} {B : Addr → Bool} {H : Hp} {v : V} {ds : List (D × D)} (h : Rs K B H v (.dict ds)) (r : realD ds = true) : ∃ a kvs, v = .ref a ∧ Rd H a (.dK kvs) ∧ RpK K (hide B H) kvs ds := by
  cases h with
  | vis h =>
    cases h with
    | dct h k => exact ⟨_, _, rfl, sub_rd (hide_sub B H) h, k⟩
    | obj h k => cases r
    | fdc h k => cases r
    | fnc => cases r
    | ref => cases r
    | exc h k => cases r
  | dct h k => exact ⟨_, _, rfl, h, k⟩
  | obj h k => cases r
  | fdc h k => cases r
theorem Bs.dict {K : Frag} {B : Addr → Bool} {H : Hp} {α : AH} {l : Addr} {ds : List (D × D)} (S : Bs K B H α) (h : α l = some (.dict ds)) (r : realD ds = true) : B l = true ∧ ∃ kvs, H l = some (.dK kvs) ∧ RpK K (hide B H) kvs ds := by
  obtain ⟨h1, h2⟩ := S.cel l _ h
  refine ⟨h1, ?_⟩
  generalize ez : PyData.dict ds = z at h2
  generalize eo : H l = o at h2
  cases h2 with
  | own h =>
    subst ez
    exact h
  | obj h =>
    injection ez with ez
    subst ez
    cases r
  | lck h =>
    injection ez with ez
    subst ez
    cases r
theorem real_nl {ds : List (D × D)} (r : realD ds = true) : ∀ es : List (D × D), PyData.dict ds ≠ .dict ((.none, .none) :: es) := fun es e => by
  injection e with e
  subst e
  cases r
/-- a dict that stays as it is -/
def fzD (ds : List (D × D)) : D := .dict ((.none, .none) :: ds)
theorem Rs.dictF {K : Frag} {B : Addr → Bool} {H : Hp} {v : V} {ds : List (D × D)} (h : Rs K B H v (fzD ds)) : ∃ a o kvs, v = .ref a ∧ H a = some (.frz o (.dK kvs)) ∧ RpK K (hide B H) kvs ds := by
  unfold fzD at h
  have no : ∀ {kvs : List (Key × V)} {es : List (D × D)}, RpK K (hide B H) kvs ((.none, .none) :: es) → False := fun r => by
    have := r.real
    cases this
  cases h with
  | vis h =>
    cases h with
    | dct h k => exact (no k).elim
    | fdc h k => exact ⟨_, _, _, rfl, (hide_some h).2, k⟩
  | dct h k => exact (no k).elim
  | fdc h k => exact ⟨_, _, _, rfl, h, k⟩
/-- a dict that may be read -/
def dcD (α : AH) (o : D) (R : List (D × D) → Prop) : Prop := ∃ ds, (vw α o = some (.dict ds) ∨ vw α o = some (fzD ds)) ∧ realD ds = true ∧ R ds
theorem dc_rs {K : Frag} {B : Addr → Bool} {H : Hp} {α : AH} {v : V} {o : D} {ds : List (D × D)} (S : Bs K B H α) (h : Rp K (hide B H) v o) (e : vw α o = some (.dict ds) ∨ vw α o = some (fzD ds)) (r : realD ds = true) : ∃ a kvs, v = .ref a ∧ Rd H a (.dK kvs) ∧ RpK K (hide B H) kvs ds := by
  rcases e with e | e
  · exact (vw_rs S h e).dictK r
  · obtain ⟨a, o, kvs, h1, h2, h3⟩ := (vw_rs S h e).dictF
    exact ⟨a, kvs, h1, .inr ⟨o, h2⟩, h3⟩
/-- a dict that may be changed -/
def cellDi (α : AH) (o : D) (R : Addr → List (D × D) → Prop) : Prop := ∃ a ds, o = dref a ∧ α a = some (.dict ds) ∧ realD ds = true ∧ R a ds
def dgetK (mo mk : ME) : ME := fun ρ α Q E => mo ρ α (fun o α1 => mk ρ α1 (fun k α2 => dcD α2 o fun ds => isK k = true ∧ oq (lookP k ds) fun z => Q z α2) E) E
def dget1K (mo mk : ME) : ME := fun ρ α Q E => mo ρ α (fun o α1 => dcD α1 o fun _ => mk ρ α1 (fun k α2 => dcD α2 o fun ds => isK k = true ∧ Q ((lookP k ds).getD .none) α2) E) E
def dget2K (mo mk md : ME) : ME := fun ρ α Q E => mo ρ α (fun o α1 => dcD α1 o fun _ => mk ρ α1 (fun k α2 => md ρ α2 (fun x α3 => dcD α3 o fun ds => isK k = true ∧ Q ((lookP k ds).getD x) α3) E) E) E
def dinK (neg : Bool) (mk mo : ME) : ME := fun ρ α Q E => mk ρ α (fun k α1 => mo ρ α1 (fun o α2 => dcD α2 o fun ds => isK k = true ∧ Q (.bool (if neg = true then !(lookP k ds).isSome else (lookP k ds).isSome)) α2) E) E
def dpop2K (mo mk md : ME) : ME := fun ρ α Q E => mo ρ α (fun o α1 => dcD α1 o fun _ => mk ρ α1 (fun k α2 => md ρ α2 (fun x α3 => cellDi α3 o fun a ds => isK k = true ∧ (∀ z, lookP k ds = some z → Q z (aset α3 a (.dict (dropP k ds)))) ∧ (lookP k ds = none → Q x α3)) E) E) E
def dpop1K (mo mk : ME) : ME := fun ρ α Q E => mo ρ α (fun o α1 => dcD α1 o fun _ => mk ρ α1 (fun k α2 => cellDi α2 o fun a ds => isK k = true ∧ oq (lookP k ds) fun z => Q z (aset α2 a (.dict (dropP k ds)))) E) E
def dputS (me mo mk : ME) : MS := fun ρ α D => me ρ α (fun d α1 => mo ρ α1 (fun o α2 => mk ρ α2 (fun k α3 => cellDi α3 o fun a ds => isK k = true ∧ ds.length < 100000 ∧ D.nx ρ (aset α3 a (.dict (putP k d ds)))) (fun x α1 => D.ex x ρ α1)) (fun x α1 => D.ex x ρ α1)) (fun x α1 => D.ex x ρ α1)
def daugS (g : D → D → Option D) (mo mk me : ME) : MS := fun ρ α D => mo ρ α (fun o α1 => mk ρ α1 (fun k α2 => dcD α2 o fun ds0 => isK k = true ∧ oq (lookP k ds0) fun v => me ρ α2 (fun d α3 => oq (g v d) fun z => cellDi α3 o fun a ds => ds.length < 100000 ∧ D.nx ρ (aset α3 a (.dict (putP k z ds)))) (fun x α1 => D.ex x ρ α1)) (fun x α1 => D.ex x ρ α1)) (fun x α1 => D.ex x ρ α1)
def dnewK : ME := fun _ α Q _ => Q (.dict []) α
def lenDK (mo : ME) : ME := fun ρ α Q E => mo ρ α (fun o α1 => cellDi α1 o fun _ ds => Q (.int ds.length) α1) E
section
variable {K : Frag} {W : WX} {ma mb md : ME} {ta tb td : TE}
theorem sd_dget (ha : Sd K W ta ma) (hb : Sd K W tb mb) : Sd K W (tDGet ta tb) (dgetK ma mb) := fun B σ H ρ α S Qm Em m Q q x => by
  refine ha B σ H ρ α S _ Em m _ (fun v o B1 H1 α1 A1 r1 m => ?_) x
  refine hb B1 σ H1 ρ α1 (S.step A1) _ Em m _ (fun u k B2 H2 α2 A2 r2 m => ?_) (x.after S.bs A1)
  obtain ⟨ds, e, hr, hk, z, hz, m⟩ := m
  obtain ⟨κ, rfl⟩ := isK_of hk
  obtain ⟨a, kvs, rfl, hd, rk⟩ := dc_rs A2.bs (r1.mono A2.sub) e hr
  rcases rk.look κ with ⟨l, _⟩ | ⟨d, v, l1, l2, rv⟩
  · rw [l] at hz; cases hz
  · rw [l1] at hz
    cases hz
    exact ⟨a, v, rfl, .inl ⟨kvs, κ, hd, kD_rp r2, l2.symm⟩, q v _ B2 H2 α2 (A1.trans S.bs A2) rv m⟩
theorem sd_dget2 (ha : Sd K W ta ma) (hb : Sd K W tb mb) (hc : Sd K W td md) : Sd K W (tDGet2 ta tb td) (dget2K ma mb md) := fun B σ H ρ α S Qm Em m Q q x => by
  refine ha B σ H ρ α S _ Em m _ (fun v o B1 H1 α1 A1 r1 m => ?_) x
  obtain ⟨ds0, e0, hr0, m⟩ := m
  obtain ⟨a, kvs0, rfl, hd0, _⟩ := dc_rs A1.bs r1 e0 hr0
  refine ⟨a, rfl, .inl ⟨_, hd0⟩, ?_⟩
  refine hb B1 σ H1 ρ α1 (S.step A1) _ Em m _ (fun u k B2 H2 α2 A2 r2 m => ?_) (x.after S.bs A1)
  have A12 := A1.trans S.bs A2
  refine hc B2 σ H2 ρ α2 (S.step A12) _ Em m _ (fun w dx B3 H3 α3 A3 r3 m => ?_) (x.after S.bs A12)
  obtain ⟨ds, e, hr, hk, m⟩ := m
  obtain ⟨κ, rfl⟩ := isK_of hk
  obtain ⟨a', kvs, ea, hd, rk⟩ := dc_rs A3.bs (r1.mono (A2.sub.trans A3.sub)) e hr
  obtain rfl : a = a' := by injection ea
  refine ⟨valV kvs κ, .inl ⟨kvs, κ, hd, kD_rp r2, rfl⟩, ?_⟩
  have A := A12.trans S.bs A3
  rcases rk.look κ with ⟨l, l2⟩ | ⟨d, v, l1, l2, rv⟩
  · rw [l] at m
    rw [l2]
    exact q w dx B3 H3 α3 A r3 m
  · rw [l1] at m
    rw [l2]
    exact q v _ B3 H3 α3 A rv m
theorem sd_din (ha : Sd K W ta ma) (hb : Sd K W tb mb) : Sd K W (tDIn ta tb) (dinK false ma mb) := fun B σ H ρ α S Qm Em m Q q x => by
  refine ha B σ H ρ α S _ Em m _ (fun u k B1 H1 α1 A1 r1 m => ?_) x
  refine hb B1 σ H1 ρ α1 (S.step A1) _ Em m _ (fun v o B2 H2 α2 A2 r2 m => ?_) (x.after S.bs A1)
  obtain ⟨ds, e, hr, hk, m⟩ := m
  obtain ⟨κ, rfl⟩ := isK_of hk
  obtain ⟨a, kvs, rfl, hd, rk⟩ := dc_rs A2.bs r2 e hr
  refine ⟨a, valV kvs κ, rfl, .inl ⟨kvs, κ, hd, kD_rp r1, rfl⟩, ?_⟩
  have m : Qm (.bool (lookP (kD κ) ds).isSome) α2 := m
  rcases rk.look κ with ⟨l, l2⟩ | ⟨d, w, l1, l2, rv⟩
  · rw [l] at m
    rw [l2]
    exact q _ _ B2 H2 α2 (A1.trans S.bs A2) (.bl _) m
  · rw [l1] at m
    rw [l2]
    exact q _ _ B2 H2 α2 (A1.trans S.bs A2) (.bl _) m
theorem sd_dnotin (ha : Sd K W ta ma) (hb : Sd K W tb mb) : Sd K W (tDNotIn ta tb) (dinK true ma mb) := fun B σ H ρ α S Qm Em m Q q x => by
  refine ha B σ H ρ α S _ Em m _ (fun u k B1 H1 α1 A1 r1 m => ?_) x
  refine hb B1 σ H1 ρ α1 (S.step A1) _ Em m _ (fun v o B2 H2 α2 A2 r2 m => ?_) (x.after S.bs A1)
  obtain ⟨ds, e, hr, hk, m⟩ := m
  obtain ⟨κ, rfl⟩ := isK_of hk
  obtain ⟨a, kvs, rfl, hd, rk⟩ := dc_rs A2.bs r2 e hr
  refine ⟨a, valV kvs κ, rfl, .inl ⟨kvs, κ, hd, kD_rp r1, rfl⟩, ?_⟩
  have m : Qm (.bool (!(lookP (kD κ) ds).isSome)) α2 := m
  rcases rk.look κ with ⟨l, l2⟩ | ⟨d, w, l1, l2, rv⟩
  · rw [l] at m
    rw [l2]
    exact q _ _ B2 H2 α2 (A1.trans S.bs A2) (.bl _) m
  · rw [l1] at m
    rw [l2]
    exact q _ _ B2 H2 α2 (A1.trans S.bs A2) (.bl _) m
theorem sd_dpop2 (ha : Sd K W ta ma) (hb : Sd K W tb mb) (hc : Sd K W td md) : Sd K W (tDPop2 ta tb td) (dpop2K ma mb md) := fun B σ H ρ α S Qm Em m Q q x => by
  refine ha B σ H ρ α S _ Em m _ (fun v o B1 H1 α1 A1 r1 m => ?_) x
  obtain ⟨ds0, e0, hr0, m⟩ := m
  obtain ⟨a, kvs0, rfl, hd0, _⟩ := dc_rs A1.bs r1 e0 hr0
  refine ⟨a, rfl, .inl ⟨_, hd0⟩, ?_⟩
  refine hb B1 σ H1 ρ α1 (S.step A1) _ Em m _ (fun u k B2 H2 α2 A2 r2 m => ?_) (x.after S.bs A1)
  have A12 := A1.trans S.bs A2
  refine hc B2 σ H2 ρ α2 (S.step A12) _ Em m _ (fun w dx B3 H3 α3 A3 r3 m => ?_) (x.after S.bs A12)
  obtain ⟨a', ds, rfl, e, hr, hk, m1, m2⟩ := m
  obtain ⟨κ, rfl⟩ := isK_of hk
  obtain rfl : a = a' := by
    have := r1.cell
    injection this
  obtain ⟨bl, kvs, hd, rk⟩ := A3.bs.dict e hr
  have A := A12.trans S.bs A3
  refine ⟨kvs, κ, hd, kD_rp r2, fun y hy => ?_, fun hy => ?_⟩
  · rcases rk.look κ with ⟨_, l2⟩ | ⟨d, w, l1, l2, rv⟩
    · rw [hy] at l2; cases l2
    · rw [hy] at l2
      cases l2
      have wr := Af.write (o := .dK (dropK kvs κ)) (c := .dict (dropP (kD κ) ds)) A3.bs e (.own ⟨_, rfl, rk.drop⟩) (real_nl hr)
      exact q _ _ B3 _ _ (A.trans S.bs wr) (rv.mono wr.sub) (m1 d l1)
  · rcases rk.look κ with ⟨l1, _⟩ | ⟨d, w, l1, l2, rv⟩
    · exact q w dx B3 H3 α3 A r3 (m2 l1)
    · rw [hy] at l2; cases l2
theorem ss_dput {te to tk : TE} {me mo mk : ME} (h : Sd K W te me) (ho : Sd K W to mo) (hk : Sd K W tk mk) : SS K W (sDPut to tk te) (dputS me mo mk) := fun B σ H ρ α S D m Dn h' x => by
  refine h B σ H ρ α S _ _ m _ (fun v d B1 H1 α1 A1 r1 m => ?_) (x.sx S)
  have S1 := S.step A1
  refine ho B1 σ H1 ρ α1 S1 _ _ m _ (fun w o B2 H2 α2 A2 r2 m => ?_) ((x.sx S).after S.bs A1)
  have A12 := A1.trans S.bs A2
  refine hk B2 σ H2 ρ α2 (S.step A12) _ _ m _ (fun y k B3 H3 α3 A3 r3 m => ?_) ((x.sx S).after S.bs A12)
  obtain ⟨a, ds, rfl, e, hr, hkk, hl, m⟩ := m
  obtain ⟨κ, rfl⟩ := isK_of hkk
  obtain ⟨bl, kvs, hd, rk⟩ := A3.bs.dict e hr
  have hw := r2.cell
  subst hw
  have wr := Af.write (o := .dK (putK kvs κ v)) (c := .dict (putP (kD κ) d ds)) A3.bs e (.own ⟨_, rfl, rk.put (r1.mono (A2.sub.trans A3.sub))⟩) (real_nl hr)
  have A := (A12.trans S.bs A3).trans S.bs wr
  exact ⟨a, _, rfl, .inl ⟨kvs, κ, hd, kD_rp r3, Nat.lt_of_lt_of_le (by rw [rk.length]; exact hl) (by decide +kernel), rfl⟩, h'.nx _ _ _ _ _ A (S.step A) m⟩
end
section
variable {c : C0} {N : List Str} {sc : Scope} {o e i f : Expr} {p2 p3 pos p1 : Pos} {me mo mi ma mb mk md : ME}
theorem In.u1 {X : Cx} (I : In c N sc X) : X.A.units + 1 < cLine := by have := I.un; omega
theorem je_dget (ha : JE c N sc o mo) (hb : JE c N sc i mi) (hs : NoSl i := by intro ov iv; rfl) : JE c N sc (.Subscript o i pos) (dgetK mo mi) := by
  obtain ⟨ta, p1, s1⟩ := ha
  obtain ⟨tb, p2, s2⟩ := hb
  exact ⟨_, fun X W I T => pe_dget I.u1 (p1 X W I T) (p2 X W I T) hs, fun W => sd_dget (s1 W) (s2 W)⟩
theorem jt_din (ha : JE c N sc i mi) (hb : JE c N sc o mo) (hm : behindInMarks .In o = false := by rfl) : JT c N sc (.Compare i [.In] [o] pos) (tst (dinK false mi mo)) := by
  obtain ⟨ta, p1, s1⟩ := ha
  obtain ⟨tb, p2, s2⟩ := hb
  exact ⟨_, fun X W I T => pt_cmp (pc_din I.u1 (p1 X W I T) (p2 X W I T)) hm, fun W => st_tst (sd_din (s1 W) (s2 W))⟩
theorem jt_dnotin (ha : JE c N sc i mi) (hb : JE c N sc o mo) (hm : behindInMarks .NotIn o = false := by rfl) : JT c N sc (.Compare i [.NotIn] [o] pos) (tst (dinK true mi mo)) := by
  obtain ⟨ta, p1, s1⟩ := ha
  obtain ⟨tb, p2, s2⟩ := hb
  exact ⟨_, fun X W I T => pt_cmp (pc_dnotin I.u1 (p1 X W I T) (p2 X W I T)) hm, fun W => st_tst (sd_dnotin (s1 W) (s2 W))⟩
theorem jf_dnew : JF c N sc (.Dict [] [] pos) dnewK := ⟨fun _ => tDNewK, fun X W I T => pe_dnewK, fun W B σ H ρ α S Qm Em m Q q x p hp =>
  q p (.dict []) (ins p B) _ α (Af.cell S.bs (Sub.new hp) hp (.own ⟨[], by rw [upd_same], .nil⟩)) (S.bs.new hp) m⟩
theorem je_dget2 (h : JE c N sc o mo) (ha : JE c N sc e ma) (hb : JE c N sc f mb)
    (hbase : ∀ env, attributeBase o "get" env (eval o env) = eval o env := by intros; rfl)
    (hfew : ∀ env, ((backTo p3 (starEach [e, f] env)).all (fun x => !x.1) && (backToKw p3 (keywordEach [] env)).all (fun x => x.1.isSome) && decide (([e, f] : List Expr).length + ([] : List Keyword).length + (if ([] : List Keyword).isEmpty then 0 else 1) < 30)) = true := by intros; rfl)
    (hline : (p2.endLine == p3.line) = true := by rfl) (ht : ∀ env, backTo p3 (starEach [e, f] env) = [(false, eval e env), (false, eval f env)] := by intros; rfl) :
    JE c N sc (.Call (.Attribute o "get" p2) [e, f] [] p3) (dget2K mo ma mb) := by
  obtain ⟨t, h1, h2⟩ := h
  obtain ⟨u, k1, k2⟩ := ha
  obtain ⟨w, j1, j2⟩ := hb
  exact ⟨_, fun X W I T => pe_dget2 I.u1 (h1 X W I T) (k1 X W I T) (j1 X W I T) ⟨hbase _, hfew _, hline, ht _⟩, fun W => sd_dget2 (h2 W) (k2 W) (j2 W)⟩
theorem je_dpop2 (h : JE c N sc o mo) (ha : JE c N sc e ma) (hb : JE c N sc f mb)
    (hbase : ∀ env, attributeBase o "pop" env (eval o env) = eval o env := by intros; rfl)
    (hfew : ∀ env, ((backTo p3 (starEach [e, f] env)).all (fun x => !x.1) && (backToKw p3 (keywordEach [] env)).all (fun x => x.1.isSome) && decide (([e, f] : List Expr).length + ([] : List Keyword).length + (if ([] : List Keyword).isEmpty then 0 else 1) < 30)) = true := by intros; rfl)
    (hline : (p2.endLine == p3.line) = true := by rfl) (ht : ∀ env, backTo p3 (starEach [e, f] env) = [(false, eval e env), (false, eval f env)] := by intros; rfl) :
    JE c N sc (.Call (.Attribute o "pop" p2) [e, f] [] p3) (dpop2K mo ma mb) := by
  obtain ⟨t, h1, h2⟩ := h
  obtain ⟨u, k1, k2⟩ := ha
  obtain ⟨w, j1, j2⟩ := hb
  exact ⟨_, fun X W I T => pe_dpop2 (h1 X W I T) (k1 X W I T) (j1 X W I T) ⟨hbase _, hfew _, hline, ht _⟩, fun W => sd_dpop2 (h2 W) (k2 W) (j2 W)⟩
theorem js_dput {p4 : Pos} (h : JE c N sc e me) (ho : JE c N sc o mo) (hi : JE c N sc i mi) (hw : ∀ env, swapsWith e (some (.Subscript o i p4)) pos.line env = pure false := by intros; rfl) : JS c N sc (.Assign [.Subscript o i p4] e pos) (dputS me mo mi) := by
  obtain ⟨t, a1, a2⟩ := h
  obtain ⟨u, b1, b2⟩ := ho
  obtain ⟨w, d1, d2⟩ := hi
  exact ⟨_, fun X W I T => ps_dput I.u1 (b1 X W I T) (d1 X W I T) (a1 X W I T) (hw _), fun W => ss_dput (a2 W) (b2 W) (d2 W)⟩
end
end Hz
namespace Hz
open PySem L2
def fzK (m : ME) : ME := fun ρ α Q E => m ρ α (fun d α1 => cellDi α1 d fun p ds => Q (fzD ds) (adel α1 p)) E
section
variable {c : C0} {N : List Str} {sc : Scope} {o e i f tg : Expr} {p p2 p3 pos p1 : Pos} {me mo mi ma mb mk md : ME} {K : Frag} {W : WX} {x : Str}
theorem RpK.getK {K : Frag} {H : Hp} : ∀ {kvs : List (Key × V)} {ds : List (D × D)} {i : Nat} {d : D}, RpK K H kvs ds → (ds.map (·.1))[i]? = some d → ∃ k v e, kvs[i]? = some (k, v) ∧ d = kD k ∧ ds[i]? = some (kD k, e) ∧ Rp K H v e
  | _, _, _, _, .nil, h => by simp at h
  | _, _, 0, _, .cons h r, e => by
    simp at e
    exact ⟨_, _, _, rfl, e.symm, rfl, h⟩
  | _, _, i + 1, d, .cons h r, e => by
    obtain ⟨k, v, e2, h1, h2, h3, h4⟩ := RpK.getK (i := i) (d := d) r (by simpa using e)
    exact ⟨k, v, e2, by simpa using h1, h2, by simpa using h3, h4⟩
def sortDK (mo : ME) : ME := fun ρ α Q E => mo ρ α (fun o α1 => dcD α1 o fun ds => ds.length < 64 ∧ ((∃ ks : List Str, ds.map (·.1) = ks.map .str ∧ ∀ ys : List Str, ys.Perm ks → PyProof.Rows.sortedS ys = true → Q (.list (ys.map .str)) α1) ∨ ∃ ks : List Int, ds.map (·.1) = ks.map .int ∧ ∀ ys : List Int, ys.Perm ks → ys.Pairwise (· ≤ ·) → Q (.list (ys.map .int)) α1)) E
def listDK (mo : ME) : ME := fun ρ α Q E => mo ρ α (fun o α1 => dcD α1 o fun ds => Q (.list (ds.map (·.1))) α1) E
def dictDK (mo : ME) : ME := fun ρ α Q E => mo ρ α (fun o α1 => dcD α1 o fun ds => Q (.dict ds) α1) E
theorem RpK.keysS {K : Frag} {H : Hp} : ∀ {kvs : List (Key × V)} {ds : List (D × D)} {ks : List Str}, RpK K H kvs ds → ds.map (·.1) = ks.map .str → kvs.map (·.1) = ks.map Sum.inr
  | _, _, [], .nil, _ => rfl
  | _, _, [], .cons _ _, e => by cases e
  | _, _, _ :: _, .nil, e => by cases e
  | _, _, x :: ks, .cons (k := k) h r, e => by
    injection e with e1 e2
    cases k with
    | inl i => cases e1
    | inr y =>
      have e1 : PyData.str y = .str x := e1
      injection e1 with e1
      rw [List.map_cons, List.map_cons, r.keysS e2, ← e1]
theorem RpK.keysI {K : Frag} {H : Hp} : ∀ {kvs : List (Key × V)} {ds : List (D × D)} {ks : List Int}, RpK K H kvs ds → ds.map (·.1) = ks.map .int → kvs.map (·.1) = ks.map Sum.inl
  | _, _, [], .nil, _ => rfl
  | _, _, [], .cons _ _, e => by cases e
  | _, _, _ :: _, .nil, e => by cases e
  | _, _, x :: ks, .cons (k := k) h r, e => by
    injection e with e1 e2
    cases k with
    | inr i => cases e1
    | inl y =>
      have e1 : PyData.int y = .int x := e1
      injection e1 with e1
      rw [List.map_cons, List.map_cons, r.keysI e2, ← e1]
theorem own_lst {K : Frag} {B : Addr → Bool} {H : Hp} {l : Addr} {vs : List V} {ds : List D} (h : H l = none) (r : ∀ H', RpL K H' vs ds) : CellAt K (hide (ins l B) (upd H l (.lst vs))) ((upd H l (.lst vs)) l) (.list ds) := .own ⟨vs, by rw [upd_same], r _⟩
theorem je_sortD (hg : sc.names.lookup ("sorted" : Str) = some .globalImplicit) (hm : c.mg ("sorted" : Str) = none) (ha : JE c N sc e me) (hc : c.cm = true := by rfl)
    (he : ∀ env, starEach [e] env = (false, eval e env) :: starEach [] env := by intros; rfl) (hpl : ∀ env, (backTo pos (starEach [] env)).any (·.1) = false := by intros; rfl) : JF c N sc (.Call (.Name "sorted" p) [e] [] pos) (sortDK me) := by
  obtain ⟨t, a1, a2⟩ := ha
  refine ⟨fun W => tCB _ (tCons (t W) tNil), fun X W I T => pe_callB (CallR.or (call_sortedD (I.calm hc)) (call_sortedDI (I.calm hc))) (I.gl hg) (by rw [I.mg]; exact hm) (by decide +kernel) (pa_cons (a1 X W I T) pa_nil (he _)) (by decide) (by decide) (he _) (hpl _), fun W B σ H ρ α S Qm Em m Q q x => ?_⟩
  refine a2 W B σ H ρ α S _ Em m _ (fun v o B1 H1 α1 A r m => ?_) x
  obtain ⟨ds, e, hr, hl, m⟩ := m
  obtain ⟨a, kvs, rfl, hd, rk⟩ := dc_rs A.bs r e hr
  rcases m with ⟨ks, ek, m⟩ | ⟨ks, ek, m⟩
  · refine .inl ⟨a, kvs, ks, rfl, hd, rk.keysS ek, by have := congrArg List.length ek; simp at this; omega, fun ys l p1 p2 hn => ?_⟩
    exact q l _ (ins l B1) _ α1 (A.trans S.bs (Af.cell A.bs (Sub.new hn) hn (own_lst hn fun _ => RpL.strs ys))) (A.bs.new hn) (m ys p1 p2)
  · refine .inr ⟨a, kvs, ks, rfl, hd, rk.keysI ek, by have := congrArg List.length ek; simp at this; omega, fun ys l p1 p2 hn => ?_⟩
    exact q l _ (ins l B1) _ α1 (A.trans S.bs (Af.cell A.bs (Sub.new hn) hn (own_lst hn fun _ => RpL.ints ys))) (A.bs.new hn) (m ys p1 p2)
/-- dict(a list of pairs) -/
def pairsD : List D → Option (List (D × D))
  | [] => some []
  | .tuple [k, d] :: r => if isK k = true then (pairsD r).map fun z => (k, d) :: z else none
  | _ :: _ => none
def mergeP (ds more : List (D × D)) : List (D × D) := more.foldl (fun acc p => putP p.1 p.2 acc) ds
def dictPK (mo : ME) : ME := fun ρ α Q E => mo ρ α (fun o α1 => ∃ ds, vw α1 o = some (.list ds) ∧ oq (pairsD ds) fun ps => Q (.dict (mergeP [] ps)) α1) E
theorem RpK.merge {K : Frag} {H : Hp} : ∀ {more : List (Key × V)} {ms : List (D × D)}, RpK K H more ms → ∀ {kvs : List (Key × V)} {ds : List (D × D)}, RpK K H kvs ds → RpK K H (mergeK kvs more) (mergeP ds ms)
  | _, _, .nil, _, _, r => r
  | _, _, .cons (k := k) h s, kvs, ds, r => RpK.merge s (r.put h)
theorem RpL.pairs {K : Frag} {H : Hp} : ∀ {vs : List V} {ds : List D} {ps : List (D × D)}, RpL K H vs ds → pairsD ds = some ps → ∃ (as : List Addr) (kvs : List (Key × V)), vs = as.map V.ref ∧ Paired (fun p kv => SqT K H p [L2.kV kv.1, kv.2]) as kvs ∧ RpK K H kvs ps
  | _, _, ps, .nil, e => by
    cases e
    exact ⟨[], [], rfl, .nil, .nil⟩
  | _, _, ps, .cons (v := v) (d := d) h r, e => by
    unfold pairsD at e
    split at e
    · cases ‹_ :: _ = []›
    · rename_i k d' r' ez
      injection ez with e1 e2
      subst e1 e2
      split at e
      · rename_i hk
        obtain ⟨κ, rfl⟩ := isK_of hk
        cases hz : pairsD _ with
        | none => rw [hz] at e; cases e
        | some z =>
          rw [hz] at e
          cases e
          obtain ⟨as, kvs, rfl, h1, h2⟩ := RpL.pairs r hz
          cases h with
          | tup hs rr _ =>
            cases rr with
            | cons r1 rr =>
              cases rr with
              | cons r2 rr =>
                cases rr
                have := kD_rp r1
                subst this
                exact ⟨_ :: as, (κ, _) :: kvs, rfl, .cons hs h1, .cons r2 h2⟩
      · cases e
    · cases e
theorem Paired.imp {α β : Type} {F G : α → β → Prop} (h : ∀ a b, F a b → G a b) : ∀ {as : List α} {bs : List β}, Paired F as bs → Paired G as bs
  | _, _, .nil => .nil
  | _, _, .cons a r => .cons (h _ _ a) (Paired.imp h r)
theorem je_dictP (hg : sc.names.lookup ("dict" : Str) = some .globalImplicit) (hm : c.mg ("dict" : Str) = none) (ha : JE c N sc e me) (hc : c.cm = true := by rfl)
    (he : ∀ env, starEach [e] env = (false, eval e env) :: starEach [] env := by intros; rfl) (hpl : ∀ env, (backTo pos (starEach [] env)).any (·.1) = false := by intros; rfl) : JF c N sc (.Call (.Name "dict" p) [e] [] pos) (dictPK me) := by
  obtain ⟨t, a1, a2⟩ := ha
  refine ⟨fun W => tCB (fun xs H Q => ∃ (a : Addr) (ps : List Addr) (kvs : List (Key × V)), xs = [.ref a] ∧ SqL c.K H a (ps.map V.ref) ∧ Paired (fun p kv => SqT c.K H p [L2.kV kv.1, kv.2]) ps kvs ∧ ∀ p, H p = none → Q (.ref p) (upd H p (.dK (mergeK [] kvs)))) (tCons (t W) tNil), fun X W I T => pe_callTy (by
    have h := call_dictP (X := X) (I.calm hc)
    rw [I.K] at h
    exact h) (I.gl hg) (by rw [I.mg]; exact hm) (by decide +kernel) (pa_cons (a1 X W I T) pa_nil (he _)) (by decide) (by decide) (he _) (hpl _), fun W B σ H ρ α S Qm Em m Q q x => ?_⟩
  refine a2 W B σ H ρ α S _ Em m _ (fun v o B1 H1 α1 A r m => ?_) x
  obtain ⟨ds, e, ps, hp, m⟩ := m
  obtain ⟨a, vs, rfl, h1, h2⟩ := (vw_rs A.bs r e).list
  obtain ⟨as, kvs, rfl, h3, h4⟩ := h2.pairs hp
  refine ⟨a, as, kvs, rfl, h1, Paired.imp (fun p kv z => sub_t (hide_sub B1 H1) z) h3, fun l hn => ?_⟩
  have o : OwnAt c.K (hide (ins l B1) (upd H1 l (.dK (mergeK [] kvs)))) ((upd H1 l (.dK (mergeK [] kvs))) l) (.dict (mergeP [] ps)) := ⟨_, by rw [upd_same], (RpK.merge h4 .nil).mono (sub_ins hn (hsub (Sub.new hn)))⟩
  exact q l _ (ins l B1) _ α1 (A.trans S.bs (Af.cell A.bs (Sub.new hn) hn (.own o))) (A.bs.new hn) m
end
end Hz
namespace Hz
open PySem L2
section
variable {ρ : En} {α : AH} {Q : QD} {QL : List D → AH → Prop} {E : QX} {D' : Md} {ma mb md mo mk me : ME} {g : D → D → Option D} {R : List (D × D) → Prop}
theorem w_dget (h : mo ρ α (fun o α1 => mk ρ α1 (fun k α2 => dcD α2 o fun ds => isK k = true ∧ oq (lookP k ds) fun z => Q z α2) E) E) : dgetK mo mk ρ α Q E := h
theorem w_dget1 (h : mo ρ α (fun o α1 => dcD α1 o fun _ => mk ρ α1 (fun k α2 => dcD α2 o fun ds => isK k = true ∧ Q ((lookP k ds).getD .none) α2) E) E) : dget1K mo mk ρ α Q E := h
theorem w_dget2 (h : mo ρ α (fun o α1 => dcD α1 o fun _ => mk ρ α1 (fun k α2 => md ρ α2 (fun x α3 => dcD α3 o fun ds => isK k = true ∧ Q ((lookP k ds).getD x) α3) E) E) E) : dget2K mo mk md ρ α Q E := h
theorem w_din (h : mk ρ α (fun k α1 => mo ρ α1 (fun o α2 => dcD α2 o fun ds => isK k = true ∧ Q (.bool (lookP k ds).isSome) α2) E) E) : dinK false mk mo ρ α Q E := h
theorem w_dnotin (h : mk ρ α (fun k α1 => mo ρ α1 (fun o α2 => dcD α2 o fun ds => isK k = true ∧ Q (.bool (!(lookP k ds).isSome)) α2) E) E) : dinK true mk mo ρ α Q E := h
theorem w_dpop1 (h : mo ρ α (fun o α1 => dcD α1 o fun _ => mk ρ α1 (fun k α2 => cellDi α2 o fun a ds => isK k = true ∧ oq (lookP k ds) fun z => Q z (aset α2 a (.dict (dropP k ds)))) E) E) : dpop1K mo mk ρ α Q E := h
theorem w_dpop2 (h : mo ρ α (fun o α1 => dcD α1 o fun _ => mk ρ α1 (fun k α2 => md ρ α2 (fun x α3 => cellDi α3 o fun a ds => isK k = true ∧ (∀ z, lookP k ds = some z → Q z (aset α3 a (.dict (dropP k ds)))) ∧ (lookP k ds = none → Q x α3)) E) E) E) : dpop2K mo mk md ρ α Q E := h
theorem w_dput (h : me ρ α (fun d α1 => mo ρ α1 (fun o α2 => mk ρ α2 (fun k α3 => cellDi α3 o fun a ds => isK k = true ∧ ds.length < 100000 ∧ D'.nx ρ (aset α3 a (.dict (putP k d ds)))) (fun x α1 => D'.ex x ρ α1)) (fun x α1 => D'.ex x ρ α1)) (fun x α1 => D'.ex x ρ α1)) : dputS me mo mk ρ α D' := h
theorem w_daug (h : mo ρ α (fun o α1 => mk ρ α1 (fun k α2 => dcD α2 o fun ds0 => isK k = true ∧ oq (lookP k ds0) fun v => me ρ α2 (fun d α3 => oq (g v d) fun z => cellDi α3 o fun a ds => ds.length < 100000 ∧ D'.nx ρ (aset α3 a (.dict (putP k z ds)))) (fun x α1 => D'.ex x ρ α1)) (fun x α1 => D'.ex x ρ α1)) (fun x α1 => D'.ex x ρ α1)) : daugS g mo mk me ρ α D' := h
theorem w_lenD (h : mo ρ α (fun o α1 => cellDi α1 o fun _ ds => Q (.int ds.length) α1) E) : lenDK mo ρ α Q E := h
theorem w_dnew (h : Q (.dict []) α) : dnewK ρ α Q E := h
theorem w_fz (h : mo ρ α (fun d α1 => cellDi α1 d fun p ds => Q (fzD ds) (adel α1 p)) E) : fzK mo ρ α Q E := h
theorem w_listD (h : mo ρ α (fun o α1 => dcD α1 o fun ds => Q (.list (ds.map (·.1))) α1) E) : listDK mo ρ α Q E := h
theorem w_dictD (h : mo ρ α (fun o α1 => dcD α1 o fun ds => Q (.dict ds) α1) E) : dictDK mo ρ α Q E := h
def exL (P : Option D) (R : List D → Prop) : Prop := ∃ ds, P = some (.list ds) ∧ R ds
theorem w_dictP (h : mo ρ α (fun o α1 => exL (vw α1 o) fun ds => oq (pairsD ds) fun ps => Q (.dict (mergeP [] ps)) α1) E) : dictPK mo ρ α Q E := h
theorem exL_of {P : Option D} {R : List D → Prop} {ds : List D} (e : P = some (.list ds)) (h : R ds) : exL P R := ⟨ds, e, h⟩
theorem w_isiC {C : Nat} (h : ma ρ α (fun d α1 => oq (vw α1 d) fun d' => oq (isiCB C d') fun b => Q (.bool b) α1) E) : isiCK C ma ρ α Q E := h
theorem dc_c {p : Addr} {ds : List (D × D)} (e : α p = some (.dict ds)) (r : realD ds = true) (h : R ds) : dcD α (dref p) R := ⟨ds, .inl e, r, h⟩
theorem dc_d {ds : List (D × D)} (r : realD ds = true) (h : R ds) : dcD α (.dict ds) R := by
  cases ds with
  | nil => exact ⟨[], .inl rfl, r, h⟩
  | cons p ds =>
    obtain ⟨k, d⟩ := p
    refine ⟨_, .inl ?_, r, h⟩
    cases k <;> first | rfl | cases r
theorem dc_f {ds : List (D × D)} (r : realD ds = true) (h : R ds) : dcD α (fzD ds) R := ⟨ds, .inr rfl, r, h⟩
theorem cdi_of {p : Addr} {ds : List (D × D)} {R : Addr → List (D × D) → Prop} (e : α p = some (.dict ds)) (r : realD ds = true) (h : R p ds) : cellDi α (dref p) R := ⟨p, ds, rfl, e, r, h⟩
theorem lk_of {k : D} {P : Prop} (e : isK k = true) (h : P) : isK k = true ∧ P := ⟨e, h⟩
end
def srtD (ds : List (D × D)) (R : List D → Prop) : Prop := ds.length < 64 ∧ ((∃ ks : List Str, ds.map (·.1) = ks.map .str ∧ ∀ ys : List Str, ys.Perm ks → PyProof.Rows.sortedS ys = true → R (ys.map .str)) ∨ ∃ ks : List Int, ds.map (·.1) = ks.map .int ∧ ∀ ys : List Int, ys.Perm ks → ys.Pairwise (· ≤ ·) → R (ys.map .int))
theorem w_sortD {ρ : En} {α : AH} {Q : QD} {E : QX} {mo : ME} (h : mo ρ α (fun o α1 => dcD α1 o fun ds => srtD ds fun xs => Q (.list xs) α1) E) : sortDK mo ρ α Q E := h
class KeyD (κ : Type) [DecidableEq κ] where
  d : κ → D
  is : ∀ k, isK (d k) = true
  eq : ∀ a b, kEqB (d a) (d b) = decide (a = b)
instance : KeyD Int := { d := .int, is := fun _ => rfl, eq := fun _ _ => rfl }
instance : KeyD Str := { d := .str, is := fun _ => rfl, eq := fun _ _ => rfl }
section
variable {κ : Type} [DecidableEq κ] [KeyD κ] {β : Type}
def tD (u : β → D) (l : List (κ × β)) : List (D × D) := l.map fun p => (KeyD.d p.1, u p.2)
def aGet (k : κ) : List (κ × β) → Option β
  | [] => none
  | (j, b) :: r => if j = k then some b else aGet k r
def aPut (k : κ) (b : β) : List (κ × β) → List (κ × β)
  | [] => [(k, b)]
  | (j, c) :: r => if j = k then (j, b) :: r else (j, c) :: aPut k b r
def aDel (k : κ) (l : List (κ × β)) : List (κ × β) := l.filter fun p => !decide (p.1 = k)
theorem tD_real (u : β → D) : ∀ l : List (κ × β), realD (tD u l) = true
  | [] => rfl
  | p :: l => by
    show (isK (KeyD.d p.1) && realD (tD u l)) = true
    rw [KeyD.is, tD_real u l]
    rfl
theorem tD_len (u : β → D) (l : List (κ × β)) : (tD u l).length = l.length := List.length_map _
theorem tD_keys (u : β → D) (l : List (κ × β)) : (tD u l).map (·.1) = (l.map (·.1)).map KeyD.d := by
  unfold tD
  rw [List.map_map, List.map_map]
  rfl
theorem tD_look (u : β → D) (k : κ) : ∀ l : List (κ × β), lookP (KeyD.d k) (tD u l) = (aGet k l).map u
  | [] => rfl
  | (j, b) :: l => by
    show (if kEqB (KeyD.d j) (KeyD.d k) = true then some (u b) else lookP (KeyD.d k) (tD u l)) = (if j = k then some b else aGet k l).map u
    rw [KeyD.eq, tD_look u k l]
    by_cases h : j = k
    · rw [decide_eq_true h, if_pos rfl, if_pos h]
      rfl
    · rw [decide_eq_false h, if_neg (by simp), if_neg h]
theorem tD_drop (u : β → D) (k : κ) : ∀ l : List (κ × β), dropP (KeyD.d k) (tD u l) = tD u (aDel k l)
  | [] => rfl
  | (j, b) :: l => by
    have ih := tD_drop u k l
    unfold dropP tD aDel at ih ⊢
    rw [List.map_cons]
    by_cases h : j = k
    · rw [List.filter_cons_of_neg (by simp [KeyD.eq, h]), List.filter_cons_of_neg (by simp [h]), ih]
    · rw [List.filter_cons_of_pos (by simp [KeyD.eq, h]), List.filter_cons_of_pos (by simp [h]), ih]
      rfl
theorem aGet_none {k : κ} : ∀ {l : List (κ × β)}, aGet k l = none ↔ k ∉ l.map (·.1)
  | [] => by simp [aGet]
  | (j, b) :: l => by
    rw [aGet]
    by_cases h : j = k
    · rw [if_pos h]
      simp [h]
    · rw [if_neg h, aGet_none (l := l)]
      simp [Ne.symm h]
theorem aPut_new {k : κ} {b : β} : ∀ {l : List (κ × β)}, k ∉ l.map (·.1) → aPut k b l = l ++ [(k, b)]
  | [], _ => rfl
  | (j, c) :: l, h => by
    simp only [List.map_cons, List.mem_cons, not_or] at h
    rw [aPut, if_neg (Ne.symm h.1), aPut_new h.2]
    rfl
theorem aPut_keys {k : κ} {b : β} : ∀ {l : List (κ × β)}, (aPut k b l).map (·.1) = if k ∈ l.map (·.1) then l.map (·.1) else l.map (·.1) ++ [k]
  | [] => rfl
  | (j, c) :: l => by
    rw [aPut]
    by_cases h : j = k
    · rw [if_pos h]
      simp [h]
    · rw [if_neg h, List.map_cons, aPut_keys (l := l)]
      by_cases q : k ∈ l.map (·.1)
      · rw [if_pos q, if_pos (by simp only [List.map_cons, List.mem_cons]; exact .inr q)]
        rfl
      · rw [if_neg q, if_neg (by simp only [List.map_cons, List.mem_cons, not_or]; exact ⟨Ne.symm h, q⟩)]
        rfl
theorem aPut_nodup {k : κ} {b : β} {l : List (κ × β)} (h : (l.map (·.1)).Nodup) : ((aPut k b l).map (·.1)).Nodup := by
  rw [aPut_keys]
  split
  · exact h
  · rename_i q
    rw [List.nodup_append]
    refine ⟨h, by simp, fun a ha c hc => ?_⟩
    rw [List.mem_singleton.mp hc]
    rintro rfl
    exact q ha
theorem aGet_put {k j : κ} {b : β} : ∀ {l : List (κ × β)}, aGet j (aPut k b l) = if k = j then some b else aGet j l
  | [] => by
    show (if k = j then some b else none) = _
    rfl
  | (i, c) :: l => by
    rw [aPut]
    by_cases h : i = k
    · subst h
      rw [if_pos rfl, aGet, aGet]
      by_cases q : i = j
      · rw [if_pos q, if_pos q]
      · rw [if_neg q, if_neg q, if_neg q]
    · rw [if_neg h, aGet, aGet, aGet_put (l := l)]
      by_cases q : i = j
      · rw [if_pos q, if_pos q, if_neg (fun z => h (q.trans z.symm))]
      · rw [if_neg q, if_neg q]
theorem tD_put (u : β → D) (k : κ) (b : β) : ∀ {l : List (κ × β)}, (l.map (·.1)).Nodup → putP (KeyD.d k) (u b) (tD u l) = tD u (aPut k b l) := by
  have app : ∀ l : List (κ × β), ((l.map fun p => (if kEqB (KeyD.d p.1) (KeyD.d k) = true then (KeyD.d p.1, u b) else (KeyD.d p.1, u p.2) : D × D)) = tD u l) ∨ k ∈ l.map (·.1) := by
    intro l
    by_cases h : k ∈ l.map (·.1)
    · exact .inr h
    · refine .inl (List.map_congr_left fun p hp => ?_)
      have : p.1 ≠ k := fun z => h (z ▸ List.mem_map_of_mem (f := (·.1)) hp)
      rw [KeyD.eq, decide_eq_false this, if_neg (by simp)]
  have mp : ∀ {l : List (κ × β)}, (l.map (·.1)).Nodup → k ∈ l.map (·.1) → (tD u l).map (fun p => if kEqB p.1 (KeyD.d k) = true then (p.1, u b) else p) = tD u (aPut k b l) := by
    intro l
    induction l with
    | nil => intro _ h; cases h
    | cons p l ih =>
      obtain ⟨j, c⟩ := p
      intro hn hm
      have hn' := List.nodup_cons.mp (show (j :: l.map (·.1)).Nodup from hn)
      show (if kEqB (KeyD.d j) (KeyD.d k) = true then (KeyD.d j, u b) else (KeyD.d j, u c)) :: (tD u l).map _ = _
      rw [KeyD.eq]
      by_cases h : j = k
      · subst h
        rw [decide_eq_true rfl, if_pos rfl, aPut, if_pos rfl]
        show _ = (KeyD.d j, u b) :: tD u l
        congr 1
        rcases app l with z | z
        · unfold tD at z ⊢
          rw [List.map_map]
          exact z
        · exact absurd z hn'.1
      · rw [decide_eq_false h, if_neg (by simp), aPut, if_neg h]
        show _ = (KeyD.d j, u c) :: tD u (aPut k b l)
        congr 1
        refine ih hn'.2 ?_
        rcases List.mem_cons.mp (show k ∈ j :: l.map (·.1) from hm) with z | z
        · exact absurd z.symm h
        · exact z
  intro l hn
  unfold putP
  rw [tD_look]
  by_cases h : k ∈ l.map (·.1)
  · have : (aGet k l).isSome = true := by
      cases q : aGet k l with
      | none => exact absurd h (aGet_none.mp q)
      | some b => rfl
    rw [Option.isSome_map, this, if_pos rfl]
    exact mp hn h
  · rw [aGet_none.mpr h, aPut_new h]
    show tD u l ++ [(KeyD.d k, u b)] = _
    unfold tD
    simp
end
theorem srt_s {β : Type} {u : β → D} {l : List (Str × β)} {R : List D → Prop} (hl : l.length < 64) (h : ∀ ys : List Str, ys.Perm (l.map (·.1)) → PyProof.Rows.sortedS ys = true → R (ys.map .str)) : srtD (tD u l) R := ⟨by rw [tD_len]; exact hl, .inl ⟨l.map (·.1), tD_keys u l, h⟩⟩
end Hz
namespace Hz
open PySem L2
inductive KeqV (K : Frag) (H : Hp) (ls : List (Key × V)) : List (Key × V) → Bool → Prop
  | nil : KeqV K H ls [] true
  | miss {k : Key} {v : V} {r : List (Key × V)} : valV ls k = none → KeqV K H ls ((k, v) :: r) false
  | hit {k : Key} {v y : V} {r : List (Key × V)} {d e : D} {b : Bool} : valV ls k = some y → Dp K H v d → Dp K H y e → okD 60 d = true → okD 60 e = true → KeqV K H ls r b → KeqV K H ls ((k, v) :: r) (PyData.eqv d e && b)
theorem KeqV.hits {X : Cx} {pins : List (Addr × Obj)} {σ : L2.St} {H : Hp} {s : Shared} (I : Inv X pins σ H s) {A : Around} (hu : A.units + 60 < cLine) {ls : List (Key × V)} {vb : List (Key × Value)} (rb : KV ls vb) {ks : List (Key × V)} {va : List (Key × Value)}
    (ra : KV ks va) : ∀ {r : Bool}, KeqV X.K H ls ks r → PySem.W.KeqHits A s vb va r := by
  unfold KV at ra
  induction ra with
  | nil =>
    intro r h
    cases h
    exact .nil
  | @cons p q ps qs h t k =>
    intro r hp
    obtain ⟨h1, h2⟩ := h
    obtain ⟨pk, pv⟩ := p
    obtain ⟨key, v⟩ := q
    have h1 : pk = key := h1
    subst h1
    cases hp with
    | miss e =>
      have rr := rb.val pk
      rw [e] at rr
      exact .miss rr.none_of
    | hit e d1 d2 o1 o2 hr =>
      have rr := rb.val pk
      rw [e] at rr
      obtain ⟨y, hy, ry⟩ := rr.some_of
      obtain ⟨as, r1⟩ := Dp.reads I _ _ _ d1 h2
      obtain ⟨bs, r2⟩ := Dp.reads I _ _ _ d2 ry
      obtain ⟨c1, l1, _⟩ := okD_ok _ _ o1
      obtain ⟨c2, l2, _⟩ := okD_ok _ _ o2
      exact .hit hy (SeqAt.eqAt_reads _ _ A s _ _ as bs r1 r2 c1 c2 (by omega)) (k hr)
def rEqM (K : Frag) (neg : Bool) : R2 := fun x y H Q => ∃ a b ks ls r, x = .ref a ∧ y = .ref b ∧ Rd H a (.dK ks) ∧ Rd H b (.dK ls) ∧ (ks.length = ls.length → KeqV K H ls ks r) ∧ Q (.bl (if neg = true then !(decide (ks.length = ls.length) && r) else (decide (ks.length = ls.length) && r))) H
theorem op_neM {X : Cx} (hu : X.A.units + 64 < cLine) : OpR X (compareOp .NotEq) (rEqM X.K true) := by
  intro pins s σ H x y v u Q I rx ry h
  obtain ⟨a, b, ks, ls, r, rfl, rfl, ea, eb, hh, q⟩ := h
  cases (show v = Value.ref a from rx)
  cases (show u = Value.ref b from ry)
  obtain ⟨_, ya, va, ra, da⟩ := dk_rd I.hok ea
  obtain ⟨_, yb, vb, rb, db⟩ := dk_rd I.hok eb
  have e1 : va.length = ks.length := ra.length.symm
  have e2 : vb.length = ls.length := rb.length.symm
  refine PySem.W.keq_ne (knd := mixKind X.prog X.w) (r := r) ya yb da db (by omega) (fun e => (hh (by omega)).hits I (by show X.A.units + 1 + 60 < cLine; omega) rb ra) ⟨_, H, I, ?_, q⟩
  have : (va.length == vb.length) = decide (ks.length = ls.length) := by
    rw [e1, e2]
    rfl
  rw [this]
  rfl
/-- the rows of ds, looked for in es -/
def rowsB (es : List (D × D)) : List (D × D) → Option Bool
  | [] => some true
  | (k, d) :: r => match lookP k es with
    | none => some false
    | some y => if okD 60 d = true ∧ okD 60 y = true then (rowsB es r).map fun b => PyData.eqv d y && b else none
def dictEqB (ds es : List (D × D)) : Option Bool := if ds.length = es.length then rowsB es ds else some false
def eqM (neg : Bool) : D → D → Option D
  | .dict ds, .dict es => if realD ds = true ∧ realD es = true then (dictEqB ds es).map fun b => .bool (if neg = true then !b else b) else none
  | _, _ => none
theorem rowsB_hits {K : Frag} {H : Hp} {ls : List (Key × V)} {es : List (D × D)} (re : RpK K H ls es) : ∀ {ks : List (Key × V)} {ds : List (D × D)} {b : Bool}, RpK K H ks ds → rowsB es ds = some b → KeqV K H ls ks b
  | _, _, b, .nil, e => by
    cases e
    exact .nil
  | _, _, b, .cons (k := k) (d := d) h r, e => by
    unfold rowsB at e
    rcases re.look k with ⟨h1, h2⟩ | ⟨y, v, h1, h2, h3⟩
    · rw [h1] at e
      cases e
      exact .miss h2
    · rw [h1] at e
      have e : (if okD 60 d = true ∧ okD 60 y = true then (rowsB es _).map fun b => PyData.eqv d y && b else none) = some b := e
      split at e
      · rename_i ho
        cases hr : rowsB es _ with
        | none => rw [hr] at e; cases e
        | some b' =>
          rw [hr] at e
          cases e
          exact .hit h2 (h.dp (okD_ok _ _ ho.1).2.2) (h3.dp (okD_ok _ _ ho.2).2.2) ho.1 ho.2 (rowsB_hits re r hr)
      · cases e
section
variable {c : C0} {N : List Str} {sc : Scope}
theorem o_eqM_go (neg : Bool) : ∀ (B : Addr → Bool) (H : Hp) (x y : V) (d e z : D), (∀ a, B a = true → ∃ o, H a = some o) → Rs c.K B H x d → Rs c.K B H y e → eqM neg d e = some z →
    ∀ Q : VK, (∀ v H', Sub H H' → Rp c.K (hide B H') v z → Q v H') → rEqM c.K neg x y H Q := fun B H x y d e z bk hx hy hz Q q => by
  unfold eqM at hz
  split at hz
  · rename_i ds es
    split at hz
    · rename_i hr
      cases hb : dictEqB ds es with
      | none => rw [hb] at hz; cases hz
      | some b =>
        rw [hb] at hz
        cases hz
        obtain ⟨a1, ks, rfl, h1, r1⟩ := hx.dictK hr.1
        obtain ⟨a2, ls, rfl, h2, r2⟩ := hy.dictK hr.2
        unfold dictEqB at hb
        have l1 := r1.length
        have l2 := r2.length
        by_cases hl : ds.length = es.length
        · rw [if_pos hl] at hb
          refine ⟨a1, a2, ks, ls, b, rfl, rfl, h1, h2, fun _ => rowsB_hits (r2.mono (hide_sub B H)) (r1.mono (hide_sub B H)) hb, ?_⟩
          rw [decide_eq_true (show ks.length = ls.length by omega), Bool.true_and]
          exact q _ H (Sub.refl H) (.bl _)
        · rw [if_neg hl] at hb
          cases hb
          refine ⟨a1, a2, ks, ls, true, rfl, rfl, h1, h2, fun e => absurd e (by omega), ?_⟩
          rw [decide_eq_false (show ¬ ks.length = ls.length by omega), Bool.false_and]
          exact q _ H (Sub.refl H) (.bl _)
    · cases hz
  · cases hz
theorem o_neM : OpD c.K (In c N sc) (compareOp .NotEq) (eqM true) := by
  refine ⟨_, fun X I => by
    have h := op_neM (X := X) I.u64
    rw [I.K] at h
    exact h, o_eqM_go true⟩
end
def dAnd : D → D → Option D
  | .int a, .int b => if b = 2 ^ (b + 1).toNat.log2 - 1 then some (.int (a % 2 ^ (b + 1).toNat.log2)) else none
  | _, _ => none
theorem o_and {c : C0} {N : List Str} {sc : Scope} : OpD c.K (In c N sc) (binaryOp .BitAnd) dAnd := by
  refine ⟨_, fun X I => op_andM, fun B H x y d e z bk hx hy hz Q q => ?_⟩
  unfold dAnd at hz
  split at hz
  · split at hz
    · rename_i hc
      cases hz
      have e := hy.int
      rw [hc] at e
      exact ⟨_, _, hx.int, e, q _ H (Sub.refl H) (.int _)⟩
    · cases hz
  · cases hz
theorem oq_and255 {x : Int} {R : D → Prop} (h : R (.int (x % 256))) : oq (dAnd (.int x) (.int 255)) R := ⟨_, by
  have e : ((255 : Int) + 1).toNat.log2 = 8 := by decide +kernel
  show (if (255 : Int) = 2 ^ ((255 : Int) + 1).toNat.log2 - 1 then some (PyData.int (x % 2 ^ ((255 : Int) + 1).toNat.log2)) else none) = some (PyData.int (x % 256))
  rw [e]
  rfl, h⟩
/-- two dicts of the same keys, their values equal -/
theorem oq_eqM {neg : Bool} {ds es : List (D × D)} {b : Bool} {R : D → Prop} (r1 : realD ds = true) (r2 : realD es = true) (e : dictEqB ds es = some b) (h : R (.bool (if neg = true then !b else b))) : oq (eqM neg (.dict ds) (.dict es)) R := ⟨_, by
  show (if realD ds = true ∧ realD es = true then (dictEqB ds es).map fun b => PyData.bool (if neg = true then !b else b) else none) = _
  rw [if_pos ⟨r1, r2⟩, e]
  rfl, h⟩
end Hz
namespace PySem
end PySem
namespace L2
open PySem PySem.Spec PyProof.Rows
end L2
namespace Hz
open PySem L2
end Hz
namespace L2
open PySem PySem.Spec PyProof.Rows
end L2
namespace Hz
open PySem L2
end Hz
namespace Hz
open PySem PySem.Spec PyProof.Rows L2
def dXor : D → D → Option D
  | .int a, .int b => some (.int (Builtin.bitXor a b))
  | _, _ => none
theorem o_xor {c : C0} {N : List Str} {sc : Scope} : OpD c.K (In c N sc) (binaryOp .BitXor) dXor := by
  refine ⟨_, fun X I => op_xor, fun B H x y d e z bk hx hy hz Q q => ?_⟩
  unfold dXor at hz
  split at hz
  · cases hz
    exact ⟨_, _, hx.int, hy.int, q _ H (Sub.refl H) (.int _)⟩
  · cases hz
end Hz
namespace Hz
open PySem L2
variable {c : C0} {N : List Str} {sc : Scope}
def All2 (R : D → D → Prop) (ds es : List D) : Prop := ds.length = es.length ∧ ∀ (i : Nat) d e, ds[i]? = some d → es[i]? = some e → R d e
theorem All2.nil {R : D → D → Prop} : All2 R [] [] := ⟨rfl, fun i x y h _ => by simp at h⟩
theorem All2.cons {R : D → D → Prop} {d e : D} {ds es : List D} (h : R d e) (p : All2 R ds es) : All2 R (d :: ds) (e :: es) := by
  refine ⟨by rw [List.length_cons, List.length_cons, p.1], fun i a b h1 h2 => ?_⟩
  cases i with
  | zero =>
    simp at h1 h2
    subst h1; subst h2
    exact h
  | succ i =>
    simp at h1 h2
    exact p.2 i a b h1 h2
theorem All2.map {β : Type} {R : D → D → Prop} {f g : β → D} : ∀ {l : List β}, (∀ b ∈ l, R (f b) (g b)) → All2 R (l.map f) (l.map g)
  | [], _ => .nil
  | b :: l, h => .cons (h b (.head _)) (All2.map fun b m => h b (.tail _ m))
/-- instances -/
def QI (K : Frag) (C : Nat) (fm : Fm) : Eqv := fun x y H => ∃ (B : Addr → Bool) (d e : D), (∀ a, B a = true → ∃ o, H a = some o) ∧ (isOb C d = true ∧ isOb C e = true ∧ fm [d, e] (fun _ => none) (fun r _ => r = .bool true) NX) ∧ Rp K (hide B H) x d ∧ Rp K (hide B H) y e
def AtN (c : C0) (y x : Str) (st : Stmt) (ps : List Str) (dvs : List V) (js : List Nat) : Prop := ∃ f, AtF c x x st ps dvs js f ∧ c.mg y = some (.ref f)
section
variable {x y : Str} {st : Stmt} {ps : List Str} {dvs : List V} {js : List Nat} {k np : Nat} {mm : MS} {fm : Fm}
theorem AtN.run (A : AtN c y x st ps dvs js) (S : FnScope N ps (defScope st)) (h : JB (c.at_ k) N (defScope st) (defBody st) mm) (hn : ps.length ≤ N.length := by decide) : PrF c (k + 1) y ps dvs js (runF ps.length N.length mm) :=
  let ⟨f, a, m⟩ := A; ⟨f, a.run S h hn, m⟩
theorem AtN.runP (A : AtN c y x st ps dvs js) (S : FnScope N ps (defScope st)) (h : JB (c.at_ k) N (defScope st) (defBody st) mm) (hn : ps.length ≤ N.length := by decide) : PrF c (k + 1) y ps dvs js (Hz.runP ps.length N.length mm) :=
  let ⟨f, a, m⟩ := A; ⟨f, a.runP S h hn, m⟩
end
end Hz
namespace Hz
open PySem PySem.Spec PyProof.Rows L2
def keyE (e : Int × Value) : Key := match e.2 with
  | .int k _ => .inl k
  | .str x _ => .inr x
  | _ => .inl 0
def GoodK (w : World) (e : Int × Value) : Prop := ∃ k : Key, keyIs k e.2 = true ∧ e.1 = keyH w k
def mK (ns : List Key) (j : Key) : Bool := ns.any fun z => decide (z = j)
def SetX (w : World) (h : Heap) (a : Addr) (S : Key → Bool) (m : Nat) : Prop :=
  ∃ o es ep t, h.get? a = some o ∧ o.ExactSet ∧ o.data = .set es ep t ∧ (∀ e ∈ es.toList, GoodK w e) ∧ (es.toList.map keyE).Nodup ∧ (∀ k, S k = true ↔ k ∈ es.toList.map keyE) ∧
    es.size < scanBound ∧ t.fits es.size = true ∧ es.size ≤ m ∧ Ris t.place.toList ∧ (w.params.followText "set-order" = true ∨ t.led = true)
def SetXO (w : World) (a : Addr) (S : Key → Bool) (n : Nat) : HO := .ext fun h => SetX w h a S n
section
variable {X : Cx}
/-- set(a list of keys) -/
def rSetL (K : PySem.W.Frag) (w : World) : List V → Hp → VK → Prop := fun xs H Q => ∃ (a : Addr) (ks : List Key), xs = [V.ref a] ∧ SqL K H a (ks.map L2.kV) ∧ ks.length ≤ 4000 ∧ ∀ p, H p = none → Q (.ref p) (upd H p (SetXO w p (fun j => mK (ks) j) ks.length))
end
end Hz
namespace Hz
open PySem PySem.Spec PyProof.Rows L2
end Hz
namespace Hz
open PySem L2
section
variable {K : Frag} {W : WX} {B : Addr → Bool} {σ : St} {H : Hp} {ρ : En} {α : AH} {p : Addr} {ds : List (D × D)}
theorem lock_in (S : SR K B σ H ρ α) (e : α p = some (.dict ds)) (hr : realD ds = true) : ∃ kvs, H p = some (.dK kvs) ∧ ∀ od, SR K B σ (upd H p (.frz od (.dK kvs))) ρ (aset α p (fzD ds)) ∧
    ∀ B' H' α', Af K B (upd H p (.frz od (.dK kvs))) (aset α p (fzD ds)) B' H' α' → α' p = some (fzD ds) → H' p = some (.frz od (.dK kvs)) ∧ Af K B H α B' (upd H' p (.dK kvs)) (aset α' p (.dict ds)) ∧ hide B' (upd H' p (.dK kvs)) = hide B' H' := by
  obtain ⟨bp, kvs, hp, rk⟩ := S.bs.dict e hr
  refine ⟨kvs, hp, fun od => ?_⟩
  have hh : hide B (upd H p (.frz od (.dK kvs))) = hide B H := by
    funext a
    unfold hide
    by_cases q : a = p
    · rw [q, bp]; rfl
    · rw [upd_ne q]
  refine ⟨⟨S.len, fun i d g => by rw [hh]; exact S.val i d g, ⟨fun a c g => ?_, fun a g => ?_⟩⟩, fun B' H' α' A q => ?_⟩
  · by_cases z : a = p
    · subst z
      rw [aset_same] at g
      cases g
      rw [upd_same, hh]
      exact ⟨bp, .lck rk⟩
    · rw [aset_ne z] at g
      obtain ⟨g1, g2⟩ := S.bs.cel a c g
      rw [upd_ne z, hh]
      exact ⟨g1, g2⟩
  · by_cases z : a = p
    · exact ⟨_, by rw [z, upd_same]⟩
    · rw [upd_ne z]
      exact S.bs.bk a g
  · have h1 : H' p = some (.frz od (.dK kvs)) := (A.lk p ds aset_same).1.trans upd_same
    have bp' : B' p = true := (A.bs.cel p _ q).1
    have hh' : hide B' (upd H' p (.dK kvs)) = hide B' H' := by
      funext a
      unfold hide
      by_cases z : a = p
      · rw [z, bp']; rfl
      · rw [upd_ne z]
    have hs : Sub (hide B H) (hide B' H') := by
      have := A.sub
      rw [hh] at this
      exact this
    refine ⟨h1, ⟨by rw [hh']; exact hs, ⟨fun a c g => ?_, fun a g => ?_⟩, fun b hb n => ?_, fun b n hb => ?_, fun b o g => ?_, fun b es g => ?_⟩, hh'⟩
    · by_cases z : a = p
      · subst z
        rw [aset_same] at g
        cases g
        rw [upd_same, hh']
        exact ⟨bp', .own ⟨_, rfl, rk.mono hs⟩⟩
      · rw [aset_ne z] at g
        obtain ⟨g1, g2⟩ := A.bs.cel a c g
        rw [upd_ne z, hh']
        exact ⟨g1, g2⟩
    · by_cases z : a = p
      · exact ⟨_, by rw [z, upd_same]⟩
      · rw [upd_ne z]
        exact A.bs.bk a g
    · have z : b ≠ p := fun z => by rw [z, e] at n; cases n
      obtain ⟨g1, g2⟩ := A.keep b hb (by rw [aset_ne z]; exact n)
      rw [upd_ne z] at g2
      rw [upd_ne z]
      exact ⟨g1, g2⟩
    · have z : b ≠ p := fun z => by rw [z, e] at n; cases n
      rw [aset_ne z]
      exact A.fr b (by rw [aset_ne z]; exact n) (by rw [upd_ne z]; exact hb)
    · by_cases z : b = p
      · exact ⟨_, by rw [z, upd_same]⟩
      · rw [upd_ne z]
        exact A.grow b o (by rw [upd_ne z]; exact g)
    · have z : b ≠ p := fun z => by
        rw [z, e] at g
        exact real_nl hr es (Option.some.inj g)
      obtain ⟨g1, g2⟩ := A.lk b es (by rw [aset_ne z]; exact g)
      rw [upd_ne z] at g1
      rw [upd_ne z, aset_ne z]
      exact ⟨g1, g2⟩
def lockK (m : ME) : ME := fun ρ α Q E => ∃ p ds, α p = some (.dict ds) ∧ realD ds = true ∧ m ρ (aset α p (fzD ds)) (fun d α1 => α1 p = some (fzD ds) ∧ Q d (aset α1 p (.dict ds))) NX
theorem sd_lock {t : TE} {m : ME} (h : Sd K W t m) : Sd K W (tLockE t) (lockK m) := fun B σ H ρ α S Qm Em mm Q q x => by
  obtain ⟨p, ds, e, hr, mm⟩ := mm
  obtain ⟨kvs, hp, go⟩ := lock_in S e hr
  refine ⟨p, _, hp, True.intro, fun od => ?_⟩
  obtain ⟨S1, back⟩ := go od
  refine h B σ _ ρ _ S1 _ _ mm _ (fun v d B1 H1 α1 A1 r1 m => ?_) SX.never
  obtain ⟨e1, m⟩ := m
  obtain ⟨h1, A2, hh⟩ := back B1 H1 α1 A1 e1
  exact ⟨h1, q v d B1 _ _ A2 (by rw [hh]; exact r1) m⟩
def wk (Dm : Md) (p : Addr) (ds : List (D × D)) : Md := { nx := fun ρ' α1 => α1 p = some (fzD ds) ∧ Dm.nx ρ' (aset α1 p (.dict ds)), rt := fun d α1 => α1 p = some (fzD ds) ∧ Dm.rt d (aset α1 p (.dict ds)), bk := fun ρ' α1 => α1 p = some (fzD ds) ∧ Dm.bk ρ' (aset α1 p (.dict ds)), ct := fun ρ' α1 => α1 p = some (fzD ds) ∧ Dm.ct ρ' (aset α1 p (.dict ds)), ex := fun _ _ _ => False }
def lockS (m : MS) : MS := fun ρ α Dm => ∃ p ds, α p = some (.dict ds) ∧ realD ds = true ∧ m ρ (aset α p (fzD ds)) (wk Dm p ds)
theorem ss_lock {t : TS} {m : MS} (h : SS K W t m) : SS K W (tLock t) (lockS m) := fun B σ H ρ α S Dm mm Dn h' x => by
  obtain ⟨p, ds, e, hr, mm⟩ := mm
  obtain ⟨kvs, hp, go⟩ := lock_in S e hr
  refine ⟨p, _, hp, True.intro, fun od => ?_⟩
  obtain ⟨S1, back⟩ := go od
  have sr : ∀ {B' : Addr → Bool} {σ' : St} {H' : Hp} {ρ' : En} {α' : AH}, SR K B' σ' H' ρ' α' → Af K B H α B' (upd H' p (.dK kvs)) (aset α' p (.dict ds)) → hide B' (upd H' p (.dK kvs)) = hide B' H' → SR K B' σ' (upd H' p (.dK kvs)) ρ' (aset α' p (.dict ds)) := fun S' A hh => ⟨S'.len, fun i d g => by rw [hh]; exact S'.val i d g, A.bs⟩
  refine h B σ _ ρ _ S1 _ mm _ ⟨fun B' σ' H' ρ' α' A S' m => ?_, fun v d B' H' α' A r m => ?_, fun B' σ' H' ρ' α' A S' m => ?_, fun B' σ' H' ρ' α' A S' m => ?_⟩ (fun _ _ _ _ _ _ _ _ _ _ _ z => z.elim)
  · obtain ⟨e1, m⟩ := m
    obtain ⟨h1, A2, hh⟩ := back B' H' α' A e1
    exact ⟨h1, h'.nx _ _ _ _ _ A2 (sr S' A2 hh) m⟩
  · obtain ⟨e1, m⟩ := m
    obtain ⟨h1, A2, hh⟩ := back B' H' α' A e1
    exact ⟨h1, h'.rt _ _ _ _ _ A2 (by rw [hh]; exact r) m⟩
  · obtain ⟨e1, m⟩ := m
    obtain ⟨h1, A2, hh⟩ := back B' H' α' A e1
    exact ⟨h1, h'.bk _ _ _ _ _ A2 (sr S' A2 hh) m⟩
  · obtain ⟨e1, m⟩ := m
    obtain ⟨h1, A2, hh⟩ := back B' H' α' A e1
    exact ⟨h1, h'.ct _ _ _ _ _ A2 (sr S' A2 hh) m⟩
def keysLK (m : ME) : MI := fun ρ α Q E => m ρ α (fun d α1 => ∃ p ds, d = dref p ∧ α1 p = some (fzD ds) ∧ realD ds = true ∧ Q (ds.map (·.1)) (fun α' => α' p = some (fzD ds)) α1) E
theorem Bs.lck (S : Bs K B H α) (e : α p = some (fzD ds)) : B p = true ∧ ∃ o kvs, H p = some (.frz o (.dK kvs)) ∧ RpK K (hide B H) kvs ds := by
  obtain ⟨h1, h2⟩ := S.cel p _ e
  obtain ⟨a, o, kvs, g1, g2, g3⟩ := h2.rs.dictF
  cases g1
  exact ⟨h1, o, kvs, g2, g3⟩
theorem si_keysL {te : TE} {me : ME} (h : Sd K W te me) : SI K W (iKeys te) (keysLK me) := fun B σ H ρ α S Qm Em m R q x => by
  refine h B σ H ρ α S _ Em m _ (fun v d B1 H1 α1 A r m => ?_) x
  obtain ⟨p, ds, rfl, e, hr, m⟩ := m
  have hv := r.cell
  subst hv
  obtain ⟨bp, o, kvs, hd, rk⟩ := A.bs.lck e
  refine ⟨p, o, rfl, .inl ⟨kvs, hd, q _ (ds.map (·.1)) _ B1 H1 α1 A (fun B' H' α' A' sb bs g => ⟨fun i d hi => ?_, ?_⟩) m⟩⟩
  · obtain ⟨k, v, e2, g1, rfl, g3, g4⟩ := rk.getK hi
    refine ⟨⟨(A'.lk p ds e).1.trans hd, ?_⟩, fun x H'' y => ?_⟩
    · rw [List.getElem?_eq_some_iff] at g1
      exact g1.1
    · obtain ⟨rfl, k', v', g5, rfl⟩ := y
      rw [g1] at g5
      cases g5
      exact ⟨Sub.refl _, kV_rp k⟩
  · exact ⟨(A'.lk p ds e).1.trans hd, by rw [List.length_map, rk.length]; exact Nat.le_refl _⟩
end
section
variable {c : C0} {N : List Str} {sc : Scope} {o e i f tg : Expr} {p p2 p3 pos p1 : Pos} {me mo mi ma mb mk md : ME} {m : MS} {s : Stmt}
theorem JE.lock (h : JE c N sc e me) : JE c N sc e (lockK me) := by
  obtain ⟨t, h1, h2⟩ := h
  exact ⟨fun W => tLockE (t W), fun X W I T => pe_lock (h1 X W I T), fun W => sd_lock (h2 W)⟩
theorem JS.lock (h : JS c N sc s m) : JS c N sc s (lockS m) := by
  obtain ⟨t, h1, h2⟩ := h
  exact ⟨fun W => tLock (t W), fun X W I T => ps_lock (h1 X W I T), fun W => ss_lock (h2 W)⟩
theorem ji_keysL (h : JE c N sc e me) : JI c N sc tg e (keysLK me) := by
  obtain ⟨t, h1, h2⟩ := h
  exact ⟨fun W => iKeys (t W), fun X W I T => pi_keys (h1 X W I T), fun W => si_keysL (h2 W)⟩
end
section
variable {ρ : En} {α : AH} {Q : QD} {E : QX} {Dm : Md} {d : D} {m : MS} {me ma mb : ME} {p : Addr} {ds : List (D × D)} {QI : List D → (AH → Prop) → AH → Prop}
theorem w_lockS (e : α p = some (.dict ds)) (r : realD ds = true) (h : m ρ (aset α p (fzD ds)) (wk Dm p ds)) : lockS m ρ α Dm := ⟨p, ds, e, r, h⟩
theorem w_lockK (e : α p = some (.dict ds)) (r : realD ds = true) (h : me ρ (aset α p (fzD ds)) (fun d α1 => α1 p = some (fzD ds) ∧ Q d (aset α1 p (.dict ds))) NX) : lockK me ρ α Q E := ⟨p, ds, e, r, h⟩
theorem wk_nx (e : α p = some (fzD ds)) (h : Dm.nx ρ (aset α p (.dict ds))) : (wk Dm p ds).nx ρ α := ⟨e, h⟩
def klG (α1 : AH) (d : D) (g : D × D → D) (QI : List D → (AH → Prop) → AH → Prop) : Prop := ∃ p ds, d = dref p ∧ α1 p = some (fzD ds) ∧ realD ds = true ∧ QI (ds.map g) (fun α' => α' p = some (fzD ds)) α1
theorem kl_of {g : D × D → D} (e : α p = some (fzD ds)) (r : realD ds = true) (h : QI (ds.map g) (fun α' => α' p = some (fzD ds)) α) : klG α (dref p) g QI := ⟨p, ds, rfl, e, r, h⟩
theorem w_keysL (h : me ρ α (fun d α1 => klG α1 d (·.1) QI) E) : keysLK me ρ α QI E := h
theorem for_mapG {β : Type} {tg : D → En → Option En} {mb : MS} {G : AH → Prop} {D' : Md} {ρ : En} {xs : List β} {u : β → D} {ds : List D} (e : ds = xs.map u) (I : Nat → En → AH → Prop) (h0 : I 0 ρ α) (hG : ∀ k ρ α, I k ρ α → G α) (h2 : ∀ ρ α, I xs.length ρ α → D'.nx ρ α)
    (h1 : ∀ k (hk : k < xs.length), ∀ ρ α, I k ρ α → ∀ X : En → AH → Prop, (∀ ρ α, I (k + 1) ρ α → X ρ α) → oq (tg (u xs[k]) ρ) fun ρ1 => mb ρ1 α (wl D' X)) : forD tg mb G D' ds ρ α := by
  subst e
  refine for_inv (fun r ρ α => ∃ k : Nat, k ≤ xs.length ∧ r = (xs.drop k).map u ∧ I k ρ α) ⟨0, by omega, by simp, h0⟩ (fun _ _ _ ⟨k, _, _, i⟩ => hG k _ _ i) ?_ ?_
  · rintro ρ α ⟨k, e1, e2, i⟩
    have : k = xs.length := by
      have := congrArg List.length e2
      simp at this
      omega
    subst this
    exact h2 _ _ i
  · rintro d ds ρ α ⟨k, e1, e2, i⟩ X hX
    have hk : k < xs.length := by
      have := congrArg List.length e2
      simp at this
      omega
    rw [List.drop_eq_getElem_cons hk, List.map_cons] at e2
    obtain ⟨rfl, rfl⟩ := List.cons.inj e2
    exact h1 k hk _ _ i X fun ρ α i => hX _ _ ⟨k + 1, by omega, rfl, i⟩
/-- a locked dict that is read -/
theorem dc_l {R : List (D × D) → Prop} (e : α p = some (fzD ds)) (r : realD ds = true) (h : R ds) : dcD α (dref p) R := ⟨ds, .inr e, r, h⟩
theorem dEqB_self {d : D} (h : okD 60 d = true) : dEqB d d = some true := by
  have e := PySem.SeqAt.eqv_refl _ (okD_ok 60 _ h).1
  unfold dEqB
  cases d with
  | str s => simp
  | _ => simp only [h, e, and_self, if_true]
theorem oq_ne_self {d : D} {R : D → Prop} (h : okD 60 d = true) (q : R (.bool false)) : oq (dNe d d) R := oq_ne_d (dEqB_self h) q
theorem oq_eq_self {d : D} {R : D → Prop} (h : okD 60 d = true) (q : R (.bool true)) : oq (dEq d d) R := oq_eq_d (dEqB_self h) q
end
end Hz
namespace K26
open PySem L2 Hz
def exm_PowerCut (C_Pull C_Entry C_Store C_FolderkinError C_PowerCut C_InvalidBlock gX : Nat) : Nat → Option Bool := fun C => if C = C_PowerCut then some true else if C = C_InvalidBlock then some false else none
def m_block_number (C_Pull C_Entry C_Store C_FolderkinError C_PowerCut C_InvalidBlock gX : Nat) : MS := seqS (asgS (kC (.int 1)) (setv 1))
  (seqS (forS (listK (kV 0)) (setv 2) (asgS (bop dAdd (bop dMul (kV 1) (kC (.int 256))) (kV 2)) (setv 1)))
  (retS (kV 1)))
def f_block_number (C_Pull C_Entry C_Store C_FolderkinError C_PowerCut C_InvalidBlock gX : Nat) : Fm := runP 1 3 (m_block_number C_Pull C_Entry C_Store C_FolderkinError C_PowerCut C_InvalidBlock gX)
def m_block_size (C_Pull C_Entry C_Store C_FolderkinError C_PowerCut C_InvalidBlock gX : Nat) : MS := seqS (forS (rangeK2 (consK (kC (.int 1)) (consK (bop dAdd (kC (.int 4)) (kC (.int 1))) (nilK)))) (setv 1) (ifS (tst (bop dEq (bop dShr (kV 0) (bop dMul (kC (.int 8)) (kV 1))) (kC (.int 1)))) (retS (kV 1)) (nextS)))
  (retS (kC (.int 0)))
def f_block_size (C_Pull C_Entry C_Store C_FolderkinError C_PowerCut C_InvalidBlock gX : Nat) : Fm := runP 1 2 (m_block_size C_Pull C_Entry C_Store C_FolderkinError C_PowerCut C_InvalidBlock gX)
def m_is_block (C_Pull C_Entry C_Store C_FolderkinError C_PowerCut C_InvalidBlock gX : Nat) : MS := retS (bop dGt (callN 1 (f_block_size C_Pull C_Entry C_Store C_FolderkinError C_PowerCut C_InvalidBlock gX) [] (consK (kV 0) (nilK))) (kC (.int 0)))
def f_is_block (C_Pull C_Entry C_Store C_FolderkinError C_PowerCut C_InvalidBlock gX : Nat) : Fm := runP 1 1 (m_is_block C_Pull C_Entry C_Store C_FolderkinError C_PowerCut C_InvalidBlock gX)
def m_block_bytes (C_Pull C_Entry C_Store C_FolderkinError C_PowerCut C_InvalidBlock gX : Nat) : MS := seqS (ifS (notK (tst (callN 1 (f_is_block C_Pull C_Entry C_Store C_FolderkinError C_PowerCut C_InvalidBlock gX) [] (consK (kV 0) (nilK))))) (raiseS C_InvalidBlock (kC (.int 0))) (nextS))
  (seqS (asgS (newK (lstK (nilK))) (setv 1))
  (seqS (whileS (tst (bop dGt (kV 0) (kC (.int 1)))) (seqS (dropS (mutK muInsert (kV 1) (consK (kC (.int 0)) (consK (bop dMod (kV 0) (kC (.int 256))) (nilK)))))
  (asgS (bop dDiv (kV 0) (kC (.int 256))) (setv 0))))
  (retS (frzK (kV 1)))))
def f_block_bytes (C_Pull C_Entry C_Store C_FolderkinError C_PowerCut C_InvalidBlock gX : Nat) : Fm := runP 1 2 (m_block_bytes C_Pull C_Entry C_Store C_FolderkinError C_PowerCut C_InvalidBlock gX)
def m_split (C_Pull C_Entry C_Store C_FolderkinError C_PowerCut C_InvalidBlock gX : Nat) : MS := retS (b1K dTuple (lcK [1] (rangeK3 (consK (kC (.int 0)) (consK (b1K dLen (kV 0)) (consK (kC (.int 4)) (nilK))))) (setv 1) (yesK) (callN 1 (f_block_number C_Pull C_Entry C_Store C_FolderkinError C_PowerCut C_InvalidBlock gX) [] (consK (cutK (kV 0) (psome (kV 1)) (psome (bop dAdd (kV 1) (kC (.int 4))))) (nilK)))))
def f_split (C_Pull C_Entry C_Store C_FolderkinError C_PowerCut C_InvalidBlock gX : Nat) : Fm := runP 1 2 (m_split C_Pull C_Entry C_Store C_FolderkinError C_PowerCut C_InvalidBlock gX)
def m_Store_temp (C_Pull C_Entry C_Store C_FolderkinError C_PowerCut C_InvalidBlock gX : Nat) : MS := seqS (ifS (tst (dinK true (kV 1) (fldK C_Store "temps" (kV 0)))) (retS (kC .none)) (nextS))
  (retS (b1K dList (dgetK (fldK C_Store "temps" (kV 0)) (kV 1))))
def f_Store_temp (C_Pull C_Entry C_Store C_FolderkinError C_PowerCut C_InvalidBlock gX : Nat) : Fm := runP 2 2 (m_Store_temp C_Pull C_Entry C_Store C_FolderkinError C_PowerCut C_InvalidBlock gX)
def m_kept_blocks (C_Pull C_Entry C_Store C_FolderkinError C_PowerCut C_InvalidBlock gX : Nat) : MS := seqS (asgS (methK C_Store "temp" 1 (f_Store_temp C_Pull C_Entry C_Store C_FolderkinError C_PowerCut C_InvalidBlock gX) [] (kV 0) (consK (fldK C_Entry "name" (kV 1)) (nilK))) (setv 2))
  (seqS (asgS (kC (.int 0)) (setv 3))
  (seqS (ifS (tst (bop dIsNot (kV 2) (kC .none))) (seqS (asgS (kC (.int 0)) (setv 4))
  (whileS (tst (bop dLt (kV 3) (b1K dLen (fldK C_Entry "blocks" (kV 1))))) (seqS (asgS (callN 1 (f_block_bytes C_Pull C_Entry C_Store C_FolderkinError C_PowerCut C_InvalidBlock gX) [] (consK (bop dIx (fldK C_Entry "blocks" (kV 1)) (kV 3)) (nilK))) (setv 5))
  (seqS (ifS (tst (bop dNe (cutK (kV 2) (psome (kV 4)) (psome (bop dAdd (kV 4) (b1K dLen (kV 5))))) (kV 5))) (retS (kV 3)) (nextS))
  (seqS (augS dIAdd 4 (b1K dLen (kV 5)))
  (augS dIAdd 3 (kC (.int 1)))))))) (nextS))
  (retS (kV 3))))
def f_kept_blocks (C_Pull C_Entry C_Store C_FolderkinError C_PowerCut C_InvalidBlock gX : Nat) : Fm := runP 2 6 (m_kept_blocks C_Pull C_Entry C_Store C_FolderkinError C_PowerCut C_InvalidBlock gX)
def m_Store_names (C_Pull C_Entry C_Store C_FolderkinError C_PowerCut C_InvalidBlock gX : Nat) : MS := retS (sortDK (fldK C_Store "files" (kV 0)))
def f_Store_names (C_Pull C_Entry C_Store C_FolderkinError C_PowerCut C_InvalidBlock gX : Nat) : Fm := runP 1 1 (m_Store_names C_Pull C_Entry C_Store C_FolderkinError C_PowerCut C_InvalidBlock gX)
def m_Store_attic (C_Pull C_Entry C_Store C_FolderkinError C_PowerCut C_InvalidBlock gX : Nat) : MS := retS (lcK [1, 2, 3] (listK (fldK C_Store "old" (kV 0))) (tgTup 3 (tgCons (setv 1) (tgCons (setv 2) (tgCons (setv 3) (tgNil))))) (yesK) (tupK (consK (kV 1) (consK (kV 2) (consK (b1K dList (kV 3)) (nilK))))))
def f_Store_attic (C_Pull C_Entry C_Store C_FolderkinError C_PowerCut C_InvalidBlock gX : Nat) : Fm := runP 1 4 (m_Store_attic C_Pull C_Entry C_Store C_FolderkinError C_PowerCut C_InvalidBlock gX)
def m_Store_read (C_Pull C_Entry C_Store C_FolderkinError C_PowerCut C_InvalidBlock gX : Nat) : MS := seqS (ifS (tst (dinK true (kV 1) (fldK C_Store "files" (kV 0)))) (retS (kC .none)) (nextS))
  (seqS (asgS (dgetK (fldK C_Store "files" (kV 0)) (kV 1)) (tgTup 2 (tgCons (setv 2) (tgCons (setv 3) (tgNil)))))
  (retS (tupK (consK (b1K dList (kV 2)) (consK (kV 3) (nilK))))))
def f_Store_read (C_Pull C_Entry C_Store C_FolderkinError C_PowerCut C_InvalidBlock gX : Nat) : Fm := runP 2 4 (m_Store_read C_Pull C_Entry C_Store C_FolderkinError C_PowerCut C_InvalidBlock gX)
def m_near_places (C_Pull C_Entry C_Store C_FolderkinError C_PowerCut C_InvalidBlock gX : Nat) : MS := seqS (asgS (newK (dnewK)) (setv 2))
  (seqS (asgS (newK (lstK (consK (tupK (consK (kC (.str "temp")) (consK (fldK C_Entry "name" (kV 1)) (consK (cutK (fldK C_Entry "blocks" (kV 1)) (pnone) (psome (callN 2 (f_kept_blocks C_Pull C_Entry C_Store C_FolderkinError C_PowerCut C_InvalidBlock gX) [] (consK (kV 0) (consK (kV 1) (nilK)))))) (nilK))))) (nilK)))) (setv 3))
  (seqS (forS (listK (methK C_Store "names" 0 (f_Store_names C_Pull C_Entry C_Store C_FolderkinError C_PowerCut C_InvalidBlock gX) [] (kV 0) nilK)) (setv 4) (dropS (mutK muAppend (kV 3) (consK (tupK (consK (kC (.str "file")) (consK (kV 4) (consK (callN 1 (f_split C_Pull C_Entry C_Store C_FolderkinError C_PowerCut C_InvalidBlock gX) [] (consK (bop dIx (methK C_Store "read" 1 (f_Store_read C_Pull C_Entry C_Store C_FolderkinError C_PowerCut C_InvalidBlock gX) [] (kV 0) (consK (kV 4) (nilK))) (kC (.int 0))) (nilK))) (nilK))))) (nilK)))))
  (seqS (asgS (methK C_Store "attic" 0 (f_Store_attic C_Pull C_Entry C_Store C_FolderkinError C_PowerCut C_InvalidBlock gX) [] (kV 0) nilK) (setv 5))
  (seqS (forS (rangeK1 (consK (b1K dLen (kV 5)) (nilK))) (setv 6) (dropS (mutK muAppend (kV 3) (consK (tupK (consK (kC (.str "attic")) (consK (kV 6) (consK (callN 1 (f_split C_Pull C_Entry C_Store C_FolderkinError C_PowerCut C_InvalidBlock gX) [] (consK (bop dIx (bop dIx (kV 5) (kV 6)) (kC (.int 2))) (nilK))) (nilK))))) (nilK)))))
  (seqS (forS (listK (kV 3)) (tgTup 3 (tgCons (setv 7) (tgCons (setv 8) (tgCons (setv 9) (tgNil))))) (forS (rangeK1 (consK (b1K dLen (kV 9)) (nilK))) (setv 6) (ifS (tst (dinK true (bop dIx (kV 9) (kV 6)) (kV 2))) (dputS (tupK (consK (kV 7) (consK (kV 8) (consK (kV 6) (nilK))))) (kV 2) (bop dIx (kV 9) (kV 6))) (nextS))))
  (retS (frzK (kV 2))))))))
def f_near_places (C_Pull C_Entry C_Store C_FolderkinError C_PowerCut C_InvalidBlock gX : Nat) : Fm := runP 2 10 (m_near_places C_Pull C_Entry C_Store C_FolderkinError C_PowerCut C_InvalidBlock gX)
def m_missing (C_Pull C_Entry C_Store C_FolderkinError C_PowerCut C_InvalidBlock gX : Nat) : MS := seqS (asgS (callN 2 (f_near_places C_Pull C_Entry C_Store C_FolderkinError C_PowerCut C_InvalidBlock gX) [] (consK (kV 0) (consK (kV 1) (nilK)))) (setv 2))
  (seqS (asgS (newK (lstK (nilK))) (setv 3))
  (seqS (forS (tupleK (cutK (fldK C_Entry "blocks" (kV 1)) (psome (callN 2 (f_kept_blocks C_Pull C_Entry C_Store C_FolderkinError C_PowerCut C_InvalidBlock gX) [] (consK (kV 0) (consK (kV 1) (nilK))))) (pnone))) (setv 4) (ifS (andK (tst (dinK true (kV 4) (kV 2))) (tst (bop dNotIn (kV 4) (kV 3)))) (dropS (mutK muAppend (kV 3) (consK (kV 4) (nilK)))) (nextS)))
  (retS (frzK (kV 3)))))
def f_missing (C_Pull C_Entry C_Store C_FolderkinError C_PowerCut C_InvalidBlock gX : Nat) : Fm := runP 2 5 (m_missing C_Pull C_Entry C_Store C_FolderkinError C_PowerCut C_InvalidBlock gX)
def m_length_of (C_Pull C_Entry C_Store C_FolderkinError C_PowerCut C_InvalidBlock gX : Nat) : MS := retS (b1K dSum (lcK [1] (tupleK (kV 0)) (setv 1) (yesK) (b1K dLen (callN 1 (f_block_bytes C_Pull C_Entry C_Store C_FolderkinError C_PowerCut C_InvalidBlock gX) [] (consK (kV 1) (nilK))))))
def f_length_of (C_Pull C_Entry C_Store C_FolderkinError C_PowerCut C_InvalidBlock gX : Nat) : Fm := runP 1 2 (m_length_of C_Pull C_Entry C_Store C_FolderkinError C_PowerCut C_InvalidBlock gX)
def m_Store_write_now (C_Pull C_Entry C_Store C_FolderkinError C_PowerCut C_InvalidBlock gX : Nat) : MS := seqS (ifS (andK (tst (bop dIsNot (fldK C_Store "most" (kV 0)) (kC .none))) (tst (bop dGe (fldK C_Store "writes" (kV 0)) (fldK C_Store "most" (kV 0))))) (raiseS C_PowerCut (fldK C_Store "writes" (kV 0))) (nextS))
  (augaS C_Store "writes" dIAdd (kV 0) (kC (.int 1)))
def f_Store_write_now (C_Pull C_Entry C_Store C_FolderkinError C_PowerCut C_InvalidBlock gX : Nat) : Fm := runP 1 1 (m_Store_write_now C_Pull C_Entry C_Store C_FolderkinError C_PowerCut C_InvalidBlock gX)
def m_Store_cut_temp (C_Pull C_Entry C_Store C_FolderkinError C_PowerCut C_InvalidBlock gX : Nat) : MS := seqS (dropS (methK C_Store "write_now" 0 (f_Store_write_now C_Pull C_Entry C_Store C_FolderkinError C_PowerCut C_InvalidBlock gX) [] (kV 0) nilK))
  (ifS (tst (bop dEq (kV 2) (kC (.int 0)))) (dropS (dpop2K (fldK C_Store "temps" (kV 0)) (kV 1) (kC .none))) (ifS (tst (dinK false (kV 1) (fldK C_Store "temps" (kV 0)))) (dputS (cutK (dgetK (fldK C_Store "temps" (kV 0)) (kV 1)) (pnone) (psome (kV 2))) (fldK C_Store "temps" (kV 0)) (kV 1)) (nextS)))
def f_Store_cut_temp (C_Pull C_Entry C_Store C_FolderkinError C_PowerCut C_InvalidBlock gX : Nat) : Fm := runP 3 3 (m_Store_cut_temp C_Pull C_Entry C_Store C_FolderkinError C_PowerCut C_InvalidBlock gX)
def m_Pull_init (C_Pull C_Entry C_Store C_FolderkinError C_PowerCut C_InvalidBlock gX : Nat) : MS := seqS (setaS C_Pull "store" (kV 1) (kV 0))
  (seqS (setaS C_Pull "entry" (kV 2) (kV 0))
  (seqS (asgS (methK C_Store "temp" 1 (f_Store_temp C_Pull C_Entry C_Store C_FolderkinError C_PowerCut C_InvalidBlock gX) [] (kV 1) (consK (fldK C_Entry "name" (kV 2)) (nilK))) (setv 3))
  (seqS (asgS (callN 1 (f_length_of C_Pull C_Entry C_Store C_FolderkinError C_PowerCut C_InvalidBlock gX) [] (consK (cutK (fldK C_Entry "blocks" (kV 2)) (pnone) (psome (callN 2 (f_kept_blocks C_Pull C_Entry C_Store C_FolderkinError C_PowerCut C_InvalidBlock gX) [] (consK (kV 1) (consK (kV 2) (nilK)))))) (nilK))) (setv 4))
  (ifS (andK (tst (bop dIsNot (kV 3) (kC .none))) (tst (bop dGt (b1K dLen (kV 3)) (kV 4)))) (dropS (methK C_Store "cut_temp" 2 (f_Store_cut_temp C_Pull C_Entry C_Store C_FolderkinError C_PowerCut C_InvalidBlock gX) [] (kV 1) (consK (fldK C_Entry "name" (kV 2)) (consK (kV 4) (nilK))))) (nextS)))))
def f_Pull_init (C_Pull C_Entry C_Store C_FolderkinError C_PowerCut C_InvalidBlock gX : Nat) : Fm := runF 3 5 (m_Pull_init C_Pull C_Entry C_Store C_FolderkinError C_PowerCut C_InvalidBlock gX)
def m_Pull_count (C_Pull C_Entry C_Store C_FolderkinError C_PowerCut C_InvalidBlock gX : Nat) : MS := retS (callN 2 (f_kept_blocks C_Pull C_Entry C_Store C_FolderkinError C_PowerCut C_InvalidBlock gX) [] (consK (fldK C_Pull "store" (kV 0)) (consK (fldK C_Pull "entry" (kV 0)) (nilK))))
def f_Pull_count (C_Pull C_Entry C_Store C_FolderkinError C_PowerCut C_InvalidBlock gX : Nat) : Fm := runP 1 1 (m_Pull_count C_Pull C_Entry C_Store C_FolderkinError C_PowerCut C_InvalidBlock gX)
def m_Pull_is_whole (C_Pull C_Entry C_Store C_FolderkinError C_PowerCut C_InvalidBlock gX : Nat) : MS := retS (bop dEq (methK C_Pull "count" 0 (f_Pull_count C_Pull C_Entry C_Store C_FolderkinError C_PowerCut C_InvalidBlock gX) [] (kV 0) nilK) (b1K dLen (fldK C_Entry "blocks" (fldK C_Pull "entry" (kV 0)))))
def f_Pull_is_whole (C_Pull C_Entry C_Store C_FolderkinError C_PowerCut C_InvalidBlock gX : Nat) : Fm := runP 1 1 (m_Pull_is_whole C_Pull C_Entry C_Store C_FolderkinError C_PowerCut C_InvalidBlock gX)
def m_Store_append_temp (C_Pull C_Entry C_Store C_FolderkinError C_PowerCut C_InvalidBlock gX : Nat) : MS := forS (listK (kV 2)) (setv 3) (seqS (dropS (methK C_Store "write_now" 0 (f_Store_write_now C_Pull C_Entry C_Store C_FolderkinError C_PowerCut C_InvalidBlock gX) [] (kV 0) nilK))
  (dputS (bop dAdd (dget2K (fldK C_Store "temps" (kV 0)) (kV 1) (lstK (nilK))) (lstK (consK (kV 3) (nilK)))) (fldK C_Store "temps" (kV 0)) (kV 1)))
def f_Store_append_temp (C_Pull C_Entry C_Store C_FolderkinError C_PowerCut C_InvalidBlock gX : Nat) : Fm := runP 3 4 (m_Store_append_temp C_Pull C_Entry C_Store C_FolderkinError C_PowerCut C_InvalidBlock gX)
def m_Pull_append (C_Pull C_Entry C_Store C_FolderkinError C_PowerCut C_InvalidBlock gX : Nat) : MS := dropS (methK C_Store "append_temp" 2 (f_Store_append_temp C_Pull C_Entry C_Store C_FolderkinError C_PowerCut C_InvalidBlock gX) [] (fldK C_Pull "store" (kV 0)) (consK (fldK C_Entry "name" (fldK C_Pull "entry" (kV 0))) (consK (callN 1 (f_block_bytes C_Pull C_Entry C_Store C_FolderkinError C_PowerCut C_InvalidBlock gX) [] (consK (kV 1) (nilK))) (nilK))))
def f_Pull_append (C_Pull C_Entry C_Store C_FolderkinError C_PowerCut C_InvalidBlock gX : Nat) : Fm := runP 2 2 (m_Pull_append C_Pull C_Entry C_Store C_FolderkinError C_PowerCut C_InvalidBlock gX)
def m_Pull_advance (C_Pull C_Entry C_Store C_FolderkinError C_PowerCut C_InvalidBlock gX : Nat) : MS := seqS (whileS (notK (tst (methK C_Pull "is_whole" 0 (f_Pull_is_whole C_Pull C_Entry C_Store C_FolderkinError C_PowerCut C_InvalidBlock gX) [] (kV 0) nilK))) (seqS (asgS (bop dIx (fldK C_Entry "blocks" (fldK C_Pull "entry" (kV 0))) (methK C_Pull "count" 0 (f_Pull_count C_Pull C_Entry C_Store C_FolderkinError C_PowerCut C_InvalidBlock gX) [] (kV 0) nilK)) (setv 1))
  (seqS (ifS (tst (dinK true (kV 1) (callN 2 (f_near_places C_Pull C_Entry C_Store C_FolderkinError C_PowerCut C_InvalidBlock gX) [] (consK (fldK C_Pull "store" (kV 0)) (consK (fldK C_Pull "entry" (kV 0)) (nilK)))))) (retS (kV 1)) (nextS))
  (dropS (methK C_Pull "append" 1 (f_Pull_append C_Pull C_Entry C_Store C_FolderkinError C_PowerCut C_InvalidBlock gX) [] (kV 0) (consK (kV 1) (nilK)))))))
  (retS (kC .none))
def f_Pull_advance (C_Pull C_Entry C_Store C_FolderkinError C_PowerCut C_InvalidBlock gX : Nat) : Fm := runP 1 2 (m_Pull_advance C_Pull C_Entry C_Store C_FolderkinError C_PowerCut C_InvalidBlock gX)
def m_Pull_give (C_Pull C_Entry C_Store C_FolderkinError C_PowerCut C_InvalidBlock gX : Nat) : MS := seqS (ifS (orK (tst (methK C_Pull "is_whole" 0 (f_Pull_is_whole C_Pull C_Entry C_Store C_FolderkinError C_PowerCut C_InvalidBlock gX) [] (kV 0) nilK)) (orK (tst (bop dNe (bop dIx (fldK C_Entry "blocks" (fldK C_Pull "entry" (kV 0))) (methK C_Pull "count" 0 (f_Pull_count C_Pull C_Entry C_Store C_FolderkinError C_PowerCut C_InvalidBlock gX) [] (kV 0) nilK)) (kV 1))) (tst (bop dNe (callN 1 (f_block_bytes C_Pull C_Entry C_Store C_FolderkinError C_PowerCut C_InvalidBlock gX) [] (consK (kV 1) (nilK))) (b1K dList (kV 2)))))) (retS (kC (.bool false))) (nextS))
  (seqS (dropS (methK C_Pull "append" 1 (f_Pull_append C_Pull C_Entry C_Store C_FolderkinError C_PowerCut C_InvalidBlock gX) [] (kV 0) (consK (kV 1) (nilK))))
  (retS (kC (.bool true))))
def f_Pull_give (C_Pull C_Entry C_Store C_FolderkinError C_PowerCut C_InvalidBlock gX : Nat) : Fm := runP 3 3 (m_Pull_give C_Pull C_Entry C_Store C_FolderkinError C_PowerCut C_InvalidBlock gX)
def m_Store_place (C_Pull C_Entry C_Store C_FolderkinError C_PowerCut C_InvalidBlock gX : Nat) : MS := seqS (dropS (methK C_Store "write_now" 0 (f_Store_write_now C_Pull C_Entry C_Store C_FolderkinError C_PowerCut C_InvalidBlock gX) [] (kV 0) nilK))
  (dputS (tupK (consK (dpop2K (fldK C_Store "temps" (kV 0)) (kV 1) (lstK (nilK))) (consK (kV 2) (nilK)))) (fldK C_Store "files" (kV 0)) (kV 1))
def f_Store_place (C_Pull C_Entry C_Store C_FolderkinError C_PowerCut C_InvalidBlock gX : Nat) : Fm := runP 3 3 (m_Store_place C_Pull C_Entry C_Store C_FolderkinError C_PowerCut C_InvalidBlock gX)
def m_Pull_place (C_Pull C_Entry C_Store C_FolderkinError C_PowerCut C_InvalidBlock gX : Nat) : MS := dropS (methK C_Store "place" 2 (f_Store_place C_Pull C_Entry C_Store C_FolderkinError C_PowerCut C_InvalidBlock gX) [] (fldK C_Pull "store" (kV 0)) (consK (fldK C_Entry "name" (fldK C_Pull "entry" (kV 0))) (consK (fldK C_Entry "time" (fldK C_Pull "entry" (kV 0))) (nilK))))
def f_Pull_place (C_Pull C_Entry C_Store C_FolderkinError C_PowerCut C_InvalidBlock gX : Nat) : Fm := runP 1 1 (m_Pull_place C_Pull C_Entry C_Store C_FolderkinError C_PowerCut C_InvalidBlock gX)
def m_Entry_init (C_Pull C_Entry C_Store C_FolderkinError C_PowerCut C_InvalidBlock gX : Nat) : MS := seqS (setaS C_Entry "name" (kV 1) (kV 0))
  (seqS (setaS C_Entry "vector" (kV 2) (kV 0))
  (seqS (setaS C_Entry "height" (kV 3) (kV 0))
  (seqS (setaS C_Entry "maker" (kV 4) (kV 0))
  (seqS (setaS C_Entry "deleted" (kV 5) (kV 0))
  (seqS (setaS C_Entry "time" (kV 6) (kV 0))
  (setaS C_Entry "blocks" (kV 7) (kV 0)))))))
def f_Entry_init (C_Pull C_Entry C_Store C_FolderkinError C_PowerCut C_InvalidBlock gX : Nat) : Fm := runF 8 8 (m_Entry_init C_Pull C_Entry C_Store C_FolderkinError C_PowerCut C_InvalidBlock gX)
def m_Store_init (C_Pull C_Entry C_Store C_FolderkinError C_PowerCut C_InvalidBlock gX : Nat) : MS := seqS (setaS C_Store "files" (newK (dnewK)) (kV 0))
  (seqS (lockS (forS (keysLK (kV 1)) (setv 3) (seqS (asgS (dgetK (kV 1) (kV 3)) (tgTup 2 (tgCons (setv 4) (tgCons (setv 5) (tgNil)))))
  (dputS (tupK (consK (b1K dList (kV 4)) (consK (kV 5) (nilK)))) (fldK C_Store "files" (kV 0)) (kV 3)))))
  (seqS (setaS C_Store "temps" (newK (dnewK)) (kV 0))
  (seqS (setaS C_Store "old" (newK (lstK (nilK))) (kV 0))
  (seqS (setaS C_Store "records" (newK (b1K dList (kV 2))) (kV 0))
  (seqS (setaS C_Store "fresh" (newK (lstK (nilK))) (kV 0))
  (seqS (setaS C_Store "writes" (kC (.int 0)) (kV 0))
  (setaS C_Store "most" (kC .none) (kV 0))))))))
def f_Store_init (C_Pull C_Entry C_Store C_FolderkinError C_PowerCut C_InvalidBlock gX : Nat) : Fm := runF 3 6 (m_Store_init C_Pull C_Entry C_Store C_FolderkinError C_PowerCut C_InvalidBlock gX)
def m_Store_set_budget (C_Pull C_Entry C_Store C_FolderkinError C_PowerCut C_InvalidBlock gX : Nat) : MS := ifS (tst (bop dIs (kV 1) (kC .none))) (setaS C_Store "most" (kC .none) (kV 0)) (setaS C_Store "most" (bop dAdd (fldK C_Store "writes" (kV 0)) (kV 1)) (kV 0))
def f_Store_set_budget (C_Pull C_Entry C_Store C_FolderkinError C_PowerCut C_InvalidBlock gX : Nat) : Fm := runP 2 2 (m_Store_set_budget C_Pull C_Entry C_Store C_FolderkinError C_PowerCut C_InvalidBlock gX)
def m_Store_temp_names (C_Pull C_Entry C_Store C_FolderkinError C_PowerCut C_InvalidBlock gX : Nat) : MS := retS (sortDK (fldK C_Store "temps" (kV 0)))
def f_Store_temp_names (C_Pull C_Entry C_Store C_FolderkinError C_PowerCut C_InvalidBlock gX : Nat) : Fm := runP 1 1 (m_Store_temp_names C_Pull C_Entry C_Store C_FolderkinError C_PowerCut C_InvalidBlock gX)
def m_Store_attic_put (C_Pull C_Entry C_Store C_FolderkinError C_PowerCut C_InvalidBlock gX : Nat) : MS := seqS (dropS (methK C_Store "write_now" 0 (f_Store_write_now C_Pull C_Entry C_Store C_FolderkinError C_PowerCut C_InvalidBlock gX) [] (kV 0) nilK))
  (dropS (mutK muAppend (fldK C_Store "old" (kV 0)) (consK (tupK (consK (kV 1) (consK (kV 2) (consK (b1K dList (kV 3)) (nilK))))) (nilK))))
def f_Store_attic_put (C_Pull C_Entry C_Store C_FolderkinError C_PowerCut C_InvalidBlock gX : Nat) : Fm := runP 4 4 (m_Store_attic_put C_Pull C_Entry C_Store C_FolderkinError C_PowerCut C_InvalidBlock gX)
def m_Store_durable (C_Pull C_Entry C_Store C_FolderkinError C_PowerCut C_InvalidBlock gX : Nat) : MS := seqS (asgS (b1K dTuple (lcK [4] (listK (methK C_Store "names" 0 (f_Store_names C_Pull C_Entry C_Store C_FolderkinError C_PowerCut C_InvalidBlock gX) [] (kV 0) nilK)) (setv 4) (yesK) (tupK (consK (kV 4) (consK (b1K dTuple (bop dIx (dgetK (fldK C_Store "files" (kV 0)) (kV 4)) (kC (.int 0)))) (consK (bop dIx (dgetK (fldK C_Store "files" (kV 0)) (kV 4)) (kC (.int 1))) (nilK))))))) (setv 1))
  (seqS (asgS (b1K dTuple (lcK [4] (listK (methK C_Store "temp_names" 0 (f_Store_temp_names C_Pull C_Entry C_Store C_FolderkinError C_PowerCut C_InvalidBlock gX) [] (kV 0) nilK)) (setv 4) (yesK) (tupK (consK (kV 4) (consK (b1K dTuple (dgetK (fldK C_Store "temps" (kV 0)) (kV 4))) (nilK)))))) (setv 2))
  (seqS (asgS (b1K dTuple (lcK [4, 5, 6] (listK (fldK C_Store "old" (kV 0))) (tgTup 3 (tgCons (setv 4) (tgCons (setv 5) (tgCons (setv 6) (tgNil))))) (yesK) (tupK (consK (kV 4) (consK (kV 5) (consK (b1K dTuple (kV 6)) (nilK))))))) (setv 3))
  (retS (tupK (consK (kV 1) (consK (kV 2) (consK (kV 3) (consK (b1K dTuple (fldK C_Store "records" (kV 0))) (consK (b1K dTuple (fldK C_Store "fresh" (kV 0))) (nilK))))))))))
def f_Store_durable (C_Pull C_Entry C_Store C_FolderkinError C_PowerCut C_InvalidBlock gX : Nat) : Fm := runP 1 7 (m_Store_durable C_Pull C_Entry C_Store C_FolderkinError C_PowerCut C_InvalidBlock gX)
def m_from_durable (C_Pull C_Entry C_Store C_FolderkinError C_PowerCut C_InvalidBlock gX : Nat) : MS := seqS (asgS (kV 0) (tgTup 5 (tgCons (setv 2) (tgCons (setv 3) (tgCons (setv 4) (tgCons (setv 5) (tgCons (setv 6) (tgNil))))))))
  (seqS (asgS (mkK C_Store 2 (f_Store_init C_Pull C_Entry C_Store C_FolderkinError C_PowerCut C_InvalidBlock gX) [] (consK (newK (dnewK)) (consK (kV 5) (nilK)))) (setv 1))
  (seqS (forS (tupleK (kV 2)) (tgTup 3 (tgCons (setv 7) (tgCons (setv 8) (tgCons (setv 9) (tgNil))))) (dputS (tupK (consK (b1K dList (kV 8)) (consK (kV 9) (nilK)))) (fldK C_Store "files" (kV 1)) (kV 7)))
  (seqS (forS (tupleK (kV 3)) (tgTup 2 (tgCons (setv 7) (tgCons (setv 8) (tgNil)))) (dputS (b1K dList (kV 8)) (fldK C_Store "temps" (kV 1)) (kV 7)))
  (seqS (setaS C_Store "old" (newK (lcK [7, 10, 8] (tupleK (kV 4)) (tgTup 3 (tgCons (setv 7) (tgCons (setv 10) (tgCons (setv 8) (tgNil))))) (yesK) (tupK (consK (kV 7) (consK (kV 10) (consK (b1K dList (kV 8)) (nilK))))))) (kV 1))
  (seqS (setaS C_Store "fresh" (newK (b1K dList (kV 6))) (kV 1))
  (retS (kV 1)))))))
def f_from_durable (C_Pull C_Entry C_Store C_FolderkinError C_PowerCut C_InvalidBlock gX : Nat) : Fm := runF 1 11 (m_from_durable C_Pull C_Entry C_Store C_FolderkinError C_PowerCut C_InvalidBlock gX)
def m_law_draw (C_Pull C_Entry C_Store C_FolderkinError C_PowerCut C_InvalidBlock gX : Nat) : MS := seqS (ifS (tst (bop dEq (bop dIx (kV 0) (kC (.int 1))) (kC (.int 0)))) (seqS (asgS (kC (.int 0)) (setv 4))
  (seqS (ifS (tst (bop dGt (b1K dLen (kV 1)) (kC (.int 0)))) (asgS (bop dIx (kV 1) (bop dMod (bop dIx (kV 0) (kC (.int 0))) (b1K dLen (kV 1)))) (setv 4)) (nextS))
  (seqS (ifS (tst (bop dLt (kV 4) (kC (.int 0)))) (asgS (bop dSub (kC (.int 1)) (bop dMul (kC (.int 2)) (kV 4))) (setv 4)) (nextS))
  (seqS (asgS (bop dMod (b1K dInt (bop dMul (bop dAdd (bop dAdd (kV 4) (bop dMul (bop dIx (kV 0) (kC (.int 0))) (kC (.int 7919)))) (kC (.int 1))) (kC (.int 48271)))) (kC (.int 2147483647))) (setv 5))
  (seqS (setiS (bop dMod (b1K dInt (bop dAdd (bop dMul (kV 5) (kC (.int 69621))) (bop dMul (bop dIx (kV 0) (kC (.int 0))) (kC (.int 104729))))) (kC (.int 4294967291))) (kV 0) (kC (.int 1)))
  (seqS (ifS (andK (tst (bop dGe (kV 4) (bop dPow (kC (.int 10)) (kC (.int 18))))) (tst (bop dLt (bop dIx (kV 0) (kC (.int 0))) (b1K dLen (kV 1))))) (setiS (kV 4) (kV 0) (kC (.int 1))) (nextS))
  (setiS (bop dAdd (bop dIx (kV 0) (kC (.int 0))) (kC (.int 1))) (kV 0) (kC (.int 0))))))))) (nextS))
  (seqS (asgS (bop dMod (b1K dInt (bop dIx (kV 0) (kC (.int 1)))) (kV 2)) (setv 3))
  (seqS (setiS (bop dDiv (bop dIx (kV 0) (kC (.int 1))) (kV 2)) (kV 0) (kC (.int 1)))
  (retS (kV 3))))
def f_law_draw (C_Pull C_Entry C_Store C_FolderkinError C_PowerCut C_InvalidBlock gX : Nat) : Fm := runP 3 6 (m_law_draw C_Pull C_Entry C_Store C_FolderkinError C_PowerCut C_InvalidBlock gX)
def m_law_name (C_Pull C_Entry C_Store C_FolderkinError C_PowerCut C_InvalidBlock gX : Nat) : MS := retS (bop dIx (lstK (consK (kC (.str "a")) (consK (kC (.str "b")) (consK (kC (.str "a/b")) (consK (kC (.str "Z9")) (consK (kC (.str "c")) (consK (kC (.str "longer/names/are/here/abcdefghijklmnopqr")) (nilK)))))))) (callN 3 (f_law_draw C_Pull C_Entry C_Store C_FolderkinError C_PowerCut C_InvalidBlock gX) [] (consK (kV 0) (consK (kV 1) (consK (kC (.int 6)) (nilK))))))
def f_law_name (C_Pull C_Entry C_Store C_FolderkinError C_PowerCut C_InvalidBlock gX : Nat) : Fm := runP 2 2 (m_law_name C_Pull C_Entry C_Store C_FolderkinError C_PowerCut C_InvalidBlock gX)
def m_law_content (C_Pull C_Entry C_Store C_FolderkinError C_PowerCut C_InvalidBlock gX : Nat) : MS := seqS (asgS (lstK (consK (lstK (consK (kC (.int 1)) (consK (kC (.int 2)) (consK (kC (.int 3)) (consK (kC (.int 4)) (nilK)))))) (consK (lstK (consK (kC (.int 0)) (consK (kC (.int 0)) (consK (kC (.int 0)) (consK (kC (.int 0)) (nilK)))))) (consK (lstK (consK (kC (.int 255)) (consK (kC (.int 254)) (consK (kC (.int 253)) (consK (kC (.int 252)) (nilK)))))) (consK (lstK (consK (kC (.int 5)) (nilK))) (consK (lstK (consK (kC (.int 9)) (consK (kC (.int 9)) (nilK)))) (consK (lstK (consK (callN 3 (f_law_draw C_Pull C_Entry C_Store C_FolderkinError C_PowerCut C_InvalidBlock gX) [] (consK (kV 0) (consK (kV 1) (consK (kC (.int 256)) (nilK))))) (consK (kC (.int 7)) (consK (kC (.int 7)) (consK (kC (.int 7)) (nilK)))))) (nilK)))))))) (setv 3))
  (seqS (asgS (lstK (nilK)) (setv 4))
  (seqS (forS (rangeK1 (consK (callN 3 (f_law_draw C_Pull C_Entry C_Store C_FolderkinError C_PowerCut C_InvalidBlock gX) [] (consK (kV 0) (consK (kV 1) (consK (bop dAdd (kV 2) (kC (.int 1))) (nilK))))) (nilK))) (setv 5) (asgS (bop dAdd (kV 4) (bop dIx (kV 3) (callN 3 (f_law_draw C_Pull C_Entry C_Store C_FolderkinError C_PowerCut C_InvalidBlock gX) [] (consK (kV 0) (consK (kV 1) (consK (kC (.int 6)) (nilK))))))) (setv 4)))
  (retS (kV 4))))
def f_law_content (C_Pull C_Entry C_Store C_FolderkinError C_PowerCut C_InvalidBlock gX : Nat) : Fm := runP 3 6 (m_law_content C_Pull C_Entry C_Store C_FolderkinError C_PowerCut C_InvalidBlock gX)
def m_law_blocks (C_Pull C_Entry C_Store C_FolderkinError C_PowerCut C_InvalidBlock gX : Nat) : MS := seqS (asgS (newK (lstK (nilK))) (setv 1))
  (seqS (forS (rangeK3 (consK (kC (.int 0)) (consK (b1K dLen (kV 0)) (consK (kC (.int 4)) (nilK))))) (setv 2) (seqS (asgS (kC (.int 1)) (setv 3))
  (seqS (forS (listK (cutK (kV 0) (psome (kV 2)) (psome (bop dAdd (kV 2) (kC (.int 4)))))) (setv 4) (asgS (bop dAdd (bop dMul (kV 3) (kC (.int 256))) (kV 4)) (setv 3)))
  (dropS (mutK muAppend (kV 1) (consK (kV 3) (nilK)))))))
  (retS (b1K dTuple (kV 1))))
def f_law_blocks (C_Pull C_Entry C_Store C_FolderkinError C_PowerCut C_InvalidBlock gX : Nat) : Fm := runP 1 5 (m_law_blocks C_Pull C_Entry C_Store C_FolderkinError C_PowerCut C_InvalidBlock gX)
def m_law_bytes (C_Pull C_Entry C_Store C_FolderkinError C_PowerCut C_InvalidBlock gX : Nat) : MS := seqS (asgS (lstK (nilK)) (setv 1))
  (seqS (forS (listK (kV 0)) (setv 2) (seqS (asgS (lstK (nilK)) (setv 3))
  (seqS (whileS (tst (bop dGt (kV 2) (kC (.int 1)))) (seqS (asgS (bop dAdd (lstK (consK (bop dAnd (kV 2) (kC (.int 255))) (nilK))) (kV 3)) (setv 3))
  (asgS (bop dShr (kV 2) (kC (.int 8))) (setv 2))))
  (asgS (bop dAdd (kV 1) (kV 3)) (setv 1)))))
  (retS (kV 1)))
def f_law_bytes (C_Pull C_Entry C_Store C_FolderkinError C_PowerCut C_InvalidBlock gX : Nat) : Fm := runP 1 4 (m_law_bytes C_Pull C_Entry C_Store C_FolderkinError C_PowerCut C_InvalidBlock gX)
def m_law_refused (C_Pull C_Entry C_Store C_FolderkinError C_PowerCut C_InvalidBlock gX : Nat) : MS := seqS (asgS (methK C_Store "durable" 0 (f_Store_durable C_Pull C_Entry C_Store C_FolderkinError C_PowerCut C_InvalidBlock gX) [] (kV 2) nilK) (setv 5))
  (seqS (asgS (callN 1 (f_law_bytes C_Pull C_Entry C_Store C_FolderkinError C_PowerCut C_InvalidBlock gX) [] (consK (lstK (consK (kV 4) (nilK))) (nilK))) (setv 6))
  (seqS (asgS (bop dIx (lstK (consK (tupK (consK (bop dAdd (kV 4) (kC (.int 1))) (consK (kV 6) (nilK)))) (consK (tupK (consK (kV 4) (consK (bop dAdd (kV 6) (lstK (consK (kC (.int 0)) (nilK)))) (nilK)))) (consK (tupK (consK (kV 4) (consK (bop dAdd (lstK (consK (bop dXor (bop dIx (kV 6) (kC (.int 0))) (kC (.int 1))) (nilK))) (cutK (kV 6) (psome (kC (.int 1))) (pnone))) (nilK)))) (consK (tupK (consK (kC (.int 257)) (consK (lstK (consK (kC (.int 1)) (nilK))) (nilK)))) (nilK)))))) (callN 3 (f_law_draw C_Pull C_Entry C_Store C_FolderkinError C_PowerCut C_InvalidBlock gX) [] (consK (kV 0) (consK (kV 1) (consK (kC (.int 4)) (nilK)))))) (setv 7))
  (seqS (ifS (andK (tst (bop dEq (bop dIx (kV 7) (kC (.int 0))) (kV 4))) (tst (bop dEq (bop dIx (kV 7) (kC (.int 1))) (kV 6)))) (retS (kC (.bool true))) (nextS))
  (retS (orV (tst (bop dEq (kV 7) (tupK (consK (kV 4) (consK (kV 6) (nilK)))))) (andV (tst (bop dIsT (methK C_Pull "give" 2 (f_Pull_give C_Pull C_Entry C_Store C_FolderkinError C_PowerCut C_InvalidBlock gX) [] (kV 3) (consK (bop dIx (kV 7) (kC (.int 0))) (consK (bop dIx (kV 7) (kC (.int 1))) (nilK)))) (kC (.bool false)))) (bop dEq (methK C_Store "durable" 0 (f_Store_durable C_Pull C_Entry C_Store C_FolderkinError C_PowerCut C_InvalidBlock gX) [] (kV 2) nilK) (kV 5))))))))
def f_law_refused (C_Pull C_Entry C_Store C_FolderkinError C_PowerCut C_InvalidBlock gX : Nat) : Fm := runP 5 8 (m_law_refused C_Pull C_Entry C_Store C_FolderkinError C_PowerCut C_InvalidBlock gX)
def m_law_pulled (C_Pull C_Entry C_Store C_FolderkinError C_PowerCut C_InvalidBlock gX : Nat) : MS := seqS (tryS (exm_PowerCut C_Pull C_Entry C_Store C_FolderkinError C_PowerCut C_InvalidBlock gX) (seqS (asgS (mkK C_Pull 2 (f_Pull_init C_Pull C_Entry C_Store C_FolderkinError C_PowerCut C_InvalidBlock gX) [] (consK (kV 2) (consK (kV 3) (nilK)))) (setv 5))
  (forS (rangeK1 (consK (bop dAdd (b1K dLen (fldK C_Entry "blocks" (kV 3))) (kC (.int 1))) (nilK))) (setv 6) (seqS (asgS (methK C_Pull "advance" 0 (f_Pull_advance C_Pull C_Entry C_Store C_FolderkinError C_PowerCut C_InvalidBlock gX) [] (kV 5) nilK) (setv 7))
  (seqS (ifS (tst (bop dIs (kV 7) (kC .none))) (seqS (ifS (orK (notK (tst (methK C_Pull "is_whole" 0 (f_Pull_is_whole C_Pull C_Entry C_Store C_FolderkinError C_PowerCut C_InvalidBlock gX) [] (kV 5) nilK))) (tst (bop dNe (methK C_Pull "count" 0 (f_Pull_count C_Pull C_Entry C_Store C_FolderkinError C_PowerCut C_InvalidBlock gX) [] (kV 5) nilK) (b1K dLen (fldK C_Entry "blocks" (kV 3)))))) (retS (kC (.str "wrong"))) (nextS))
  (seqS (dropS (methK C_Pull "place" 0 (f_Pull_place C_Pull C_Entry C_Store C_FolderkinError C_PowerCut C_InvalidBlock gX) [] (kV 5) nilK))
  (retS (kC (.str "done"))))) (nextS))
  (seqS (dropS (mutK muAppend (kV 4) (consK (kV 7) (nilK))))
  (seqS (ifS (orK (tst (methK C_Pull "is_whole" 0 (f_Pull_is_whole C_Pull C_Entry C_Store C_FolderkinError C_PowerCut C_InvalidBlock gX) [] (kV 5) nilK)) (tst (bop dNe (bop dIx (fldK C_Entry "blocks" (kV 3)) (methK C_Pull "count" 0 (f_Pull_count C_Pull C_Entry C_Store C_FolderkinError C_PowerCut C_InvalidBlock gX) [] (kV 5) nilK)) (kV 7)))) (retS (kC (.str "wrong"))) (nextS))
  (seqS (ifS (andK (tst (bop dEq (callN 3 (f_law_draw C_Pull C_Entry C_Store C_FolderkinError C_PowerCut C_InvalidBlock gX) [] (consK (kV 0) (consK (kV 1) (consK (kC (.int 3)) (nilK))))) (kC (.int 1)))) (andK (tst (bop dNe (kV 7) (kC (.int 257)))) (notK (tst (callN 5 (f_law_refused C_Pull C_Entry C_Store C_FolderkinError C_PowerCut C_InvalidBlock gX) [] (consK (kV 0) (consK (kV 1) (consK (kV 2) (consK (kV 5) (consK (kV 7) (nilK))))))))))) (retS (kC (.str "wrong"))) (nextS))
  (ifS (tst (bop dIsNotT (methK C_Pull "give" 2 (f_Pull_give C_Pull C_Entry C_Store C_FolderkinError C_PowerCut C_InvalidBlock gX) [] (kV 5) (consK (kV 7) (consK (callN 1 (f_law_bytes C_Pull C_Entry C_Store C_FolderkinError C_PowerCut C_InvalidBlock gX) [] (consK (lstK (consK (kV 7) (nilK))) (nilK))) (nilK)))) (kC (.bool true)))) (retS (kC (.str "wrong"))) (nextS))))))))) (retS (kC (.str "cut"))))
  (retS (kC (.str "wrong")))
def f_law_pulled (C_Pull C_Entry C_Store C_FolderkinError C_PowerCut C_InvalidBlock gX : Nat) : Fm := runP 5 8 (m_law_pulled C_Pull C_Entry C_Store C_FolderkinError C_PowerCut C_InvalidBlock gX)
def m_law (C_Pull C_Entry C_Store C_FolderkinError C_PowerCut C_InvalidBlock gX : Nat) : MS := seqS (asgS (newK (lstK (consK (kC (.int 0)) (consK (kC (.int 0)) (nilK))))) (setv 1))
  (seqS (asgS (callN 3 (f_law_content C_Pull C_Entry C_Store C_FolderkinError C_PowerCut C_InvalidBlock gX) [] (consK (kV 1) (consK (kV 0) (consK (kC (.int 7)) (nilK))))) (setv 2))
  (seqS (asgS (frzK (mkK C_Entry 7 (f_Entry_init C_Pull C_Entry C_Store C_FolderkinError C_PowerCut C_InvalidBlock gX) [] (consK (callN 2 (f_law_name C_Pull C_Entry C_Store C_FolderkinError C_PowerCut C_InvalidBlock gX) [] (consK (kV 1) (consK (kV 0) (nilK)))) (consK (tupK (consK (tupK (consK (kC (.int 1)) (consK (kC (.int 1)) (nilK)))) (nilK))) (consK (kC (.int 1)) (consK (tupK (consK (kC (.int 1)) (consK (kC (.int 1)) (nilK)))) (consK (kC (.bool false)) (consK (kC (.int 30)) (consK (callN 1 (f_law_blocks C_Pull C_Entry C_Store C_FolderkinError C_PowerCut C_InvalidBlock gX) [] (consK (kV 2) (nilK))) (nilK)))))))))) (setv 3))
  (seqS (asgS (newK (dnewK)) (setv 4))
  (seqS (forS (rangeK1 (consK (callN 3 (f_law_draw C_Pull C_Entry C_Store C_FolderkinError C_PowerCut C_InvalidBlock gX) [] (consK (kV 1) (consK (kV 0) (consK (kC (.int 4)) (nilK))))) (nilK))) (setv 5) (dputS (tupK (consK (callN 3 (f_law_content C_Pull C_Entry C_Store C_FolderkinError C_PowerCut C_InvalidBlock gX) [] (consK (kV 1) (consK (kV 0) (consK (kC (.int 4)) (nilK))))) (consK (kV 5) (nilK)))) (kV 4) (callN 2 (f_law_name C_Pull C_Entry C_Store C_FolderkinError C_PowerCut C_InvalidBlock gX) [] (consK (kV 1) (consK (kV 0) (nilK))))))
  (seqS (asgS (mkK C_Store 2 (f_Store_init C_Pull C_Entry C_Store C_FolderkinError C_PowerCut C_InvalidBlock gX) [] (consK (kV 4) (consK (lstK (nilK)) (nilK)))) (setv 6))
  (seqS (forS (rangeK1 (consK (callN 3 (f_law_draw C_Pull C_Entry C_Store C_FolderkinError C_PowerCut C_InvalidBlock gX) [] (consK (kV 1) (consK (kV 0) (consK (kC (.int 3)) (nilK))))) (nilK))) (setv 5) (dropS (methK C_Store "attic_put" 3 (f_Store_attic_put C_Pull C_Entry C_Store C_FolderkinError C_PowerCut C_InvalidBlock gX) [] (kV 6) (consK (callN 2 (f_law_name C_Pull C_Entry C_Store C_FolderkinError C_PowerCut C_InvalidBlock gX) [] (consK (kV 1) (consK (kV 0) (nilK)))) (consK (tupK (consK (tupK (consK (kC (.int 2)) (consK (kC (.int 1)) (nilK)))) (nilK))) (consK (callN 3 (f_law_content C_Pull C_Entry C_Store C_FolderkinError C_PowerCut C_InvalidBlock gX) [] (consK (kV 1) (consK (kV 0) (consK (kC (.int 3)) (nilK))))) (nilK)))))))
  (seqS (dropS (methK C_Store "append_temp" 2 (f_Store_append_temp C_Pull C_Entry C_Store C_FolderkinError C_PowerCut C_InvalidBlock gX) [] (kV 6) (consK (fldK C_Entry "name" (kV 3)) (consK (bop dIx (lstK (consK (callN 3 (f_law_content C_Pull C_Entry C_Store C_FolderkinError C_PowerCut C_InvalidBlock gX) [] (consK (kV 1) (consK (kV 0) (consK (kC (.int 2)) (nilK))))) (consK (cutK (kV 2) (pnone) (psome (callN 3 (f_law_draw C_Pull C_Entry C_Store C_FolderkinError C_PowerCut C_InvalidBlock gX) [] (consK (kV 1) (consK (kV 0) (consK (kC (.int 9)) (nilK))))))) (nilK)))) (callN 3 (f_law_draw C_Pull C_Entry C_Store C_FolderkinError C_PowerCut C_InvalidBlock gX) [] (consK (kV 1) (consK (kV 0) (consK (kC (.int 2)) (nilK)))))) (nilK)))))
  (seqS (asgS (callN 2 (f_missing C_Pull C_Entry C_Store C_FolderkinError C_PowerCut C_InvalidBlock gX) [] (consK (kV 6) (consK (kV 3) (nilK)))) (setv 7))
  (seqS (asgS (methK C_Store "attic" 0 (f_Store_attic C_Pull C_Entry C_Store C_FolderkinError C_PowerCut C_InvalidBlock gX) [] (kV 6) nilK) (setv 8))
  (seqS (asgS (lockK (dictPK (lcK [16] (keysLK (kV 4)) (setv 16) (tst (bop dNe (kV 16) (fldK C_Entry "name" (kV 3)))) (tupK (consK (kV 16) (consK (dgetK (kV 4) (kV 16)) (nilK))))))) (setv 9))
  (seqS (asgS (newK (lstK (nilK))) (setv 10))
  (seqS (asgS (kC (.int 0)) (setv 11))
  (seqS (asgS (kC (.str "cut")) (setv 12))
  (seqS (forS (rangeK1 (consK (kC (.int 6)) (nilK))) (setv 13) (ifS (tst (bop dEq (kV 12) (kC (.str "cut")))) (seqS (asgS (callN 1 (f_from_durable C_Pull C_Entry C_Store C_FolderkinError C_PowerCut C_InvalidBlock gX) [] (consK (methK C_Store "durable" 0 (f_Store_durable C_Pull C_Entry C_Store C_FolderkinError C_PowerCut C_InvalidBlock gX) [] (kV 6) nilK) (nilK))) (setv 6))
  (seqS (ifS (tst (bop dLt (kV 13) (kC (.int 5)))) (dropS (methK C_Store "set_budget" 1 (f_Store_set_budget C_Pull C_Entry C_Store C_FolderkinError C_PowerCut C_InvalidBlock gX) [] (kV 6) (consK (bop dIx (lstK (consK (kC .none) (consK (callN 3 (f_law_draw C_Pull C_Entry C_Store C_FolderkinError C_PowerCut C_InvalidBlock gX) [] (consK (kV 1) (consK (kV 0) (consK (kC (.int 20)) (nilK))))) (nilK)))) (callN 3 (f_law_draw C_Pull C_Entry C_Store C_FolderkinError C_PowerCut C_InvalidBlock gX) [] (consK (kV 1) (consK (kV 0) (consK (kC (.int 2)) (nilK)))))) (nilK)))) (nextS))
  (seqS (asgS (callN 5 (f_law_pulled C_Pull C_Entry C_Store C_FolderkinError C_PowerCut C_InvalidBlock gX) [] (consK (kV 1) (consK (kV 0) (consK (kV 6) (consK (kV 3) (consK (kV 10) (nilK))))))) (setv 12))
  (asgS (bop dAdd (kV 11) (b1K dInt (bop dEq (kV 12) (kC (.str "cut"))))) (setv 11))))) (nextS)))
  (seqS (ifS (orK (tst (bop dNe (kV 12) (kC (.str "done")))) (orK (tst (bop dNe (methK C_Store "read" 1 (f_Store_read C_Pull C_Entry C_Store C_FolderkinError C_PowerCut C_InvalidBlock gX) [] (kV 6) (consK (fldK C_Entry "name" (kV 3)) (nilK))) (tupK (consK (kV 2) (consK (kC (.int 30)) (nilK)))))) (tst (bop dIsNot (methK C_Store "temp" 1 (f_Store_temp C_Pull C_Entry C_Store C_FolderkinError C_PowerCut C_InvalidBlock gX) [] (kV 6) (consK (fldK C_Entry "name" (kV 3)) (nilK))) (kC .none))))) (retS (kC (.bool false))) (nextS))
  (seqS (ifS (orK (tst (bop (eqM true) (dictPK (lcK [16] (listK (methK C_Store "names" 0 (f_Store_names C_Pull C_Entry C_Store C_FolderkinError C_PowerCut C_InvalidBlock gX) [] (kV 6) nilK)) (setv 16) (tst (bop dNe (kV 16) (fldK C_Entry "name" (kV 3)))) (tupK (consK (kV 16) (consK (methK C_Store "read" 1 (f_Store_read C_Pull C_Entry C_Store C_FolderkinError C_PowerCut C_InvalidBlock gX) [] (kV 6) (consK (kV 16) (nilK))) (nilK)))))) (kV 9))) (tst (bop dNe (methK C_Store "attic" 0 (f_Store_attic C_Pull C_Entry C_Store C_FolderkinError C_PowerCut C_InvalidBlock gX) [] (kV 6) nilK) (kV 8)))) (retS (kC (.bool false))) (nextS))
  (seqS (asgS (newK (lstK (nilK))) (setv 14))
  (seqS (forS (listK (kV 10)) (setv 15) (ifS (tst (bop dNotIn (kV 15) (kV 14))) (dropS (mutK muAppend (kV 14) (consK (kV 15) (nilK)))) (nextS)))
  (retS (andV (tst (bop dEq (kV 14) (kV 7))) (bop dLe (b1K dLen (kV 10)) (bop dAdd (b1K dLen (kV 7)) (kV 11)))))))))))))))))))))))
def f_law (C_Pull C_Entry C_Store C_FolderkinError C_PowerCut C_InvalidBlock gX : Nat) : Fm := runF 1 17 (m_law C_Pull C_Entry C_Store C_FolderkinError C_PowerCut C_InvalidBlock gX)
end K26
namespace K26
open PySem L2 Hz
def top (i : Nat) : Stmt := PySem.Challenge.pw_folderkin_k26_whole_pulls.main.body.getD i (.Pass ⟨0, 0, 0, 0⟩)
def inC (s : Stmt) (j : Nat) : Stmt := match s with
  | .ClassDef (body := b) .. => b.getD j (.Pass ⟨0, 0, 0, 0⟩)
  | s => s
abbrev s_block_number : Stmt := top 7
abbrev s_block_size : Stmt := top 8
abbrev s_is_block : Stmt := top 9
abbrev s_block_bytes : Stmt := top 10
abbrev s_split : Stmt := top 11
abbrev s_kept_blocks : Stmt := top 16
abbrev s_near_places : Stmt := top 17
abbrev s_missing : Stmt := top 18
abbrev s_length_of : Stmt := top 19
abbrev s_Pull_init : Stmt := inC (top 20) 0
abbrev s_Pull_count : Stmt := inC (top 20) 1
abbrev s_Pull_is_whole : Stmt := inC (top 20) 2
abbrev s_Pull_append : Stmt := inC (top 20) 3
abbrev s_Pull_advance : Stmt := inC (top 20) 4
abbrev s_Pull_give : Stmt := inC (top 20) 5
abbrev s_Pull_place : Stmt := inC (top 20) 6
abbrev s_Entry_init : Stmt := inC (top 22) 0
abbrev s_Store_init : Stmt := inC (top 24) 0
abbrev s_Store_set_budget : Stmt := inC (top 24) 1
abbrev s_Store_write_now : Stmt := inC (top 24) 3
abbrev s_Store_names : Stmt := inC (top 24) 4
abbrev s_Store_read : Stmt := inC (top 24) 5
abbrev s_Store_temp_names : Stmt := inC (top 24) 9
abbrev s_Store_temp : Stmt := inC (top 24) 10
abbrev s_Store_append_temp : Stmt := inC (top 24) 11
abbrev s_Store_cut_temp : Stmt := inC (top 24) 12
abbrev s_Store_place : Stmt := inC (top 24) 13
abbrev s_Store_attic : Stmt := inC (top 24) 14
abbrev s_Store_attic_put : Stmt := inC (top 24) 15
abbrev s_Store_durable : Stmt := inC (top 24) 23
abbrev s_from_durable : Stmt := top 25
abbrev s_law_draw : Stmt := top 27
abbrev s_law_name : Stmt := top 28
abbrev s_law_content : Stmt := top 29
abbrev s_law_blocks : Stmt := top 30
abbrev s_law_bytes : Stmt := top 31
abbrev s_law_refused : Stmt := top 32
abbrev s_law_pulled : Stmt := top 33
abbrev s_law : Stmt := top 34
abbrev s_X : Stmt := inC (top 2) 0
theorem form_X : InitForm s_X := ⟨⟨_, _, _, _, _, _, _, _, _, _, _, rfl, by intros; rfl, by intros; rfl, by intros; rfl⟩, ⟨rfl, rfl, rfl, rfl⟩, rfl, rfl, rfl, by decide +kernel, by decide +kernel, rfl, fun _ _ _ _ _ _ _ _ us hl => match us, hl with | [_, _], _ => rfl⟩
theorem sc_block_number : FnScope ["data", "number", "byte"] ["data"] (defScope s_block_number) := ⟨rfl, rfl, rfl, by decide +kernel, rfl, by decide +kernel, by decide +kernel⟩
theorem sc_block_size : FnScope ["number", "size"] ["number"] (defScope s_block_size) := ⟨rfl, rfl, rfl, by decide +kernel, rfl, by decide +kernel, by decide +kernel⟩
theorem sc_is_block : FnScope ["number"] ["number"] (defScope s_is_block) := ⟨rfl, rfl, rfl, by decide +kernel, rfl, by decide +kernel, by decide +kernel⟩
theorem sc_block_bytes : FnScope ["number", "data"] ["number"] (defScope s_block_bytes) := ⟨rfl, rfl, rfl, by decide +kernel, rfl, by decide +kernel, by decide +kernel⟩
theorem sc_split : FnScope ["content", "at"] ["content"] (defScope s_split) := ⟨rfl, rfl, rfl, by decide +kernel, rfl, by decide +kernel, by decide +kernel⟩
theorem sc_kept_blocks : FnScope ["store", "entry", "temp", "count", "length", "content"] ["store", "entry"] (defScope s_kept_blocks) := ⟨rfl, rfl, rfl, by decide +kernel, rfl, by decide +kernel, by decide +kernel⟩
theorem sc_near_places : FnScope ["store", "entry", "found", "lots", "other", "old", "k", "kind", "where", "blocks"] ["store", "entry"] (defScope s_near_places) := ⟨rfl, rfl, rfl, by decide +kernel, rfl, by decide +kernel, by decide +kernel⟩
theorem sc_missing : FnScope ["store", "entry", "near", "found", "block"] ["store", "entry"] (defScope s_missing) := ⟨rfl, rfl, rfl, by decide +kernel, rfl, by decide +kernel, by decide +kernel⟩
theorem sc_length_of : FnScope ["blocks", "block"] ["blocks"] (defScope s_length_of) := ⟨rfl, rfl, rfl, by decide +kernel, rfl, by decide +kernel, by decide +kernel⟩
theorem sc_Pull_init : FnScope ["self", "store", "entry", "temp", "length"] ["self", "store", "entry"] (defScope s_Pull_init) := ⟨rfl, rfl, rfl, by decide +kernel, rfl, by decide +kernel, by decide +kernel⟩
theorem sc_Pull_count : FnScope ["self"] ["self"] (defScope s_Pull_count) := ⟨rfl, rfl, rfl, by decide +kernel, rfl, by decide +kernel, by decide +kernel⟩
theorem sc_Pull_is_whole : FnScope ["self"] ["self"] (defScope s_Pull_is_whole) := ⟨rfl, rfl, rfl, by decide +kernel, rfl, by decide +kernel, by decide +kernel⟩
theorem sc_Pull_append : FnScope ["self", "block"] ["self", "block"] (defScope s_Pull_append) := ⟨rfl, rfl, rfl, by decide +kernel, rfl, by decide +kernel, by decide +kernel⟩
theorem sc_Pull_advance : FnScope ["self", "block"] ["self"] (defScope s_Pull_advance) := ⟨rfl, rfl, rfl, by decide +kernel, rfl, by decide +kernel, by decide +kernel⟩
theorem sc_Pull_give : FnScope ["self", "block", "data"] ["self", "block", "data"] (defScope s_Pull_give) := ⟨rfl, rfl, rfl, by decide +kernel, rfl, by decide +kernel, by decide +kernel⟩
theorem sc_Pull_place : FnScope ["self"] ["self"] (defScope s_Pull_place) := ⟨rfl, rfl, rfl, by decide +kernel, rfl, by decide +kernel, by decide +kernel⟩
theorem sc_Entry_init : FnScope ["self", "name", "vector", "height", "maker", "deleted", "time", "blocks"] ["self", "name", "vector", "height", "maker", "deleted", "time", "blocks"] (defScope s_Entry_init) := ⟨rfl, rfl, rfl, by decide +kernel, rfl, by decide +kernel, by decide +kernel⟩
theorem sc_Store_init : FnScope ["self", "files", "log", "name", "content", "time"] ["self", "files", "log"] (defScope s_Store_init) := ⟨rfl, rfl, rfl, by decide +kernel, rfl, by decide +kernel, by decide +kernel⟩
theorem sc_Store_set_budget : FnScope ["self", "count"] ["self", "count"] (defScope s_Store_set_budget) := ⟨rfl, rfl, rfl, by decide +kernel, rfl, by decide +kernel, by decide +kernel⟩
theorem sc_Store_write_now : FnScope ["self"] ["self"] (defScope s_Store_write_now) := ⟨rfl, rfl, rfl, by decide +kernel, rfl, by decide +kernel, by decide +kernel⟩
theorem sc_Store_names : FnScope ["self"] ["self"] (defScope s_Store_names) := ⟨rfl, rfl, rfl, by decide +kernel, rfl, by decide +kernel, by decide +kernel⟩
theorem sc_Store_read : FnScope ["self", "name", "content", "time"] ["self", "name"] (defScope s_Store_read) := ⟨rfl, rfl, rfl, by decide +kernel, rfl, by decide +kernel, by decide +kernel⟩
theorem sc_Store_temp_names : FnScope ["self"] ["self"] (defScope s_Store_temp_names) := ⟨rfl, rfl, rfl, by decide +kernel, rfl, by decide +kernel, by decide +kernel⟩
theorem sc_Store_temp : FnScope ["self", "name"] ["self", "name"] (defScope s_Store_temp) := ⟨rfl, rfl, rfl, by decide +kernel, rfl, by decide +kernel, by decide +kernel⟩
theorem sc_Store_append_temp : FnScope ["self", "name", "data", "byte"] ["self", "name", "data"] (defScope s_Store_append_temp) := ⟨rfl, rfl, rfl, by decide +kernel, rfl, by decide +kernel, by decide +kernel⟩
theorem sc_Store_cut_temp : FnScope ["self", "name", "count"] ["self", "name", "count"] (defScope s_Store_cut_temp) := ⟨rfl, rfl, rfl, by decide +kernel, rfl, by decide +kernel, by decide +kernel⟩
theorem sc_Store_place : FnScope ["self", "name", "time"] ["self", "name", "time"] (defScope s_Store_place) := ⟨rfl, rfl, rfl, by decide +kernel, rfl, by decide +kernel, by decide +kernel⟩
theorem sc_Store_attic : FnScope ["self", "name", "vector", "content"] ["self"] (defScope s_Store_attic) := ⟨rfl, rfl, rfl, by decide +kernel, rfl, by decide +kernel, by decide +kernel⟩
theorem sc_Store_attic_put : FnScope ["self", "name", "vector", "content"] ["self", "name", "vector", "content"] (defScope s_Store_attic_put) := ⟨rfl, rfl, rfl, by decide +kernel, rfl, by decide +kernel, by decide +kernel⟩
theorem sc_Store_durable : FnScope ["self", "files", "temps", "old", "name", "vector", "content"] ["self"] (defScope s_Store_durable) := ⟨rfl, rfl, rfl, by decide +kernel, rfl, by decide +kernel, by decide +kernel⟩
theorem sc_from_durable : FnScope ["value", "store", "files", "temps", "old", "records", "fresh", "name", "content", "time", "vector"] ["value"] (defScope s_from_durable) := ⟨rfl, rfl, rfl, by decide +kernel, rfl, by decide +kernel, by decide +kernel⟩
theorem sc_law_draw : FnScope ["_law_state", "_law_script", "_law_size", "_law_digit", "_law_cell", "_law_mixed"] ["_law_state", "_law_script", "_law_size"] (defScope s_law_draw) := ⟨rfl, rfl, rfl, by decide +kernel, rfl, by decide +kernel, by decide +kernel⟩
theorem sc_law_name : FnScope ["_law_state", "_law_script"] ["_law_state", "_law_script"] (defScope s_law_name) := ⟨rfl, rfl, rfl, by decide +kernel, rfl, by decide +kernel, by decide +kernel⟩
theorem sc_law_content : FnScope ["_law_state", "_law_script", "_law_most", "_law_words", "_law_content_here", "_law_k"] ["_law_state", "_law_script", "_law_most"] (defScope s_law_content) := ⟨rfl, rfl, rfl, by decide +kernel, rfl, by decide +kernel, by decide +kernel⟩
theorem sc_law_blocks : FnScope ["_law_content_here", "_law_found", "_law_k", "_law_number", "_law_byte"] ["_law_content_here"] (defScope s_law_blocks) := ⟨rfl, rfl, rfl, by decide +kernel, rfl, by decide +kernel, by decide +kernel⟩
theorem sc_law_bytes : FnScope ["_law_blocks_here", "_law_content_here", "_law_block", "_law_part"] ["_law_blocks_here"] (defScope s_law_bytes) := ⟨rfl, rfl, rfl, by decide +kernel, rfl, by decide +kernel, by decide +kernel⟩
theorem sc_law_refused : FnScope ["_law_state", "_law_script", "_law_store", "_law_pull", "_law_block", "_law_before", "_law_data", "_law_wrong"] ["_law_state", "_law_script", "_law_store", "_law_pull", "_law_block"] (defScope s_law_refused) := ⟨rfl, rfl, rfl, by decide +kernel, rfl, by decide +kernel, by decide +kernel⟩
theorem sc_law_pulled : FnScope ["_law_state", "_law_script", "_law_store", "_law_entry", "_law_asked", "_law_pull", "_law_turn", "_law_block"] ["_law_state", "_law_script", "_law_store", "_law_entry", "_law_asked"] (defScope s_law_pulled) := ⟨rfl, rfl, rfl, by decide +kernel, rfl, by decide +kernel, by decide +kernel⟩
theorem sc_law : FnScope ["_law_script", "_law_state", "_law_content_here", "_law_entry", "_law_files", "_law_k", "_law_store", "_law_due", "_law_old", "_law_rest", "_law_asked", "_law_cuts", "_law_word", "_law_turn", "_law_once", "_law_block", "_law_name_here"] ["_law_script"] (defScope s_law) := ⟨rfl, rfl, rfl, by decide +kernel, rfl, by decide +kernel, by decide +kernel⟩
structure Facts (c : C0) (C_Pull C_Entry C_Store C_FolderkinError C_PowerCut C_InvalidBlock gX : Nat) : Prop where
  b_dict : c.mg "dict" = none
  b_int : c.mg "int" = none
  b_len : c.mg "len" = none
  b_list : c.mg "list" = none
  b_range : c.mg "range" = none
  b_sorted : c.mg "sorted" = none
  b_sum : c.mg "sum" = none
  b_tuple : c.mg "tuple" = none
  k_BLOCK : ∃ t, c.mg "BLOCK" = some (.int 4 t)
  k_TEMP : ∃ t, c.mg "TEMP" = some (.str "temp" t)
  k_FILE : ∃ t, c.mg "FILE" = some (.str "file" t)
  k_ATTIC : ∃ t, c.mg "ATTIC" = some (.str "attic" t)
  cl_Pull : ClsD c "Pull" C_Pull
  na_Pull_store : NoAttr c.K C_Pull "store"
  na_Pull_entry : NoAttr c.K C_Pull "entry"
  cl_Entry : ClsD c "Entry" C_Entry
  na_Entry_name : NoAttr c.K C_Entry "name"
  na_Entry_vector : NoAttr c.K C_Entry "vector"
  na_Entry_height : NoAttr c.K C_Entry "height"
  na_Entry_maker : NoAttr c.K C_Entry "maker"
  na_Entry_deleted : NoAttr c.K C_Entry "deleted"
  na_Entry_time : NoAttr c.K C_Entry "time"
  na_Entry_blocks : NoAttr c.K C_Entry "blocks"
  cl_Store : ClsD c "Store" C_Store
  na_Store_files : NoAttr c.K C_Store "files"
  na_Store_temps : NoAttr c.K C_Store "temps"
  na_Store_old : NoAttr c.K C_Store "old"
  na_Store_records : NoAttr c.K C_Store "records"
  na_Store_fresh : NoAttr c.K C_Store "fresh"
  na_Store_writes : NoAttr c.K C_Store "writes"
  na_Store_most : NoAttr c.K C_Store "most"
  x_FolderkinError : ExD c C_FolderkinError gX "FolderkinError" C_FolderkinError
  x_PowerCut : ExD c C_FolderkinError gX "PowerCut" C_PowerCut
  x_InvalidBlock : ExD c C_FolderkinError gX "InvalidBlock" C_InvalidBlock
  em_PowerCut_PowerCut : PySem.W.exmOne c.K (.ref C_PowerCut) (.ref C_PowerCut) = some true
  em_InvalidBlock_PowerCut : PySem.W.exmOne c.K (.ref C_InvalidBlock) (.ref C_PowerCut) = some false
  a_block_number : At c "block_number" s_block_number ["data"] [] []
  a_block_size : At c "block_size" s_block_size ["number"] [] []
  a_is_block : At c "is_block" s_is_block ["number"] [] []
  a_block_bytes : At c "block_bytes" s_block_bytes ["number"] [] []
  a_split : At c "split" s_split ["content"] [] []
  a_kept_blocks : At c "kept_blocks" s_kept_blocks ["store", "entry"] [] []
  a_near_places : At c "near_places" s_near_places ["store", "entry"] [] []
  a_missing : At c "missing" s_missing ["store", "entry"] [] []
  a_length_of : At c "length_of" s_length_of ["blocks"] [] []
  a_Pull_init : InAt c C_Pull "Pull" "Pull.__init__" s_Pull_init ["self", "store", "entry"] [] []
  a_Pull_count : MeAt c C_Pull "count" "Pull.count" s_Pull_count ["self"] [] []
  a_Pull_is_whole : MeAt c C_Pull "is_whole" "Pull.is_whole" s_Pull_is_whole ["self"] [] []
  a_Pull_append : MeAt c C_Pull "append" "Pull.append" s_Pull_append ["self", "block"] [] []
  a_Pull_advance : MeAt c C_Pull "advance" "Pull.advance" s_Pull_advance ["self"] [] []
  a_Pull_give : MeAt c C_Pull "give" "Pull.give" s_Pull_give ["self", "block", "data"] [] []
  a_Pull_place : MeAt c C_Pull "place" "Pull.place" s_Pull_place ["self"] [] []
  a_Entry_init : InAt c C_Entry "Entry" "Entry.__init__" s_Entry_init ["self", "name", "vector", "height", "maker", "deleted", "time", "blocks"] [] []
  a_Store_init : InAt c C_Store "Store" "Store.__init__" s_Store_init ["self", "files", "log"] [] []
  a_Store_set_budget : MeAt c C_Store "set_budget" "Store.set_budget" s_Store_set_budget ["self", "count"] [] []
  a_Store_write_now : MeAt c C_Store "write_now" "Store.write_now" s_Store_write_now ["self"] [] []
  a_Store_names : MeAt c C_Store "names" "Store.names" s_Store_names ["self"] [] []
  a_Store_read : MeAt c C_Store "read" "Store.read" s_Store_read ["self", "name"] [] []
  a_Store_temp_names : MeAt c C_Store "temp_names" "Store.temp_names" s_Store_temp_names ["self"] [] []
  a_Store_temp : MeAt c C_Store "temp" "Store.temp" s_Store_temp ["self", "name"] [] []
  a_Store_append_temp : MeAt c C_Store "append_temp" "Store.append_temp" s_Store_append_temp ["self", "name", "data"] [] []
  a_Store_cut_temp : MeAt c C_Store "cut_temp" "Store.cut_temp" s_Store_cut_temp ["self", "name", "count"] [] []
  a_Store_place : MeAt c C_Store "place" "Store.place" s_Store_place ["self", "name", "time"] [] []
  a_Store_attic : MeAt c C_Store "attic" "Store.attic" s_Store_attic ["self"] [] []
  a_Store_attic_put : MeAt c C_Store "attic_put" "Store.attic_put" s_Store_attic_put ["self", "name", "vector", "content"] [] []
  a_Store_durable : MeAt c C_Store "durable" "Store.durable" s_Store_durable ["self"] [] []
  a_from_durable : At c "from_durable" s_from_durable ["value"] [] []
  a_law_draw : At c "_law_draw" s_law_draw ["_law_state", "_law_script", "_law_size"] [] []
  a_law_name : At c "_law_name" s_law_name ["_law_state", "_law_script"] [] []
  a_law_content : At c "_law_content" s_law_content ["_law_state", "_law_script", "_law_most"] [] []
  a_law_blocks : At c "_law_blocks" s_law_blocks ["_law_content_here"] [] []
  a_law_bytes : At c "_law_bytes" s_law_bytes ["_law_blocks_here"] [] []
  a_law_refused : At c "_law_refused" s_law_refused ["_law_state", "_law_script", "_law_store", "_law_pull", "_law_block"] [] []
  a_law_pulled : At c "_law_pulled" s_law_pulled ["_law_state", "_law_script", "_law_store", "_law_entry", "_law_asked"] [] []
  a_law : At c "law" s_law ["_law_script"] [] []
section
variable {c : C0} {C_Pull C_Entry C_Store C_FolderkinError C_PowerCut C_InvalidBlock gX : Nat}
theorem exm_PowerCut_ok (T : Facts c C_Pull C_Entry C_Store C_FolderkinError C_PowerCut C_InvalidBlock gX) : ExM c C_PowerCut (exm_PowerCut C_Pull C_Entry C_Store C_FolderkinError C_PowerCut C_InvalidBlock gX) := fun C b h => by
  unfold exm_PowerCut at h
  split at h
  · rename_i e
    subst e
    cases h
    exact T.em_PowerCut_PowerCut
  split at h
  · rename_i e
    subst e
    cases h
    exact T.em_InvalidBlock_PowerCut
  cases h
theorem jb_block_number (T : Facts c C_Pull C_Entry C_Store C_FolderkinError C_PowerCut C_InvalidBlock gX) : JB (c.at_ 0) ["data", "number", "byte"] (defScope s_block_number) (defBody s_block_number) (m_block_number C_Pull C_Entry C_Store C_FolderkinError C_PowerCut C_InvalidBlock gX) :=
  jb_cons (set_ 1 sc_block_number.nd (ce_int))
    (jb_cons (js_for (ji_list (v_ 0)) (tg_ 2 sc_block_number.nd) (jb_one (set_ 1 sc_block_number.nd (ce_op o_add (ce_op o_mul (v_ 1) (ce_int)) (v_ 2)))))
    (jb_one (js_ret (v_ 1))))
theorem P_block_number (T : Facts c C_Pull C_Entry C_Store C_FolderkinError C_PowerCut C_InvalidBlock gX) : PrF c 1 "block_number" ["data"] [] [] (f_block_number C_Pull C_Entry C_Store C_FolderkinError C_PowerCut C_InvalidBlock gX) := T.a_block_number.runP sc_block_number (jb_block_number T)
theorem jb_block_size (T : Facts c C_Pull C_Entry C_Store C_FolderkinError C_PowerCut C_InvalidBlock gX) : JB (c.at_ 0) ["number", "size"] (defScope s_block_size) (defBody s_block_size) (m_block_size C_Pull C_Entry C_Store C_FolderkinError C_PowerCut C_InvalidBlock gX) :=
  jb_cons (js_for (ji_range2 rfl T.b_range (jl_cons (ce_int) (jl_cons (ce_op o_add (g_int (hm := T.k_BLOCK)) (ce_int)) (jl_nil)))) (tg_ 1 sc_block_size.nd) (jb_one (js_if (jt_cmp o_eq (ce_op o_shr (v_ 0) (ce_op o_mul (ce_int) (v_ 1))) (ce_int)) (jb_one (js_ret (v_ 1))) (jb_nil))))
    (jb_one (js_ret (ce_int)))
theorem P_block_size (T : Facts c C_Pull C_Entry C_Store C_FolderkinError C_PowerCut C_InvalidBlock gX) : PrF c 1 "block_size" ["number"] [] [] (f_block_size C_Pull C_Entry C_Store C_FolderkinError C_PowerCut C_InvalidBlock gX) := T.a_block_size.runP sc_block_size (jb_block_size T)
theorem jb_is_block (T : Facts c C_Pull C_Entry C_Store C_FolderkinError C_PowerCut C_InvalidBlock gX) : JB (c.at_ 1) ["number"] (defScope s_is_block) (defBody s_is_block) (m_is_block C_Pull C_Entry C_Store C_FolderkinError C_PowerCut C_InvalidBlock gX) :=
  jb_one (js_ret (ce_cmp o_gt (je_call (P_block_size (c := c) T).fn (Nat.le_of_ble_eq_true rfl) rfl (jl_cons (v_ 0) (jl_nil))) (ce_int)))
theorem P_is_block (T : Facts c C_Pull C_Entry C_Store C_FolderkinError C_PowerCut C_InvalidBlock gX) : PrF c 2 "is_block" ["number"] [] [] (f_is_block C_Pull C_Entry C_Store C_FolderkinError C_PowerCut C_InvalidBlock gX) := T.a_is_block.runP sc_is_block (jb_is_block T)
theorem jb_block_bytes (T : Facts c C_Pull C_Entry C_Store C_FolderkinError C_PowerCut C_InvalidBlock gX) : JB (c.at_ 2) ["number", "data"] (defScope s_block_bytes) (defBody s_block_bytes) (m_block_bytes C_Pull C_Entry C_Store C_FolderkinError C_PowerCut C_InvalidBlock gX) :=
  jb_cons (js_if (jt_not (jt_val (je_call (P_is_block (c := c) T).fn (Nat.le_of_ble_eq_true rfl) rfl (jl_cons (v_ 0) (jl_nil))))) (jb_one (js_raise T.x_InvalidBlock (Nat.le_of_ble_eq_true rfl) rfl (ce_int))) (jb_nil))
    (jb_cons (set_ 1 sc_block_bytes.nd (JF.new (jf_lst (jl_nil))))
    (jb_cons (js_while (jt_cmp o_gt (v_ 0) (ce_int)) (jb_cons (js_expr (je_mut mu_insert PySem.F.slot_list_insert PySem.F.type_list_insert (v_ 1) (jl_cons (ce_int) (jl_cons (ce_op o_mod (v_ 0) (ce_int)) (jl_nil)))))
    (jb_one (set_ 0 sc_block_bytes.nd (ce_op o_div (v_ 0) (ce_int))))))
    (jb_one (js_ret (JE.frz (v_ 1))))))
theorem P_block_bytes (T : Facts c C_Pull C_Entry C_Store C_FolderkinError C_PowerCut C_InvalidBlock gX) : PrF c 3 "block_bytes" ["number"] [] [] (f_block_bytes C_Pull C_Entry C_Store C_FolderkinError C_PowerCut C_InvalidBlock gX) := T.a_block_bytes.runP sc_block_bytes (jb_block_bytes T)
theorem jb_split (T : Facts c C_Pull C_Entry C_Store C_FolderkinError C_PowerCut C_InvalidBlock gX) : JB (c.at_ 1) ["content", "at"] (defScope s_split) (defBody s_split) (m_split C_Pull C_Entry C_Store C_FolderkinError C_PowerCut C_InvalidBlock gX) :=
  jb_one (js_ret (je_t1 c_tuple rfl T.b_tuple (by decide +kernel) (JF.je (jf_lc (own := [("at", 1)]) (oc := []) sc_split.nd (ji_range3 rfl T.b_range (jl_cons (ce_int) (jl_cons (je_b1 c_len rfl T.b_len (by decide +kernel) (v_ 0)) (jl_cons (g_int (hm := T.k_BLOCK)) (jl_nil))))) (blkOk_by (by decide +kernel)) (tg_ 1 sc_split.nd) (jts_nil) (je_call (P_block_number (c := c) T).fn (Nat.le_of_ble_eq_true rfl) rfl (jl_cons (je_cut (v_ 0) (jp_some (v_ 1)) (jp_some (ce_op o_add (v_ 1) (g_int (hm := T.k_BLOCK))))) (jl_nil)))))))
theorem P_split (T : Facts c C_Pull C_Entry C_Store C_FolderkinError C_PowerCut C_InvalidBlock gX) : PrF c 2 "split" ["content"] [] [] (f_split C_Pull C_Entry C_Store C_FolderkinError C_PowerCut C_InvalidBlock gX) := T.a_split.runP sc_split (jb_split T)
theorem jb_Store_temp (T : Facts c C_Pull C_Entry C_Store C_FolderkinError C_PowerCut C_InvalidBlock gX) : JB (c.at_ 0) ["self", "name"] (defScope s_Store_temp) (defBody s_Store_temp) (m_Store_temp C_Pull C_Entry C_Store C_FolderkinError C_PowerCut C_InvalidBlock gX) :=
  jb_cons (js_if (jt_dnotin (v_ 1) (je_fld (v_ 0) T.cl_Store.cl T.na_Store_temps)) (jb_one (js_ret (ce_non))) (jb_nil))
    (jb_one (js_ret (JF.je (jf_t1 cf_list rfl T.b_list (by decide +kernel) (je_dget (je_fld (v_ 0) T.cl_Store.cl T.na_Store_temps) (v_ 1))))))
theorem P_Store_temp (T : Facts c C_Pull C_Entry C_Store C_FolderkinError C_PowerCut C_InvalidBlock gX) : PrM c 1 C_Store "temp" ["self", "name"] [] [] (f_Store_temp C_Pull C_Entry C_Store C_FolderkinError C_PowerCut C_InvalidBlock gX) := T.a_Store_temp.runP sc_Store_temp (jb_Store_temp T)
theorem jb_kept_blocks (T : Facts c C_Pull C_Entry C_Store C_FolderkinError C_PowerCut C_InvalidBlock gX) : JB (c.at_ 3) ["store", "entry", "temp", "count", "length", "content"] (defScope s_kept_blocks) (defBody s_kept_blocks) (m_kept_blocks C_Pull C_Entry C_Store C_FolderkinError C_PowerCut C_InvalidBlock gX) :=
  jb_cons (set_ 2 sc_kept_blocks.nd (je_meth T.cl_Store.cl (P_Store_temp (c := c) T).mt (Nat.le_of_ble_eq_true rfl) (v_ 0) (jl_cons (je_fld (v_ 1) T.cl_Entry.cl T.na_Entry_name) (jl_nil))))
    (jb_cons (set_ 3 sc_kept_blocks.nd (ce_int))
    (jb_cons (js_if (jt_cmp o_isNot (v_ 2) (ce_non)) (jb_cons (set_ 4 sc_kept_blocks.nd (ce_int))
    (jb_one (js_while (jt_cmp o_lt (v_ 3) (je_b1 c_len rfl T.b_len (by decide +kernel) (je_fld (v_ 1) T.cl_Entry.cl T.na_Entry_blocks))) (jb_cons (set_ 5 sc_kept_blocks.nd (je_call (P_block_bytes (c := c) T).fn (Nat.le_of_ble_eq_true rfl) rfl (jl_cons (je_ix o_ix (je_fld (v_ 1) T.cl_Entry.cl T.na_Entry_blocks) (v_ 3)) (jl_nil))))
    (jb_cons (js_if (jt_cmp o_ne (je_cut (v_ 2) (jp_some (v_ 4)) (jp_some (ce_op o_add (v_ 4) (je_b1 c_len rfl T.b_len (by decide +kernel) (v_ 5))))) (v_ 5)) (jb_one (js_ret (v_ 3))) (jb_nil))
    (jb_cons (js_aug (i := 4) sc_kept_blocks.nd o_iadd (je_b1 c_len rfl T.b_len (by decide +kernel) (v_ 5)))
    (jb_one (js_aug (i := 3) sc_kept_blocks.nd o_iadd (ce_int))))))))) (jb_nil))
    (jb_one (js_ret (v_ 3)))))
theorem P_kept_blocks (T : Facts c C_Pull C_Entry C_Store C_FolderkinError C_PowerCut C_InvalidBlock gX) : PrF c 4 "kept_blocks" ["store", "entry"] [] [] (f_kept_blocks C_Pull C_Entry C_Store C_FolderkinError C_PowerCut C_InvalidBlock gX) := T.a_kept_blocks.runP sc_kept_blocks (jb_kept_blocks T)
theorem jb_Store_names (T : Facts c C_Pull C_Entry C_Store C_FolderkinError C_PowerCut C_InvalidBlock gX) : JB (c.at_ 0) ["self"] (defScope s_Store_names) (defBody s_Store_names) (m_Store_names C_Pull C_Entry C_Store C_FolderkinError C_PowerCut C_InvalidBlock gX) :=
  jb_one (js_ret (JF.je (je_sortD rfl T.b_sorted (je_fld (v_ 0) T.cl_Store.cl T.na_Store_files))))
theorem P_Store_names (T : Facts c C_Pull C_Entry C_Store C_FolderkinError C_PowerCut C_InvalidBlock gX) : PrM c 1 C_Store "names" ["self"] [] [] (f_Store_names C_Pull C_Entry C_Store C_FolderkinError C_PowerCut C_InvalidBlock gX) := T.a_Store_names.runP sc_Store_names (jb_Store_names T)
theorem jb_Store_attic (T : Facts c C_Pull C_Entry C_Store C_FolderkinError C_PowerCut C_InvalidBlock gX) : JB (c.at_ 0) ["self", "name", "vector", "content"] (defScope s_Store_attic) (defBody s_Store_attic) (m_Store_attic C_Pull C_Entry C_Store C_FolderkinError C_PowerCut C_InvalidBlock gX) :=
  jb_one (js_ret (JF.je (jf_lc (own := [("name", 1), ("vector", 2), ("content", 3)]) (oc := []) sc_Store_attic.nd (ji_list (je_fld (v_ 0) T.cl_Store.cl T.na_Store_old)) (blkOk_by (by decide +kernel)) (jtg_tup (jtgs_cons (tg_ 1 sc_Store_attic.nd) (jtgs_cons (tg_ 2 sc_Store_attic.nd) (jtgs_cons (tg_ 3 sc_Store_attic.nd) (jtgs_nil))))) (jts_nil) (je_tup (jl_cons (v_ 1) (jl_cons (v_ 2) (jl_cons (JF.je (jf_t1 cf_list rfl T.b_list (by decide +kernel) (v_ 3))) (jl_nil))))))))
theorem P_Store_attic (T : Facts c C_Pull C_Entry C_Store C_FolderkinError C_PowerCut C_InvalidBlock gX) : PrM c 1 C_Store "attic" ["self"] [] [] (f_Store_attic C_Pull C_Entry C_Store C_FolderkinError C_PowerCut C_InvalidBlock gX) := T.a_Store_attic.runP sc_Store_attic (jb_Store_attic T)
theorem jb_Store_read (T : Facts c C_Pull C_Entry C_Store C_FolderkinError C_PowerCut C_InvalidBlock gX) : JB (c.at_ 0) ["self", "name", "content", "time"] (defScope s_Store_read) (defBody s_Store_read) (m_Store_read C_Pull C_Entry C_Store C_FolderkinError C_PowerCut C_InvalidBlock gX) :=
  jb_cons (js_if (jt_dnotin (v_ 1) (je_fld (v_ 0) T.cl_Store.cl T.na_Store_files)) (jb_one (js_ret (ce_non))) (jb_nil))
    (jb_cons (js_asg (je_dget (je_fld (v_ 0) T.cl_Store.cl T.na_Store_files) (v_ 1)) (jtg_tup (jtgs_cons (tg_ 2 sc_Store_read.nd) (jtgs_cons (tg_ 3 sc_Store_read.nd) (jtgs_nil)))))
    (jb_one (js_ret (je_tup (jl_cons (JF.je (jf_t1 cf_list rfl T.b_list (by decide +kernel) (v_ 2))) (jl_cons (v_ 3) (jl_nil)))))))
theorem P_Store_read (T : Facts c C_Pull C_Entry C_Store C_FolderkinError C_PowerCut C_InvalidBlock gX) : PrM c 1 C_Store "read" ["self", "name"] [] [] (f_Store_read C_Pull C_Entry C_Store C_FolderkinError C_PowerCut C_InvalidBlock gX) := T.a_Store_read.runP sc_Store_read (jb_Store_read T)
theorem jb_near_places (T : Facts c C_Pull C_Entry C_Store C_FolderkinError C_PowerCut C_InvalidBlock gX) : JB (c.at_ 4) ["store", "entry", "found", "lots", "other", "old", "k", "kind", "where", "blocks"] (defScope s_near_places) (defBody s_near_places) (m_near_places C_Pull C_Entry C_Store C_FolderkinError C_PowerCut C_InvalidBlock gX) :=
  jb_cons (set_ 2 sc_near_places.nd (JF.new (jf_dnew)))
    (jb_cons (set_ 3 sc_near_places.nd (JF.new (jf_lst (jl_cons (je_tup (jl_cons (g_str (hm := T.k_TEMP)) (jl_cons (je_fld (v_ 1) T.cl_Entry.cl T.na_Entry_name) (jl_cons (je_cut (je_fld (v_ 1) T.cl_Entry.cl T.na_Entry_blocks) (jp_none) (jp_some (je_call (P_kept_blocks (c := c) T).fn (Nat.le_of_ble_eq_true rfl) rfl (jl_cons (v_ 0) (jl_cons (v_ 1) (jl_nil)))))) (jl_nil))))) (jl_nil)))))
    (jb_cons (js_for (ji_list (je_meth0 T.cl_Store.cl (P_Store_names (c := c) T).mt (Nat.le_of_ble_eq_true rfl) (v_ 0))) (tg_ 4 sc_near_places.nd) (jb_one (js_expr (je_mut mu_append PySem.F.slot_list_append PySem.F.type_list_append (v_ 3) (jl_cons (je_tup (jl_cons (g_str (hm := T.k_FILE)) (jl_cons (v_ 4) (jl_cons (je_call (P_split (c := c) T).fn (Nat.le_of_ble_eq_true rfl) rfl (jl_cons (je_ix o_ix (je_meth T.cl_Store.cl (P_Store_read (c := c) T).mt (Nat.le_of_ble_eq_true rfl) (v_ 0) (jl_cons (v_ 4) (jl_nil))) (ce_int)) (jl_nil))) (jl_nil))))) (jl_nil))))))
    (jb_cons (set_ 5 sc_near_places.nd (je_meth0 T.cl_Store.cl (P_Store_attic (c := c) T).mt (Nat.le_of_ble_eq_true rfl) (v_ 0)))
    (jb_cons (js_for (ji_range1 rfl T.b_range (jl_cons (je_b1 c_len rfl T.b_len (by decide +kernel) (v_ 5)) (jl_nil))) (tg_ 6 sc_near_places.nd) (jb_one (js_expr (je_mut mu_append PySem.F.slot_list_append PySem.F.type_list_append (v_ 3) (jl_cons (je_tup (jl_cons (g_str (hm := T.k_ATTIC)) (jl_cons (v_ 6) (jl_cons (je_call (P_split (c := c) T).fn (Nat.le_of_ble_eq_true rfl) rfl (jl_cons (je_ix o_ix (je_ix o_ix (v_ 5) (v_ 6)) (ce_int)) (jl_nil))) (jl_nil))))) (jl_nil))))))
    (jb_cons (js_for (ji_list (v_ 3)) (jtg_tup (jtgs_cons (tg_ 7 sc_near_places.nd) (jtgs_cons (tg_ 8 sc_near_places.nd) (jtgs_cons (tg_ 9 sc_near_places.nd) (jtgs_nil))))) (jb_one (js_for (ji_range1 rfl T.b_range (jl_cons (je_b1 c_len rfl T.b_len (by decide +kernel) (v_ 9)) (jl_nil))) (tg_ 6 sc_near_places.nd) (jb_one (js_if (jt_dnotin (je_ix o_ix (v_ 9) (v_ 6)) (v_ 2)) (jb_one (js_dput (je_tup (jl_cons (v_ 7) (jl_cons (v_ 8) (jl_cons (v_ 6) (jl_nil))))) (v_ 2) (je_ix o_ix (v_ 9) (v_ 6)))) (jb_nil))))))
    (jb_one (js_ret (JE.frz (v_ 2)))))))))
theorem P_near_places (T : Facts c C_Pull C_Entry C_Store C_FolderkinError C_PowerCut C_InvalidBlock gX) : PrF c 5 "near_places" ["store", "entry"] [] [] (f_near_places C_Pull C_Entry C_Store C_FolderkinError C_PowerCut C_InvalidBlock gX) := T.a_near_places.runP sc_near_places (jb_near_places T)
theorem jb_missing (T : Facts c C_Pull C_Entry C_Store C_FolderkinError C_PowerCut C_InvalidBlock gX) : JB (c.at_ 5) ["store", "entry", "near", "found", "block"] (defScope s_missing) (defBody s_missing) (m_missing C_Pull C_Entry C_Store C_FolderkinError C_PowerCut C_InvalidBlock gX) :=
  jb_cons (set_ 2 sc_missing.nd (je_call (P_near_places (c := c) T).fn (Nat.le_of_ble_eq_true rfl) rfl (jl_cons (v_ 0) (jl_cons (v_ 1) (jl_nil)))))
    (jb_cons (set_ 3 sc_missing.nd (JF.new (jf_lst (jl_nil))))
    (jb_cons (js_for (ji_tup (je_cut (je_fld (v_ 1) T.cl_Entry.cl T.na_Entry_blocks) (jp_some (je_call (P_kept_blocks (c := c) T).fn (Nat.le_of_ble_eq_true rfl) rfl (jl_cons (v_ 0) (jl_cons (v_ 1) (jl_nil))))) (jp_none))) (tg_ 4 sc_missing.nd) (jb_one (js_if (jt_w (jw_and (jt_dnotin (v_ 4) (v_ 2)) (jw_and1 (jt_cmp o_notIn (v_ 4) (v_ 3))))) (jb_one (js_expr (je_mut mu_append PySem.F.slot_list_append PySem.F.type_list_append (v_ 3) (jl_cons (v_ 4) (jl_nil))))) (jb_nil))))
    (jb_one (js_ret (JE.frz (v_ 3))))))
theorem P_missing (T : Facts c C_Pull C_Entry C_Store C_FolderkinError C_PowerCut C_InvalidBlock gX) : PrF c 6 "missing" ["store", "entry"] [] [] (f_missing C_Pull C_Entry C_Store C_FolderkinError C_PowerCut C_InvalidBlock gX) := T.a_missing.runP sc_missing (jb_missing T)
theorem jb_length_of (T : Facts c C_Pull C_Entry C_Store C_FolderkinError C_PowerCut C_InvalidBlock gX) : JB (c.at_ 3) ["blocks", "block"] (defScope s_length_of) (defBody s_length_of) (m_length_of C_Pull C_Entry C_Store C_FolderkinError C_PowerCut C_InvalidBlock gX) :=
  jb_one (js_ret (je_b1 c_sum rfl T.b_sum (by decide +kernel) (JF.je (jf_lc (own := [("block", 1)]) (oc := []) sc_length_of.nd (ji_tup (v_ 0)) (blkOk_by (by decide +kernel)) (tg_ 1 sc_length_of.nd) (jts_nil) (je_b1 c_len rfl T.b_len (by decide +kernel) (je_call (P_block_bytes (c := c) T).fn (Nat.le_of_ble_eq_true rfl) rfl (jl_cons (v_ 1) (jl_nil))))))))
theorem P_length_of (T : Facts c C_Pull C_Entry C_Store C_FolderkinError C_PowerCut C_InvalidBlock gX) : PrF c 4 "length_of" ["blocks"] [] [] (f_length_of C_Pull C_Entry C_Store C_FolderkinError C_PowerCut C_InvalidBlock gX) := T.a_length_of.runP sc_length_of (jb_length_of T)
theorem jb_Store_write_now (T : Facts c C_Pull C_Entry C_Store C_FolderkinError C_PowerCut C_InvalidBlock gX) : JB (c.at_ 2) ["self"] (defScope s_Store_write_now) (defBody s_Store_write_now) (m_Store_write_now C_Pull C_Entry C_Store C_FolderkinError C_PowerCut C_InvalidBlock gX) :=
  jb_cons (js_if (jt_w (jw_and (jt_cmp o_isNot (je_fld (v_ 0) T.cl_Store.cl T.na_Store_most) (ce_non)) (jw_and1 (jt_cmp o_ge (je_fld (v_ 0) T.cl_Store.cl T.na_Store_writes) (je_fld (v_ 0) T.cl_Store.cl T.na_Store_most))))) (jb_one (js_raise T.x_PowerCut (Nat.le_of_ble_eq_true rfl) rfl (je_fld (v_ 0) T.cl_Store.cl T.na_Store_writes))) (jb_nil))
    (jb_one (js_auga o_iadd T.cl_Store.cl T.na_Store_writes (v_ 0) (ce_int)))
theorem P_Store_write_now (T : Facts c C_Pull C_Entry C_Store C_FolderkinError C_PowerCut C_InvalidBlock gX) : PrM c 3 C_Store "write_now" ["self"] [] [] (f_Store_write_now C_Pull C_Entry C_Store C_FolderkinError C_PowerCut C_InvalidBlock gX) := T.a_Store_write_now.runP sc_Store_write_now (jb_Store_write_now T)
theorem jb_Store_cut_temp (T : Facts c C_Pull C_Entry C_Store C_FolderkinError C_PowerCut C_InvalidBlock gX) : JB (c.at_ 3) ["self", "name", "count"] (defScope s_Store_cut_temp) (defBody s_Store_cut_temp) (m_Store_cut_temp C_Pull C_Entry C_Store C_FolderkinError C_PowerCut C_InvalidBlock gX) :=
  jb_cons (js_expr (je_meth0 T.cl_Store.cl (P_Store_write_now (c := c) T).mt (Nat.le_of_ble_eq_true rfl) (v_ 0)))
    (jb_one (js_if (jt_cmp o_eq (v_ 2) (ce_int)) (jb_one (js_expr (je_dpop2 (je_fld (v_ 0) T.cl_Store.cl T.na_Store_temps) (v_ 1) (ce_non)))) (jb_one (js_if (jt_din (v_ 1) (je_fld (v_ 0) T.cl_Store.cl T.na_Store_temps)) (jb_one (js_dput (je_cut (je_dget (je_fld (v_ 0) T.cl_Store.cl T.na_Store_temps) (v_ 1)) (jp_none) (jp_some (v_ 2))) (je_fld (v_ 0) T.cl_Store.cl T.na_Store_temps) (v_ 1))) (jb_nil)))))
theorem P_Store_cut_temp (T : Facts c C_Pull C_Entry C_Store C_FolderkinError C_PowerCut C_InvalidBlock gX) : PrM c 4 C_Store "cut_temp" ["self", "name", "count"] [] [] (f_Store_cut_temp C_Pull C_Entry C_Store C_FolderkinError C_PowerCut C_InvalidBlock gX) := T.a_Store_cut_temp.runP sc_Store_cut_temp (jb_Store_cut_temp T)
theorem jb_Pull_init (T : Facts c C_Pull C_Entry C_Store C_FolderkinError C_PowerCut C_InvalidBlock gX) : JB (c.at_ 4) ["self", "store", "entry", "temp", "length"] (defScope s_Pull_init) (defBody s_Pull_init) (m_Pull_init C_Pull C_Entry C_Store C_FolderkinError C_PowerCut C_InvalidBlock gX) :=
  jb_cons (js_seta T.cl_Pull.cl T.na_Pull_store (v_ 1) (v_ 0))
    (jb_cons (js_seta T.cl_Pull.cl T.na_Pull_entry (v_ 2) (v_ 0))
    (jb_cons (set_ 3 sc_Pull_init.nd (je_meth T.cl_Store.cl (P_Store_temp (c := c) T).mt (Nat.le_of_ble_eq_true rfl) (v_ 1) (jl_cons (je_fld (v_ 2) T.cl_Entry.cl T.na_Entry_name) (jl_nil))))
    (jb_cons (set_ 4 sc_Pull_init.nd (je_call (P_length_of (c := c) T).fn (Nat.le_of_ble_eq_true rfl) rfl (jl_cons (je_cut (je_fld (v_ 2) T.cl_Entry.cl T.na_Entry_blocks) (jp_none) (jp_some (je_call (P_kept_blocks (c := c) T).fn (Nat.le_of_ble_eq_true rfl) rfl (jl_cons (v_ 1) (jl_cons (v_ 2) (jl_nil)))))) (jl_nil))))
    (jb_one (js_if (jt_w (jw_and (jt_cmp o_isNot (v_ 3) (ce_non)) (jw_and1 (jt_cmp o_gt (je_b1 c_len rfl T.b_len (by decide +kernel) (v_ 3)) (v_ 4))))) (jb_one (js_expr (je_meth T.cl_Store.cl (P_Store_cut_temp (c := c) T).mt (Nat.le_of_ble_eq_true rfl) (v_ 1) (jl_cons (je_fld (v_ 2) T.cl_Entry.cl T.na_Entry_name) (jl_cons (v_ 4) (jl_nil)))))) (jb_nil))))))
theorem P_Pull_init (T : Facts c C_Pull C_Entry C_Store C_FolderkinError C_PowerCut C_InvalidBlock gX) : PrI c 5 C_Pull "Pull" ["self", "store", "entry"] [] [] (f_Pull_init C_Pull C_Entry C_Store C_FolderkinError C_PowerCut C_InvalidBlock gX) := T.a_Pull_init.run sc_Pull_init (jb_Pull_init T)
theorem jb_Pull_count (T : Facts c C_Pull C_Entry C_Store C_FolderkinError C_PowerCut C_InvalidBlock gX) : JB (c.at_ 4) ["self"] (defScope s_Pull_count) (defBody s_Pull_count) (m_Pull_count C_Pull C_Entry C_Store C_FolderkinError C_PowerCut C_InvalidBlock gX) :=
  jb_one (js_ret (je_call (P_kept_blocks (c := c) T).fn (Nat.le_of_ble_eq_true rfl) rfl (jl_cons (je_fld (v_ 0) T.cl_Pull.cl T.na_Pull_store) (jl_cons (je_fld (v_ 0) T.cl_Pull.cl T.na_Pull_entry) (jl_nil)))))
theorem P_Pull_count (T : Facts c C_Pull C_Entry C_Store C_FolderkinError C_PowerCut C_InvalidBlock gX) : PrM c 5 C_Pull "count" ["self"] [] [] (f_Pull_count C_Pull C_Entry C_Store C_FolderkinError C_PowerCut C_InvalidBlock gX) := T.a_Pull_count.runP sc_Pull_count (jb_Pull_count T)
theorem jb_Pull_is_whole (T : Facts c C_Pull C_Entry C_Store C_FolderkinError C_PowerCut C_InvalidBlock gX) : JB (c.at_ 5) ["self"] (defScope s_Pull_is_whole) (defBody s_Pull_is_whole) (m_Pull_is_whole C_Pull C_Entry C_Store C_FolderkinError C_PowerCut C_InvalidBlock gX) :=
  jb_one (js_ret (ce_cmp o_eq (je_meth0 T.cl_Pull.cl (P_Pull_count (c := c) T).mt (Nat.le_of_ble_eq_true rfl) (v_ 0)) (je_b1 c_len rfl T.b_len (by decide +kernel) (je_fld (je_fld (v_ 0) T.cl_Pull.cl T.na_Pull_entry) T.cl_Entry.cl T.na_Entry_blocks))))
theorem P_Pull_is_whole (T : Facts c C_Pull C_Entry C_Store C_FolderkinError C_PowerCut C_InvalidBlock gX) : PrM c 6 C_Pull "is_whole" ["self"] [] [] (f_Pull_is_whole C_Pull C_Entry C_Store C_FolderkinError C_PowerCut C_InvalidBlock gX) := T.a_Pull_is_whole.runP sc_Pull_is_whole (jb_Pull_is_whole T)
theorem jb_Store_append_temp (T : Facts c C_Pull C_Entry C_Store C_FolderkinError C_PowerCut C_InvalidBlock gX) : JB (c.at_ 3) ["self", "name", "data", "byte"] (defScope s_Store_append_temp) (defBody s_Store_append_temp) (m_Store_append_temp C_Pull C_Entry C_Store C_FolderkinError C_PowerCut C_InvalidBlock gX) :=
  jb_one (js_for (ji_list (v_ 2)) (tg_ 3 sc_Store_append_temp.nd) (jb_cons (js_expr (je_meth0 T.cl_Store.cl (P_Store_write_now (c := c) T).mt (Nat.le_of_ble_eq_true rfl) (v_ 0)))
    (jb_one (js_dput (ce_op o_add (je_dget2 (je_fld (v_ 0) T.cl_Store.cl T.na_Store_temps) (v_ 1) (JF.je (jf_lst (jl_nil)))) (JF.je (jf_lst (jl_cons (v_ 3) (jl_nil))))) (je_fld (v_ 0) T.cl_Store.cl T.na_Store_temps) (v_ 1)))))
theorem P_Store_append_temp (T : Facts c C_Pull C_Entry C_Store C_FolderkinError C_PowerCut C_InvalidBlock gX) : PrM c 4 C_Store "append_temp" ["self", "name", "data"] [] [] (f_Store_append_temp C_Pull C_Entry C_Store C_FolderkinError C_PowerCut C_InvalidBlock gX) := T.a_Store_append_temp.runP sc_Store_append_temp (jb_Store_append_temp T)
theorem jb_Pull_append (T : Facts c C_Pull C_Entry C_Store C_FolderkinError C_PowerCut C_InvalidBlock gX) : JB (c.at_ 4) ["self", "block"] (defScope s_Pull_append) (defBody s_Pull_append) (m_Pull_append C_Pull C_Entry C_Store C_FolderkinError C_PowerCut C_InvalidBlock gX) :=
  jb_one (js_expr (je_meth T.cl_Store.cl (P_Store_append_temp (c := c) T).mt (Nat.le_of_ble_eq_true rfl) (je_fld (v_ 0) T.cl_Pull.cl T.na_Pull_store) (jl_cons (je_fld (je_fld (v_ 0) T.cl_Pull.cl T.na_Pull_entry) T.cl_Entry.cl T.na_Entry_name) (jl_cons (je_call (P_block_bytes (c := c) T).fn (Nat.le_of_ble_eq_true rfl) rfl (jl_cons (v_ 1) (jl_nil))) (jl_nil)))))
theorem P_Pull_append (T : Facts c C_Pull C_Entry C_Store C_FolderkinError C_PowerCut C_InvalidBlock gX) : PrM c 5 C_Pull "append" ["self", "block"] [] [] (f_Pull_append C_Pull C_Entry C_Store C_FolderkinError C_PowerCut C_InvalidBlock gX) := T.a_Pull_append.runP sc_Pull_append (jb_Pull_append T)
theorem jb_Pull_advance (T : Facts c C_Pull C_Entry C_Store C_FolderkinError C_PowerCut C_InvalidBlock gX) : JB (c.at_ 6) ["self", "block"] (defScope s_Pull_advance) (defBody s_Pull_advance) (m_Pull_advance C_Pull C_Entry C_Store C_FolderkinError C_PowerCut C_InvalidBlock gX) :=
  jb_cons (js_while (jt_not (jt_val (je_meth0 T.cl_Pull.cl (P_Pull_is_whole (c := c) T).mt (Nat.le_of_ble_eq_true rfl) (v_ 0)))) (jb_cons (set_ 1 sc_Pull_advance.nd (je_ix o_ix (je_fld (je_fld (v_ 0) T.cl_Pull.cl T.na_Pull_entry) T.cl_Entry.cl T.na_Entry_blocks) (je_meth0 T.cl_Pull.cl (P_Pull_count (c := c) T).mt (Nat.le_of_ble_eq_true rfl) (v_ 0))))
    (jb_cons (js_if (jt_dnotin (v_ 1) (je_call (P_near_places (c := c) T).fn (Nat.le_of_ble_eq_true rfl) rfl (jl_cons (je_fld (v_ 0) T.cl_Pull.cl T.na_Pull_store) (jl_cons (je_fld (v_ 0) T.cl_Pull.cl T.na_Pull_entry) (jl_nil))))) (jb_one (js_ret (v_ 1))) (jb_nil))
    (jb_one (js_expr (je_meth T.cl_Pull.cl (P_Pull_append (c := c) T).mt (Nat.le_of_ble_eq_true rfl) (v_ 0) (jl_cons (v_ 1) (jl_nil))))))))
    (jb_one (js_ret (ce_non)))
theorem P_Pull_advance (T : Facts c C_Pull C_Entry C_Store C_FolderkinError C_PowerCut C_InvalidBlock gX) : PrM c 7 C_Pull "advance" ["self"] [] [] (f_Pull_advance C_Pull C_Entry C_Store C_FolderkinError C_PowerCut C_InvalidBlock gX) := T.a_Pull_advance.runP sc_Pull_advance (jb_Pull_advance T)
theorem jb_Pull_give (T : Facts c C_Pull C_Entry C_Store C_FolderkinError C_PowerCut C_InvalidBlock gX) : JB (c.at_ 6) ["self", "block", "data"] (defScope s_Pull_give) (defBody s_Pull_give) (m_Pull_give C_Pull C_Entry C_Store C_FolderkinError C_PowerCut C_InvalidBlock gX) :=
  jb_cons (js_if (jt_w (jw_or (jt_val (je_meth0 T.cl_Pull.cl (P_Pull_is_whole (c := c) T).mt (Nat.le_of_ble_eq_true rfl) (v_ 0))) (jw_or (jt_cmp o_ne (je_ix o_ix (je_fld (je_fld (v_ 0) T.cl_Pull.cl T.na_Pull_entry) T.cl_Entry.cl T.na_Entry_blocks) (je_meth0 T.cl_Pull.cl (P_Pull_count (c := c) T).mt (Nat.le_of_ble_eq_true rfl) (v_ 0))) (v_ 1)) (jw_or1 (jt_cmp o_ne (je_call (P_block_bytes (c := c) T).fn (Nat.le_of_ble_eq_true rfl) rfl (jl_cons (v_ 1) (jl_nil))) (JF.je (jf_t1 cf_list rfl T.b_list (by decide +kernel) (v_ 2)))))))) (jb_one (js_ret (ce_bl))) (jb_nil))
    (jb_cons (js_expr (je_meth T.cl_Pull.cl (P_Pull_append (c := c) T).mt (Nat.le_of_ble_eq_true rfl) (v_ 0) (jl_cons (v_ 1) (jl_nil))))
    (jb_one (js_ret (ce_bl))))
theorem P_Pull_give (T : Facts c C_Pull C_Entry C_Store C_FolderkinError C_PowerCut C_InvalidBlock gX) : PrM c 7 C_Pull "give" ["self", "block", "data"] [] [] (f_Pull_give C_Pull C_Entry C_Store C_FolderkinError C_PowerCut C_InvalidBlock gX) := T.a_Pull_give.runP sc_Pull_give (jb_Pull_give T)
theorem jb_Store_place (T : Facts c C_Pull C_Entry C_Store C_FolderkinError C_PowerCut C_InvalidBlock gX) : JB (c.at_ 3) ["self", "name", "time"] (defScope s_Store_place) (defBody s_Store_place) (m_Store_place C_Pull C_Entry C_Store C_FolderkinError C_PowerCut C_InvalidBlock gX) :=
  jb_cons (js_expr (je_meth0 T.cl_Store.cl (P_Store_write_now (c := c) T).mt (Nat.le_of_ble_eq_true rfl) (v_ 0)))
    (jb_one (js_dput (je_tup (jl_cons (je_dpop2 (je_fld (v_ 0) T.cl_Store.cl T.na_Store_temps) (v_ 1) (JF.je (jf_lst (jl_nil)))) (jl_cons (v_ 2) (jl_nil)))) (je_fld (v_ 0) T.cl_Store.cl T.na_Store_files) (v_ 1)))
theorem P_Store_place (T : Facts c C_Pull C_Entry C_Store C_FolderkinError C_PowerCut C_InvalidBlock gX) : PrM c 4 C_Store "place" ["self", "name", "time"] [] [] (f_Store_place C_Pull C_Entry C_Store C_FolderkinError C_PowerCut C_InvalidBlock gX) := T.a_Store_place.runP sc_Store_place (jb_Store_place T)
theorem jb_Pull_place (T : Facts c C_Pull C_Entry C_Store C_FolderkinError C_PowerCut C_InvalidBlock gX) : JB (c.at_ 4) ["self"] (defScope s_Pull_place) (defBody s_Pull_place) (m_Pull_place C_Pull C_Entry C_Store C_FolderkinError C_PowerCut C_InvalidBlock gX) :=
  jb_one (js_expr (je_meth T.cl_Store.cl (P_Store_place (c := c) T).mt (Nat.le_of_ble_eq_true rfl) (je_fld (v_ 0) T.cl_Pull.cl T.na_Pull_store) (jl_cons (je_fld (je_fld (v_ 0) T.cl_Pull.cl T.na_Pull_entry) T.cl_Entry.cl T.na_Entry_name) (jl_cons (je_fld (je_fld (v_ 0) T.cl_Pull.cl T.na_Pull_entry) T.cl_Entry.cl T.na_Entry_time) (jl_nil)))))
theorem P_Pull_place (T : Facts c C_Pull C_Entry C_Store C_FolderkinError C_PowerCut C_InvalidBlock gX) : PrM c 5 C_Pull "place" ["self"] [] [] (f_Pull_place C_Pull C_Entry C_Store C_FolderkinError C_PowerCut C_InvalidBlock gX) := T.a_Pull_place.runP sc_Pull_place (jb_Pull_place T)
theorem jb_Entry_init (T : Facts c C_Pull C_Entry C_Store C_FolderkinError C_PowerCut C_InvalidBlock gX) : JB (c.at_ 0) ["self", "name", "vector", "height", "maker", "deleted", "time", "blocks"] (defScope s_Entry_init) (defBody s_Entry_init) (m_Entry_init C_Pull C_Entry C_Store C_FolderkinError C_PowerCut C_InvalidBlock gX) :=
  jb_cons (js_seta T.cl_Entry.cl T.na_Entry_name (v_ 1) (v_ 0))
    (jb_cons (js_seta T.cl_Entry.cl T.na_Entry_vector (v_ 2) (v_ 0))
    (jb_cons (js_seta T.cl_Entry.cl T.na_Entry_height (v_ 3) (v_ 0))
    (jb_cons (js_seta T.cl_Entry.cl T.na_Entry_maker (v_ 4) (v_ 0))
    (jb_cons (js_seta T.cl_Entry.cl T.na_Entry_deleted (v_ 5) (v_ 0))
    (jb_cons (js_seta T.cl_Entry.cl T.na_Entry_time (v_ 6) (v_ 0))
    (jb_one (js_seta T.cl_Entry.cl T.na_Entry_blocks (v_ 7) (v_ 0))))))))
theorem P_Entry_init (T : Facts c C_Pull C_Entry C_Store C_FolderkinError C_PowerCut C_InvalidBlock gX) : PrI c 1 C_Entry "Entry" ["self", "name", "vector", "height", "maker", "deleted", "time", "blocks"] [] [] (f_Entry_init C_Pull C_Entry C_Store C_FolderkinError C_PowerCut C_InvalidBlock gX) := T.a_Entry_init.run sc_Entry_init (jb_Entry_init T)
theorem jb_Store_init (T : Facts c C_Pull C_Entry C_Store C_FolderkinError C_PowerCut C_InvalidBlock gX) : JB (c.at_ 0) ["self", "files", "log", "name", "content", "time"] (defScope s_Store_init) (defBody s_Store_init) (m_Store_init C_Pull C_Entry C_Store C_FolderkinError C_PowerCut C_InvalidBlock gX) :=
  jb_cons (js_seta T.cl_Store.cl T.na_Store_files (JF.new (jf_dnew)) (v_ 0))
    (jb_cons (JS.lock (js_for (ji_keysL (v_ 1)) (tg_ 3 sc_Store_init.nd) (jb_cons (js_asg (je_dget (v_ 1) (v_ 3)) (jtg_tup (jtgs_cons (tg_ 4 sc_Store_init.nd) (jtgs_cons (tg_ 5 sc_Store_init.nd) (jtgs_nil)))))
    (jb_one (js_dput (je_tup (jl_cons (JF.je (jf_t1 cf_list rfl T.b_list (by decide +kernel) (v_ 4))) (jl_cons (v_ 5) (jl_nil)))) (je_fld (v_ 0) T.cl_Store.cl T.na_Store_files) (v_ 3))))))
    (jb_cons (js_seta T.cl_Store.cl T.na_Store_temps (JF.new (jf_dnew)) (v_ 0))
    (jb_cons (js_seta T.cl_Store.cl T.na_Store_old (JF.new (jf_lst (jl_nil))) (v_ 0))
    (jb_cons (js_seta T.cl_Store.cl T.na_Store_records (JF.new (jf_t1 cf_list rfl T.b_list (by decide +kernel) (v_ 2))) (v_ 0))
    (jb_cons (js_seta T.cl_Store.cl T.na_Store_fresh (JF.new (jf_lst (jl_nil))) (v_ 0))
    (jb_cons (js_seta T.cl_Store.cl T.na_Store_writes (ce_int) (v_ 0))
    (jb_one (js_seta T.cl_Store.cl T.na_Store_most (ce_non) (v_ 0)))))))))
theorem P_Store_init (T : Facts c C_Pull C_Entry C_Store C_FolderkinError C_PowerCut C_InvalidBlock gX) : PrI c 1 C_Store "Store" ["self", "files", "log"] [] [] (f_Store_init C_Pull C_Entry C_Store C_FolderkinError C_PowerCut C_InvalidBlock gX) := T.a_Store_init.run sc_Store_init (jb_Store_init T)
theorem jb_Store_set_budget (T : Facts c C_Pull C_Entry C_Store C_FolderkinError C_PowerCut C_InvalidBlock gX) : JB (c.at_ 0) ["self", "count"] (defScope s_Store_set_budget) (defBody s_Store_set_budget) (m_Store_set_budget C_Pull C_Entry C_Store C_FolderkinError C_PowerCut C_InvalidBlock gX) :=
  jb_one (js_if (jt_cmp o_is (v_ 1) (ce_non)) (jb_one (js_seta T.cl_Store.cl T.na_Store_most (ce_non) (v_ 0))) (jb_one (js_seta T.cl_Store.cl T.na_Store_most (ce_op o_add (je_fld (v_ 0) T.cl_Store.cl T.na_Store_writes) (v_ 1)) (v_ 0))))
theorem P_Store_set_budget (T : Facts c C_Pull C_Entry C_Store C_FolderkinError C_PowerCut C_InvalidBlock gX) : PrM c 1 C_Store "set_budget" ["self", "count"] [] [] (f_Store_set_budget C_Pull C_Entry C_Store C_FolderkinError C_PowerCut C_InvalidBlock gX) := T.a_Store_set_budget.runP sc_Store_set_budget (jb_Store_set_budget T)
theorem jb_Store_temp_names (T : Facts c C_Pull C_Entry C_Store C_FolderkinError C_PowerCut C_InvalidBlock gX) : JB (c.at_ 0) ["self"] (defScope s_Store_temp_names) (defBody s_Store_temp_names) (m_Store_temp_names C_Pull C_Entry C_Store C_FolderkinError C_PowerCut C_InvalidBlock gX) :=
  jb_one (js_ret (JF.je (je_sortD rfl T.b_sorted (je_fld (v_ 0) T.cl_Store.cl T.na_Store_temps))))
theorem P_Store_temp_names (T : Facts c C_Pull C_Entry C_Store C_FolderkinError C_PowerCut C_InvalidBlock gX) : PrM c 1 C_Store "temp_names" ["self"] [] [] (f_Store_temp_names C_Pull C_Entry C_Store C_FolderkinError C_PowerCut C_InvalidBlock gX) := T.a_Store_temp_names.runP sc_Store_temp_names (jb_Store_temp_names T)
theorem jb_Store_attic_put (T : Facts c C_Pull C_Entry C_Store C_FolderkinError C_PowerCut C_InvalidBlock gX) : JB (c.at_ 3) ["self", "name", "vector", "content"] (defScope s_Store_attic_put) (defBody s_Store_attic_put) (m_Store_attic_put C_Pull C_Entry C_Store C_FolderkinError C_PowerCut C_InvalidBlock gX) :=
  jb_cons (js_expr (je_meth0 T.cl_Store.cl (P_Store_write_now (c := c) T).mt (Nat.le_of_ble_eq_true rfl) (v_ 0)))
    (jb_one (js_expr (je_mut mu_append PySem.F.slot_list_append PySem.F.type_list_append (je_fld (v_ 0) T.cl_Store.cl T.na_Store_old) (jl_cons (je_tup (jl_cons (v_ 1) (jl_cons (v_ 2) (jl_cons (JF.je (jf_t1 cf_list rfl T.b_list (by decide +kernel) (v_ 3))) (jl_nil))))) (jl_nil)))))
theorem P_Store_attic_put (T : Facts c C_Pull C_Entry C_Store C_FolderkinError C_PowerCut C_InvalidBlock gX) : PrM c 4 C_Store "attic_put" ["self", "name", "vector", "content"] [] [] (f_Store_attic_put C_Pull C_Entry C_Store C_FolderkinError C_PowerCut C_InvalidBlock gX) := T.a_Store_attic_put.runP sc_Store_attic_put (jb_Store_attic_put T)
theorem jb_Store_durable (T : Facts c C_Pull C_Entry C_Store C_FolderkinError C_PowerCut C_InvalidBlock gX) : JB (c.at_ 1) ["self", "files", "temps", "old", "name", "vector", "content"] (defScope s_Store_durable) (defBody s_Store_durable) (m_Store_durable C_Pull C_Entry C_Store C_FolderkinError C_PowerCut C_InvalidBlock gX) :=
  jb_cons (set_ 1 sc_Store_durable.nd (je_t1 c_tuple rfl T.b_tuple (by decide +kernel) (JF.je (jf_lc (own := [("name", 4)]) (oc := []) sc_Store_durable.nd (ji_list (je_meth0 T.cl_Store.cl (P_Store_names (c := c) T).mt (Nat.le_of_ble_eq_true rfl) (v_ 0))) (blkOk_by (by decide +kernel)) (tg_ 4 sc_Store_durable.nd) (jts_nil) (je_tup (jl_cons (v_ 4) (jl_cons (je_t1 c_tuple rfl T.b_tuple (by decide +kernel) (je_ix o_ix (je_dget (je_fld (v_ 0) T.cl_Store.cl T.na_Store_files) (v_ 4)) (ce_int))) (jl_cons (je_ix o_ix (je_dget (je_fld (v_ 0) T.cl_Store.cl T.na_Store_files) (v_ 4)) (ce_int)) (jl_nil)))))))))
    (jb_cons (set_ 2 sc_Store_durable.nd (je_t1 c_tuple rfl T.b_tuple (by decide +kernel) (JF.je (jf_lc (own := [("name", 4)]) (oc := []) sc_Store_durable.nd (ji_list (je_meth0 T.cl_Store.cl (P_Store_temp_names (c := c) T).mt (Nat.le_of_ble_eq_true rfl) (v_ 0))) (blkOk_by (by decide +kernel)) (tg_ 4 sc_Store_durable.nd) (jts_nil) (je_tup (jl_cons (v_ 4) (jl_cons (je_t1 c_tuple rfl T.b_tuple (by decide +kernel) (je_dget (je_fld (v_ 0) T.cl_Store.cl T.na_Store_temps) (v_ 4))) (jl_nil))))))))
    (jb_cons (set_ 3 sc_Store_durable.nd (je_t1 c_tuple rfl T.b_tuple (by decide +kernel) (JF.je (jf_lc (own := [("name", 4), ("vector", 5), ("content", 6)]) (oc := []) sc_Store_durable.nd (ji_list (je_fld (v_ 0) T.cl_Store.cl T.na_Store_old)) (blkOk_by (by decide +kernel)) (jtg_tup (jtgs_cons (tg_ 4 sc_Store_durable.nd) (jtgs_cons (tg_ 5 sc_Store_durable.nd) (jtgs_cons (tg_ 6 sc_Store_durable.nd) (jtgs_nil))))) (jts_nil) (je_tup (jl_cons (v_ 4) (jl_cons (v_ 5) (jl_cons (je_t1 c_tuple rfl T.b_tuple (by decide +kernel) (v_ 6)) (jl_nil)))))))))
    (jb_one (js_ret (je_tup (jl_cons (v_ 1) (jl_cons (v_ 2) (jl_cons (v_ 3) (jl_cons (je_t1 c_tuple rfl T.b_tuple (by decide +kernel) (je_fld (v_ 0) T.cl_Store.cl T.na_Store_records)) (jl_cons (je_t1 c_tuple rfl T.b_tuple (by decide +kernel) (je_fld (v_ 0) T.cl_Store.cl T.na_Store_fresh)) (jl_nil)))))))))))
theorem P_Store_durable (T : Facts c C_Pull C_Entry C_Store C_FolderkinError C_PowerCut C_InvalidBlock gX) : PrM c 2 C_Store "durable" ["self"] [] [] (f_Store_durable C_Pull C_Entry C_Store C_FolderkinError C_PowerCut C_InvalidBlock gX) := T.a_Store_durable.runP sc_Store_durable (jb_Store_durable T)
theorem jb_from_durable (T : Facts c C_Pull C_Entry C_Store C_FolderkinError C_PowerCut C_InvalidBlock gX) : JB (c.at_ 2) ["value", "store", "files", "temps", "old", "records", "fresh", "name", "content", "time", "vector"] (defScope s_from_durable) (defBody s_from_durable) (m_from_durable C_Pull C_Entry C_Store C_FolderkinError C_PowerCut C_InvalidBlock gX) :=
  jb_cons (js_asg (v_ 0) (jtg_tup (jtgs_cons (tg_ 2 sc_from_durable.nd) (jtgs_cons (tg_ 3 sc_from_durable.nd) (jtgs_cons (tg_ 4 sc_from_durable.nd) (jtgs_cons (tg_ 5 sc_from_durable.nd) (jtgs_cons (tg_ 6 sc_from_durable.nd) (jtgs_nil))))))))
    (jb_cons (set_ 1 sc_from_durable.nd (je_mk (P_Store_init (c := c) T).mk_ (Nat.le_of_ble_eq_true rfl) rfl (jl_cons (JF.new (jf_dnew)) (jl_cons (v_ 5) (jl_nil)))))
    (jb_cons (js_for (ji_tup (v_ 2)) (jtg_tup (jtgs_cons (tg_ 7 sc_from_durable.nd) (jtgs_cons (tg_ 8 sc_from_durable.nd) (jtgs_cons (tg_ 9 sc_from_durable.nd) (jtgs_nil))))) (jb_one (js_dput (je_tup (jl_cons (JF.je (jf_t1 cf_list rfl T.b_list (by decide +kernel) (v_ 8))) (jl_cons (v_ 9) (jl_nil)))) (je_fld (v_ 1) T.cl_Store.cl T.na_Store_files) (v_ 7))))
    (jb_cons (js_for (ji_tup (v_ 3)) (jtg_tup (jtgs_cons (tg_ 7 sc_from_durable.nd) (jtgs_cons (tg_ 8 sc_from_durable.nd) (jtgs_nil)))) (jb_one (js_dput (JF.je (jf_t1 cf_list rfl T.b_list (by decide +kernel) (v_ 8))) (je_fld (v_ 1) T.cl_Store.cl T.na_Store_temps) (v_ 7))))
    (jb_cons (js_seta T.cl_Store.cl T.na_Store_old (JF.new (jf_lc (own := [("name", 7), ("vector", 10), ("content", 8)]) (oc := []) sc_from_durable.nd (ji_tup (v_ 4)) (blkOk_by (by decide +kernel)) (jtg_tup (jtgs_cons (tg_ 7 sc_from_durable.nd) (jtgs_cons (tg_ 10 sc_from_durable.nd) (jtgs_cons (tg_ 8 sc_from_durable.nd) (jtgs_nil))))) (jts_nil) (je_tup (jl_cons (v_ 7) (jl_cons (v_ 10) (jl_cons (JF.je (jf_t1 cf_list rfl T.b_list (by decide +kernel) (v_ 8))) (jl_nil))))))) (v_ 1))
    (jb_cons (js_seta T.cl_Store.cl T.na_Store_fresh (JF.new (jf_t1 cf_list rfl T.b_list (by decide +kernel) (v_ 6))) (v_ 1))
    (jb_one (js_ret (v_ 1))))))))
theorem P_from_durable (T : Facts c C_Pull C_Entry C_Store C_FolderkinError C_PowerCut C_InvalidBlock gX) : PrF c 3 "from_durable" ["value"] [] [] (f_from_durable C_Pull C_Entry C_Store C_FolderkinError C_PowerCut C_InvalidBlock gX) := T.a_from_durable.run sc_from_durable (jb_from_durable T)
theorem jb_law_draw (T : Facts c C_Pull C_Entry C_Store C_FolderkinError C_PowerCut C_InvalidBlock gX) : JB (c.at_ 0) ["_law_state", "_law_script", "_law_size", "_law_digit", "_law_cell", "_law_mixed"] (defScope s_law_draw) (defBody s_law_draw) (m_law_draw C_Pull C_Entry C_Store C_FolderkinError C_PowerCut C_InvalidBlock gX) :=
  jb_cons (js_if (jt_cmp o_eq (je_ix o_ix (v_ 0) (ce_int)) (ce_int)) (jb_cons (set_ 4 sc_law_draw.nd (ce_int))
    (jb_cons (js_if (jt_cmp o_gt (je_b1 c_len rfl T.b_len (by decide +kernel) (v_ 1)) (ce_int)) (jb_one (set_ 4 sc_law_draw.nd (je_ix o_ix (v_ 1) (ce_op o_mod (je_ix o_ix (v_ 0) (ce_int)) (je_b1 c_len rfl T.b_len (by decide +kernel) (v_ 1)))))) (jb_nil))
    (jb_cons (js_if (jt_cmp o_lt (v_ 4) (ce_int)) (jb_one (set_ 4 sc_law_draw.nd (ce_op o_sub (ce_int) (ce_op o_mul (ce_int) (v_ 4))))) (jb_nil))
    (jb_cons (set_ 5 sc_law_draw.nd (ce_op o_mod (je_t1 c_int rfl T.b_int (by decide +kernel) (ce_op o_mul (ce_op o_add (ce_op o_add (v_ 4) (ce_op o_mul (je_ix o_ix (v_ 0) (ce_int)) (ce_int))) (ce_int)) (ce_int))) (ce_int)))
    (jb_cons (js_seti (ce_op o_mod (je_t1 c_int rfl T.b_int (by decide +kernel) (ce_op o_add (ce_op o_mul (v_ 5) (ce_int)) (ce_op o_mul (je_ix o_ix (v_ 0) (ce_int)) (ce_int)))) (ce_int)) (v_ 0) (ce_int))
    (jb_cons (js_if (jt_w (jw_and (jt_cmp o_ge (v_ 4) (ce_op o_pow (ce_int) (ce_int))) (jw_and1 (jt_cmp o_lt (je_ix o_ix (v_ 0) (ce_int)) (je_b1 c_len rfl T.b_len (by decide +kernel) (v_ 1)))))) (jb_one (js_seti (v_ 4) (v_ 0) (ce_int))) (jb_nil))
    (jb_one (js_seti (ce_op o_add (je_ix o_ix (v_ 0) (ce_int)) (ce_int)) (v_ 0) (ce_int))))))))) (jb_nil))
    (jb_cons (set_ 3 sc_law_draw.nd (ce_op o_mod (je_t1 c_int rfl T.b_int (by decide +kernel) (je_ix o_ix (v_ 0) (ce_int))) (v_ 2)))
    (jb_cons (js_seti (ce_op o_div (je_ix o_ix (v_ 0) (ce_int)) (v_ 2)) (v_ 0) (ce_int))
    (jb_one (js_ret (v_ 3)))))
theorem P_law_draw (T : Facts c C_Pull C_Entry C_Store C_FolderkinError C_PowerCut C_InvalidBlock gX) : PrF c 1 "_law_draw" ["_law_state", "_law_script", "_law_size"] [] [] (f_law_draw C_Pull C_Entry C_Store C_FolderkinError C_PowerCut C_InvalidBlock gX) := T.a_law_draw.runP sc_law_draw (jb_law_draw T)
theorem jb_law_name (T : Facts c C_Pull C_Entry C_Store C_FolderkinError C_PowerCut C_InvalidBlock gX) : JB (c.at_ 1) ["_law_state", "_law_script"] (defScope s_law_name) (defBody s_law_name) (m_law_name C_Pull C_Entry C_Store C_FolderkinError C_PowerCut C_InvalidBlock gX) :=
  jb_one (js_ret (je_ix o_ix (JF.je (jf_lst (jl_cons (ce_str) (jl_cons (ce_str) (jl_cons (ce_str) (jl_cons (ce_str) (jl_cons (ce_str) (jl_cons (ce_str) (jl_nil))))))))) (je_call (P_law_draw (c := c) T).fn (Nat.le_of_ble_eq_true rfl) rfl (jl_cons (v_ 0) (jl_cons (v_ 1) (jl_cons (ce_int) (jl_nil)))))))
theorem P_law_name (T : Facts c C_Pull C_Entry C_Store C_FolderkinError C_PowerCut C_InvalidBlock gX) : PrF c 2 "_law_name" ["_law_state", "_law_script"] [] [] (f_law_name C_Pull C_Entry C_Store C_FolderkinError C_PowerCut C_InvalidBlock gX) := T.a_law_name.runP sc_law_name (jb_law_name T)
theorem jb_law_content (T : Facts c C_Pull C_Entry C_Store C_FolderkinError C_PowerCut C_InvalidBlock gX) : JB (c.at_ 1) ["_law_state", "_law_script", "_law_most", "_law_words", "_law_content_here", "_law_k"] (defScope s_law_content) (defBody s_law_content) (m_law_content C_Pull C_Entry C_Store C_FolderkinError C_PowerCut C_InvalidBlock gX) :=
  jb_cons (set_ 3 sc_law_content.nd (JF.je (jf_lst (jl_cons (JF.je (jf_lst (jl_cons (ce_int) (jl_cons (ce_int) (jl_cons (ce_int) (jl_cons (ce_int) (jl_nil))))))) (jl_cons (JF.je (jf_lst (jl_cons (ce_int) (jl_cons (ce_int) (jl_cons (ce_int) (jl_cons (ce_int) (jl_nil))))))) (jl_cons (JF.je (jf_lst (jl_cons (ce_int) (jl_cons (ce_int) (jl_cons (ce_int) (jl_cons (ce_int) (jl_nil))))))) (jl_cons (JF.je (jf_lst (jl_cons (ce_int) (jl_nil)))) (jl_cons (JF.je (jf_lst (jl_cons (ce_int) (jl_cons (ce_int) (jl_nil))))) (jl_cons (JF.je (jf_lst (jl_cons (je_call (P_law_draw (c := c) T).fn (Nat.le_of_ble_eq_true rfl) rfl (jl_cons (v_ 0) (jl_cons (v_ 1) (jl_cons (ce_int) (jl_nil))))) (jl_cons (ce_int) (jl_cons (ce_int) (jl_cons (ce_int) (jl_nil))))))) (jl_nil))))))))))
    (jb_cons (set_ 4 sc_law_content.nd (JF.je (jf_lst (jl_nil))))
    (jb_cons (js_for (ji_range1 rfl T.b_range (jl_cons (je_call (P_law_draw (c := c) T).fn (Nat.le_of_ble_eq_true rfl) rfl (jl_cons (v_ 0) (jl_cons (v_ 1) (jl_cons (ce_op o_add (v_ 2) (ce_int)) (jl_nil))))) (jl_nil))) (tg_ 5 sc_law_content.nd) (jb_one (set_ 4 sc_law_content.nd (ce_op o_add (v_ 4) (je_ix o_ix (v_ 3) (je_call (P_law_draw (c := c) T).fn (Nat.le_of_ble_eq_true rfl) rfl (jl_cons (v_ 0) (jl_cons (v_ 1) (jl_cons (ce_int) (jl_nil))))))))))
    (jb_one (js_ret (v_ 4)))))
theorem P_law_content (T : Facts c C_Pull C_Entry C_Store C_FolderkinError C_PowerCut C_InvalidBlock gX) : PrF c 2 "_law_content" ["_law_state", "_law_script", "_law_most"] [] [] (f_law_content C_Pull C_Entry C_Store C_FolderkinError C_PowerCut C_InvalidBlock gX) := T.a_law_content.runP sc_law_content (jb_law_content T)
theorem jb_law_blocks (T : Facts c C_Pull C_Entry C_Store C_FolderkinError C_PowerCut C_InvalidBlock gX) : JB (c.at_ 0) ["_law_content_here", "_law_found", "_law_k", "_law_number", "_law_byte"] (defScope s_law_blocks) (defBody s_law_blocks) (m_law_blocks C_Pull C_Entry C_Store C_FolderkinError C_PowerCut C_InvalidBlock gX) :=
  jb_cons (set_ 1 sc_law_blocks.nd (JF.new (jf_lst (jl_nil))))
    (jb_cons (js_for (ji_range3 rfl T.b_range (jl_cons (ce_int) (jl_cons (je_b1 c_len rfl T.b_len (by decide +kernel) (v_ 0)) (jl_cons (ce_int) (jl_nil))))) (tg_ 2 sc_law_blocks.nd) (jb_cons (set_ 3 sc_law_blocks.nd (ce_int))
    (jb_cons (js_for (ji_list (je_cut (v_ 0) (jp_some (v_ 2)) (jp_some (ce_op o_add (v_ 2) (ce_int))))) (tg_ 4 sc_law_blocks.nd) (jb_one (set_ 3 sc_law_blocks.nd (ce_op o_add (ce_op o_mul (v_ 3) (ce_int)) (v_ 4)))))
    (jb_one (js_expr (je_mut mu_append PySem.F.slot_list_append PySem.F.type_list_append (v_ 1) (jl_cons (v_ 3) (jl_nil))))))))
    (jb_one (js_ret (je_t1 c_tuple rfl T.b_tuple (by decide +kernel) (v_ 1)))))
theorem P_law_blocks (T : Facts c C_Pull C_Entry C_Store C_FolderkinError C_PowerCut C_InvalidBlock gX) : PrF c 1 "_law_blocks" ["_law_content_here"] [] [] (f_law_blocks C_Pull C_Entry C_Store C_FolderkinError C_PowerCut C_InvalidBlock gX) := T.a_law_blocks.runP sc_law_blocks (jb_law_blocks T)
theorem jb_law_bytes (T : Facts c C_Pull C_Entry C_Store C_FolderkinError C_PowerCut C_InvalidBlock gX) : JB (c.at_ 0) ["_law_blocks_here", "_law_content_here", "_law_block", "_law_part"] (defScope s_law_bytes) (defBody s_law_bytes) (m_law_bytes C_Pull C_Entry C_Store C_FolderkinError C_PowerCut C_InvalidBlock gX) :=
  jb_cons (set_ 1 sc_law_bytes.nd (JF.je (jf_lst (jl_nil))))
    (jb_cons (js_for (ji_list (v_ 0)) (tg_ 2 sc_law_bytes.nd) (jb_cons (set_ 3 sc_law_bytes.nd (JF.je (jf_lst (jl_nil))))
    (jb_cons (js_while (jt_cmp o_gt (v_ 2) (ce_int)) (jb_cons (set_ 3 sc_law_bytes.nd (ce_op o_add (JF.je (jf_lst (jl_cons (ce_op o_and (v_ 2) (ce_int)) (jl_nil)))) (v_ 3)))
    (jb_one (set_ 2 sc_law_bytes.nd (ce_op o_shr (v_ 2) (ce_int))))))
    (jb_one (set_ 1 sc_law_bytes.nd (ce_op o_add (v_ 1) (v_ 3)))))))
    (jb_one (js_ret (v_ 1))))
theorem P_law_bytes (T : Facts c C_Pull C_Entry C_Store C_FolderkinError C_PowerCut C_InvalidBlock gX) : PrF c 1 "_law_bytes" ["_law_blocks_here"] [] [] (f_law_bytes C_Pull C_Entry C_Store C_FolderkinError C_PowerCut C_InvalidBlock gX) := T.a_law_bytes.runP sc_law_bytes (jb_law_bytes T)
theorem jb_law_refused (T : Facts c C_Pull C_Entry C_Store C_FolderkinError C_PowerCut C_InvalidBlock gX) : JB (c.at_ 7) ["_law_state", "_law_script", "_law_store", "_law_pull", "_law_block", "_law_before", "_law_data", "_law_wrong"] (defScope s_law_refused) (defBody s_law_refused) (m_law_refused C_Pull C_Entry C_Store C_FolderkinError C_PowerCut C_InvalidBlock gX) :=
  jb_cons (set_ 5 sc_law_refused.nd (je_meth0 T.cl_Store.cl (P_Store_durable (c := c) T).mt (Nat.le_of_ble_eq_true rfl) (v_ 2)))
    (jb_cons (set_ 6 sc_law_refused.nd (je_call (P_law_bytes (c := c) T).fn (Nat.le_of_ble_eq_true rfl) rfl (jl_cons (JF.je (jf_lst (jl_cons (v_ 4) (jl_nil)))) (jl_nil))))
    (jb_cons (set_ 7 sc_law_refused.nd (je_ix o_ix (JF.je (jf_lst (jl_cons (je_tup (jl_cons (ce_op o_add (v_ 4) (ce_int)) (jl_cons (v_ 6) (jl_nil)))) (jl_cons (je_tup (jl_cons (v_ 4) (jl_cons (ce_op o_add (v_ 6) (JF.je (jf_lst (jl_cons (ce_int) (jl_nil))))) (jl_nil)))) (jl_cons (je_tup (jl_cons (v_ 4) (jl_cons (ce_op o_add (JF.je (jf_lst (jl_cons (ce_op o_xor (je_ix o_ix (v_ 6) (ce_int)) (ce_int)) (jl_nil)))) (je_cut (v_ 6) (jp_some (ce_int)) (jp_none))) (jl_nil)))) (jl_cons (je_tup (jl_cons (ce_int) (jl_cons (JF.je (jf_lst (jl_cons (ce_int) (jl_nil)))) (jl_nil)))) (jl_nil))))))) (je_call (P_law_draw (c := c) T).fn (Nat.le_of_ble_eq_true rfl) rfl (jl_cons (v_ 0) (jl_cons (v_ 1) (jl_cons (ce_int) (jl_nil)))))))
    (jb_cons (js_if (jt_w (jw_and (jt_cmp o_eq (je_ix o_ix (v_ 7) (ce_int)) (v_ 4)) (jw_and1 (jt_cmp o_eq (je_ix o_ix (v_ 7) (ce_int)) (v_ 6))))) (jb_one (js_ret (ce_bl))) (jb_nil))
    (jb_one (js_ret (je_or (ce_cmp o_eq (v_ 7) (je_tup (jl_cons (v_ 4) (jl_cons (v_ 6) (jl_nil))))) (je_one (je_and (ce_cmp o_isT (je_meth T.cl_Pull.cl (P_Pull_give (c := c) T).mt (Nat.le_of_ble_eq_true rfl) (v_ 3) (jl_cons (je_ix o_ix (v_ 7) (ce_int)) (jl_cons (je_ix o_ix (v_ 7) (ce_int)) (jl_nil)))) (ce_bl)) (je_one (ce_cmp o_eq (je_meth0 T.cl_Store.cl (P_Store_durable (c := c) T).mt (Nat.le_of_ble_eq_true rfl) (v_ 2)) (v_ 5)))))))))))
theorem P_law_refused (T : Facts c C_Pull C_Entry C_Store C_FolderkinError C_PowerCut C_InvalidBlock gX) : PrF c 8 "_law_refused" ["_law_state", "_law_script", "_law_store", "_law_pull", "_law_block"] [] [] (f_law_refused C_Pull C_Entry C_Store C_FolderkinError C_PowerCut C_InvalidBlock gX) := T.a_law_refused.runP sc_law_refused (jb_law_refused T)
theorem jb_law_pulled (T : Facts c C_Pull C_Entry C_Store C_FolderkinError C_PowerCut C_InvalidBlock gX) : JB (c.at_ 8) ["_law_state", "_law_script", "_law_store", "_law_entry", "_law_asked", "_law_pull", "_law_turn", "_law_block"] (defScope s_law_pulled) (defBody s_law_pulled) (m_law_pulled C_Pull C_Entry C_Store C_FolderkinError C_PowerCut C_InvalidBlock gX) :=
  jb_cons (js_try rfl T.x_PowerCut.mg (exm_PowerCut_ok (c := c) T) (jb_cons (set_ 5 sc_law_pulled.nd (je_mk (P_Pull_init (c := c) T).mk_ (Nat.le_of_ble_eq_true rfl) rfl (jl_cons (v_ 2) (jl_cons (v_ 3) (jl_nil)))))
    (jb_one (js_for (ji_range1 rfl T.b_range (jl_cons (ce_op o_add (je_b1 c_len rfl T.b_len (by decide +kernel) (je_fld (v_ 3) T.cl_Entry.cl T.na_Entry_blocks)) (ce_int)) (jl_nil))) (tg_ 6 sc_law_pulled.nd) (jb_cons (set_ 7 sc_law_pulled.nd (je_meth0 T.cl_Pull.cl (P_Pull_advance (c := c) T).mt (Nat.le_of_ble_eq_true rfl) (v_ 5)))
    (jb_cons (js_if (jt_cmp o_is (v_ 7) (ce_non)) (jb_cons (js_if (jt_w (jw_or (jt_not (jt_val (je_meth0 T.cl_Pull.cl (P_Pull_is_whole (c := c) T).mt (Nat.le_of_ble_eq_true rfl) (v_ 5)))) (jw_or1 (jt_cmp o_ne (je_meth0 T.cl_Pull.cl (P_Pull_count (c := c) T).mt (Nat.le_of_ble_eq_true rfl) (v_ 5)) (je_b1 c_len rfl T.b_len (by decide +kernel) (je_fld (v_ 3) T.cl_Entry.cl T.na_Entry_blocks)))))) (jb_one (js_ret (ce_str))) (jb_nil))
    (jb_cons (js_expr (je_meth0 T.cl_Pull.cl (P_Pull_place (c := c) T).mt (Nat.le_of_ble_eq_true rfl) (v_ 5)))
    (jb_one (js_ret (ce_str))))) (jb_nil))
    (jb_cons (js_expr (je_mut mu_append PySem.F.slot_list_append PySem.F.type_list_append (v_ 4) (jl_cons (v_ 7) (jl_nil))))
    (jb_cons (js_if (jt_w (jw_or (jt_val (je_meth0 T.cl_Pull.cl (P_Pull_is_whole (c := c) T).mt (Nat.le_of_ble_eq_true rfl) (v_ 5))) (jw_or1 (jt_cmp o_ne (je_ix o_ix (je_fld (v_ 3) T.cl_Entry.cl T.na_Entry_blocks) (je_meth0 T.cl_Pull.cl (P_Pull_count (c := c) T).mt (Nat.le_of_ble_eq_true rfl) (v_ 5))) (v_ 7))))) (jb_one (js_ret (ce_str))) (jb_nil))
    (jb_cons (js_if (jt_w (jw_and (jt_cmp o_eq (je_call (P_law_draw (c := c) T).fn (Nat.le_of_ble_eq_true rfl) rfl (jl_cons (v_ 0) (jl_cons (v_ 1) (jl_cons (ce_int) (jl_nil))))) (ce_int)) (jw_and (jt_cmp o_ne (v_ 7) (ce_int)) (jw_and1 (jt_not (jt_val (je_call (P_law_refused (c := c) T).fn (Nat.le_of_ble_eq_true rfl) rfl (jl_cons (v_ 0) (jl_cons (v_ 1) (jl_cons (v_ 2) (jl_cons (v_ 5) (jl_cons (v_ 7) (jl_nil))))))))))))) (jb_one (js_ret (ce_str))) (jb_nil))
    (jb_one (js_if (jt_cmp o_isNotT (je_meth T.cl_Pull.cl (P_Pull_give (c := c) T).mt (Nat.le_of_ble_eq_true rfl) (v_ 5) (jl_cons (v_ 7) (jl_cons (je_call (P_law_bytes (c := c) T).fn (Nat.le_of_ble_eq_true rfl) rfl (jl_cons (JF.je (jf_lst (jl_cons (v_ 7) (jl_nil)))) (jl_nil))) (jl_nil)))) (ce_bl)) (jb_one (js_ret (ce_str))) (jb_nil))))))))))) (jb_one (js_ret (ce_str))))
    (jb_one (js_ret (ce_str)))
theorem P_law_pulled (T : Facts c C_Pull C_Entry C_Store C_FolderkinError C_PowerCut C_InvalidBlock gX) : PrF c 9 "_law_pulled" ["_law_state", "_law_script", "_law_store", "_law_entry", "_law_asked"] [] [] (f_law_pulled C_Pull C_Entry C_Store C_FolderkinError C_PowerCut C_InvalidBlock gX) := T.a_law_pulled.runP sc_law_pulled (jb_law_pulled T)
theorem jb_law (T : Facts c C_Pull C_Entry C_Store C_FolderkinError C_PowerCut C_InvalidBlock gX) : JB (c.at_ 9) ["_law_script", "_law_state", "_law_content_here", "_law_entry", "_law_files", "_law_k", "_law_store", "_law_due", "_law_old", "_law_rest", "_law_asked", "_law_cuts", "_law_word", "_law_turn", "_law_once", "_law_block", "_law_name_here"] (defScope s_law) (defBody s_law) (m_law C_Pull C_Entry C_Store C_FolderkinError C_PowerCut C_InvalidBlock gX) :=
  jb_cons (set_ 1 sc_law.nd (JF.new (jf_lst (jl_cons (ce_int) (jl_cons (ce_int) (jl_nil))))))
    (jb_cons (set_ 2 sc_law.nd (je_call (P_law_content (c := c) T).fn (Nat.le_of_ble_eq_true rfl) rfl (jl_cons (v_ 1) (jl_cons (v_ 0) (jl_cons (ce_int) (jl_nil))))))
    (jb_cons (set_ 3 sc_law.nd (JE.frz (je_mk (P_Entry_init (c := c) T).mk_ (Nat.le_of_ble_eq_true rfl) rfl (jl_cons (je_call (P_law_name (c := c) T).fn (Nat.le_of_ble_eq_true rfl) rfl (jl_cons (v_ 1) (jl_cons (v_ 0) (jl_nil)))) (jl_cons (je_tup (jl_cons (je_tup (jl_cons (ce_int) (jl_cons (ce_int) (jl_nil)))) (jl_nil))) (jl_cons (ce_int) (jl_cons (je_tup (jl_cons (ce_int) (jl_cons (ce_int) (jl_nil)))) (jl_cons (ce_bl) (jl_cons (ce_int) (jl_cons (je_call (P_law_blocks (c := c) T).fn (Nat.le_of_ble_eq_true rfl) rfl (jl_cons (v_ 2) (jl_nil))) (jl_nil)))))))))))
    (jb_cons (set_ 4 sc_law.nd (JF.new (jf_dnew)))
    (jb_cons (js_for (ji_range1 rfl T.b_range (jl_cons (je_call (P_law_draw (c := c) T).fn (Nat.le_of_ble_eq_true rfl) rfl (jl_cons (v_ 1) (jl_cons (v_ 0) (jl_cons (ce_int) (jl_nil))))) (jl_nil))) (tg_ 5 sc_law.nd) (jb_one (js_dput (je_tup (jl_cons (je_call (P_law_content (c := c) T).fn (Nat.le_of_ble_eq_true rfl) rfl (jl_cons (v_ 1) (jl_cons (v_ 0) (jl_cons (ce_int) (jl_nil))))) (jl_cons (v_ 5) (jl_nil)))) (v_ 4) (je_call (P_law_name (c := c) T).fn (Nat.le_of_ble_eq_true rfl) rfl (jl_cons (v_ 1) (jl_cons (v_ 0) (jl_nil)))))))
    (jb_cons (set_ 6 sc_law.nd (je_mk (P_Store_init (c := c) T).mk_ (Nat.le_of_ble_eq_true rfl) rfl (jl_cons (v_ 4) (jl_cons (JF.je (jf_lst (jl_nil))) (jl_nil)))))
    (jb_cons (js_for (ji_range1 rfl T.b_range (jl_cons (je_call (P_law_draw (c := c) T).fn (Nat.le_of_ble_eq_true rfl) rfl (jl_cons (v_ 1) (jl_cons (v_ 0) (jl_cons (ce_int) (jl_nil))))) (jl_nil))) (tg_ 5 sc_law.nd) (jb_one (js_expr (je_meth T.cl_Store.cl (P_Store_attic_put (c := c) T).mt (Nat.le_of_ble_eq_true rfl) (v_ 6) (jl_cons (je_call (P_law_name (c := c) T).fn (Nat.le_of_ble_eq_true rfl) rfl (jl_cons (v_ 1) (jl_cons (v_ 0) (jl_nil)))) (jl_cons (je_tup (jl_cons (je_tup (jl_cons (ce_int) (jl_cons (ce_int) (jl_nil)))) (jl_nil))) (jl_cons (je_call (P_law_content (c := c) T).fn (Nat.le_of_ble_eq_true rfl) rfl (jl_cons (v_ 1) (jl_cons (v_ 0) (jl_cons (ce_int) (jl_nil))))) (jl_nil))))))))
    (jb_cons (js_expr (je_meth T.cl_Store.cl (P_Store_append_temp (c := c) T).mt (Nat.le_of_ble_eq_true rfl) (v_ 6) (jl_cons (je_fld (v_ 3) T.cl_Entry.cl T.na_Entry_name) (jl_cons (je_ix o_ix (JF.je (jf_lst (jl_cons (je_call (P_law_content (c := c) T).fn (Nat.le_of_ble_eq_true rfl) rfl (jl_cons (v_ 1) (jl_cons (v_ 0) (jl_cons (ce_int) (jl_nil))))) (jl_cons (je_cut (v_ 2) (jp_none) (jp_some (je_call (P_law_draw (c := c) T).fn (Nat.le_of_ble_eq_true rfl) rfl (jl_cons (v_ 1) (jl_cons (v_ 0) (jl_cons (ce_int) (jl_nil))))))) (jl_nil))))) (je_call (P_law_draw (c := c) T).fn (Nat.le_of_ble_eq_true rfl) rfl (jl_cons (v_ 1) (jl_cons (v_ 0) (jl_cons (ce_int) (jl_nil)))))) (jl_nil)))))
    (jb_cons (set_ 7 sc_law.nd (je_call (P_missing (c := c) T).fn (Nat.le_of_ble_eq_true rfl) rfl (jl_cons (v_ 6) (jl_cons (v_ 3) (jl_nil)))))
    (jb_cons (set_ 8 sc_law.nd (je_meth0 T.cl_Store.cl (P_Store_attic (c := c) T).mt (Nat.le_of_ble_eq_true rfl) (v_ 6)))
    (jb_cons (set_ 9 sc_law.nd (JE.lock (JF.je (je_dictP rfl T.b_dict (JF.je (jf_lc (own := [("_law_name_here", 16)]) (oc := []) sc_law.nd (ji_keysL (v_ 4)) (blkOk_by (by decide +kernel)) (tg_ 16 sc_law.nd) (jts_one (jt_cmp o_ne (v_ 16) (je_fld (v_ 3) T.cl_Entry.cl T.na_Entry_name))) (je_tup (jl_cons (v_ 16) (jl_cons (je_dget (v_ 4) (v_ 16)) (jl_nil))))))))))
    (jb_cons (set_ 10 sc_law.nd (JF.new (jf_lst (jl_nil))))
    (jb_cons (set_ 11 sc_law.nd (ce_int))
    (jb_cons (set_ 12 sc_law.nd (ce_str))
    (jb_cons (js_for (ji_range1 rfl T.b_range (jl_cons (ce_int) (jl_nil))) (tg_ 13 sc_law.nd) (jb_one (js_if (jt_cmp o_eq (v_ 12) (ce_str)) (jb_cons (set_ 6 sc_law.nd (je_call (P_from_durable (c := c) T).fn (Nat.le_of_ble_eq_true rfl) rfl (jl_cons (je_meth0 T.cl_Store.cl (P_Store_durable (c := c) T).mt (Nat.le_of_ble_eq_true rfl) (v_ 6)) (jl_nil))))
    (jb_cons (js_if (jt_cmp o_lt (v_ 13) (ce_int)) (jb_one (js_expr (je_meth T.cl_Store.cl (P_Store_set_budget (c := c) T).mt (Nat.le_of_ble_eq_true rfl) (v_ 6) (jl_cons (je_ix o_ix (JF.je (jf_lst (jl_cons (ce_non) (jl_cons (je_call (P_law_draw (c := c) T).fn (Nat.le_of_ble_eq_true rfl) rfl (jl_cons (v_ 1) (jl_cons (v_ 0) (jl_cons (ce_int) (jl_nil))))) (jl_nil))))) (je_call (P_law_draw (c := c) T).fn (Nat.le_of_ble_eq_true rfl) rfl (jl_cons (v_ 1) (jl_cons (v_ 0) (jl_cons (ce_int) (jl_nil)))))) (jl_nil))))) (jb_nil))
    (jb_cons (set_ 12 sc_law.nd (je_call (P_law_pulled (c := c) T).fn (Nat.le_of_ble_eq_true rfl) rfl (jl_cons (v_ 1) (jl_cons (v_ 0) (jl_cons (v_ 6) (jl_cons (v_ 3) (jl_cons (v_ 10) (jl_nil))))))))
    (jb_one (set_ 11 sc_law.nd (ce_op o_add (v_ 11) (je_t1 c_int rfl T.b_int (by decide +kernel) (ce_cmp o_eq (v_ 12) (ce_str))))))))) (jb_nil))))
    (jb_cons (js_if (jt_w (jw_or (jt_cmp o_ne (v_ 12) (ce_str)) (jw_or (jt_cmp o_ne (je_meth T.cl_Store.cl (P_Store_read (c := c) T).mt (Nat.le_of_ble_eq_true rfl) (v_ 6) (jl_cons (je_fld (v_ 3) T.cl_Entry.cl T.na_Entry_name) (jl_nil))) (je_tup (jl_cons (v_ 2) (jl_cons (ce_int) (jl_nil))))) (jw_or1 (jt_cmp o_isNot (je_meth T.cl_Store.cl (P_Store_temp (c := c) T).mt (Nat.le_of_ble_eq_true rfl) (v_ 6) (jl_cons (je_fld (v_ 3) T.cl_Entry.cl T.na_Entry_name) (jl_nil))) (ce_non)))))) (jb_one (js_ret (ce_bl))) (jb_nil))
    (jb_cons (js_if (jt_w (jw_or (jt_cmp o_neM (JF.je (je_dictP rfl T.b_dict (JF.je (jf_lc (own := [("_law_name_here", 16)]) (oc := []) sc_law.nd (ji_list (je_meth0 T.cl_Store.cl (P_Store_names (c := c) T).mt (Nat.le_of_ble_eq_true rfl) (v_ 6))) (blkOk_by (by decide +kernel)) (tg_ 16 sc_law.nd) (jts_one (jt_cmp o_ne (v_ 16) (je_fld (v_ 3) T.cl_Entry.cl T.na_Entry_name))) (je_tup (jl_cons (v_ 16) (jl_cons (je_meth T.cl_Store.cl (P_Store_read (c := c) T).mt (Nat.le_of_ble_eq_true rfl) (v_ 6) (jl_cons (v_ 16) (jl_nil))) (jl_nil)))))))) (v_ 9)) (jw_or1 (jt_cmp o_ne (je_meth0 T.cl_Store.cl (P_Store_attic (c := c) T).mt (Nat.le_of_ble_eq_true rfl) (v_ 6)) (v_ 8))))) (jb_one (js_ret (ce_bl))) (jb_nil))
    (jb_cons (set_ 14 sc_law.nd (JF.new (jf_lst (jl_nil))))
    (jb_cons (js_for (ji_list (v_ 10)) (tg_ 15 sc_law.nd) (jb_one (js_if (jt_cmp o_notIn (v_ 15) (v_ 14)) (jb_one (js_expr (je_mut mu_append PySem.F.slot_list_append PySem.F.type_list_append (v_ 14) (jl_cons (v_ 15) (jl_nil))))) (jb_nil))))
    (jb_one (js_ret (je_and (ce_cmp o_eq (v_ 14) (v_ 7)) (je_one (ce_cmp o_le (je_b1 c_len rfl T.b_len (by decide +kernel) (v_ 10)) (ce_op o_add (je_b1 c_len rfl T.b_len (by decide +kernel) (v_ 7)) (v_ 11)))))))))))))))))))))))))
end
theorem all_mk {l : PySem.W.OpenLaw} {w : World} {K : PySem.W.Frag} {h : Heap} {mg : Str → Option Value} {fa C_Pull C_Entry C_Store C_FolderkinError C_PowerCut C_InvalidBlock f0 f1 f2 f3 f4 f5 f6 f7 f8 f9 f10 f11 f12 f13 f14 f15 f16 f17 f18 f19 f20 f21 f22 f23 f24 f25 f26 f27 f28 f29 f30 f31 f32 f33 f34 f35 f36 f37 f38 gX cdaX ccX : Addr} (X : K.In h) (G : h.Ns mainGlobals mg) (hfa : mg "law" = some (.ref fa))
    {od0 an0 od1 an1 od2 an2 od3 an3 od4 an4 od5 an5 od6 an6 od7 an7 od8 an8 od9 an9 od10 an10 od11 an11 od12 an12 od13 an13 od14 an14 od15 an15 od16 an16 od17 an17 od18 an18 od19 an19 od20 an20 od21 an21 od22 an22 od23 an23 od24 an24 od25 an25 od26 an26 od27 an27 od28 an28 od29 an29 od30 an30 od31 an31 od32 an32 od33 an33 od34 an34 od35 an35 od36 an36 od37 an37 od38 an38 odX anX cddX cldX : Option Addr} {sl0 sl1 sl2 sl3 sl4 sl5 sl6 sl7 sl8 sl9 sl10 sl11 sl12 sl13 sl14 sl15 sl16 sl17 sl18 sl19 sl20 sl21 sl22 sl23 sl24 sl25 sl26 sl27 sl28 sl29 sl30 sl31 sl32 sl33 sl34 sl35 sl36 sl37 sl38 oslX ccsX cslX : Array (Option Value)} {oc0 kV0 dc0 pm0 cd0 ct0 oc1 kV1 dc1 pm1 cd1 ct1 oc2 kV2 dc2 pm2 cd2 ct2 oc3 kV3 dc3 pm3 cd3 ct3 oc4 kV4 dc4 pm4 cd4 ct4 oc5 kV5 dc5 pm5 cd5 ct5 oc6 kV6 dc6 pm6 cd6 ct6 oc7 kV7 dc7 pm7 cd7 ct7 oc8 kV8 dc8 pm8 cd8 ct8 oc9 kV9 dc9 pm9 cd9 ct9 oc10 kV10 dc10 pm10 cd10 ct10 oc11 kV11 dc11 pm11 cd11 ct11 oc12 kV12 dc12 pm12 cd12 ct12 oc13 kV13 dc13 pm13 cd13 ct13 oc14 kV14 dc14 pm14 cd14 ct14 oc15 kV15 dc15 pm15 cd15 ct15 oc16 kV16 dc16 pm16 cd16 ct16 oc17 kV17 dc17 pm17 cd17 ct17 oc18 kV18 dc18 pm18 cd18 ct18 oc19 kV19 dc19 pm19 cd19 ct19 oc20 kV20 dc20 pm20 cd20 ct20 oc21 kV21 dc21 pm21 cd21 ct21 oc22 kV22 dc22 pm22 cd22 ct22 oc23 kV23 dc23 pm23 cd23 ct23 oc24 kV24 dc24 pm24 cd24 ct24 oc25 kV25 dc25 pm25 cd25 ct25 oc26 kV26 dc26 pm26 cd26 ct26 oc27 kV27 dc27 pm27 cd27 ct27 oc28 kV28 dc28 pm28 cd28 ct28 oc29 kV29 dc29 pm29 cd29 ct29 oc30 kV30 dc30 pm30 cd30 ct30 oc31 kV31 dc31 pm31 cd31 ct31 oc32 kV32 dc32 pm32 cd32 ct32 oc33 kV33 dc33 pm33 cd33 ct33 oc34 kV34 dc34 pm34 cd34 ct34 oc35 kV35 dc35 pm35 cd35 ct35 oc36 kV36 dc36 pm36 cd36 ct36 oc37 kV37 dc37 pm37 cd37 ct37 oc38 kV38 dc38 pm38 cd38 ct38 ocX dcX pmX ctX kVX cclX clX : Value} {tfX t_BLOCK t_TEMP t_FILE t_ATTIC : Tok} {fileX : Str} {vsX : Array Value} {nm_FolderkinError q_FolderkinError : Str} {N_FolderkinError : Addr} {bs_FolderkinError bm_FolderkinError sub_FolderkinError : List Value} {sn_FolderkinError : List Str} {ab_FolderkinError : Bool} {col_FolderkinError : Option Bool} {dd_FolderkinError : Option Addr} {k0_FolderkinError k1_FolderkinError k2_FolderkinError k3_FolderkinError k5_FolderkinError : Option Value} {nm_PowerCut q_PowerCut : Str} {N_PowerCut : Addr} {bs_PowerCut bm_PowerCut sub_PowerCut : List Value} {sn_PowerCut : List Str} {ab_PowerCut : Bool} {col_PowerCut : Option Bool} {dd_PowerCut : Option Addr} {k0_PowerCut k1_PowerCut k2_PowerCut k3_PowerCut k5_PowerCut : Option Value} {nm_InvalidBlock q_InvalidBlock : Str} {N_InvalidBlock : Addr} {bs_InvalidBlock bm_InvalidBlock sub_InvalidBlock : List Value} {sn_InvalidBlock : List Str} {ab_InvalidBlock : Bool} {col_InvalidBlock : Option Bool} {dd_InvalidBlock : Option Addr} {k0_InvalidBlock k1_InvalidBlock k2_InvalidBlock k3_InvalidBlock k5_InvalidBlock : Option Value}
    (aC_Pull : PySem.W.nsIn K mainGlobals "Pull" = some (some (.ref C_Pull)))
    (aC_Entry : PySem.W.nsIn K mainGlobals "Entry" = some (some (.ref C_Entry)))
    (aC_Store : PySem.W.nsIn K mainGlobals "Store" = some (some (.ref C_Store)))
    (aC_FolderkinError : PySem.W.nsIn K mainGlobals "FolderkinError" = some (some (.ref C_FolderkinError)))
    (aC_PowerCut : PySem.W.nsIn K mainGlobals "PowerCut" = some (some (.ref C_PowerCut)))
    (aC_InvalidBlock : PySem.W.nsIn K mainGlobals "InvalidBlock" = some (some (.ref C_InvalidBlock)))
    (a0 : PySem.W.nsIn K mainGlobals "block_number" = some (some (.ref f0)))
    (l0 : K.lookup f0 = some ⟨oc0, od0, .func (PySem.W.fnOf "block_number" "block_number" (defArgs s_block_number) (defBody s_block_number) (defScope s_block_number) .none kV0 dc0 pm0 an0 cd0 ct0), sl0⟩)
    (c0 : PySem.W.codeIn K cd0 "block_number" = true)
    (k0 : PySem.W.keepIn K (.ref f0) = true)
    (a1 : PySem.W.nsIn K mainGlobals "block_size" = some (some (.ref f1)))
    (l1 : K.lookup f1 = some ⟨oc1, od1, .func (PySem.W.fnOf "block_size" "block_size" (defArgs s_block_size) (defBody s_block_size) (defScope s_block_size) .none kV1 dc1 pm1 an1 cd1 ct1), sl1⟩)
    (c1 : PySem.W.codeIn K cd1 "block_size" = true)
    (k1 : PySem.W.keepIn K (.ref f1) = true)
    (a2 : PySem.W.nsIn K mainGlobals "is_block" = some (some (.ref f2)))
    (l2 : K.lookup f2 = some ⟨oc2, od2, .func (PySem.W.fnOf "is_block" "is_block" (defArgs s_is_block) (defBody s_is_block) (defScope s_is_block) .none kV2 dc2 pm2 an2 cd2 ct2), sl2⟩)
    (c2 : PySem.W.codeIn K cd2 "is_block" = true)
    (k2 : PySem.W.keepIn K (.ref f2) = true)
    (a3 : PySem.W.nsIn K mainGlobals "block_bytes" = some (some (.ref f3)))
    (l3 : K.lookup f3 = some ⟨oc3, od3, .func (PySem.W.fnOf "block_bytes" "block_bytes" (defArgs s_block_bytes) (defBody s_block_bytes) (defScope s_block_bytes) .none kV3 dc3 pm3 an3 cd3 ct3), sl3⟩)
    (c3 : PySem.W.codeIn K cd3 "block_bytes" = true)
    (k3 : PySem.W.keepIn K (.ref f3) = true)
    (a4 : PySem.W.nsIn K mainGlobals "split" = some (some (.ref f4)))
    (l4 : K.lookup f4 = some ⟨oc4, od4, .func (PySem.W.fnOf "split" "split" (defArgs s_split) (defBody s_split) (defScope s_split) .none kV4 dc4 pm4 an4 cd4 ct4), sl4⟩)
    (c4 : PySem.W.codeIn K cd4 "split" = true)
    (k4 : PySem.W.keepIn K (.ref f4) = true)
    (a5 : PySem.W.nsIn K mainGlobals "kept_blocks" = some (some (.ref f5)))
    (l5 : K.lookup f5 = some ⟨oc5, od5, .func (PySem.W.fnOf "kept_blocks" "kept_blocks" (defArgs s_kept_blocks) (defBody s_kept_blocks) (defScope s_kept_blocks) .none kV5 dc5 pm5 an5 cd5 ct5), sl5⟩)
    (c5 : PySem.W.codeIn K cd5 "kept_blocks" = true)
    (k5 : PySem.W.keepIn K (.ref f5) = true)
    (a6 : PySem.W.nsIn K mainGlobals "near_places" = some (some (.ref f6)))
    (l6 : K.lookup f6 = some ⟨oc6, od6, .func (PySem.W.fnOf "near_places" "near_places" (defArgs s_near_places) (defBody s_near_places) (defScope s_near_places) .none kV6 dc6 pm6 an6 cd6 ct6), sl6⟩)
    (c6 : PySem.W.codeIn K cd6 "near_places" = true)
    (k6 : PySem.W.keepIn K (.ref f6) = true)
    (a7 : PySem.W.nsIn K mainGlobals "missing" = some (some (.ref f7)))
    (l7 : K.lookup f7 = some ⟨oc7, od7, .func (PySem.W.fnOf "missing" "missing" (defArgs s_missing) (defBody s_missing) (defScope s_missing) .none kV7 dc7 pm7 an7 cd7 ct7), sl7⟩)
    (c7 : PySem.W.codeIn K cd7 "missing" = true)
    (k7 : PySem.W.keepIn K (.ref f7) = true)
    (a8 : PySem.W.nsIn K mainGlobals "length_of" = some (some (.ref f8)))
    (l8 : K.lookup f8 = some ⟨oc8, od8, .func (PySem.W.fnOf "length_of" "length_of" (defArgs s_length_of) (defBody s_length_of) (defScope s_length_of) .none kV8 dc8 pm8 an8 cd8 ct8), sl8⟩)
    (c8 : PySem.W.codeIn K cd8 "length_of" = true)
    (k8 : PySem.W.keepIn K (.ref f8) = true)
    (a9 : PySem.W.findIn K (.ref C_Pull) "__init__" = some (some (.ref f9)))
    (i9 : PySem.W.isFn K (.ref f9) = true)
    (l9 : K.lookup f9 = some ⟨oc9, od9, .func (PySem.W.fnOf "__init__" "Pull.__init__" (defArgs s_Pull_init) (defBody s_Pull_init) (defScope s_Pull_init) .none kV9 dc9 pm9 an9 cd9 ct9), sl9⟩)
    (c9 : PySem.W.codeIn K cd9 "Pull.__init__" = true)
    (k9 : PySem.W.keepIn K (.ref f9) = true)
    (a10 : PySem.W.findIn K (.ref C_Pull) "count" = some (some (.ref f10)))
    (i10 : PySem.W.isFn K (.ref f10) = true)
    (l10 : K.lookup f10 = some ⟨oc10, od10, .func (PySem.W.fnOf "count" "Pull.count" (defArgs s_Pull_count) (defBody s_Pull_count) (defScope s_Pull_count) .none kV10 dc10 pm10 an10 cd10 ct10), sl10⟩)
    (c10 : PySem.W.codeIn K cd10 "Pull.count" = true)
    (k10 : PySem.W.keepIn K (.ref f10) = true)
    (a11 : PySem.W.findIn K (.ref C_Pull) "is_whole" = some (some (.ref f11)))
    (i11 : PySem.W.isFn K (.ref f11) = true)
    (l11 : K.lookup f11 = some ⟨oc11, od11, .func (PySem.W.fnOf "is_whole" "Pull.is_whole" (defArgs s_Pull_is_whole) (defBody s_Pull_is_whole) (defScope s_Pull_is_whole) .none kV11 dc11 pm11 an11 cd11 ct11), sl11⟩)
    (c11 : PySem.W.codeIn K cd11 "Pull.is_whole" = true)
    (k11 : PySem.W.keepIn K (.ref f11) = true)
    (a12 : PySem.W.findIn K (.ref C_Pull) "append" = some (some (.ref f12)))
    (i12 : PySem.W.isFn K (.ref f12) = true)
    (l12 : K.lookup f12 = some ⟨oc12, od12, .func (PySem.W.fnOf "append" "Pull.append" (defArgs s_Pull_append) (defBody s_Pull_append) (defScope s_Pull_append) .none kV12 dc12 pm12 an12 cd12 ct12), sl12⟩)
    (c12 : PySem.W.codeIn K cd12 "Pull.append" = true)
    (k12 : PySem.W.keepIn K (.ref f12) = true)
    (a13 : PySem.W.findIn K (.ref C_Pull) "advance" = some (some (.ref f13)))
    (i13 : PySem.W.isFn K (.ref f13) = true)
    (l13 : K.lookup f13 = some ⟨oc13, od13, .func (PySem.W.fnOf "advance" "Pull.advance" (defArgs s_Pull_advance) (defBody s_Pull_advance) (defScope s_Pull_advance) .none kV13 dc13 pm13 an13 cd13 ct13), sl13⟩)
    (c13 : PySem.W.codeIn K cd13 "Pull.advance" = true)
    (k13 : PySem.W.keepIn K (.ref f13) = true)
    (a14 : PySem.W.findIn K (.ref C_Pull) "give" = some (some (.ref f14)))
    (i14 : PySem.W.isFn K (.ref f14) = true)
    (l14 : K.lookup f14 = some ⟨oc14, od14, .func (PySem.W.fnOf "give" "Pull.give" (defArgs s_Pull_give) (defBody s_Pull_give) (defScope s_Pull_give) .none kV14 dc14 pm14 an14 cd14 ct14), sl14⟩)
    (c14 : PySem.W.codeIn K cd14 "Pull.give" = true)
    (k14 : PySem.W.keepIn K (.ref f14) = true)
    (a15 : PySem.W.findIn K (.ref C_Pull) "place" = some (some (.ref f15)))
    (i15 : PySem.W.isFn K (.ref f15) = true)
    (l15 : K.lookup f15 = some ⟨oc15, od15, .func (PySem.W.fnOf "place" "Pull.place" (defArgs s_Pull_place) (defBody s_Pull_place) (defScope s_Pull_place) .none kV15 dc15 pm15 an15 cd15 ct15), sl15⟩)
    (c15 : PySem.W.codeIn K cd15 "Pull.place" = true)
    (k15 : PySem.W.keepIn K (.ref f15) = true)
    (a16 : PySem.W.findIn K (.ref C_Entry) "__init__" = some (some (.ref f16)))
    (i16 : PySem.W.isFn K (.ref f16) = true)
    (l16 : K.lookup f16 = some ⟨oc16, od16, .func (PySem.W.fnOf "__init__" "Entry.__init__" (defArgs s_Entry_init) (defBody s_Entry_init) (defScope s_Entry_init) .none kV16 dc16 pm16 an16 cd16 ct16), sl16⟩)
    (c16 : PySem.W.codeIn K cd16 "Entry.__init__" = true)
    (k16 : PySem.W.keepIn K (.ref f16) = true)
    (a17 : PySem.W.findIn K (.ref C_Store) "__init__" = some (some (.ref f17)))
    (i17 : PySem.W.isFn K (.ref f17) = true)
    (l17 : K.lookup f17 = some ⟨oc17, od17, .func (PySem.W.fnOf "__init__" "Store.__init__" (defArgs s_Store_init) (defBody s_Store_init) (defScope s_Store_init) .none kV17 dc17 pm17 an17 cd17 ct17), sl17⟩)
    (c17 : PySem.W.codeIn K cd17 "Store.__init__" = true)
    (k17 : PySem.W.keepIn K (.ref f17) = true)
    (a18 : PySem.W.findIn K (.ref C_Store) "set_budget" = some (some (.ref f18)))
    (i18 : PySem.W.isFn K (.ref f18) = true)
    (l18 : K.lookup f18 = some ⟨oc18, od18, .func (PySem.W.fnOf "set_budget" "Store.set_budget" (defArgs s_Store_set_budget) (defBody s_Store_set_budget) (defScope s_Store_set_budget) .none kV18 dc18 pm18 an18 cd18 ct18), sl18⟩)
    (c18 : PySem.W.codeIn K cd18 "Store.set_budget" = true)
    (k18 : PySem.W.keepIn K (.ref f18) = true)
    (a19 : PySem.W.findIn K (.ref C_Store) "write_now" = some (some (.ref f19)))
    (i19 : PySem.W.isFn K (.ref f19) = true)
    (l19 : K.lookup f19 = some ⟨oc19, od19, .func (PySem.W.fnOf "write_now" "Store.write_now" (defArgs s_Store_write_now) (defBody s_Store_write_now) (defScope s_Store_write_now) .none kV19 dc19 pm19 an19 cd19 ct19), sl19⟩)
    (c19 : PySem.W.codeIn K cd19 "Store.write_now" = true)
    (k19 : PySem.W.keepIn K (.ref f19) = true)
    (a20 : PySem.W.findIn K (.ref C_Store) "names" = some (some (.ref f20)))
    (i20 : PySem.W.isFn K (.ref f20) = true)
    (l20 : K.lookup f20 = some ⟨oc20, od20, .func (PySem.W.fnOf "names" "Store.names" (defArgs s_Store_names) (defBody s_Store_names) (defScope s_Store_names) .none kV20 dc20 pm20 an20 cd20 ct20), sl20⟩)
    (c20 : PySem.W.codeIn K cd20 "Store.names" = true)
    (k20 : PySem.W.keepIn K (.ref f20) = true)
    (a21 : PySem.W.findIn K (.ref C_Store) "read" = some (some (.ref f21)))
    (i21 : PySem.W.isFn K (.ref f21) = true)
    (l21 : K.lookup f21 = some ⟨oc21, od21, .func (PySem.W.fnOf "read" "Store.read" (defArgs s_Store_read) (defBody s_Store_read) (defScope s_Store_read) .none kV21 dc21 pm21 an21 cd21 ct21), sl21⟩)
    (c21 : PySem.W.codeIn K cd21 "Store.read" = true)
    (k21 : PySem.W.keepIn K (.ref f21) = true)
    (a22 : PySem.W.findIn K (.ref C_Store) "temp_names" = some (some (.ref f22)))
    (i22 : PySem.W.isFn K (.ref f22) = true)
    (l22 : K.lookup f22 = some ⟨oc22, od22, .func (PySem.W.fnOf "temp_names" "Store.temp_names" (defArgs s_Store_temp_names) (defBody s_Store_temp_names) (defScope s_Store_temp_names) .none kV22 dc22 pm22 an22 cd22 ct22), sl22⟩)
    (c22 : PySem.W.codeIn K cd22 "Store.temp_names" = true)
    (k22 : PySem.W.keepIn K (.ref f22) = true)
    (a23 : PySem.W.findIn K (.ref C_Store) "temp" = some (some (.ref f23)))
    (i23 : PySem.W.isFn K (.ref f23) = true)
    (l23 : K.lookup f23 = some ⟨oc23, od23, .func (PySem.W.fnOf "temp" "Store.temp" (defArgs s_Store_temp) (defBody s_Store_temp) (defScope s_Store_temp) .none kV23 dc23 pm23 an23 cd23 ct23), sl23⟩)
    (c23 : PySem.W.codeIn K cd23 "Store.temp" = true)
    (k23 : PySem.W.keepIn K (.ref f23) = true)
    (a24 : PySem.W.findIn K (.ref C_Store) "append_temp" = some (some (.ref f24)))
    (i24 : PySem.W.isFn K (.ref f24) = true)
    (l24 : K.lookup f24 = some ⟨oc24, od24, .func (PySem.W.fnOf "append_temp" "Store.append_temp" (defArgs s_Store_append_temp) (defBody s_Store_append_temp) (defScope s_Store_append_temp) .none kV24 dc24 pm24 an24 cd24 ct24), sl24⟩)
    (c24 : PySem.W.codeIn K cd24 "Store.append_temp" = true)
    (k24 : PySem.W.keepIn K (.ref f24) = true)
    (a25 : PySem.W.findIn K (.ref C_Store) "cut_temp" = some (some (.ref f25)))
    (i25 : PySem.W.isFn K (.ref f25) = true)
    (l25 : K.lookup f25 = some ⟨oc25, od25, .func (PySem.W.fnOf "cut_temp" "Store.cut_temp" (defArgs s_Store_cut_temp) (defBody s_Store_cut_temp) (defScope s_Store_cut_temp) .none kV25 dc25 pm25 an25 cd25 ct25), sl25⟩)
    (c25 : PySem.W.codeIn K cd25 "Store.cut_temp" = true)
    (k25 : PySem.W.keepIn K (.ref f25) = true)
    (a26 : PySem.W.findIn K (.ref C_Store) "place" = some (some (.ref f26)))
    (i26 : PySem.W.isFn K (.ref f26) = true)
    (l26 : K.lookup f26 = some ⟨oc26, od26, .func (PySem.W.fnOf "place" "Store.place" (defArgs s_Store_place) (defBody s_Store_place) (defScope s_Store_place) .none kV26 dc26 pm26 an26 cd26 ct26), sl26⟩)
    (c26 : PySem.W.codeIn K cd26 "Store.place" = true)
    (k26 : PySem.W.keepIn K (.ref f26) = true)
    (a27 : PySem.W.findIn K (.ref C_Store) "attic" = some (some (.ref f27)))
    (i27 : PySem.W.isFn K (.ref f27) = true)
    (l27 : K.lookup f27 = some ⟨oc27, od27, .func (PySem.W.fnOf "attic" "Store.attic" (defArgs s_Store_attic) (defBody s_Store_attic) (defScope s_Store_attic) .none kV27 dc27 pm27 an27 cd27 ct27), sl27⟩)
    (c27 : PySem.W.codeIn K cd27 "Store.attic" = true)
    (k27 : PySem.W.keepIn K (.ref f27) = true)
    (a28 : PySem.W.findIn K (.ref C_Store) "attic_put" = some (some (.ref f28)))
    (i28 : PySem.W.isFn K (.ref f28) = true)
    (l28 : K.lookup f28 = some ⟨oc28, od28, .func (PySem.W.fnOf "attic_put" "Store.attic_put" (defArgs s_Store_attic_put) (defBody s_Store_attic_put) (defScope s_Store_attic_put) .none kV28 dc28 pm28 an28 cd28 ct28), sl28⟩)
    (c28 : PySem.W.codeIn K cd28 "Store.attic_put" = true)
    (k28 : PySem.W.keepIn K (.ref f28) = true)
    (a29 : PySem.W.findIn K (.ref C_Store) "durable" = some (some (.ref f29)))
    (i29 : PySem.W.isFn K (.ref f29) = true)
    (l29 : K.lookup f29 = some ⟨oc29, od29, .func (PySem.W.fnOf "durable" "Store.durable" (defArgs s_Store_durable) (defBody s_Store_durable) (defScope s_Store_durable) .none kV29 dc29 pm29 an29 cd29 ct29), sl29⟩)
    (c29 : PySem.W.codeIn K cd29 "Store.durable" = true)
    (k29 : PySem.W.keepIn K (.ref f29) = true)
    (a30 : PySem.W.nsIn K mainGlobals "from_durable" = some (some (.ref f30)))
    (l30 : K.lookup f30 = some ⟨oc30, od30, .func (PySem.W.fnOf "from_durable" "from_durable" (defArgs s_from_durable) (defBody s_from_durable) (defScope s_from_durable) .none kV30 dc30 pm30 an30 cd30 ct30), sl30⟩)
    (c30 : PySem.W.codeIn K cd30 "from_durable" = true)
    (k30 : PySem.W.keepIn K (.ref f30) = true)
    (a31 : PySem.W.nsIn K mainGlobals "_law_draw" = some (some (.ref f31)))
    (l31 : K.lookup f31 = some ⟨oc31, od31, .func (PySem.W.fnOf "_law_draw" "_law_draw" (defArgs s_law_draw) (defBody s_law_draw) (defScope s_law_draw) .none kV31 dc31 pm31 an31 cd31 ct31), sl31⟩)
    (c31 : PySem.W.codeIn K cd31 "_law_draw" = true)
    (k31 : PySem.W.keepIn K (.ref f31) = true)
    (a32 : PySem.W.nsIn K mainGlobals "_law_name" = some (some (.ref f32)))
    (l32 : K.lookup f32 = some ⟨oc32, od32, .func (PySem.W.fnOf "_law_name" "_law_name" (defArgs s_law_name) (defBody s_law_name) (defScope s_law_name) .none kV32 dc32 pm32 an32 cd32 ct32), sl32⟩)
    (c32 : PySem.W.codeIn K cd32 "_law_name" = true)
    (k32 : PySem.W.keepIn K (.ref f32) = true)
    (a33 : PySem.W.nsIn K mainGlobals "_law_content" = some (some (.ref f33)))
    (l33 : K.lookup f33 = some ⟨oc33, od33, .func (PySem.W.fnOf "_law_content" "_law_content" (defArgs s_law_content) (defBody s_law_content) (defScope s_law_content) .none kV33 dc33 pm33 an33 cd33 ct33), sl33⟩)
    (c33 : PySem.W.codeIn K cd33 "_law_content" = true)
    (k33 : PySem.W.keepIn K (.ref f33) = true)
    (a34 : PySem.W.nsIn K mainGlobals "_law_blocks" = some (some (.ref f34)))
    (l34 : K.lookup f34 = some ⟨oc34, od34, .func (PySem.W.fnOf "_law_blocks" "_law_blocks" (defArgs s_law_blocks) (defBody s_law_blocks) (defScope s_law_blocks) .none kV34 dc34 pm34 an34 cd34 ct34), sl34⟩)
    (c34 : PySem.W.codeIn K cd34 "_law_blocks" = true)
    (k34 : PySem.W.keepIn K (.ref f34) = true)
    (a35 : PySem.W.nsIn K mainGlobals "_law_bytes" = some (some (.ref f35)))
    (l35 : K.lookup f35 = some ⟨oc35, od35, .func (PySem.W.fnOf "_law_bytes" "_law_bytes" (defArgs s_law_bytes) (defBody s_law_bytes) (defScope s_law_bytes) .none kV35 dc35 pm35 an35 cd35 ct35), sl35⟩)
    (c35 : PySem.W.codeIn K cd35 "_law_bytes" = true)
    (k35 : PySem.W.keepIn K (.ref f35) = true)
    (a36 : PySem.W.nsIn K mainGlobals "_law_refused" = some (some (.ref f36)))
    (l36 : K.lookup f36 = some ⟨oc36, od36, .func (PySem.W.fnOf "_law_refused" "_law_refused" (defArgs s_law_refused) (defBody s_law_refused) (defScope s_law_refused) .none kV36 dc36 pm36 an36 cd36 ct36), sl36⟩)
    (c36 : PySem.W.codeIn K cd36 "_law_refused" = true)
    (k36 : PySem.W.keepIn K (.ref f36) = true)
    (a37 : PySem.W.nsIn K mainGlobals "_law_pulled" = some (some (.ref f37)))
    (l37 : K.lookup f37 = some ⟨oc37, od37, .func (PySem.W.fnOf "_law_pulled" "_law_pulled" (defArgs s_law_pulled) (defBody s_law_pulled) (defScope s_law_pulled) .none kV37 dc37 pm37 an37 cd37 ct37), sl37⟩)
    (c37 : PySem.W.codeIn K cd37 "_law_pulled" = true)
    (k37 : PySem.W.keepIn K (.ref f37) = true)
    (a38 : PySem.W.nsIn K mainGlobals "law" = some (some (.ref f38)))
    (l38 : K.lookup f38 = some ⟨oc38, od38, .func (PySem.W.fnOf "law" "law" (defArgs s_law) (defBody s_law) (defScope s_law) .none kV38 dc38 pm38 an38 cd38 ct38), sl38⟩)
    (c38 : PySem.W.codeIn K cd38 "law" = true)
    (k38 : PySem.W.keepIn K (.ref f38) = true)
    (pg_Pull : PySem.W.plainGet K C_Pull Str.empty = true)
    (hd_Pull : PySem.W.hasDictIn K C_Pull = true)
    (po_Pull : PySem.W.plainOver K C_Pull = true)
    (sa_Pull : PySem.W.findIn K (.ref C_Pull) "__setattr__" = some (some (.builtin "object.__setattr__")))
    (mk_Pull : PySem.W.makesIn K C_Pull = true)
    (kc_Pull : PySem.W.keepIn K (.ref C_Pull) = true)
    (cha_Pull : PySem.W.findIn K (.ref C_Pull) "__class__" = some (some (.builtin "object.__class__")))
    (chn_Pull : PySem.W.specialIn K (.builtin "object.__class__") "__get__" = some (some (.builtin "getset_descriptor.__get__")))
    (cht_Pull : PySem.W.takesIn K (.builtin "object.__class__") = some true)
    (chm_Pull : PySem.W.mroIn K C_Pull (.type "object") = some true)
    (cic_Pull : PySem.W.isClsIn K C_Pull = true)
    (cty_Pull : PySem.W.typeIn K (.ref C_Pull) = some (.type "type"))
    (nNoneType_Pull : PySem.W.notFirst K C_Pull (.type "NoneType") = true)
    (nbool_Pull : PySem.W.notFirst K C_Pull (.type "bool") = true)
    (nint_Pull : PySem.W.notFirst K C_Pull (.type "int") = true)
    (nstr_Pull : PySem.W.notFirst K C_Pull (.type "str") = true)
    (nlist_Pull : PySem.W.notFirst K C_Pull (.type "list") = true)
    (ntuple_Pull : PySem.W.notFirst K C_Pull (.type "tuple") = true)
    (na_store_Pull : PySem.W.findIn K (.ref C_Pull) "store" = some none)
    (na_entry_Pull : PySem.W.findIn K (.ref C_Pull) "entry" = some none)
    (pg_Entry : PySem.W.plainGet K C_Entry Str.empty = true)
    (hd_Entry : PySem.W.hasDictIn K C_Entry = true)
    (po_Entry : PySem.W.plainOver K C_Entry = true)
    (sa_Entry : PySem.W.findIn K (.ref C_Entry) "__setattr__" = some (some (.builtin "object.__setattr__")))
    (mk_Entry : PySem.W.makesIn K C_Entry = true)
    (kc_Entry : PySem.W.keepIn K (.ref C_Entry) = true)
    (cha_Entry : PySem.W.findIn K (.ref C_Entry) "__class__" = some (some (.builtin "object.__class__")))
    (chn_Entry : PySem.W.specialIn K (.builtin "object.__class__") "__get__" = some (some (.builtin "getset_descriptor.__get__")))
    (cht_Entry : PySem.W.takesIn K (.builtin "object.__class__") = some true)
    (chm_Entry : PySem.W.mroIn K C_Entry (.type "object") = some true)
    (cic_Entry : PySem.W.isClsIn K C_Entry = true)
    (cty_Entry : PySem.W.typeIn K (.ref C_Entry) = some (.type "type"))
    (nNoneType_Entry : PySem.W.notFirst K C_Entry (.type "NoneType") = true)
    (nbool_Entry : PySem.W.notFirst K C_Entry (.type "bool") = true)
    (nint_Entry : PySem.W.notFirst K C_Entry (.type "int") = true)
    (nstr_Entry : PySem.W.notFirst K C_Entry (.type "str") = true)
    (nlist_Entry : PySem.W.notFirst K C_Entry (.type "list") = true)
    (ntuple_Entry : PySem.W.notFirst K C_Entry (.type "tuple") = true)
    (na_name_Entry : PySem.W.findIn K (.ref C_Entry) "name" = some none)
    (na_vector_Entry : PySem.W.findIn K (.ref C_Entry) "vector" = some none)
    (na_height_Entry : PySem.W.findIn K (.ref C_Entry) "height" = some none)
    (na_maker_Entry : PySem.W.findIn K (.ref C_Entry) "maker" = some none)
    (na_deleted_Entry : PySem.W.findIn K (.ref C_Entry) "deleted" = some none)
    (na_time_Entry : PySem.W.findIn K (.ref C_Entry) "time" = some none)
    (na_blocks_Entry : PySem.W.findIn K (.ref C_Entry) "blocks" = some none)
    (pg_Store : PySem.W.plainGet K C_Store Str.empty = true)
    (hd_Store : PySem.W.hasDictIn K C_Store = true)
    (po_Store : PySem.W.plainOver K C_Store = true)
    (sa_Store : PySem.W.findIn K (.ref C_Store) "__setattr__" = some (some (.builtin "object.__setattr__")))
    (mk_Store : PySem.W.makesIn K C_Store = true)
    (kc_Store : PySem.W.keepIn K (.ref C_Store) = true)
    (cha_Store : PySem.W.findIn K (.ref C_Store) "__class__" = some (some (.builtin "object.__class__")))
    (chn_Store : PySem.W.specialIn K (.builtin "object.__class__") "__get__" = some (some (.builtin "getset_descriptor.__get__")))
    (cht_Store : PySem.W.takesIn K (.builtin "object.__class__") = some true)
    (chm_Store : PySem.W.mroIn K C_Store (.type "object") = some true)
    (cic_Store : PySem.W.isClsIn K C_Store = true)
    (cty_Store : PySem.W.typeIn K (.ref C_Store) = some (.type "type"))
    (nNoneType_Store : PySem.W.notFirst K C_Store (.type "NoneType") = true)
    (nbool_Store : PySem.W.notFirst K C_Store (.type "bool") = true)
    (nint_Store : PySem.W.notFirst K C_Store (.type "int") = true)
    (nstr_Store : PySem.W.notFirst K C_Store (.type "str") = true)
    (nlist_Store : PySem.W.notFirst K C_Store (.type "list") = true)
    (ntuple_Store : PySem.W.notFirst K C_Store (.type "tuple") = true)
    (na_files_Store : PySem.W.findIn K (.ref C_Store) "files" = some none)
    (na_temps_Store : PySem.W.findIn K (.ref C_Store) "temps" = some none)
    (na_old_Store : PySem.W.findIn K (.ref C_Store) "old" = some none)
    (na_records_Store : PySem.W.findIn K (.ref C_Store) "records" = some none)
    (na_fresh_Store : PySem.W.findIn K (.ref C_Store) "fresh" = some none)
    (na_writes_Store : PySem.W.findIn K (.ref C_Store) "writes" = some none)
    (na_most_Store : PySem.W.findIn K (.ref C_Store) "most" = some none)
    (lX : K.lookup gX = some ⟨ocX, odX, .func (PySem.W.ksFn "__init__" "FolderkinError.__init__" (defArgs s_X) (defBody s_X) (defScope s_X) .none kVX dcX pmX anX (.ref cdaX) ctX ccX), oslX⟩)
    (cX : PySem.W.codeIn K (.ref cdaX) "FolderkinError.__init__" = true)
    (oX : K.lookup cdaX = some ⟨cclX, cddX, .fields vsX, ccsX⟩)
    (vX : vsX[2]? = some (.str fileX tfX))
    (fX : ((l.prog.main.file : Str) == fileX) = true)
    (ceX : K.lookup ccX = some ⟨clX, cldX, .cell (some (.ref C_FolderkinError)), cslX⟩)
    (dX : PySem.W.isClsIn K C_FolderkinError = true)
    (kX : PySem.W.keepIn K (.ref gX) = true)
    (tX : PySem.W.typeIn K (.ref gX) = some (.type "function"))
    (tpX : PySem.W.nsIn K cStatics "thirdparty.any" = some none)
    (topX : (l.prog.main.scope.names.lookup ("super" : Str)).isSome = false)
    (suX : PySem.W.nsIn K mainGlobals "super" = some none)
    (e0_FolderkinError : K.lookup C_FolderkinError = some (PySem.excClassObj nm_FolderkinError q_FolderkinError C_FolderkinError N_FolderkinError bs_FolderkinError bm_FolderkinError true sn_FolderkinError sub_FolderkinError ab_FolderkinError col_FolderkinError dd_FolderkinError k0_FolderkinError k1_FolderkinError k2_FolderkinError k3_FolderkinError k5_FolderkinError "ValueError.__new__"))
    (ez_FolderkinError : PySem.HandSPX.refsVE bm_FolderkinError = true)
    (e1_FolderkinError : PySem.W.findIn K (.ref C_FolderkinError) "__setattr__" = some (some (.builtin "object.__setattr__")))
    (e2_FolderkinError : PySem.W.subIn K (.ref C_FolderkinError) (.type "BaseException") = some true)
    (e3_FolderkinError : PySem.W.typeIn K (.ref C_FolderkinError) = some (.type "type"))
    (e4_FolderkinError : PySem.W.keepIn K (.ref C_FolderkinError) = true)
    (e5_FolderkinError : PySem.W.isClsIn K C_FolderkinError = true)
    (e6_FolderkinError : PySem.W.mroIn K C_FolderkinError (.ref C_FolderkinError) = some true)
    (e7_FolderkinError : PySem.W.ks_superIn K C_FolderkinError C_FolderkinError "__init__" = some (some (.builtin "ValueError.__init__")))
    (e8_FolderkinError : PySem.W.subIn K (.ref C_FolderkinError) (.type "ValueError") = some true)
    (e9_FolderkinError : PySem.W.findIn K (.ref C_FolderkinError) "place" = some none)
    (ea_FolderkinError : PySem.W.findIn K (.ref C_FolderkinError) "__init__" = some (some (.ref gX)))
    (eb_FolderkinError : PySem.W.hasDictIn K C_FolderkinError = true)
    (ec_FolderkinError : PySem.W.findIn K (.ref C_FolderkinError) "__getattribute__" = some (some (.builtin "BaseException.__getattribute__")))
    (ed_FolderkinError : PySem.W.findIn K (.ref C_FolderkinError) "__getattr__" = some none)
    (ee_FolderkinError : PySem.W.findIn K (.ref C_FolderkinError) "__class__" = some (some (.builtin "object.__class__")))
    (ef_FolderkinError : PySem.W.specialIn K (.builtin "object.__class__") "__get__" = some (some (.builtin "getset_descriptor.__get__")))
    (eg_FolderkinError : PySem.W.takesIn K (.builtin "object.__class__") = some true)
    (eh_FolderkinError : PySem.W.mroIn K C_FolderkinError (.type "object") = some true)
    (e0_PowerCut : K.lookup C_PowerCut = some (PySem.excClassObj nm_PowerCut q_PowerCut C_PowerCut N_PowerCut bs_PowerCut bm_PowerCut true sn_PowerCut sub_PowerCut ab_PowerCut col_PowerCut dd_PowerCut k0_PowerCut k1_PowerCut k2_PowerCut k3_PowerCut k5_PowerCut "ValueError.__new__"))
    (ez_PowerCut : PySem.HandSPX.refsVE bm_PowerCut = true)
    (e1_PowerCut : PySem.W.findIn K (.ref C_PowerCut) "__setattr__" = some (some (.builtin "object.__setattr__")))
    (e2_PowerCut : PySem.W.subIn K (.ref C_PowerCut) (.type "BaseException") = some true)
    (e3_PowerCut : PySem.W.typeIn K (.ref C_PowerCut) = some (.type "type"))
    (e4_PowerCut : PySem.W.keepIn K (.ref C_PowerCut) = true)
    (e5_PowerCut : PySem.W.isClsIn K C_PowerCut = true)
    (e6_PowerCut : PySem.W.mroIn K C_PowerCut (.ref C_FolderkinError) = some true)
    (e7_PowerCut : PySem.W.ks_superIn K C_PowerCut C_FolderkinError "__init__" = some (some (.builtin "ValueError.__init__")))
    (e8_PowerCut : PySem.W.subIn K (.ref C_PowerCut) (.type "ValueError") = some true)
    (e9_PowerCut : PySem.W.findIn K (.ref C_PowerCut) "place" = some none)
    (ea_PowerCut : PySem.W.findIn K (.ref C_PowerCut) "__init__" = some (some (.ref gX)))
    (eb_PowerCut : PySem.W.hasDictIn K C_PowerCut = true)
    (ec_PowerCut : PySem.W.findIn K (.ref C_PowerCut) "__getattribute__" = some (some (.builtin "BaseException.__getattribute__")))
    (ed_PowerCut : PySem.W.findIn K (.ref C_PowerCut) "__getattr__" = some none)
    (ee_PowerCut : PySem.W.findIn K (.ref C_PowerCut) "__class__" = some (some (.builtin "object.__class__")))
    (ef_PowerCut : PySem.W.specialIn K (.builtin "object.__class__") "__get__" = some (some (.builtin "getset_descriptor.__get__")))
    (eg_PowerCut : PySem.W.takesIn K (.builtin "object.__class__") = some true)
    (eh_PowerCut : PySem.W.mroIn K C_PowerCut (.type "object") = some true)
    (e0_InvalidBlock : K.lookup C_InvalidBlock = some (PySem.excClassObj nm_InvalidBlock q_InvalidBlock C_InvalidBlock N_InvalidBlock bs_InvalidBlock bm_InvalidBlock true sn_InvalidBlock sub_InvalidBlock ab_InvalidBlock col_InvalidBlock dd_InvalidBlock k0_InvalidBlock k1_InvalidBlock k2_InvalidBlock k3_InvalidBlock k5_InvalidBlock "ValueError.__new__"))
    (ez_InvalidBlock : PySem.HandSPX.refsVE bm_InvalidBlock = true)
    (e1_InvalidBlock : PySem.W.findIn K (.ref C_InvalidBlock) "__setattr__" = some (some (.builtin "object.__setattr__")))
    (e2_InvalidBlock : PySem.W.subIn K (.ref C_InvalidBlock) (.type "BaseException") = some true)
    (e3_InvalidBlock : PySem.W.typeIn K (.ref C_InvalidBlock) = some (.type "type"))
    (e4_InvalidBlock : PySem.W.keepIn K (.ref C_InvalidBlock) = true)
    (e5_InvalidBlock : PySem.W.isClsIn K C_InvalidBlock = true)
    (e6_InvalidBlock : PySem.W.mroIn K C_InvalidBlock (.ref C_FolderkinError) = some true)
    (e7_InvalidBlock : PySem.W.ks_superIn K C_InvalidBlock C_FolderkinError "__init__" = some (some (.builtin "ValueError.__init__")))
    (e8_InvalidBlock : PySem.W.subIn K (.ref C_InvalidBlock) (.type "ValueError") = some true)
    (e9_InvalidBlock : PySem.W.findIn K (.ref C_InvalidBlock) "place" = some none)
    (ea_InvalidBlock : PySem.W.findIn K (.ref C_InvalidBlock) "__init__" = some (some (.ref gX)))
    (eb_InvalidBlock : PySem.W.hasDictIn K C_InvalidBlock = true)
    (ec_InvalidBlock : PySem.W.findIn K (.ref C_InvalidBlock) "__getattribute__" = some (some (.builtin "BaseException.__getattribute__")))
    (ed_InvalidBlock : PySem.W.findIn K (.ref C_InvalidBlock) "__getattr__" = some none)
    (ee_InvalidBlock : PySem.W.findIn K (.ref C_InvalidBlock) "__class__" = some (some (.builtin "object.__class__")))
    (ef_InvalidBlock : PySem.W.specialIn K (.builtin "object.__class__") "__get__" = some (some (.builtin "getset_descriptor.__get__")))
    (eg_InvalidBlock : PySem.W.takesIn K (.builtin "object.__class__") = some true)
    (eh_InvalidBlock : PySem.W.mroIn K C_InvalidBlock (.type "object") = some true)
    (es_PowerCut_PowerCut : PySem.W.subIn K (.ref C_PowerCut) (.ref C_PowerCut) = some true)
    (es_InvalidBlock_PowerCut : PySem.W.subIn K (.ref C_InvalidBlock) (.ref C_PowerCut) = some false)
    (z_dict : PySem.W.nsIn K mainGlobals "dict" = some none)
    (z_int : PySem.W.nsIn K mainGlobals "int" = some none)
    (z_len : PySem.W.nsIn K mainGlobals "len" = some none)
    (z_list : PySem.W.nsIn K mainGlobals "list" = some none)
    (z_range : PySem.W.nsIn K mainGlobals "range" = some none)
    (z_sorted : PySem.W.nsIn K mainGlobals "sorted" = some none)
    (z_sum : PySem.W.nsIn K mainGlobals "sum" = some none)
    (z_tuple : PySem.W.nsIn K mainGlobals "tuple" = some none)
    (y_BLOCK : PySem.W.nsIn K mainGlobals "BLOCK" = some (some (.int 4 t_BLOCK)))
    (y_TEMP : PySem.W.nsIn K mainGlobals "TEMP" = some (some (.str "temp" t_TEMP)))
    (y_FILE : PySem.W.nsIn K mainGlobals "FILE" = some (some (.str "file" t_FILE)))
    (y_ATTIC : PySem.W.nsIn K mainGlobals "ATTIC" = some (some (.str "attic" t_ATTIC)))
    (hm : ∀ (C_Pull C_Entry C_Store C_FolderkinError C_PowerCut C_InvalidBlock gX : Nat) (ns : List Int), ns.length ≤ 63 → (f_law C_Pull C_Entry C_Store C_FolderkinError C_PowerCut C_InvalidBlock gX) [scriptD ns] (fun _ => none) (fun d _ => d = .bool true) (fun _ _ => False)) :
    ∃ fd : FuncData, (∀ (s : Shared) (v : Value), BindsTo s fd ⟨[v], []⟩ [("_law_script", v)]) ∧ ∀ base : Heap, K.In base → base.Ns mainGlobals mg → FnOk l.prog w K mg base (L2.CX l.prog w) 10 fa fd ["_law_script"] (fun vs H Q _ => ∃ (a : Addr) (ns : List Int), vs = [.ref a] ∧ SqL K H a (ns.map V.int) ∧ ns.length ≤ 63 ∧ ∀ H', Q (.bl true) H') := by
  have e := Value.ref.inj (Option.some.inj ((PySem.W.mg_of X G a38).symm.trans hfa))
  subst e
  have F0 : FunD K "block_number" "block_number" (defArgs s_block_number) (defBody s_block_number) (defScope s_block_number) [] [] f0 _ := ⟨⟨_, _, _, _, _, _, _, _, _, _, rfl, l0, c0, .inl ⟨rfl, rfl⟩, .inl rfl⟩, k0⟩
  have A0 : ∀ (base : Heap), AtF ⟨l.prog, w, K, mg, base, 0, true, true, none, []⟩ "block_number" "block_number" s_block_number ["data"] [] [] f0 := fun base => ⟨_, F0, F0.bindsN fun _ _ _ _ _ _ us hl => match us, hl with | [_], _ => rfl, fun j hj => by cases hj⟩
  have F1 : FunD K "block_size" "block_size" (defArgs s_block_size) (defBody s_block_size) (defScope s_block_size) [] [] f1 _ := ⟨⟨_, _, _, _, _, _, _, _, _, _, rfl, l1, c1, .inl ⟨rfl, rfl⟩, .inl rfl⟩, k1⟩
  have A1 : ∀ (base : Heap), AtF ⟨l.prog, w, K, mg, base, 0, true, true, none, []⟩ "block_size" "block_size" s_block_size ["number"] [] [] f1 := fun base => ⟨_, F1, F1.bindsN fun _ _ _ _ _ _ us hl => match us, hl with | [_], _ => rfl, fun j hj => by cases hj⟩
  have F2 : FunD K "is_block" "is_block" (defArgs s_is_block) (defBody s_is_block) (defScope s_is_block) [] [] f2 _ := ⟨⟨_, _, _, _, _, _, _, _, _, _, rfl, l2, c2, .inl ⟨rfl, rfl⟩, .inl rfl⟩, k2⟩
  have A2 : ∀ (base : Heap), AtF ⟨l.prog, w, K, mg, base, 0, true, true, none, []⟩ "is_block" "is_block" s_is_block ["number"] [] [] f2 := fun base => ⟨_, F2, F2.bindsN fun _ _ _ _ _ _ us hl => match us, hl with | [_], _ => rfl, fun j hj => by cases hj⟩
  have F3 : FunD K "block_bytes" "block_bytes" (defArgs s_block_bytes) (defBody s_block_bytes) (defScope s_block_bytes) [] [] f3 _ := ⟨⟨_, _, _, _, _, _, _, _, _, _, rfl, l3, c3, .inl ⟨rfl, rfl⟩, .inl rfl⟩, k3⟩
  have A3 : ∀ (base : Heap), AtF ⟨l.prog, w, K, mg, base, 0, true, true, none, []⟩ "block_bytes" "block_bytes" s_block_bytes ["number"] [] [] f3 := fun base => ⟨_, F3, F3.bindsN fun _ _ _ _ _ _ us hl => match us, hl with | [_], _ => rfl, fun j hj => by cases hj⟩
  have F4 : FunD K "split" "split" (defArgs s_split) (defBody s_split) (defScope s_split) [] [] f4 _ := ⟨⟨_, _, _, _, _, _, _, _, _, _, rfl, l4, c4, .inl ⟨rfl, rfl⟩, .inl rfl⟩, k4⟩
  have A4 : ∀ (base : Heap), AtF ⟨l.prog, w, K, mg, base, 0, true, true, none, []⟩ "split" "split" s_split ["content"] [] [] f4 := fun base => ⟨_, F4, F4.bindsN fun _ _ _ _ _ _ us hl => match us, hl with | [_], _ => rfl, fun j hj => by cases hj⟩
  have F5 : FunD K "kept_blocks" "kept_blocks" (defArgs s_kept_blocks) (defBody s_kept_blocks) (defScope s_kept_blocks) [] [] f5 _ := ⟨⟨_, _, _, _, _, _, _, _, _, _, rfl, l5, c5, .inl ⟨rfl, rfl⟩, .inl rfl⟩, k5⟩
  have A5 : ∀ (base : Heap), AtF ⟨l.prog, w, K, mg, base, 0, true, true, none, []⟩ "kept_blocks" "kept_blocks" s_kept_blocks ["store", "entry"] [] [] f5 := fun base => ⟨_, F5, F5.bindsN fun _ _ _ _ _ _ us hl => match us, hl with | [_, _], _ => rfl, fun j hj => by cases hj⟩
  have F6 : FunD K "near_places" "near_places" (defArgs s_near_places) (defBody s_near_places) (defScope s_near_places) [] [] f6 _ := ⟨⟨_, _, _, _, _, _, _, _, _, _, rfl, l6, c6, .inl ⟨rfl, rfl⟩, .inl rfl⟩, k6⟩
  have A6 : ∀ (base : Heap), AtF ⟨l.prog, w, K, mg, base, 0, true, true, none, []⟩ "near_places" "near_places" s_near_places ["store", "entry"] [] [] f6 := fun base => ⟨_, F6, F6.bindsN fun _ _ _ _ _ _ us hl => match us, hl with | [_, _], _ => rfl, fun j hj => by cases hj⟩
  have F7 : FunD K "missing" "missing" (defArgs s_missing) (defBody s_missing) (defScope s_missing) [] [] f7 _ := ⟨⟨_, _, _, _, _, _, _, _, _, _, rfl, l7, c7, .inl ⟨rfl, rfl⟩, .inl rfl⟩, k7⟩
  have A7 : ∀ (base : Heap), AtF ⟨l.prog, w, K, mg, base, 0, true, true, none, []⟩ "missing" "missing" s_missing ["store", "entry"] [] [] f7 := fun base => ⟨_, F7, F7.bindsN fun _ _ _ _ _ _ us hl => match us, hl with | [_, _], _ => rfl, fun j hj => by cases hj⟩
  have F8 : FunD K "length_of" "length_of" (defArgs s_length_of) (defBody s_length_of) (defScope s_length_of) [] [] f8 _ := ⟨⟨_, _, _, _, _, _, _, _, _, _, rfl, l8, c8, .inl ⟨rfl, rfl⟩, .inl rfl⟩, k8⟩
  have A8 : ∀ (base : Heap), AtF ⟨l.prog, w, K, mg, base, 0, true, true, none, []⟩ "length_of" "length_of" s_length_of ["blocks"] [] [] f8 := fun base => ⟨_, F8, F8.bindsN fun _ _ _ _ _ _ us hl => match us, hl with | [_], _ => rfl, fun j hj => by cases hj⟩
  have F9 : FunD K "__init__" "Pull.__init__" (defArgs s_Pull_init) (defBody s_Pull_init) (defScope s_Pull_init) [] [] f9 _ := ⟨⟨_, _, _, _, _, _, _, _, _, _, rfl, l9, c9, .inl ⟨rfl, rfl⟩, .inl rfl⟩, k9⟩
  have A9 : ∀ (base : Heap), AtF ⟨l.prog, w, K, mg, base, 0, true, true, none, []⟩ "__init__" "Pull.__init__" s_Pull_init ["self", "store", "entry"] [] [] f9 := fun base => ⟨_, F9, F9.bindsN fun _ _ _ _ _ _ us hl => match us, hl with | [_, _, _], _ => rfl, fun j hj => by cases hj⟩
  have F10 : FunD K "count" "Pull.count" (defArgs s_Pull_count) (defBody s_Pull_count) (defScope s_Pull_count) [] [] f10 _ := ⟨⟨_, _, _, _, _, _, _, _, _, _, rfl, l10, c10, .inl ⟨rfl, rfl⟩, .inl rfl⟩, k10⟩
  have A10 : ∀ (base : Heap), AtF ⟨l.prog, w, K, mg, base, 0, true, true, none, []⟩ "count" "Pull.count" s_Pull_count ["self"] [] [] f10 := fun base => ⟨_, F10, F10.bindsN fun _ _ _ _ _ _ us hl => match us, hl with | [_], _ => rfl, fun j hj => by cases hj⟩
  have F11 : FunD K "is_whole" "Pull.is_whole" (defArgs s_Pull_is_whole) (defBody s_Pull_is_whole) (defScope s_Pull_is_whole) [] [] f11 _ := ⟨⟨_, _, _, _, _, _, _, _, _, _, rfl, l11, c11, .inl ⟨rfl, rfl⟩, .inl rfl⟩, k11⟩
  have A11 : ∀ (base : Heap), AtF ⟨l.prog, w, K, mg, base, 0, true, true, none, []⟩ "is_whole" "Pull.is_whole" s_Pull_is_whole ["self"] [] [] f11 := fun base => ⟨_, F11, F11.bindsN fun _ _ _ _ _ _ us hl => match us, hl with | [_], _ => rfl, fun j hj => by cases hj⟩
  have F12 : FunD K "append" "Pull.append" (defArgs s_Pull_append) (defBody s_Pull_append) (defScope s_Pull_append) [] [] f12 _ := ⟨⟨_, _, _, _, _, _, _, _, _, _, rfl, l12, c12, .inl ⟨rfl, rfl⟩, .inl rfl⟩, k12⟩
  have A12 : ∀ (base : Heap), AtF ⟨l.prog, w, K, mg, base, 0, true, true, none, []⟩ "append" "Pull.append" s_Pull_append ["self", "block"] [] [] f12 := fun base => ⟨_, F12, F12.bindsN fun _ _ _ _ _ _ us hl => match us, hl with | [_, _], _ => rfl, fun j hj => by cases hj⟩
  have F13 : FunD K "advance" "Pull.advance" (defArgs s_Pull_advance) (defBody s_Pull_advance) (defScope s_Pull_advance) [] [] f13 _ := ⟨⟨_, _, _, _, _, _, _, _, _, _, rfl, l13, c13, .inl ⟨rfl, rfl⟩, .inl rfl⟩, k13⟩
  have A13 : ∀ (base : Heap), AtF ⟨l.prog, w, K, mg, base, 0, true, true, none, []⟩ "advance" "Pull.advance" s_Pull_advance ["self"] [] [] f13 := fun base => ⟨_, F13, F13.bindsN fun _ _ _ _ _ _ us hl => match us, hl with | [_], _ => rfl, fun j hj => by cases hj⟩
  have F14 : FunD K "give" "Pull.give" (defArgs s_Pull_give) (defBody s_Pull_give) (defScope s_Pull_give) [] [] f14 _ := ⟨⟨_, _, _, _, _, _, _, _, _, _, rfl, l14, c14, .inl ⟨rfl, rfl⟩, .inl rfl⟩, k14⟩
  have A14 : ∀ (base : Heap), AtF ⟨l.prog, w, K, mg, base, 0, true, true, none, []⟩ "give" "Pull.give" s_Pull_give ["self", "block", "data"] [] [] f14 := fun base => ⟨_, F14, F14.bindsN fun _ _ _ _ _ _ us hl => match us, hl with | [_, _, _], _ => rfl, fun j hj => by cases hj⟩
  have F15 : FunD K "place" "Pull.place" (defArgs s_Pull_place) (defBody s_Pull_place) (defScope s_Pull_place) [] [] f15 _ := ⟨⟨_, _, _, _, _, _, _, _, _, _, rfl, l15, c15, .inl ⟨rfl, rfl⟩, .inl rfl⟩, k15⟩
  have A15 : ∀ (base : Heap), AtF ⟨l.prog, w, K, mg, base, 0, true, true, none, []⟩ "place" "Pull.place" s_Pull_place ["self"] [] [] f15 := fun base => ⟨_, F15, F15.bindsN fun _ _ _ _ _ _ us hl => match us, hl with | [_], _ => rfl, fun j hj => by cases hj⟩
  have F16 : FunD K "__init__" "Entry.__init__" (defArgs s_Entry_init) (defBody s_Entry_init) (defScope s_Entry_init) [] [] f16 _ := ⟨⟨_, _, _, _, _, _, _, _, _, _, rfl, l16, c16, .inl ⟨rfl, rfl⟩, .inl rfl⟩, k16⟩
  have A16 : ∀ (base : Heap), AtF ⟨l.prog, w, K, mg, base, 0, true, true, none, []⟩ "__init__" "Entry.__init__" s_Entry_init ["self", "name", "vector", "height", "maker", "deleted", "time", "blocks"] [] [] f16 := fun base => ⟨_, F16, F16.bindsN fun _ _ _ _ _ _ us hl => match us, hl with | [_, _, _, _, _, _, _, _], _ => rfl, fun j hj => by cases hj⟩
  have F17 : FunD K "__init__" "Store.__init__" (defArgs s_Store_init) (defBody s_Store_init) (defScope s_Store_init) [] [] f17 _ := ⟨⟨_, _, _, _, _, _, _, _, _, _, rfl, l17, c17, .inl ⟨rfl, rfl⟩, .inl rfl⟩, k17⟩
  have A17 : ∀ (base : Heap), AtF ⟨l.prog, w, K, mg, base, 0, true, true, none, []⟩ "__init__" "Store.__init__" s_Store_init ["self", "files", "log"] [] [] f17 := fun base => ⟨_, F17, F17.bindsN fun _ _ _ _ _ _ us hl => match us, hl with | [_, _, _], _ => rfl, fun j hj => by cases hj⟩
  have F18 : FunD K "set_budget" "Store.set_budget" (defArgs s_Store_set_budget) (defBody s_Store_set_budget) (defScope s_Store_set_budget) [] [] f18 _ := ⟨⟨_, _, _, _, _, _, _, _, _, _, rfl, l18, c18, .inl ⟨rfl, rfl⟩, .inl rfl⟩, k18⟩
  have A18 : ∀ (base : Heap), AtF ⟨l.prog, w, K, mg, base, 0, true, true, none, []⟩ "set_budget" "Store.set_budget" s_Store_set_budget ["self", "count"] [] [] f18 := fun base => ⟨_, F18, F18.bindsN fun _ _ _ _ _ _ us hl => match us, hl with | [_, _], _ => rfl, fun j hj => by cases hj⟩
  have F19 : FunD K "write_now" "Store.write_now" (defArgs s_Store_write_now) (defBody s_Store_write_now) (defScope s_Store_write_now) [] [] f19 _ := ⟨⟨_, _, _, _, _, _, _, _, _, _, rfl, l19, c19, .inl ⟨rfl, rfl⟩, .inl rfl⟩, k19⟩
  have A19 : ∀ (base : Heap), AtF ⟨l.prog, w, K, mg, base, 0, true, true, none, []⟩ "write_now" "Store.write_now" s_Store_write_now ["self"] [] [] f19 := fun base => ⟨_, F19, F19.bindsN fun _ _ _ _ _ _ us hl => match us, hl with | [_], _ => rfl, fun j hj => by cases hj⟩
  have F20 : FunD K "names" "Store.names" (defArgs s_Store_names) (defBody s_Store_names) (defScope s_Store_names) [] [] f20 _ := ⟨⟨_, _, _, _, _, _, _, _, _, _, rfl, l20, c20, .inl ⟨rfl, rfl⟩, .inl rfl⟩, k20⟩
  have A20 : ∀ (base : Heap), AtF ⟨l.prog, w, K, mg, base, 0, true, true, none, []⟩ "names" "Store.names" s_Store_names ["self"] [] [] f20 := fun base => ⟨_, F20, F20.bindsN fun _ _ _ _ _ _ us hl => match us, hl with | [_], _ => rfl, fun j hj => by cases hj⟩
  have F21 : FunD K "read" "Store.read" (defArgs s_Store_read) (defBody s_Store_read) (defScope s_Store_read) [] [] f21 _ := ⟨⟨_, _, _, _, _, _, _, _, _, _, rfl, l21, c21, .inl ⟨rfl, rfl⟩, .inl rfl⟩, k21⟩
  have A21 : ∀ (base : Heap), AtF ⟨l.prog, w, K, mg, base, 0, true, true, none, []⟩ "read" "Store.read" s_Store_read ["self", "name"] [] [] f21 := fun base => ⟨_, F21, F21.bindsN fun _ _ _ _ _ _ us hl => match us, hl with | [_, _], _ => rfl, fun j hj => by cases hj⟩
  have F22 : FunD K "temp_names" "Store.temp_names" (defArgs s_Store_temp_names) (defBody s_Store_temp_names) (defScope s_Store_temp_names) [] [] f22 _ := ⟨⟨_, _, _, _, _, _, _, _, _, _, rfl, l22, c22, .inl ⟨rfl, rfl⟩, .inl rfl⟩, k22⟩
  have A22 : ∀ (base : Heap), AtF ⟨l.prog, w, K, mg, base, 0, true, true, none, []⟩ "temp_names" "Store.temp_names" s_Store_temp_names ["self"] [] [] f22 := fun base => ⟨_, F22, F22.bindsN fun _ _ _ _ _ _ us hl => match us, hl with | [_], _ => rfl, fun j hj => by cases hj⟩
  have F23 : FunD K "temp" "Store.temp" (defArgs s_Store_temp) (defBody s_Store_temp) (defScope s_Store_temp) [] [] f23 _ := ⟨⟨_, _, _, _, _, _, _, _, _, _, rfl, l23, c23, .inl ⟨rfl, rfl⟩, .inl rfl⟩, k23⟩
  have A23 : ∀ (base : Heap), AtF ⟨l.prog, w, K, mg, base, 0, true, true, none, []⟩ "temp" "Store.temp" s_Store_temp ["self", "name"] [] [] f23 := fun base => ⟨_, F23, F23.bindsN fun _ _ _ _ _ _ us hl => match us, hl with | [_, _], _ => rfl, fun j hj => by cases hj⟩
  have F24 : FunD K "append_temp" "Store.append_temp" (defArgs s_Store_append_temp) (defBody s_Store_append_temp) (defScope s_Store_append_temp) [] [] f24 _ := ⟨⟨_, _, _, _, _, _, _, _, _, _, rfl, l24, c24, .inl ⟨rfl, rfl⟩, .inl rfl⟩, k24⟩
  have A24 : ∀ (base : Heap), AtF ⟨l.prog, w, K, mg, base, 0, true, true, none, []⟩ "append_temp" "Store.append_temp" s_Store_append_temp ["self", "name", "data"] [] [] f24 := fun base => ⟨_, F24, F24.bindsN fun _ _ _ _ _ _ us hl => match us, hl with | [_, _, _], _ => rfl, fun j hj => by cases hj⟩
  have F25 : FunD K "cut_temp" "Store.cut_temp" (defArgs s_Store_cut_temp) (defBody s_Store_cut_temp) (defScope s_Store_cut_temp) [] [] f25 _ := ⟨⟨_, _, _, _, _, _, _, _, _, _, rfl, l25, c25, .inl ⟨rfl, rfl⟩, .inl rfl⟩, k25⟩
  have A25 : ∀ (base : Heap), AtF ⟨l.prog, w, K, mg, base, 0, true, true, none, []⟩ "cut_temp" "Store.cut_temp" s_Store_cut_temp ["self", "name", "count"] [] [] f25 := fun base => ⟨_, F25, F25.bindsN fun _ _ _ _ _ _ us hl => match us, hl with | [_, _, _], _ => rfl, fun j hj => by cases hj⟩
  have F26 : FunD K "place" "Store.place" (defArgs s_Store_place) (defBody s_Store_place) (defScope s_Store_place) [] [] f26 _ := ⟨⟨_, _, _, _, _, _, _, _, _, _, rfl, l26, c26, .inl ⟨rfl, rfl⟩, .inl rfl⟩, k26⟩
  have A26 : ∀ (base : Heap), AtF ⟨l.prog, w, K, mg, base, 0, true, true, none, []⟩ "place" "Store.place" s_Store_place ["self", "name", "time"] [] [] f26 := fun base => ⟨_, F26, F26.bindsN fun _ _ _ _ _ _ us hl => match us, hl with | [_, _, _], _ => rfl, fun j hj => by cases hj⟩
  have F27 : FunD K "attic" "Store.attic" (defArgs s_Store_attic) (defBody s_Store_attic) (defScope s_Store_attic) [] [] f27 _ := ⟨⟨_, _, _, _, _, _, _, _, _, _, rfl, l27, c27, .inl ⟨rfl, rfl⟩, .inl rfl⟩, k27⟩
  have A27 : ∀ (base : Heap), AtF ⟨l.prog, w, K, mg, base, 0, true, true, none, []⟩ "attic" "Store.attic" s_Store_attic ["self"] [] [] f27 := fun base => ⟨_, F27, F27.bindsN fun _ _ _ _ _ _ us hl => match us, hl with | [_], _ => rfl, fun j hj => by cases hj⟩
  have F28 : FunD K "attic_put" "Store.attic_put" (defArgs s_Store_attic_put) (defBody s_Store_attic_put) (defScope s_Store_attic_put) [] [] f28 _ := ⟨⟨_, _, _, _, _, _, _, _, _, _, rfl, l28, c28, .inl ⟨rfl, rfl⟩, .inl rfl⟩, k28⟩
  have A28 : ∀ (base : Heap), AtF ⟨l.prog, w, K, mg, base, 0, true, true, none, []⟩ "attic_put" "Store.attic_put" s_Store_attic_put ["self", "name", "vector", "content"] [] [] f28 := fun base => ⟨_, F28, F28.bindsN fun _ _ _ _ _ _ us hl => match us, hl with | [_, _, _, _], _ => rfl, fun j hj => by cases hj⟩
  have F29 : FunD K "durable" "Store.durable" (defArgs s_Store_durable) (defBody s_Store_durable) (defScope s_Store_durable) [] [] f29 _ := ⟨⟨_, _, _, _, _, _, _, _, _, _, rfl, l29, c29, .inl ⟨rfl, rfl⟩, .inl rfl⟩, k29⟩
  have A29 : ∀ (base : Heap), AtF ⟨l.prog, w, K, mg, base, 0, true, true, none, []⟩ "durable" "Store.durable" s_Store_durable ["self"] [] [] f29 := fun base => ⟨_, F29, F29.bindsN fun _ _ _ _ _ _ us hl => match us, hl with | [_], _ => rfl, fun j hj => by cases hj⟩
  have F30 : FunD K "from_durable" "from_durable" (defArgs s_from_durable) (defBody s_from_durable) (defScope s_from_durable) [] [] f30 _ := ⟨⟨_, _, _, _, _, _, _, _, _, _, rfl, l30, c30, .inl ⟨rfl, rfl⟩, .inl rfl⟩, k30⟩
  have A30 : ∀ (base : Heap), AtF ⟨l.prog, w, K, mg, base, 0, true, true, none, []⟩ "from_durable" "from_durable" s_from_durable ["value"] [] [] f30 := fun base => ⟨_, F30, F30.bindsN fun _ _ _ _ _ _ us hl => match us, hl with | [_], _ => rfl, fun j hj => by cases hj⟩
  have F31 : FunD K "_law_draw" "_law_draw" (defArgs s_law_draw) (defBody s_law_draw) (defScope s_law_draw) [] [] f31 _ := ⟨⟨_, _, _, _, _, _, _, _, _, _, rfl, l31, c31, .inl ⟨rfl, rfl⟩, .inl rfl⟩, k31⟩
  have A31 : ∀ (base : Heap), AtF ⟨l.prog, w, K, mg, base, 0, true, true, none, []⟩ "_law_draw" "_law_draw" s_law_draw ["_law_state", "_law_script", "_law_size"] [] [] f31 := fun base => ⟨_, F31, F31.bindsN fun _ _ _ _ _ _ us hl => match us, hl with | [_, _, _], _ => rfl, fun j hj => by cases hj⟩
  have F32 : FunD K "_law_name" "_law_name" (defArgs s_law_name) (defBody s_law_name) (defScope s_law_name) [] [] f32 _ := ⟨⟨_, _, _, _, _, _, _, _, _, _, rfl, l32, c32, .inl ⟨rfl, rfl⟩, .inl rfl⟩, k32⟩
  have A32 : ∀ (base : Heap), AtF ⟨l.prog, w, K, mg, base, 0, true, true, none, []⟩ "_law_name" "_law_name" s_law_name ["_law_state", "_law_script"] [] [] f32 := fun base => ⟨_, F32, F32.bindsN fun _ _ _ _ _ _ us hl => match us, hl with | [_, _], _ => rfl, fun j hj => by cases hj⟩
  have F33 : FunD K "_law_content" "_law_content" (defArgs s_law_content) (defBody s_law_content) (defScope s_law_content) [] [] f33 _ := ⟨⟨_, _, _, _, _, _, _, _, _, _, rfl, l33, c33, .inl ⟨rfl, rfl⟩, .inl rfl⟩, k33⟩
  have A33 : ∀ (base : Heap), AtF ⟨l.prog, w, K, mg, base, 0, true, true, none, []⟩ "_law_content" "_law_content" s_law_content ["_law_state", "_law_script", "_law_most"] [] [] f33 := fun base => ⟨_, F33, F33.bindsN fun _ _ _ _ _ _ us hl => match us, hl with | [_, _, _], _ => rfl, fun j hj => by cases hj⟩
  have F34 : FunD K "_law_blocks" "_law_blocks" (defArgs s_law_blocks) (defBody s_law_blocks) (defScope s_law_blocks) [] [] f34 _ := ⟨⟨_, _, _, _, _, _, _, _, _, _, rfl, l34, c34, .inl ⟨rfl, rfl⟩, .inl rfl⟩, k34⟩
  have A34 : ∀ (base : Heap), AtF ⟨l.prog, w, K, mg, base, 0, true, true, none, []⟩ "_law_blocks" "_law_blocks" s_law_blocks ["_law_content_here"] [] [] f34 := fun base => ⟨_, F34, F34.bindsN fun _ _ _ _ _ _ us hl => match us, hl with | [_], _ => rfl, fun j hj => by cases hj⟩
  have F35 : FunD K "_law_bytes" "_law_bytes" (defArgs s_law_bytes) (defBody s_law_bytes) (defScope s_law_bytes) [] [] f35 _ := ⟨⟨_, _, _, _, _, _, _, _, _, _, rfl, l35, c35, .inl ⟨rfl, rfl⟩, .inl rfl⟩, k35⟩
  have A35 : ∀ (base : Heap), AtF ⟨l.prog, w, K, mg, base, 0, true, true, none, []⟩ "_law_bytes" "_law_bytes" s_law_bytes ["_law_blocks_here"] [] [] f35 := fun base => ⟨_, F35, F35.bindsN fun _ _ _ _ _ _ us hl => match us, hl with | [_], _ => rfl, fun j hj => by cases hj⟩
  have F36 : FunD K "_law_refused" "_law_refused" (defArgs s_law_refused) (defBody s_law_refused) (defScope s_law_refused) [] [] f36 _ := ⟨⟨_, _, _, _, _, _, _, _, _, _, rfl, l36, c36, .inl ⟨rfl, rfl⟩, .inl rfl⟩, k36⟩
  have A36 : ∀ (base : Heap), AtF ⟨l.prog, w, K, mg, base, 0, true, true, none, []⟩ "_law_refused" "_law_refused" s_law_refused ["_law_state", "_law_script", "_law_store", "_law_pull", "_law_block"] [] [] f36 := fun base => ⟨_, F36, F36.bindsN fun _ _ _ _ _ _ us hl => match us, hl with | [_, _, _, _, _], _ => rfl, fun j hj => by cases hj⟩
  have F37 : FunD K "_law_pulled" "_law_pulled" (defArgs s_law_pulled) (defBody s_law_pulled) (defScope s_law_pulled) [] [] f37 _ := ⟨⟨_, _, _, _, _, _, _, _, _, _, rfl, l37, c37, .inl ⟨rfl, rfl⟩, .inl rfl⟩, k37⟩
  have A37 : ∀ (base : Heap), AtF ⟨l.prog, w, K, mg, base, 0, true, true, none, []⟩ "_law_pulled" "_law_pulled" s_law_pulled ["_law_state", "_law_script", "_law_store", "_law_entry", "_law_asked"] [] [] f37 := fun base => ⟨_, F37, F37.bindsN fun _ _ _ _ _ _ us hl => match us, hl with | [_, _, _, _, _], _ => rfl, fun j hj => by cases hj⟩
  have F38 : FunD K "law" "law" (defArgs s_law) (defBody s_law) (defScope s_law) [] [] f38 _ := ⟨⟨_, _, _, _, _, _, _, _, _, _, rfl, l38, c38, .inl ⟨rfl, rfl⟩, .inl rfl⟩, k38⟩
  have A38 : ∀ (base : Heap), AtF ⟨l.prog, w, K, mg, base, 0, true, true, none, []⟩ "law" "law" s_law ["_law_script"] [] [] f38 := fun base => ⟨_, F38, F38.bindsN fun _ _ _ _ _ _ us hl => match us, hl with | [_], _ => rfl, fun j hj => by cases hj⟩
  have TX : ExI l.prog K C_FolderkinError gX "FolderkinError.__init__" s_X := ⟨by
    obtain ⟨cd, hcd⟩ := Option.isSome_iff_exists.mp dX
    exact ⟨_, _, _, _, _, _, _, _, _, _, _, _, _, _, _, _, _, _, _, cd, lX, cX, oX, vX, fX, ceX, hcd⟩, kX, tX, tpX, topX⟩
  have E_FolderkinError : ExC K C_FolderkinError gX C_FolderkinError := ⟨⟨⟨_, _, _, _, _, _, _, _, _, _, _, _, _, _, _, e0_FolderkinError, ez_FolderkinError⟩, e1_FolderkinError, e2_FolderkinError, e3_FolderkinError, e4_FolderkinError⟩, Option.isSome_iff_exists.mp e5_FolderkinError, e6_FolderkinError, e7_FolderkinError, e8_FolderkinError, e9_FolderkinError, ea_FolderkinError, eb_FolderkinError, ec_FolderkinError, ed_FolderkinError, ee_FolderkinError, ef_FolderkinError, eg_FolderkinError, eh_FolderkinError⟩
  have E_PowerCut : ExC K C_FolderkinError gX C_PowerCut := ⟨⟨⟨_, _, _, _, _, _, _, _, _, _, _, _, _, _, _, e0_PowerCut, ez_PowerCut⟩, e1_PowerCut, e2_PowerCut, e3_PowerCut, e4_PowerCut⟩, Option.isSome_iff_exists.mp e5_PowerCut, e6_PowerCut, e7_PowerCut, e8_PowerCut, e9_PowerCut, ea_PowerCut, eb_PowerCut, ec_PowerCut, ed_PowerCut, ee_PowerCut, ef_PowerCut, eg_PowerCut, eh_PowerCut⟩
  have E_InvalidBlock : ExC K C_FolderkinError gX C_InvalidBlock := ⟨⟨⟨_, _, _, _, _, _, _, _, _, _, _, _, _, _, _, e0_InvalidBlock, ez_InvalidBlock⟩, e1_InvalidBlock, e2_InvalidBlock, e3_InvalidBlock, e4_InvalidBlock⟩, Option.isSome_iff_exists.mp e5_InvalidBlock, e6_InvalidBlock, e7_InvalidBlock, e8_InvalidBlock, e9_InvalidBlock, ea_InvalidBlock, eb_InvalidBlock, ec_InvalidBlock, ed_InvalidBlock, ee_InvalidBlock, ef_InvalidBlock, eg_InvalidBlock, eh_InvalidBlock⟩
  have T : ∀ base : Heap, Facts ⟨l.prog, w, K, mg, base, 0, true, true, none, []⟩ C_Pull C_Entry C_Store C_FolderkinError C_PowerCut C_InvalidBlock gX := fun base => ⟨PySem.W.mg_none_of X G z_dict, PySem.W.mg_none_of X G z_int, PySem.W.mg_none_of X G z_len, PySem.W.mg_none_of X G z_list, PySem.W.mg_none_of X G z_range, PySem.W.mg_none_of X G z_sorted, PySem.W.mg_none_of X G z_sum, PySem.W.mg_none_of X G z_tuple, ⟨_, PySem.W.mg_of X G y_BLOCK⟩, ⟨_, PySem.W.mg_of X G y_TEMP⟩, ⟨_, PySem.W.mg_of X G y_FILE⟩, ⟨_, PySem.W.mg_of X G y_ATTIC⟩, ⟨PySem.W.mg_of X G aC_Pull, ⟨pg_Pull, hd_Pull, po_Pull, sa_Pull⟩, cha_Pull, chn_Pull, cht_Pull, chm_Pull, kit_self, kit_other cic_Pull cty_Pull nNoneType_Pull, kit_other cic_Pull cty_Pull nbool_Pull, kit_other cic_Pull cty_Pull nint_Pull, kit_other cic_Pull cty_Pull nstr_Pull, kit_other cic_Pull cty_Pull nlist_Pull, kit_other cic_Pull cty_Pull ntuple_Pull, nlist_Pull, ntuple_Pull⟩, na_store_Pull, na_entry_Pull, ⟨PySem.W.mg_of X G aC_Entry, ⟨pg_Entry, hd_Entry, po_Entry, sa_Entry⟩, cha_Entry, chn_Entry, cht_Entry, chm_Entry, kit_self, kit_other cic_Entry cty_Entry nNoneType_Entry, kit_other cic_Entry cty_Entry nbool_Entry, kit_other cic_Entry cty_Entry nint_Entry, kit_other cic_Entry cty_Entry nstr_Entry, kit_other cic_Entry cty_Entry nlist_Entry, kit_other cic_Entry cty_Entry ntuple_Entry, nlist_Entry, ntuple_Entry⟩, na_name_Entry, na_vector_Entry, na_height_Entry, na_maker_Entry, na_deleted_Entry, na_time_Entry, na_blocks_Entry, ⟨PySem.W.mg_of X G aC_Store, ⟨pg_Store, hd_Store, po_Store, sa_Store⟩, cha_Store, chn_Store, cht_Store, chm_Store, kit_self, kit_other cic_Store cty_Store nNoneType_Store, kit_other cic_Store cty_Store nbool_Store, kit_other cic_Store cty_Store nint_Store, kit_other cic_Store cty_Store nstr_Store, kit_other cic_Store cty_Store nlist_Store, kit_other cic_Store cty_Store ntuple_Store, nlist_Store, ntuple_Store⟩, na_files_Store, na_temps_Store, na_old_Store, na_records_Store, na_fresh_Store, na_writes_Store, na_most_Store, ⟨exi_ok TX form_X (PySem.W.mg_none_of X G suX), tX, E_FolderkinError, PySem.W.mg_of X G aC_FolderkinError⟩, ⟨exi_ok TX form_X (PySem.W.mg_none_of X G suX), tX, E_PowerCut, PySem.W.mg_of X G aC_PowerCut⟩, ⟨exi_ok TX form_X (PySem.W.mg_none_of X G suX), tX, E_InvalidBlock, PySem.W.mg_of X G aC_InvalidBlock⟩, PySem.W.exm_ref e2_PowerCut eb_PowerCut e3_PowerCut es_PowerCut_PowerCut, PySem.W.exm_ref e2_PowerCut eb_PowerCut e3_PowerCut es_InvalidBlock_PowerCut, ⟨_, A0 base, PySem.W.mg_of X G a0⟩, ⟨_, A1 base, PySem.W.mg_of X G a1⟩, ⟨_, A2 base, PySem.W.mg_of X G a2⟩, ⟨_, A3 base, PySem.W.mg_of X G a3⟩, ⟨_, A4 base, PySem.W.mg_of X G a4⟩, ⟨_, A5 base, PySem.W.mg_of X G a5⟩, ⟨_, A6 base, PySem.W.mg_of X G a6⟩, ⟨_, A7 base, PySem.W.mg_of X G a7⟩, ⟨_, A8 base, PySem.W.mg_of X G a8⟩, ⟨_, A9 base, ⟨mk_Pull, a9, i9, kc_Pull⟩, PySem.W.mg_of X G aC_Pull⟩, ⟨_, A10 base, ⟨a10, i10, k10⟩⟩, ⟨_, A11 base, ⟨a11, i11, k11⟩⟩, ⟨_, A12 base, ⟨a12, i12, k12⟩⟩, ⟨_, A13 base, ⟨a13, i13, k13⟩⟩, ⟨_, A14 base, ⟨a14, i14, k14⟩⟩, ⟨_, A15 base, ⟨a15, i15, k15⟩⟩, ⟨_, A16 base, ⟨mk_Entry, a16, i16, kc_Entry⟩, PySem.W.mg_of X G aC_Entry⟩, ⟨_, A17 base, ⟨mk_Store, a17, i17, kc_Store⟩, PySem.W.mg_of X G aC_Store⟩, ⟨_, A18 base, ⟨a18, i18, k18⟩⟩, ⟨_, A19 base, ⟨a19, i19, k19⟩⟩, ⟨_, A20 base, ⟨a20, i20, k20⟩⟩, ⟨_, A21 base, ⟨a21, i21, k21⟩⟩, ⟨_, A22 base, ⟨a22, i22, k22⟩⟩, ⟨_, A23 base, ⟨a23, i23, k23⟩⟩, ⟨_, A24 base, ⟨a24, i24, k24⟩⟩, ⟨_, A25 base, ⟨a25, i25, k25⟩⟩, ⟨_, A26 base, ⟨a26, i26, k26⟩⟩, ⟨_, A27 base, ⟨a27, i27, k27⟩⟩, ⟨_, A28 base, ⟨a28, i28, k28⟩⟩, ⟨_, A29 base, ⟨a29, i29, k29⟩⟩, ⟨_, A30 base, PySem.W.mg_of X G a30⟩, ⟨_, A31 base, PySem.W.mg_of X G a31⟩, ⟨_, A32 base, PySem.W.mg_of X G a32⟩, ⟨_, A33 base, PySem.W.mg_of X G a33⟩, ⟨_, A34 base, PySem.W.mg_of X G a34⟩, ⟨_, A35 base, PySem.W.mg_of X G a35⟩, ⟨_, A36 base, PySem.W.mg_of X G a36⟩, ⟨_, A37 base, PySem.W.mg_of X G a37⟩, ⟨_, A38 base, PySem.W.mg_of X G a38⟩⟩
  refine ⟨_, fun s v => F38.bindsA (ps := ["_law_script"]) (fun _ _ _ _ _ _ us hl => match us, hl with | [_], _ => rfl) s [v] rfl, fun base _ _ => ?_⟩
  exact law_fn (c := ⟨l.prog, w, K, mg, base, 0, true, true, none, []⟩) (fn_okD (c := ⟨l.prog, w, K, mg, base, 0, true, true, none, []⟩) (F38) sc_law (jb_law (T base))) (hm C_Pull C_Entry C_Store C_FolderkinError C_PowerCut C_InvalidBlock gX)
end K26
namespace K26
open PySem L2 Hz
def val (b : Int) : Int → List Int → Int
  | a, [] => a
  | a, d :: ds => val b (a * b + d) ds
theorem val_app (b : Int) : ∀ (l : List Int) (a d : Int), val b a (l ++ [d]) = val b a l * b + d
  | [], a, d => rfl
  | x :: l, a, d => val_app b l (a * b + x) d
/-- the digits turned round -/
local macro_rules | `(tactic| array_mem_dec) => `(tactic| (first | ((with_reducible apply fd_cons); exact trivial) | ((with_reducible apply fd_nil); exact trivial) | ((with_reducible apply oq_isiB (b := true)); exact rfl) | ((with_reducible apply oq_isiB (b := false)); exact rfl) | ((with_reducible apply w_xi); exact rfl; exact decide_eq_true rfl; exact if_pos rfl) | ((with_reducible apply w_xf); exact rfl; exact decide_eq_true rfl; exact rfl) | ((with_reducible apply w_frzS); exact rfl; (first | assumption | exact aset_same); (try simp only [List.set])) | ((with_reducible apply rg1_of); (first | omega | decide)) | ((with_reducible apply rg2_of); (first | omega | decide)) | ((with_reducible apply lok); exact rfl) | ((with_reducible refine it2_dec ?_ ?_) <;> intro)))
local macro_rules | `(tactic| array_mem_dec) => `(tactic| (first | ((with_reducible apply dc_c); (first | assumption | exact aset_same); (first | exact rfl | exact tD_real _ _)) | ((with_reducible apply cdi_of); (first | assumption | exact aset_same); (first | exact rfl | exact tD_real _ _)) | ((with_reducible apply dc_d); (first | exact rfl | exact tD_real _ _)) | ((with_reducible apply dc_f); (first | exact rfl | exact tD_real _ _)) | ((with_reducible apply lk_of); exact rfl) | ((with_reducible apply oq_setv2); (simp only [List.set, wipeA]; exact rfl)) | ((with_reducible apply cal_of); exact rfl; (try simp only [List.cons_append, List.nil_append, List.append_nil])) | ((with_reducible apply w_aug); exact rfl) | ((with_reducible apply cel_of); (first | assumption | exact aset_same)) | ((with_reducible apply ceo_of); (first | assumption | exact aset_same)) | ((with_reducible apply tlG_r); (first | assumption | exact aset_same)) | ((with_reducible apply fr_of); (first | assumption | exact aset_same))))
local macro_rules | `(tactic| array_mem_dec) => `(tactic| (with_reducible first | refine pr2_of ?_ | refine w_dget ?_ | refine w_dget1 ?_ | refine w_dget2 ?_ | refine w_din ?_ | refine w_dnotin ?_ | refine w_dpop1 ?_ | refine w_dpop2 ?_ | refine w_dput ?_ | refine w_daug ?_ | refine w_lenD ?_ | refine w_dnew ?_ | refine w_fz ?_ | refine w_listD ?_ | refine w_dictD ?_ | refine w_dictP ?_ | refine w_sortD ?_ | refine w_isiC ?_))
local macro_rules | `(tactic| array_mem_dec) => `(tactic| (with_reducible first | refine tb_b ?_ | refine ti_b ?_ | refine ts_b ?_ | refine we_nx ?_ | refine we_rt ?_ | refine we_ex ?_ | refine wn_nx ?_ | refine wn_rt ?_ | refine wn_bk ?_ | refine wn_ct ?_ | refine wn_ex ?_ | refine wl_nx ?_ | refine wl_rt ?_ | refine wl_bk ?_ | refine wl_ct ?_ | refine wl_ex ?_ | refine wx_nx ?_ | refine wx_rt ?_ | refine wx_bk ?_ | refine wx_ct ?_ | refine wx_ex ?_ | refine wh_nx ?_ | refine wh_rt ?_ | refine wh_bk ?_ | refine wh_ct ?_ | refine it2_t ?_ | refine it2_f ?_ | refine it2_not ?_ | refine tlG_l ?_ | refine ttG_t ?_))
local macro_rules | `(tactic| array_mem_dec) => `(tactic| ((with_reducible refine oq_id ?_); (first | (with_reducible first | refine vw_i ?_ | refine vw_s ?_ | refine vw_b ?_ | refine vw_n ?_ | refine vw_l ?_ | refine vw_t ?_ | refine vw_sc ?_ | refine vw_o ?_ | refine mv_nil ?_ | refine mv_cons ?_ | refine oq_tgNil ?_ | refine oq_tgCons ?_ | refine oq_add_i ?_ | refine oq_sub ?_ | refine oq_lt ?_ | refine oq_le ?_ | refine oq_gt ?_ | refine oq_ge ?_ | refine oq_eq_i ?_ | refine oq_ne_i ?_ | refine oq_eq_s ?_ | refine oq_ne_s ?_ | refine oq_eq_b ?_ | refine oq_ne_b ?_ | refine oq_is ?_ | refine oq_isNot ?_ | refine oq_in_s ?_ | refine oq_notIn_s ?_ | refine oq_len_l ?_ | refine oq_len_t ?_ | refine oq_int ?_ | refine oq_abs ?_ | refine oq_ord ?_ | refine oq_cut_l ?_ | refine oq_cut_t ?_ | refine oq_list_l ?_ | refine oq_list_t ?_ | refine oq_tuple_l ?_ | refine oq_tuple_t ?_ | refine oq_max2 ?_ | refine oq_min2 ?_ | refine oq_some ?_ | refine oq_len_sc ?_ | refine oq_eq_il ?_ | refine oq_ne_il ?_ | refine oq_eq_it ?_ | refine oq_ne_it ?_ | refine oq_lt_il ?_ | refine oq_lt_it ?_ | refine oq_iadd_i ?_ | refine oq_isT ?_ | refine oq_isNotT ?_) | (first | ((with_reducible apply oq_tgTup); exact rfl) | ((with_reducible apply oq_ix_lk); exact rfl) | ((with_reducible apply oq_ix_tk); exact rfl) | ((with_reducible apply vw_r); (first | assumption | exact aset_same)) | ((with_reducible apply oq_ixN_k); exact rfl; (try simp only [List.set, Int.reduceToNat])) | ((with_reducible apply oq_mod); (first | omega | decide)) | ((with_reducible apply oq_div); (first | omega | decide)) | ((with_reducible apply oq_mul); (first | omega | decide)) | ((with_reducible apply oq_pow); (first | omega | decide)) | ((with_reducible apply oq_shl); (first | omega | decide)) | ((with_reducible apply oq_shr); (first | omega | decide)) | ((with_reducible apply oq_add_s); (first | omega | decide))) | (first | ((with_reducible apply oq_len_s); (first | omega | decide)) | ((with_reducible apply oq_cut_s); (first | omega | decide)) | ((with_reducible apply oq_append); (first | omega | decide)) | ((with_reducible apply oq_insert); (first | omega | decide)) | ((with_reducible apply oq_rep); (first | omega | decide)) | ((with_reducible apply oq_cat); (first | omega | decide))))))
local macro_rules | `(tactic| array_mem_dec) => `(tactic| (with_reducible first | refine w_list ?_ | refine w_tuple ?_ | refine w_str ?_ | refine w_range1 ?_ | refine w_range2 ?_ | refine w_range3 ?_ | refine w_next ?_ | refine w_break ?_ | refine w_cont ?_ | refine w_drop ?_ | refine w_ret ?_ | refine w_retN ?_ | refine w_if ?_ | refine w_asg ?_ | refine w_raise ?_ | refine w_fld ?_ | refine w_seta ?_ | refine w_auga ?_ | refine w_seti ?_ | refine w_mut ?_ | refine w_frz ?_ | refine w_new ?_ | refine w_ext ?_ | refine w_for ?_ | refine w_lc ?_ | refine w_tryA ?_ | refine w_try ?_ | refine w_par ?_))
local macro_rules | `(tactic| array_mem_dec) => `(tactic| (first | ((with_reducible apply w_kV); exact rfl) | (with_reducible first | refine w_kC ?_ | refine w_bop ?_ | refine w_tst ?_ | refine w_val ?_ | refine w_and ?_ | refine w_or ?_ | refine w_not ?_ | refine w_andV ?_ | refine w_orV ?_ | refine w_chain ?_ | refine w_ifK ?_ | refine w_nil ?_ | refine w_cons ?_ | refine w_tup ?_ | refine w_lst ?_ | refine w_call ?_ | refine w_neg ?_ | refine w_b1 ?_ | refine w_bn ?_ | refine w_isi ?_ | refine w_met ?_ | refine w_pnone ?_ | refine w_psome ?_ | refine w_cut ?_ | refine w_yes ?_)))
local macro_rules | `(tactic| array_get_dec) => `(tactic| (with_reducible refine w_seqB ?_))
local macro_rules | `(tactic| array_get_dec) => `(tactic| array_mem_dec)
local macro_rules | `(tactic| decreasing_trivial_pre_omega) => `(tactic| (with_reducible refine w_seq ?_))
local macro_rules | `(tactic| decreasing_trivial_pre_omega) => `(tactic| array_mem_dec)
local macro_rules | `(tactic| sizeOf_list_dec) => `(tactic| (try simp only [List.set, Int.reduceToNat, List.map_cons, List.map_nil, Nat.reduceSub, List.reduceReplicate, List.cons_append, List.nil_append, wipeA, aset_aset, List.getElem?_cons_zero, List.getElem?_cons_succ]))
variable {CL CE CS CF CP CI gX : Nat} {α : AH} {Q : QD} {E : QX}
def bs (n : Int) : Int := if n / 256 = 1 then 1 else if n / 65536 = 1 then 2 else if n / 16777216 = 1 then 3 else if n / 4294967296 = 1 then 4 else 0
theorem bs_cases (n : Int) : (bs n = 1 ∧ 256 ≤ n ∧ n < 512) ∨ (bs n = 2 ∧ 65536 ≤ n ∧ n < 131072) ∨ (bs n = 3 ∧ 16777216 ≤ n ∧ n < 33554432) ∨ (bs n = 4 ∧ 4294967296 ≤ n ∧ n < 8589934592) ∨ (bs n = 0 ∧ (n < 256 ∨ 512 ≤ n) ∧ (n < 65536 ∨ 131072 ≤ n) ∧ (n < 16777216 ∨ 33554432 ≤ n) ∧ (n < 4294967296 ∨ 8589934592 ≤ n)) := by
  unfold bs
  repeat' split
  all_goals omega
theorem bs_go {n : Int} (h : Q (.int (bs n)) α) : f_block_size CL CE CS CF CP CI gX [.int n] α Q E := by
  refine (?_ : pu _ _ _) α Q E h
  unfold f_block_size m_block_size
  refine pu_P rfl fun α R X hR => ?_
  have e1 : n / 2 ^ ((8 : Int) * 1).toNat = n / 256 := rfl
  have e2 : n / 2 ^ ((8 : Int) * 2).toNat = n / 65536 := rfl
  have e3 : n / 2 ^ ((8 : Int) * 3).toNat = n / 16777216 := rfl
  have e4 : n / 2 ^ ((8 : Int) * 4).toNat = n / 4294967296 := rfl
  have hR : ∀ z, z = bs n → R (.int z) α := fun z e => e ▸ hR
  sizeOf_list_dec
  (repeat' decreasing_trivial_pre_omega)
  rw [show nums 1 ((4 : Int) + 1 - 1).toNat = [.int 1, .int 2, .int 3, .int 4] from rfl]
  (repeat' decreasing_trivial_pre_omega)
  all_goals simp only [e1, e2, e3, e4] at *
  all_goals (refine hR _ ?_; unfold bs; simp [*])
local macro_rules | `(tactic| array_mem_dec) => `(tactic| (with_reducible first | refine bs_go ?_))
theorem is_go {n : Int} (h : Q (.bool (decide (0 < bs n))) α) : f_is_block CL CE CS CF CP CI gX [.int n] α Q E := by
  refine (?_ : pu _ _ _) α Q E h
  unfold f_is_block m_is_block
  refine pu_P rfl fun α R X hR => ?_
  sizeOf_list_dec
  (repeat' decreasing_trivial_pre_omega)
  exact hR
local macro_rules | `(tactic| array_mem_dec) => `(tactic| (with_reducible first | refine is_go ?_))
def okp (p : List Int) : Prop := p.length ≤ 4 ∧ p ≠ [] ∧ ∀ d ∈ p, 0 ≤ d ∧ d < 256
theorem val_ge : ∀ (l : List Int) (a : Int), 1 ≤ a → (∀ d ∈ l, 0 ≤ d ∧ d < 256) → 1 ≤ val 256 a l
  | [], a, h, _ => h
  | d :: l, a, h, k => val_ge l (a * 256 + d) (by have := (k d List.mem_cons_self).1; omega) fun x hx => k x (List.mem_cons_of_mem _ hx)
theorem bs_val {p : List Int} (h : okp p) : bs (val 256 1 p) = p.length := by
  obtain ⟨l, ne, d⟩ := h
  match p, l, ne, d with
  | [a], _, _, d =>
    have ha := d a (by simp)
    have := bs_cases (val 256 1 [a])
    simp only [val, List.length_cons, List.length_nil] at *
    omega
  | [a, b], _, _, d =>
    have ha := d a (by simp)
    have hb := d b (by simp)
    have := bs_cases (val 256 1 [a, b])
    simp only [val, List.length_cons, List.length_nil] at *
    omega
  | [a, b, c], _, _, d =>
    have ha := d a (by simp)
    have hb := d b (by simp)
    have hc := d c (by simp)
    have := bs_cases (val 256 1 [a, b, c])
    simp only [val, List.length_cons, List.length_nil] at *
    omega
  | [a, b, c, e], _, _, d =>
    have ha := d a (by simp)
    have hb := d b (by simp)
    have hc := d c (by simp)
    have he := d e (by simp)
    have := bs_cases (val 256 1 [a, b, c, e])
    simp only [val, List.length_cons, List.length_nil] at *
    omega
theorem bb_go {p : List Int} (hp : okp p) (h : Q (.list (p.map .int)) α) : f_block_bytes CL CE CS CF CP CI gX [.int (val 256 1 p)] α Q E := by
  unfold f_block_bytes m_block_bytes
  refine w_runP rfl ?_
  have hb := bs_val hp
  have hl : 0 < p.length := List.length_pos_iff.mpr hp.2.1
  sizeOf_list_dec
  (repeat' decreasing_trivial_pre_omega)
  · intro q hq
    (repeat' decreasing_trivial_pre_omega)
    refine w_while (fun m ρ α' => ∃ l acc : List Int, p = l ++ acc ∧ l.length = m ∧ ρ = [some (.int (val 256 1 l)), some (dref q)] ∧ α' = aset α q (.list (acc.map .int))) p.length ⟨p, [], by simp, rfl, rfl, rfl⟩ ?_
    rintro m _ _ ⟨l, acc, e, hm, rfl, rfl⟩ X hX
    have hd : ∀ d ∈ l, 0 ≤ d ∧ d < 256 := fun d hd => hp.2.2 d (by rw [e]; exact List.mem_append_left _ hd)
    (repeat' decreasing_trivial_pre_omega)
    · rename_i h1
      rcases List.eq_nil_or_concat l with rfl | ⟨l', d, rfl⟩
      · exact absurd h1 (by show ¬ (1 : Int) < 1; decide)
      · rw [List.concat_eq_append] at *
        have dd := hd d (by simp)
        have := congrArg List.length e
        have hp4 := hp.1
        simp only [List.length_append, List.length_cons, List.length_nil] at this hm
        refine oq_insert (by rw [List.length_map]; omega) ?_
        (repeat' decreasing_trivial_pre_omega)
        rw [val_app]
        refine hX l'.length _ _ (by omega) ⟨l', d :: acc, by rw [e]; simp, rfl, ?_, ?_⟩
        · have : (val 256 1 l' * 256 + d) / 256 = val 256 1 l' := by omega
          rw [this]
        · have : (val 256 1 l' * 256 + d) % 256 = d := by omega
          rw [aset_aset, this]
          rfl
    · rename_i h1
      rcases List.eq_nil_or_concat l with rfl | ⟨l', d, rfl⟩
      · (repeat' decreasing_trivial_pre_omega)
        rw [adel_aset hq, arst_self]
        rw [List.nil_append] at e
        rw [← e]
        exact h
      · rw [List.concat_eq_append] at *
        have dd := hd d (by simp)
        have := val_ge l' 1 (by omega) fun x hx => hd x (by simp [hx])
        rw [val_app] at h1
        omega
  · omega
theorem bnum_go {p : List Int} (h : Q (.int (val 256 1 p)) α) : f_block_number CL CE CS CF CP CI gX [.list (p.map .int)] α Q E := by
  refine (?_ : pu _ _ _) α Q E h
  unfold f_block_number m_block_number
  refine pu_P rfl fun α R X hR => ?_
  sizeOf_list_dec
  (repeat' decreasing_trivial_pre_omega)
  refine for_map (xs := p) (u := PyData.int) rfl (fun j ρ α' => ∃ a v, val 256 a (p.drop j) = val 256 1 p ∧ ρ = [some (.list (p.map .int)), some (.int a), v] ∧ α' = α) ⟨1, none, rfl, rfl, rfl⟩ ?_ ?_
  · rintro _ _ ⟨a, v, e, rfl, rfl⟩
    (repeat' decreasing_trivial_pre_omega)
    rw [List.drop_length] at e
    rw [show a = val 256 1 p from e]
    exact hR
  · rintro j hj _ _ ⟨a, v, e, rfl, rfl⟩ X hX
    (repeat' decreasing_trivial_pre_omega)
    refine hX _ _ ⟨_, _, ?_, rfl, rfl⟩
    rw [List.drop_eq_getElem_cons hj] at e
    exact e
def ck (c : List Int) (j : Nat) : List Int := (c.drop (4 * j)).take 4
def nk (c : List Int) : Nat := (c.length + 3) / 4
def pcs (c : List Int) : List (List Int) := (List.range (nk c)).map (ck c)
def okc (c : List Int) : Prop := c.length ≤ 1020 ∧ ∀ d ∈ c, 0 ≤ d ∧ d < 256
theorem ck_ok {c : List Int} (h : okc c) {j : Nat} (hj : j < nk c) : okp (ck c j) := by
  unfold nk at hj
  have l : (ck c j).length = min 4 (c.length - 4 * j) := by
    unfold ck
    rw [List.length_take, List.length_drop]
  refine ⟨by omega, fun e => ?_, fun d hd => h.2 d ?_⟩
  · rw [e] at l
    simp only [List.length_nil] at l
    omega
  · exact List.mem_of_mem_drop (List.mem_of_mem_take hd)
theorem pcs_ok {c : List Int} (h : okc c) : ∀ p ∈ pcs c, okp p := fun p hp => by
  obtain ⟨j, hj, rfl⟩ := List.mem_map.mp hp
  exact ck_ok h (List.mem_range.mp hj)
theorem pcs_length {c : List Int} (h : okc c) : (pcs c).length ≤ 255 := by
  unfold pcs nk
  rw [List.length_map, List.length_range]
  have := h.1
  omega
theorem cut_ck (c : List Int) {k : Nat} (hk : k < nk c) : cutD (c.map PyData.int) (some (0 + (k : Int) * 4)) (some (0 + (k : Int) * 4 + 4)) = (ck c k).map .int := by
  unfold nk at hk
  unfold cutD ck
  rw [List.length_map, show (0 + (k : Int) * 4) = ((4 * k : Nat) : Int) by omega, show (((4 * k : Nat) : Int) + 4) = ((4 * k + 4 : Nat) : Int) by omega, HT.sIx_nat, HT.sIx_nat, List.map_take, List.map_drop, Nat.min_eq_left (show 4 * k ≤ c.length by omega)]
  rw [List.take_eq_take_iff, List.length_drop, List.length_map]
  omega
theorem rng4 (c : List Int) : (Builtin.Range.rangeSize 0 (c.length : Int) 4).toNat = nk c := by
  unfold Builtin.Range.rangeSize nk
  rw [if_pos (by decide)]
  split <;> omega
theorem small4 {c : List Int} (h : okc c) : (4 : Int) ≠ 0 ∧ (4 : Int).natAbs < 1073741824 ∧ Builtin.Range.small 0 (c.length : Int) 4 = true := by
  have := h.1
  refine ⟨by decide, by decide, ?_⟩
  have h : ∀ n : Nat, n < 1021 → Builtin.Range.small 0 (n : Int) 4 = true := by decide +kernel
  exact h c.length (by omega)
theorem sp_go {c : List Int} (hc : okc c) (h : Q (.tuple ((pcs c).map fun p => .int (val 256 1 p))) α) : f_split CL CE CS CF CP CI gX [.list (c.map .int)] α Q E := by
  refine (?_ : pu _ _ _) α Q E h
  unfold f_split m_split
  refine pu_P rfl fun α R X hR => ?_
  sizeOf_list_dec
  have hl : (c.map PyData.int).length = c.length := List.length_map _
  (repeat' decreasing_trivial_pre_omega)
  rw [hl]
  refine rg3_of (small4 hc) ?_
  rw [rng4, numsC_map]
  refine lc_map (List.range (nk c)) (fun k => .int (0 + (k : Nat) * 4)) (fun k => .int (val 256 1 (ck c k))) rfl (by rw [List.length_range]; unfold nk; have := hc.1; omega) trivial (fun k hk => ?_) ?_
  · have hk := List.mem_range.mp hk
    refine ⟨_, rfl, fun R hR => ?_⟩
    sizeOf_list_dec
    (repeat' decreasing_trivial_pre_omega)
    rw [cut_ck c hk]
    refine bnum_go ?_
    exact hR
  · (repeat' decreasing_trivial_pre_omega)
    rw [show (List.range (nk c)).map (fun k => PyData.int (val 256 1 (ck c k))) = (pcs c).map (fun p => .int (val 256 1 p)) by unfold pcs; rw [List.map_map]; rfl]
    exact hR
end K26
namespace K26
open PySem L2 Hz
local macro_rules | `(tactic| array_mem_dec) => `(tactic| (first | ((with_reducible apply fd_cons); exact trivial) | ((with_reducible apply fd_nil); exact trivial) | ((with_reducible apply oq_isiB (b := true)); exact rfl) | ((with_reducible apply oq_isiB (b := false)); exact rfl) | ((with_reducible apply w_xi); exact rfl; exact decide_eq_true rfl; exact if_pos rfl) | ((with_reducible apply w_xf); exact rfl; exact decide_eq_true rfl; exact rfl) | ((with_reducible apply w_frzS); exact rfl; (first | assumption | exact aset_same); (try simp only [List.set])) | ((with_reducible apply rg1_of); (first | omega | decide)) | ((with_reducible apply rg2_of); (first | omega | decide)) | ((with_reducible apply lok); exact rfl) | ((with_reducible refine it2_dec ?_ ?_) <;> intro)))
local macro_rules | `(tactic| array_mem_dec) => `(tactic| (first | ((with_reducible apply dc_c); (first | assumption | exact aset_same); (first | exact rfl | exact tD_real _ _)) | ((with_reducible apply cdi_of); (first | assumption | exact aset_same); (first | exact rfl | exact tD_real _ _)) | ((with_reducible apply dc_d); (first | exact rfl | exact tD_real _ _)) | ((with_reducible apply dc_f); (first | exact rfl | exact tD_real _ _)) | ((with_reducible apply lk_of); exact rfl) | ((with_reducible apply oq_setv2); (simp only [List.set, wipeA]; exact rfl)) | ((with_reducible apply cal_of); exact rfl; (try simp only [List.cons_append, List.nil_append, List.append_nil])) | ((with_reducible apply w_aug); exact rfl) | ((with_reducible apply cel_of); (first | assumption | exact aset_same)) | ((with_reducible apply ceo_of); (first | assumption | exact aset_same)) | ((with_reducible apply tlG_r); (first | assumption | exact aset_same)) | ((with_reducible apply fr_of); (first | assumption | exact aset_same))))
local macro_rules | `(tactic| array_mem_dec) => `(tactic| (with_reducible first | refine pr2_of ?_ | refine w_dget ?_ | refine w_dget1 ?_ | refine w_dget2 ?_ | refine w_din ?_ | refine w_dnotin ?_ | refine w_dpop1 ?_ | refine w_dpop2 ?_ | refine w_dput ?_ | refine w_daug ?_ | refine w_lenD ?_ | refine w_dnew ?_ | refine w_fz ?_ | refine w_listD ?_ | refine w_dictD ?_ | refine w_dictP ?_ | refine w_sortD ?_ | refine w_isiC ?_))
local macro_rules | `(tactic| array_mem_dec) => `(tactic| (with_reducible first | refine tb_b ?_ | refine ti_b ?_ | refine ts_b ?_ | refine we_nx ?_ | refine we_rt ?_ | refine we_ex ?_ | refine wn_nx ?_ | refine wn_rt ?_ | refine wn_bk ?_ | refine wn_ct ?_ | refine wn_ex ?_ | refine wl_nx ?_ | refine wl_rt ?_ | refine wl_bk ?_ | refine wl_ct ?_ | refine wl_ex ?_ | refine wx_nx ?_ | refine wx_rt ?_ | refine wx_bk ?_ | refine wx_ct ?_ | refine wx_ex ?_ | refine wh_nx ?_ | refine wh_rt ?_ | refine wh_bk ?_ | refine wh_ct ?_ | refine it2_t ?_ | refine it2_f ?_ | refine it2_not ?_ | refine tlG_l ?_ | refine ttG_t ?_))
local macro_rules | `(tactic| array_mem_dec) => `(tactic| ((with_reducible refine oq_id ?_); (first | (with_reducible first | refine vw_i ?_ | refine vw_s ?_ | refine vw_b ?_ | refine vw_n ?_ | refine vw_l ?_ | refine vw_t ?_ | refine vw_sc ?_ | refine vw_o ?_ | refine mv_nil ?_ | refine mv_cons ?_ | refine oq_tgNil ?_ | refine oq_tgCons ?_ | refine oq_add_i ?_ | refine oq_sub ?_ | refine oq_lt ?_ | refine oq_le ?_ | refine oq_gt ?_ | refine oq_ge ?_ | refine oq_eq_i ?_ | refine oq_ne_i ?_ | refine oq_eq_s ?_ | refine oq_ne_s ?_ | refine oq_eq_b ?_ | refine oq_ne_b ?_ | refine oq_is ?_ | refine oq_isNot ?_ | refine oq_in_s ?_ | refine oq_notIn_s ?_ | refine oq_len_l ?_ | refine oq_len_t ?_ | refine oq_int ?_ | refine oq_abs ?_ | refine oq_ord ?_ | refine oq_cut_l ?_ | refine oq_cut_t ?_ | refine oq_list_l ?_ | refine oq_list_t ?_ | refine oq_tuple_l ?_ | refine oq_tuple_t ?_ | refine oq_max2 ?_ | refine oq_min2 ?_ | refine oq_some ?_ | refine oq_len_sc ?_ | refine oq_eq_il ?_ | refine oq_ne_il ?_ | refine oq_eq_it ?_ | refine oq_ne_it ?_ | refine oq_lt_il ?_ | refine oq_lt_it ?_ | refine oq_iadd_i ?_ | refine oq_isT ?_ | refine oq_isNotT ?_) | (first | ((with_reducible apply oq_tgTup); exact rfl) | ((with_reducible apply oq_ix_lk); exact rfl) | ((with_reducible apply oq_ix_tk); exact rfl) | ((with_reducible apply vw_r); (first | assumption | exact aset_same)) | ((with_reducible apply oq_ixN_k); exact rfl; (try simp only [List.set, Int.reduceToNat])) | ((with_reducible apply oq_mod); (first | omega | decide)) | ((with_reducible apply oq_div); (first | omega | decide)) | ((with_reducible apply oq_mul); (first | omega | decide)) | ((with_reducible apply oq_pow); (first | omega | decide)) | ((with_reducible apply oq_shl); (first | omega | decide)) | ((with_reducible apply oq_shr); (first | omega | decide)) | ((with_reducible apply oq_add_s); (first | omega | decide))) | (first | ((with_reducible apply oq_len_s); (first | omega | decide)) | ((with_reducible apply oq_cut_s); (first | omega | decide)) | ((with_reducible apply oq_append); (first | omega | decide)) | ((with_reducible apply oq_insert); (first | omega | decide)) | ((with_reducible apply oq_rep); (first | omega | decide)) | ((with_reducible apply oq_cat); (first | omega | decide))))))
local macro_rules | `(tactic| array_mem_dec) => `(tactic| (with_reducible first | refine w_list ?_ | refine w_tuple ?_ | refine w_str ?_ | refine w_range1 ?_ | refine w_range2 ?_ | refine w_range3 ?_ | refine w_next ?_ | refine w_break ?_ | refine w_cont ?_ | refine w_drop ?_ | refine w_ret ?_ | refine w_retN ?_ | refine w_if ?_ | refine w_asg ?_ | refine w_raise ?_ | refine w_fld ?_ | refine w_seta ?_ | refine w_auga ?_ | refine w_seti ?_ | refine w_mut ?_ | refine w_frz ?_ | refine w_new ?_ | refine w_ext ?_ | refine w_for ?_ | refine w_lc ?_ | refine w_tryA ?_ | refine w_try ?_ | refine w_par ?_))
local macro_rules | `(tactic| array_mem_dec) => `(tactic| (first | ((with_reducible apply w_kV); exact rfl) | (with_reducible first | refine w_kC ?_ | refine w_bop ?_ | refine w_tst ?_ | refine w_val ?_ | refine w_and ?_ | refine w_or ?_ | refine w_not ?_ | refine w_andV ?_ | refine w_orV ?_ | refine w_chain ?_ | refine w_ifK ?_ | refine w_nil ?_ | refine w_cons ?_ | refine w_tup ?_ | refine w_lst ?_ | refine w_call ?_ | refine w_neg ?_ | refine w_b1 ?_ | refine w_bn ?_ | refine w_isi ?_ | refine w_met ?_ | refine w_pnone ?_ | refine w_psome ?_ | refine w_cut ?_ | refine w_yes ?_)))
local macro_rules | `(tactic| array_get_dec) => `(tactic| (with_reducible refine w_seqB ?_))
local macro_rules | `(tactic| array_get_dec) => `(tactic| array_mem_dec)
local macro_rules | `(tactic| decreasing_trivial_pre_omega) => `(tactic| (with_reducible refine w_seq ?_))
local macro_rules | `(tactic| decreasing_trivial_pre_omega) => `(tactic| array_mem_dec)
local macro_rules | `(tactic| sizeOf_list_dec) => `(tactic| (try simp only [List.set, Int.reduceToNat, List.map_cons, List.map_nil, Nat.reduceSub, List.reduceReplicate, List.cons_append, List.nil_append, wipeA, aset_aset, List.getElem?_cons_zero, List.getElem?_cons_succ]))
variable {CL CE CS CF CP CI gX : Nat} {α : AH} {Q : QD} {E : QX}
abbrev Row := Str × D × List Int
structure Sto where
  files : List (Str × (List Int × Int))
  temps : List (Str × List Int)
  old : List Row
  recs : List Int
  fresh : List Int
  wr : Int
  mo : Option Int
structure Ads where
  p : Addr
  f : Addr
  t : Addr
  o : Addr
  r : Addr
  n : Addr
def ctD (c : List Int) : D := .list (c.map .int)
def flU (x : List Int × Int) : D := .tuple [ctD x.1, .int x.2]
def olU (x : Row) : D := .tuple [.str x.1, x.2.1, ctD x.2.2]
def moD : Option Int → D
  | none => .none
  | some i => .int i
def fld (A : Ads) (w : Int) (mo : Option Int) : List (D × D) := [(.str "files", dref A.f), (.str "temps", dref A.t), (.str "old", dref A.o), (.str "records", dref A.r), (.str "fresh", dref A.n), (.str "writes", .int w), (.str "most", moD mo)]
def Ads.all (A : Ads) : List Addr := [A.p, A.f, A.t, A.o, A.r, A.n]
structure StAt (CS : Nat) (α : AH) (A : Ads) (s : Sto) : Prop where
  p : α A.p = some (oD CS (fld A s.wr s.mo))
  f : α A.f = some (.dict (tD flU s.files))
  t : α A.t = some (.dict (tD ctD s.temps))
  o : α A.o = some (.list (s.old.map olU))
  r : α A.r = some (ctD s.recs)
  n : α A.n = some (ctD s.fresh)
  nd : A.all.Nodup
  nf : (s.files.map (·.1)).Nodup
  nt : (s.temps.map (·.1)).Nodup
/-- only the store's cells have changed -/
def Oth (A : Ads) (α α' : AH) : Prop := ∀ a, a ∉ A.all → α' a = α a
theorem Oth.refl {A : Ads} : Oth A α α := fun _ _ => rfl
theorem Oth.trans {A : Ads} {α1 α2 : AH} (h : Oth A α α1) (k : Oth A α1 α2) : Oth A α α2 := fun a n => (k a n).trans (h a n)
theorem vw_st {A : Ads} {s : Sto} (S : StAt CS α A s) {R : D → Prop} (h : R (oD CS (fld A s.wr s.mo))) : oq (vw α (dref A.p)) R := ⟨_, S.p, h⟩
theorem fl_f {A : Ads} {w : Int} {mo : Option Int} {R : D → Prop} (h : R (dref A.f)) : oq (fldD CS "files" (oD CS (fld A w mo))) R := ⟨_, by
  show (if Int.ofNat CS = Int.ofNat CS then _ else _) = _
  rw [if_pos rfl]
  rfl, h⟩
theorem fl_t {A : Ads} {w : Int} {mo : Option Int} {R : D → Prop} (h : R (dref A.t)) : oq (fldD CS "temps" (oD CS (fld A w mo))) R := ⟨_, by
  show (if Int.ofNat CS = Int.ofNat CS then _ else _) = _
  rw [if_pos rfl]
  rfl, h⟩
theorem fl_o {A : Ads} {w : Int} {mo : Option Int} {R : D → Prop} (h : R (dref A.o)) : oq (fldD CS "old" (oD CS (fld A w mo))) R := ⟨_, by
  show (if Int.ofNat CS = Int.ofNat CS then _ else _) = _
  rw [if_pos rfl]
  rfl, h⟩
theorem fl_r {A : Ads} {w : Int} {mo : Option Int} {R : D → Prop} (h : R (dref A.r)) : oq (fldD CS "records" (oD CS (fld A w mo))) R := ⟨_, by
  show (if Int.ofNat CS = Int.ofNat CS then _ else _) = _
  rw [if_pos rfl]
  rfl, h⟩
theorem fl_n {A : Ads} {w : Int} {mo : Option Int} {R : D → Prop} (h : R (dref A.n)) : oq (fldD CS "fresh" (oD CS (fld A w mo))) R := ⟨_, by
  show (if Int.ofNat CS = Int.ofNat CS then _ else _) = _
  rw [if_pos rfl]
  rfl, h⟩
theorem fl_w {A : Ads} {w : Int} {mo : Option Int} {R : D → Prop} (h : R (.int w)) : oq (fldD CS "writes" (oD CS (fld A w mo))) R := ⟨_, by
  show (if Int.ofNat CS = Int.ofNat CS then _ else _) = _
  rw [if_pos rfl]
  rfl, h⟩
theorem fl_m {A : Ads} {w : Int} {mo : Option Int} {R : D → Prop} (h : R (moD mo)) : oq (fldD CS "most" (oD CS (fld A w mo))) R := ⟨_, by
  show (if Int.ofNat CS = Int.ofNat CS then _ else _) = _
  rw [if_pos rfl]
  rfl, h⟩
local macro_rules | `(tactic| array_mem_dec) => `(tactic| (first | ((with_reducible apply vw_st); assumption)))
local macro_rules | `(tactic| array_mem_dec) => `(tactic| (with_reducible first | refine fl_f ?_ | refine fl_t ?_ | refine fl_o ?_ | refine fl_r ?_ | refine fl_n ?_ | refine fl_w ?_ | refine fl_m ?_))
theorem look_s {β : Type} (u : β → D) (n : Str) (l : List (Str × β)) : lookP (.str n) (tD u l) = (aGet n l).map u := tD_look u n l
theorem look_i {β : Type} (u : β → D) (n : Int) (l : List (Int × β)) : lookP (.int n) (tD u l) = (aGet n l).map u := tD_look u n l
theorem ctD_list {c : List Int} {R : D → Prop} (h : R (ctD c)) : oq (dList [ctD c]) R := ⟨_, rfl, h⟩
theorem ctD_tup {c : List Int} {R : D → Prop} (h : R (.tuple (c.map .int))) : oq (dTuple [ctD c]) R := ⟨_, rfl, h⟩
theorem vw_ct {c : List Int} {R : D → Prop} (h : R (ctD c)) : oq (vw α (ctD c)) R := ⟨_, rfl, h⟩
local macro_rules | `(tactic| array_mem_dec) => `(tactic| (with_reducible first | refine ctD_list ?_ | refine ctD_tup ?_ | refine vw_ct ?_))
theorem temp_go {A : Ads} {s : Sto} {n : Str} (S : StAt CS α A s) (h : Q (match aGet n s.temps with | none => .none | some c => ctD c) α) : f_Store_temp CL CE CS CF CP CI gX [dref A.p, .str n] α Q E := by
  unfold f_Store_temp m_Store_temp
  refine w_runP rfl ?_
  have ht := S.t
  sizeOf_list_dec
  (repeat' array_get_dec)
  rw [look_s]
  cases hg : aGet n s.temps with
  | none =>
    rw [hg] at h
    (try simp only [Option.map_none, Option.map_some, Option.isSome_none, Option.isSome_some, Bool.not_true, Bool.not_false, Option.getD_some, Option.getD_none])
    (repeat' decreasing_trivial_pre_omega)
    rw [arst_self]
    exact h
  | some c =>
    rw [hg] at h
    (try simp only [Option.map_none, Option.map_some, Option.isSome_none, Option.isSome_some, Bool.not_true, Bool.not_false, Option.getD_some, Option.getD_none])
    (repeat' array_get_dec)
    (refine bar_of ?_; sizeOf_list_dec; (repeat' array_get_dec))
    rw [look_s, hg]
    (try simp only [Option.map_none, Option.map_some, Option.isSome_none, Option.isSome_some, Bool.not_true, Bool.not_false, Option.getD_some, Option.getD_none])
    (repeat' decreasing_trivial_pre_omega)
    rw [arst_self]
    exact h
theorem read_go {A : Ads} {s : Sto} {n : Str} (S : StAt CS α A s) (h : Q (match aGet n s.files with | none => .none | some c => flU c) α) : f_Store_read CL CE CS CF CP CI gX [dref A.p, .str n] α Q E := by
  unfold f_Store_read m_Store_read
  refine w_runP rfl ?_
  have hf := S.f
  sizeOf_list_dec
  (repeat' array_get_dec)
  rw [look_s]
  cases hg : aGet n s.files with
  | none =>
    rw [hg] at h
    (try simp only [Option.map_none, Option.map_some, Option.isSome_none, Option.isSome_some, Bool.not_true, Bool.not_false, Option.getD_some, Option.getD_none])
    (repeat' decreasing_trivial_pre_omega)
    rw [arst_self]
    exact h
  | some c =>
    rw [hg] at h
    (try simp only [Option.map_none, Option.map_some, Option.isSome_none, Option.isSome_some, Bool.not_true, Bool.not_false, Option.getD_some, Option.getD_none])
    (repeat' array_get_dec)
    (refine bar_of ?_; sizeOf_list_dec; (repeat' array_get_dec))
    rw [look_s, hg]
    (try simp only [Option.map_none, Option.map_some, Option.isSome_none, Option.isSome_some, Bool.not_true, Bool.not_false, Option.getD_some, Option.getD_none])
    simp only [flU]
    (repeat' array_get_dec)
    (refine bar_of ?_; sizeOf_list_dec; (repeat' array_get_dec))
    sizeOf_list_dec
    (repeat' decreasing_trivial_pre_omega)
    rw [arst_self]
    exact h
theorem names_go {A : Ads} {s : Sto} (S : StAt CS α A s) (hl : s.files.length < 64) (h : ∀ ys : List Str, ys.Perm (s.files.map (·.1)) → PyProof.Rows.sortedS ys = true → Q (.list (ys.map .str)) α) : f_Store_names CL CE CS CF CP CI gX [dref A.p] α Q E := by
  unfold f_Store_names m_Store_names
  refine w_runP rfl ?_
  have hf := S.f
  sizeOf_list_dec
  (repeat' decreasing_trivial_pre_omega)
  refine srt_s hl fun ys h1 h2 => ?_
  (repeat' decreasing_trivial_pre_omega)
  rw [arst_self]
  exact h ys h1 h2
theorem tnames_go {A : Ads} {s : Sto} (S : StAt CS α A s) (hl : s.temps.length < 64) (h : ∀ ys : List Str, ys.Perm (s.temps.map (·.1)) → PyProof.Rows.sortedS ys = true → Q (.list (ys.map .str)) α) : f_Store_temp_names CL CE CS CF CP CI gX [dref A.p] α Q E := by
  unfold f_Store_temp_names m_Store_temp_names
  refine w_runP rfl ?_
  have ht := S.t
  sizeOf_list_dec
  (repeat' decreasing_trivial_pre_omega)
  refine srt_s hl fun ys h1 h2 => ?_
  (repeat' decreasing_trivial_pre_omega)
  rw [arst_self]
  exact h ys h1 h2
theorem attic_go {A : Ads} {s : Sto} (S : StAt CS α A s) (hl : s.old.length ≤ 1000) (h : Q (.list (s.old.map olU)) α) : f_Store_attic CL CE CS CF CP CI gX [dref A.p] α Q E := by
  unfold f_Store_attic m_Store_attic
  refine w_runP rfl ?_
  have ho := S.o
  sizeOf_list_dec
  (repeat' decreasing_trivial_pre_omega)
  refine lc_map s.old olU olU rfl (by omega) ?_ (fun x hx => ?_) ?_
  · exact ho
  · obtain ⟨n, v, c⟩ := x
    refine oq_tgTup rfl (oq_tgCons (oq_setv (oq_tgCons (oq_setv (oq_tgCons (oq_setv (oq_tgNil ?_)))))))
    intro R hR
    sizeOf_list_dec
    (repeat' decreasing_trivial_pre_omega)
    exact hR
  · (repeat' decreasing_trivial_pre_omega)
    rw [arst_self]
    exact h
theorem StAt.ne {A : Ads} {s : Sto} (S : StAt CS α A s) : A.p ≠ A.f ∧ A.p ≠ A.t ∧ A.p ≠ A.o ∧ A.p ≠ A.r ∧ A.p ≠ A.n ∧ A.f ≠ A.t ∧ A.f ≠ A.o ∧ A.f ≠ A.r ∧ A.f ≠ A.n ∧ A.t ≠ A.o ∧ A.t ≠ A.r ∧ A.t ≠ A.n ∧ A.o ≠ A.r ∧ A.o ≠ A.n ∧ A.r ≠ A.n := by
  have := S.nd
  unfold Ads.all at this
  simp only [List.nodup_cons, List.mem_cons, List.not_mem_nil, or_false, not_or] at this
  obtain ⟨⟨a1, a2, a3, a4, a5⟩, ⟨b1, b2, b3, b4⟩, ⟨c1, c2, c3⟩, ⟨d1, d2⟩, e1, _⟩ := this
  exact ⟨a1, a2, a3, a4, a5, b1, b2, b3, b4, c1, c2, c3, d1, d2, e1⟩
theorem StAt.setp {A : Ads} {s : Sto} (S : StAt CS α A s) (w : Int) (mo : Option Int) : StAt CS (aset α A.p (oD CS (fld A w mo))) A { s with wr := w, mo := mo } := by
  obtain ⟨a1, a2, a3, a4, a5, _⟩ := S.ne
  exact ⟨aset_same, by rw [aset_ne (Ne.symm a1)]; exact S.f, by rw [aset_ne (Ne.symm a2)]; exact S.t, by rw [aset_ne (Ne.symm a3)]; exact S.o, by rw [aset_ne (Ne.symm a4)]; exact S.r, by rw [aset_ne (Ne.symm a5)]; exact S.n, S.nd, S.nf, S.nt⟩
theorem StAt.setf {A : Ads} {s : Sto} (S : StAt CS α A s) (l : List (Str × (List Int × Int))) (h : (l.map (·.1)).Nodup) : StAt CS (aset α A.f (.dict (tD flU l))) A { s with files := l } := by
  obtain ⟨a1, a2, a3, a4, a5, b1, b2, b3, b4, _⟩ := S.ne
  exact ⟨by rw [aset_ne a1]; exact S.p, aset_same, by rw [aset_ne (Ne.symm b1)]; exact S.t, by rw [aset_ne (Ne.symm b2)]; exact S.o, by rw [aset_ne (Ne.symm b3)]; exact S.r, by rw [aset_ne (Ne.symm b4)]; exact S.n, S.nd, h, S.nt⟩
theorem StAt.sett {A : Ads} {s : Sto} (S : StAt CS α A s) (l : List (Str × List Int)) (h : (l.map (·.1)).Nodup) : StAt CS (aset α A.t (.dict (tD ctD l))) A { s with temps := l } := by
  obtain ⟨a1, a2, a3, a4, a5, b1, b2, b3, b4, c1, c2, c3, _⟩ := S.ne
  exact ⟨by rw [aset_ne a2]; exact S.p, by rw [aset_ne b1]; exact S.f, aset_same, by rw [aset_ne (Ne.symm c1)]; exact S.o, by rw [aset_ne (Ne.symm c2)]; exact S.r, by rw [aset_ne (Ne.symm c3)]; exact S.n, S.nd, S.nf, h⟩
theorem StAt.seto {A : Ads} {s : Sto} (S : StAt CS α A s) (l : List Row) : StAt CS (aset α A.o (.list (l.map olU))) A { s with old := l } := by
  obtain ⟨a1, a2, a3, a4, a5, b1, b2, b3, b4, c1, c2, c3, d1, d2, _⟩ := S.ne
  exact ⟨by rw [aset_ne a3]; exact S.p, by rw [aset_ne b2]; exact S.f, by rw [aset_ne c1]; exact S.t, aset_same, by rw [aset_ne (Ne.symm d1)]; exact S.r, by rw [aset_ne (Ne.symm d2)]; exact S.n, S.nd, S.nf, S.nt⟩
theorem Oth.set {A : Ads} {x : Addr} {d : D} (h : x ∈ A.all) : Oth A α (aset α x d) := fun a n => aset_ne fun z => n (z ▸ h)
theorem in_p {A : Ads} : A.p ∈ A.all := by unfold Ads.all; simp
theorem in_f {A : Ads} : A.f ∈ A.all := by unfold Ads.all; simp
theorem in_t {A : Ads} : A.t ∈ A.all := by unfold Ads.all; simp
theorem in_o {A : Ads} : A.o ∈ A.all := by unfold Ads.all; simp
/-- what a pure def leaves: the store's cells stay -/
theorem arst_oth {A : Ads} {s s' : Sto} {α' : AH} (S : StAt CS α A s) (S' : StAt CS α' A s') (O : Oth A α α') : arst α α' = α' := by
  funext a
  unfold arst
  by_cases h : a ∈ A.all
  · have : (α a).isSome = true := by
      unfold Ads.all at h
      simp only [List.mem_cons, List.not_mem_nil, or_false] at h
      rcases h with rfl | rfl | rfl | rfl | rfl | rfl
      · rw [S.p]; rfl
      · rw [S.f]; rfl
      · rw [S.t]; rfl
      · rw [S.o]; rfl
      · rw [S.r]; rfl
      · rw [S.n]; rfl
    rw [if_pos this]
  · rw [O a h]
    cases q : α a with
    | none => rfl
    | some c => rfl
theorem wnow_go {A : Ads} {s : Sto} (S : StAt CS α A s) (hx : ∀ m, s.mo = some m → m ≤ s.wr → E ⟨CP, [(.str "place", .int s.wr)]⟩ α) (h : (∀ m, s.mo = some m → s.wr < m) → ∀ α', StAt CS α' A { s with wr := s.wr + 1 } → Oth A α α' → Q .none α') : f_Store_write_now CL CE CS CF CP CI gX [dref A.p] α Q E := by
  unfold f_Store_write_now m_Store_write_now
  refine w_runP rfl ?_
  have hp := S.p
  have S1 := S.setp (s.wr + 1) s.mo
  have fin : (∀ m, s.mo = some m → s.wr < m) → Q .none (arst α (aset α A.p (oD CS (fld A (s.wr + 1) s.mo)))) := fun hm => by
    rw [arst_oth S S1 (Oth.set in_p)]
    exact h hm _ S1 (Oth.set in_p)
  cases hm : s.mo with
  | none =>
    rw [hm] at hp fin
    replace fin := fin (fun m e => by cases e)
    clear S S1
    sizeOf_list_dec
    (repeat' decreasing_trivial_pre_omega)
    simp only [moD]
    (repeat' decreasing_trivial_pre_omega)
    simp only [isNoneD]
    (repeat' decreasing_trivial_pre_omega)
    refine oq_of (z := .int s.wr) rfl ?_
    (repeat' decreasing_trivial_pre_omega)
    refine ⟨by show (7 : Nat) < 900; decide, ?_⟩
    (repeat' decreasing_trivial_pre_omega)
    exact fin
  | some m =>
    rw [hm] at hp fin
    clear S S1
    sizeOf_list_dec
    (repeat' decreasing_trivial_pre_omega)
    simp only [moD]
    (repeat' decreasing_trivial_pre_omega)
    simp only [isNoneD]
    (repeat' decreasing_trivial_pre_omega)
    simp only [moD]
    (repeat' decreasing_trivial_pre_omega)
    · rename_i hle
      rw [arst_self]
      exact hx m hm hle
    · rename_i hle
      replace fin := fin (fun m' e => by cases e; omega)
      refine oq_of (z := .int s.wr) rfl ?_
      (repeat' decreasing_trivial_pre_omega)
      refine ⟨by show (7 : Nat) < 900; decide, ?_⟩
      (repeat' decreasing_trivial_pre_omega)
      exact fin
theorem meth_st {A : Ads} {s : Sto} {ρ : En} {i np : Nat} {m : Str} {fm : Fm} {ds : List D} {ml : ML} (S : StAt CS α A s) (hm : lookF m (fld A s.wr s.mo) = none) (e : ρ[i]? = some (some (dref A.p))) (h : ml ρ α (fun as α2 => cal np (fun xs => fm (dref A.p :: xs)) as ds α2 Q E) E) : methK CS m np fm ds (Hz.kV i) ml ρ α Q E :=
  w_meth (w_kV e ⟨_, S.p, by
    show (decide (Int.ofNat CS = Int.ofNat CS) && (lookF m (fld A s.wr s.mo)).isNone) = true
    rw [hm, decide_eq_true rfl]
    rfl, h⟩)
theorem put_go {A : Ads} {s : Sto} {n : Str} {v : D} {c : List Int} (S : StAt CS α A s) (hl : s.old.length < 1000) (hmo : s.mo = none) (h : ∀ α', StAt CS α' A { s with old := s.old ++ [(n, v, c)], wr := s.wr + 1 } → Oth A α α' → Q .none α') : f_Store_attic_put CL CE CS CF CP CI gX [dref A.p, .str n, v, ctD c] α Q E := by
  unfold f_Store_attic_put m_Store_attic_put
  refine w_runP rfl ?_
  sizeOf_list_dec
  (repeat' array_get_dec)
  refine meth_st S rfl rfl ?_
  (repeat' array_get_dec)
  refine wnow_go S (fun m e => by rw [hmo] at e; cases e) fun _ α1 S1 O1 => ?_
  have ho := S1.o
  (repeat' array_get_dec)
  (refine bar_of ?_; sizeOf_list_dec; (repeat' array_get_dec))
  refine oq_append (by rw [List.length_map]; show s.old.length < 100000; omega) ?_
  (repeat' array_get_dec)
  have e : s.old.map olU ++ [.tuple [.str n, v, ctD c]] = (s.old ++ [(n, v, c)]).map olU := by simp [olU]
  rw [e]
  have S2 := S1.seto (s.old ++ [(n, v, c)])
  have O2 := O1.trans (Oth.set (d := .list ((s.old ++ [(n, v, c)]).map olU)) in_o)
  rw [arst_oth S S2 O2]
  exact h _ S2 O2
def apT (n : Str) : List Int → List (Str × List Int) → List (Str × List Int)
  | [], l => l
  | b :: c, l => apT n c (aPut n ((aGet n l).getD [] ++ [b]) l)
theorem apT_app {n : Str} {b : Int} : ∀ {c : List Int} {l : List (Str × List Int)}, apT n (c ++ [b]) l = aPut n ((aGet n (apT n c l)).getD [] ++ [b]) (apT n c l)
  | [], l => rfl
  | d :: c, l => by
    show apT n (c ++ [b]) _ = _
    rw [apT_app]
    rfl
theorem apT_get {n : Str} : ∀ {c : List Int} {l : List (Str × List Int)}, (aGet n (apT n c l)).getD [] = (aGet n l).getD [] ++ c
  | [], l => by simp [apT]
  | d :: c, l => by
    show (aGet n (apT n c _)).getD [] = _
    rw [apT_get, aGet_put, if_pos rfl]
    simp
theorem aPut_len {κ β : Type} [DecidableEq κ] [KeyD κ] {k : κ} {b : β} : ∀ {l : List (κ × β)}, (aPut k b l).length = if k ∈ l.map (·.1) then l.length else l.length + 1 := by
  intro l
  have := congrArg List.length (aPut_keys (k := k) (b := b) (l := l))
  rw [List.length_map] at this
  rw [this]
  split <;> simp
theorem aPut_mem {κ β : Type} [DecidableEq κ] {k : κ} {b : β} : ∀ {l : List (κ × β)} {x : κ × β}, x ∈ aPut k b l → x ∈ l ∨ x = (k, b)
  | [], x, h => by simpa [aPut] using h
  | (j, c) :: r, x, h => by
    rw [aPut] at h
    by_cases e : j = k
    · subst e
      rw [if_pos rfl, List.mem_cons] at h
      rcases h with rfl | h
      · exact .inr rfl
      · exact .inl (List.mem_cons_of_mem _ h)
    · rw [if_neg e, List.mem_cons] at h
      rcases h with rfl | h
      · exact .inl List.mem_cons_self
      · exact (aPut_mem h).imp (List.mem_cons_of_mem _) id
theorem aGet_mem {κ β : Type} [DecidableEq κ] {k : κ} {b : β} : ∀ {l : List (κ × β)}, aGet k l = some b → (k, b) ∈ l
  | (j, c) :: r, h => by
    rw [aGet] at h
    by_cases e : j = k
    · subst e
      rw [if_pos rfl] at h
      cases h
      exact List.mem_cons_self
    · rw [if_neg e] at h
      exact List.mem_cons_of_mem _ (aGet_mem h)
theorem apT_ok {n : Str} {N B : Nat} : ∀ {c : List Int} {l : List (Str × List Int)}, (l.map (·.1)).Nodup → (if n ∈ l.map (·.1) then l.length else l.length + 1) ≤ N → (∀ x ∈ l, x.2.length ≤ B) → ((aGet n l).getD []).length + c.length ≤ B → l.length ≤ N → ((apT n c l).map (·.1)).Nodup ∧ (apT n c l).length ≤ N ∧ ∀ x ∈ apT n c l, x.2.length ≤ B
  | [], l, h, h1, h2, h3, h4 => ⟨h, h4, h2⟩
  | d :: c, l, h, h1, h2, h3, h4 => by
    refine apT_ok (c := c) (aPut_nodup h) ?_ ?_ ?_ ?_
    · by_cases q : n ∈ l.map (·.1)
      · rw [if_pos q] at h1
        rw [aPut_keys, aPut_len, if_pos q, if_pos q, if_pos q]
        exact h1
      · rw [if_neg q] at h1
        rw [aPut_keys, aPut_len, if_neg q, if_neg q, if_pos (by simp)]
        exact h1
    · intro x hx
      rcases aPut_mem hx with q | rfl
      · exact h2 x q
      · show (_ ++ [d]).length ≤ B
        rw [List.length_append]
        rw [List.length_cons] at h3
        simp only [List.length_cons, List.length_nil]
        omega
    · rw [aGet_put, if_pos rfl]
      show (_ ++ [d]).length + c.length ≤ B
      rw [List.length_append]
      rw [List.length_cons] at h3
      simp only [List.length_cons, List.length_nil]
      omega
    · rw [aPut_len]
      exact h1
theorem app_go {A : Ads} {s : Sto} {n : Str} {c : List Int} (S : StAt CS α A s) (hl : s.temps.length < 1000) (hc : ((aGet n s.temps).getD []).length + c.length ≤ 5000) (hB : ∀ x ∈ s.temps, x.2.length ≤ 5000) (hX : s.mo ≠ none → ∀ α' w j, j < c.length → StAt CS α' A { s with temps := apT n (c.take j) s.temps, wr := w } → Oth A α α' → E ⟨CP, [(.str "place", .int w)]⟩ α') (h : ∀ α' w, StAt CS α' A { s with temps := apT n c s.temps, wr := w } → Oth A α α' → Q .none α') : f_Store_append_temp CL CE CS CF CP CI gX [dref A.p, .str n, ctD c] α Q E := by
  unfold f_Store_append_temp m_Store_append_temp
  refine w_runP rfl ?_
  sizeOf_list_dec
  (repeat' array_get_dec)
  refine tlG_l ?_
  refine for_map (xs := c) (u := .int) rfl (fun k ρ α' => ∃ w x, ρ = [some (dref A.p), some (.str n), some (ctD c), x] ∧ StAt CS α' A { s with temps := apT n (c.take k) s.temps, wr := w } ∧ Oth A α α') ⟨s.wr, none, rfl, S, Oth.refl⟩ ?_ ?_
  · rintro ρ α' ⟨w, x, rfl, S', O'⟩
    rw [List.take_length] at S'
    (repeat' array_get_dec)
    rw [arst_oth S S' O']
    exact h _ _ S' O'
  · rintro k hk ρ α' ⟨w, x, rfl, S', O'⟩ X hXX
    have hB' := apT_ok (n := n) (N := 1001) (B := 5000) (c := c.take k) S.nt (by split <;> omega) hB (by rw [List.length_take]; omega) (by omega)
    sizeOf_list_dec
    (repeat' array_get_dec)
    refine meth_st S' rfl rfl ?_
    (repeat' array_get_dec)
    refine wnow_go S' (fun m e _ => ?_) fun _ α1 S1 O1 => ?_
    · (repeat' array_get_dec)
      rw [arst_oth S S' O']
      exact hX (fun z => by rw [show s.mo = some m from e] at z; cases z) _ w k hk S' O'
    have ht : α1 A.t = some (.dict (tD ctD (apT n (c.take k) s.temps))) := S1.t
    have hg := apT_get (n := n) (c := c.take k) (l := s.temps)
    have S2 := S1.sett (aPut n ((aGet n (apT n (c.take k) s.temps)).getD [] ++ [c[k]]) (apT n (c.take k) s.temps)) (aPut_nodup hB'.1)
    rw [← apT_app, List.take_append_getElem hk] at S2
    (repeat' array_get_dec)
    (refine bar_of ?_; sizeOf_list_dec; (repeat' array_get_dec))
    rw [look_s]
    have e1 : (Option.map ctD (aGet n (apT n (c.take k) s.temps))).getD (.list []) = .list (((aGet n (apT n (c.take k) s.temps)).getD []).map .int) := by
      cases aGet n (apT n (c.take k) s.temps) <;> rfl
    rw [e1]
    refine ⟨_, rfl, _, rfl, ?_⟩
    refine oq_add_l (by rw [List.length_map, hg, List.length_append, List.length_take]; simp only [List.length_cons, List.length_nil]; omega) ?_
    (repeat' array_get_dec)
    refine ⟨by rw [tD_len]; omega, ?_⟩
    have e2 : putP (.str n) (.list (((aGet n (apT n (c.take k) s.temps)).getD []).map .int ++ [.int c[k]])) (tD ctD (apT n (c.take k) s.temps)) = tD ctD (apT n (c.take (k + 1)) s.temps) := by
      rw [← List.take_append_getElem hk, apT_app, ← tD_put ctD n _ hB'.1]
      show _ = putP (.str n) (.list (List.map .int _)) _
      rw [List.map_append]
      rfl
    (repeat' array_get_dec)
    rw [e2]
    exact hXX _ _ ⟨_, _, rfl, S2, O'.trans (O1.trans (Oth.set in_t))⟩
end K26
namespace K26
open PySem L2 Hz
local macro_rules | `(tactic| array_mem_dec) => `(tactic| (first | ((with_reducible apply fd_cons); exact trivial) | ((with_reducible apply fd_nil); exact trivial) | ((with_reducible apply oq_isiB (b := true)); exact rfl) | ((with_reducible apply oq_isiB (b := false)); exact rfl) | ((with_reducible apply w_xi); exact rfl; exact decide_eq_true rfl; exact if_pos rfl) | ((with_reducible apply w_xf); exact rfl; exact decide_eq_true rfl; exact rfl) | ((with_reducible apply w_frzS); exact rfl; (first | assumption | exact aset_same); (try simp only [List.set])) | ((with_reducible apply rg1_of); (first | omega | decide)) | ((with_reducible apply rg2_of); (first | omega | decide)) | ((with_reducible apply lok); exact rfl) | ((with_reducible refine it2_dec ?_ ?_) <;> intro)))
local macro_rules | `(tactic| array_mem_dec) => `(tactic| (first | ((with_reducible apply dc_c); (first | assumption | exact aset_same); (first | exact rfl | exact tD_real _ _)) | ((with_reducible apply cdi_of); (first | assumption | exact aset_same); (first | exact rfl | exact tD_real _ _)) | ((with_reducible apply dc_d); (first | exact rfl | exact tD_real _ _)) | ((with_reducible apply dc_f); (first | exact rfl | exact tD_real _ _)) | ((with_reducible apply lk_of); exact rfl) | ((with_reducible apply oq_setv2); (simp only [List.set, wipeA]; exact rfl)) | ((with_reducible apply cal_of); exact rfl; (try simp only [List.cons_append, List.nil_append, List.append_nil])) | ((with_reducible apply w_aug); exact rfl) | ((with_reducible apply cel_of); (first | assumption | exact aset_same)) | ((with_reducible apply ceo_of); (first | assumption | exact aset_same)) | ((with_reducible apply tlG_r); (first | assumption | exact aset_same)) | ((with_reducible apply fr_of); (first | assumption | exact aset_same))))
local macro_rules | `(tactic| array_mem_dec) => `(tactic| (with_reducible first | refine pr2_of ?_ | refine fl_f ?_ | refine fl_t ?_ | refine fl_o ?_ | refine fl_r ?_ | refine fl_n ?_ | refine fl_w ?_ | refine fl_m ?_ | refine ctD_list ?_ | refine ctD_tup ?_ | refine vw_ct ?_ | refine w_dget ?_ | refine w_dget1 ?_ | refine w_dget2 ?_ | refine w_din ?_ | refine w_dnotin ?_ | refine w_dpop1 ?_ | refine w_dpop2 ?_ | refine w_dput ?_ | refine w_daug ?_ | refine w_lenD ?_ | refine w_dnew ?_ | refine w_fz ?_ | refine w_listD ?_ | refine w_dictD ?_ | refine w_dictP ?_ | refine w_sortD ?_ | refine w_isiC ?_))
local macro_rules | `(tactic| array_mem_dec) => `(tactic| (with_reducible first | refine tb_b ?_ | refine ti_b ?_ | refine ts_b ?_ | refine we_nx ?_ | refine we_rt ?_ | refine we_ex ?_ | refine wn_nx ?_ | refine wn_rt ?_ | refine wn_bk ?_ | refine wn_ct ?_ | refine wn_ex ?_ | refine wl_nx ?_ | refine wl_rt ?_ | refine wl_bk ?_ | refine wl_ct ?_ | refine wl_ex ?_ | refine wx_nx ?_ | refine wx_rt ?_ | refine wx_bk ?_ | refine wx_ct ?_ | refine wx_ex ?_ | refine wh_nx ?_ | refine wh_rt ?_ | refine wh_bk ?_ | refine wh_ct ?_ | refine it2_t ?_ | refine it2_f ?_ | refine it2_not ?_ | refine tlG_l ?_ | refine ttG_t ?_))
local macro_rules | `(tactic| array_mem_dec) => `(tactic| ((with_reducible refine oq_id ?_); (first | (with_reducible first | refine vw_i ?_ | refine vw_s ?_ | refine vw_b ?_ | refine vw_n ?_ | refine vw_l ?_ | refine vw_t ?_ | refine vw_sc ?_ | refine vw_o ?_ | refine mv_nil ?_ | refine mv_cons ?_ | refine oq_tgNil ?_ | refine oq_tgCons ?_ | refine oq_add_i ?_ | refine oq_sub ?_ | refine oq_lt ?_ | refine oq_le ?_ | refine oq_gt ?_ | refine oq_ge ?_ | refine oq_eq_i ?_ | refine oq_ne_i ?_ | refine oq_eq_s ?_ | refine oq_ne_s ?_ | refine oq_eq_b ?_ | refine oq_ne_b ?_ | refine oq_is ?_ | refine oq_isNot ?_ | refine oq_in_s ?_ | refine oq_notIn_s ?_ | refine oq_len_l ?_ | refine oq_len_t ?_ | refine oq_int ?_ | refine oq_abs ?_ | refine oq_ord ?_ | refine oq_cut_l ?_ | refine oq_cut_t ?_ | refine oq_list_l ?_ | refine oq_list_t ?_ | refine oq_tuple_l ?_ | refine oq_tuple_t ?_ | refine oq_max2 ?_ | refine oq_min2 ?_ | refine oq_some ?_ | refine oq_len_sc ?_ | refine oq_eq_il ?_ | refine oq_ne_il ?_ | refine oq_eq_it ?_ | refine oq_ne_it ?_ | refine oq_lt_il ?_ | refine oq_lt_it ?_ | refine oq_iadd_i ?_ | refine oq_isT ?_ | refine oq_isNotT ?_) | (first | ((with_reducible apply vw_st); assumption) | ((with_reducible apply oq_tgTup); exact rfl) | ((with_reducible apply oq_ix_lk); exact rfl) | ((with_reducible apply oq_ix_tk); exact rfl) | ((with_reducible apply vw_r); (first | assumption | exact aset_same)) | ((with_reducible apply oq_ixN_k); exact rfl; (try simp only [List.set, Int.reduceToNat])) | ((with_reducible apply oq_mod); (first | omega | decide)) | ((with_reducible apply oq_div); (first | omega | decide)) | ((with_reducible apply oq_mul); (first | omega | decide)) | ((with_reducible apply oq_pow); (first | omega | decide)) | ((with_reducible apply oq_shl); (first | omega | decide)) | ((with_reducible apply oq_shr); (first | omega | decide))) | (first | ((with_reducible apply oq_add_s); (first | omega | decide)) | ((with_reducible apply oq_len_s); (first | omega | decide)) | ((with_reducible apply oq_cut_s); (first | omega | decide)) | ((with_reducible apply oq_append); (first | omega | decide)) | ((with_reducible apply oq_insert); (first | omega | decide)) | ((with_reducible apply oq_rep); (first | omega | decide)) | ((with_reducible apply oq_cat); (first | omega | decide))))))
local macro_rules | `(tactic| array_mem_dec) => `(tactic| (with_reducible first | refine w_list ?_ | refine w_tuple ?_ | refine w_str ?_ | refine w_range1 ?_ | refine w_range2 ?_ | refine w_range3 ?_ | refine w_next ?_ | refine w_break ?_ | refine w_cont ?_ | refine w_drop ?_ | refine w_ret ?_ | refine w_retN ?_ | refine w_if ?_ | refine w_asg ?_ | refine w_raise ?_ | refine w_fld ?_ | refine w_seta ?_ | refine w_auga ?_ | refine w_seti ?_ | refine w_mut ?_ | refine w_frz ?_ | refine w_new ?_ | refine w_ext ?_ | refine w_for ?_ | refine w_lc ?_ | refine w_tryA ?_ | refine w_try ?_ | refine w_par ?_))
local macro_rules | `(tactic| array_mem_dec) => `(tactic| (first | ((with_reducible apply w_kV); exact rfl) | (with_reducible first | refine w_kC ?_ | refine w_bop ?_ | refine w_tst ?_ | refine w_val ?_ | refine w_and ?_ | refine w_or ?_ | refine w_not ?_ | refine w_andV ?_ | refine w_orV ?_ | refine w_chain ?_ | refine w_ifK ?_ | refine w_nil ?_ | refine w_cons ?_ | refine w_tup ?_ | refine w_lst ?_ | refine w_call ?_ | refine w_neg ?_ | refine w_b1 ?_ | refine w_bn ?_ | refine w_isi ?_ | refine w_met ?_ | refine w_pnone ?_ | refine w_psome ?_ | refine w_cut ?_ | refine w_yes ?_)))
local macro_rules | `(tactic| array_get_dec) => `(tactic| (with_reducible refine w_seqB ?_))
local macro_rules | `(tactic| array_get_dec) => `(tactic| array_mem_dec)
local macro_rules | `(tactic| decreasing_trivial_pre_omega) => `(tactic| (with_reducible refine w_seq ?_))
local macro_rules | `(tactic| decreasing_trivial_pre_omega) => `(tactic| array_mem_dec)
local macro_rules | `(tactic| sizeOf_list_dec) => `(tactic| (try simp only [List.set, Int.reduceToNat, List.map_cons, List.map_nil, Nat.reduceSub, List.reduceReplicate, List.cons_append, List.nil_append, wipeA, aset_aset, List.getElem?_cons_zero, List.getElem?_cons_succ]))
variable {CL CE CS CF CP CI gX : Nat} {α : AH} {Q : QD} {E : QX}
/-- an entry -/
def enD (CE : Nat) (n v h m d t b : D) : D := oD CE [(.str "name", n), (.str "vector", v), (.str "height", h), (.str "maker", m), (.str "deleted", d), (.str "time", t), (.str "blocks", b)]
theorem en_go {p : Addr} {n v h m d t b : D} (hp : α p = some (oD CE [])) (q : Q .none (aset α p (enD CE n v h m d t b))) : f_Entry_init CL CE CS CF CP CI gX [dref p, n, v, h, m, d, t, b] α Q E := by
  unfold f_Entry_init m_Entry_init
  refine w_runF rfl ?_
  sizeOf_list_dec
  (repeat' decreasing_trivial_pre_omega)
  refine ⟨by show (0 : Nat) < 900; decide, ?_⟩
  (repeat' decreasing_trivial_pre_omega)
  refine ⟨by show (1 : Nat) < 900; decide, ?_⟩
  (repeat' decreasing_trivial_pre_omega)
  refine ⟨by show (2 : Nat) < 900; decide, ?_⟩
  (repeat' decreasing_trivial_pre_omega)
  refine ⟨by show (3 : Nat) < 900; decide, ?_⟩
  (repeat' decreasing_trivial_pre_omega)
  refine ⟨by show (4 : Nat) < 900; decide, ?_⟩
  (repeat' decreasing_trivial_pre_omega)
  refine ⟨by show (5 : Nat) < 900; decide, ?_⟩
  (repeat' decreasing_trivial_pre_omega)
  refine ⟨by show (6 : Nat) < 900; decide, ?_⟩
  (repeat' decreasing_trivial_pre_omega)
  simp only [aset_aset]
  exact q
theorem aset_none {a b : Addr} {c : D} (h : aset α a c b = none) : b ≠ a ∧ α b = none := by
  by_cases e : b = a
  · rw [e, aset_same] at h
    cases h
  · rw [aset_ne e] at h
    exact ⟨e, h⟩
theorem aGet_nodup {β : Type} {k : Str} {v : β} : ∀ {l : List (Str × β)}, (l.map (·.1)).Nodup → (k, v) ∈ l → aGet k l = some v
  | (j, c) :: r, h, hm => by
    rw [List.map_cons, List.nodup_cons] at h
    rcases List.mem_cons.mp hm with e | e
    · cases e
      rw [aGet, if_pos rfl]
    · rw [aGet, if_neg, aGet_nodup h.2 e]
      intro e2
      exact h.1 (by rw [e2]; exact List.mem_map_of_mem (f := fun x : Str × β => x.1) (a := (k, v)) e)
theorem st_go {p : Addr} {l0 : List (Str × (List Int × Int))} {g : Addr} (hp : α p = some (oD CS [])) (hg : α g = some (.dict (tD flU l0))) (hgp : g ≠ p) (nd : (l0.map (·.1)).Nodup) (hl : l0.length ≤ 100) (q : ∀ α' A, A.p = p → StAt CS α' A ⟨l0, [], [], [], [], 0, none⟩ → Oth A α α' → (∀ a ∈ A.all, a ≠ p → α a = none) → Q .none α') : f_Store_init CL CE CS CF CP CI gX [dref p, dref g, .list []] α Q E := by
  unfold f_Store_init m_Store_init
  refine w_runF rfl ?_
  sizeOf_list_dec
  (repeat' array_get_dec)
  intro f hf
  have nf : p ≠ f := fun e => by rw [e, hf] at hp; cases hp
  (repeat' array_get_dec)
  refine ceo_of (by rw [aset_ne nf]; exact hp) ?_
  refine ⟨by show (0 : Nat) < 900; decide, ?_⟩
  (repeat' array_get_dec)
  (refine bar_of ?_; sizeOf_list_dec; (repeat' array_get_dec))
  have gf : g ≠ f := fun e => by rw [e, hf] at hg; cases hg
  refine w_lockS (p := g) (ds := tD flU l0) (by rw [aset_ne hgp, aset_ne gf]; exact hg) (tD_real _ _) ?_
  refine w_for (w_keysL (w_kV rfl (kl_of aset_same (tD_real _ _) ?_)))
  rw [tD_keys]
  refine for_mapG (xs := l0) (u := fun x => .str x.1) (by rw [List.map_map]; rfl) (fun k ρ α' => ∃ x3 x4 x5, ρ = [some (dref p), some (dref g), some (.list []), x3, x4, x5] ∧ α' = aset (aset (aset α f (.dict (tD flU (l0.take k)))) p (oD CS [(.str "files", dref f)])) g (fzD (tD flU l0))) ⟨none, none, none, rfl, rfl⟩ ?_ ?_ ?_
  · rintro k ρ _ ⟨x3, x4, x5, rfl, rfl⟩
    exact aset_same
  rotate_left
  · rintro k hk ρ _ ⟨x3, x4, x5, rfl, rfl⟩ X hX
    have hta := List.take_append_getElem hk
    have hgm : aGet l0[k].1 l0 = some l0[k].2 := aGet_nodup nd (List.getElem_mem hk)
    have hfc : (aset (aset (aset α f (.dict (tD flU (l0.take k)))) p (oD CS [(.str "files", dref f)])) g (fzD (tD flU l0))) f = some (.dict (tD flU (l0.take k))) := by rw [aset_ne (Ne.symm gf), aset_ne (Ne.symm nf), aset_same]
    have hpc : (aset (aset (aset α f (.dict (tD flU (l0.take k)))) p (oD CS [(.str "files", dref f)])) g (fzD (tD flU l0))) p = some (oD CS [(.str "files", dref f)]) := by rw [aset_ne (Ne.symm hgp), aset_same]
    have hgc : (aset (aset (aset α f (.dict (tD flU (l0.take k)))) p (oD CS [(.str "files", dref f)])) g (fzD (tD flU l0))) g = some (fzD (tD flU l0)) := aset_same
    have hfl : ∀ R : D → Prop, R (dref f) → oq (fldD CS "files" (oD CS [(.str "files", dref f)])) R := fun R h => ⟨_, by
      show (if Int.ofNat CS = Int.ofNat CS then _ else _) = _
      rw [if_pos rfl]
      rfl, h⟩
    have hnd : (((l0.take k) ++ [l0[k]]).map (·.1)).Nodup := by
      rw [hta]
      exact List.Nodup.sublist ((List.take_sublist _ _).map _) nd
    generalize l0[k] = e at *
    obtain ⟨n, c, t⟩ := e
    sizeOf_list_dec
    (repeat' array_get_dec)
    refine dc_l hgc (tD_real _ _) ?_
    (repeat' array_get_dec)
    rw [look_s, hgm]
    (try simp only [Option.map_none, Option.map_some, Option.isSome_none, Option.isSome_some, Bool.not_true, Bool.not_false, Option.getD_some, Option.getD_none])
    simp only [flU]
    (repeat' array_get_dec)
    try refine bar_of ?_
    sizeOf_list_dec
    (repeat' array_get_dec)
    refine hfl _ ?_
    (repeat' array_get_dec)
    refine ⟨by rw [tD_len]; have := List.length_take_le k l0; omega, ?_⟩
    (repeat' array_get_dec)
    have hnt : n ∉ (l0.take k).map (·.1) := by
      rw [List.map_append, List.nodup_append] at hnd
      exact fun hm => hnd.2.2 _ hm n (by simp) rfl
    have ep : putP (.str n) (.tuple [ctD c, .int t]) (tD flU (l0.take k)) = tD flU (l0.take (k + 1)) := by
      rw [show putP (.str n) (.tuple [ctD c, .int t]) (tD flU (l0.take k)) = tD flU (aPut n (c, t) (l0.take k)) from tD_put flU n (c, t) (List.Nodup.sublist ((List.take_sublist _ _).map _) nd), aPut_new hnt, hta]
    rw [ep]
    refine hX _ _ ⟨_, _, _, rfl, ?_⟩
    rw [aset_comm gf, aset_comm nf, aset_aset]
  rintro ρ _ ⟨x3, x4, x5, rfl, rfl⟩
  refine wk_nx aset_same ?_
  rw [aset_aset, aset_id (a := g) (by rw [aset_ne hgp, aset_ne gf]; exact hg)]
  rw [List.take_length]
  (refine bar_of ?_; sizeOf_list_dec; (repeat' array_get_dec))
  (repeat' array_get_dec)
  intro t ht
  have ⟨t1, t2⟩ := aset_none ht
  (repeat' array_get_dec)
  refine ceo_of (by rw [aset_ne (Ne.symm t1), aset_same]) ?_
  refine ⟨by show (1 : Nat) < 900; decide, ?_⟩
  (repeat' array_get_dec)
  try refine bar_of ?_
  sizeOf_list_dec
  (repeat' array_get_dec)
  intro o ho
  have ⟨o1, o2⟩ := aset_none ho
  (repeat' array_get_dec)
  refine ceo_of (by rw [aset_ne (Ne.symm o1), aset_same]) ?_
  refine ⟨by show (2 : Nat) < 900; decide, ?_⟩
  (repeat' array_get_dec)
  try refine bar_of ?_
  sizeOf_list_dec
  (repeat' array_get_dec)
  intro r hr
  have ⟨r1, r2⟩ := aset_none hr
  (repeat' array_get_dec)
  refine ceo_of (by rw [aset_ne (Ne.symm r1), aset_same]) ?_
  refine ⟨by show (3 : Nat) < 900; decide, ?_⟩
  (repeat' array_get_dec)
  try refine bar_of ?_
  sizeOf_list_dec
  (repeat' array_get_dec)
  intro n hn
  have ⟨n1, n2⟩ := aset_none hn
  (repeat' array_get_dec)
  refine ceo_of (by rw [aset_ne (Ne.symm n1), aset_same]) ?_
  refine ⟨by show (4 : Nat) < 900; decide, ?_⟩
  (repeat' array_get_dec)
  try refine bar_of ?_
  sizeOf_list_dec
  (repeat' array_get_dec)
  refine ⟨by show (5 : Nat) < 900; decide, ?_⟩
  (repeat' array_get_dec)
  try refine bar_of ?_
  sizeOf_list_dec
  (repeat' array_get_dec)
  refine ⟨by show (6 : Nat) < 900; decide, ?_⟩
  (repeat' array_get_dec)
  have ⟨t3, t4⟩ := aset_none t2
  have ⟨o3, o4⟩ := aset_none o2
  have ⟨_, o5⟩ := aset_none o4
  have ⟨o6, o7⟩ := aset_none o5
  have ⟨r3, r4⟩ := aset_none r2
  have ⟨_, r5⟩ := aset_none r4
  have ⟨r6, r7⟩ := aset_none r5
  have ⟨_, r8⟩ := aset_none r7
  have ⟨r9, r10⟩ := aset_none r8
  have ⟨n3, n4⟩ := aset_none n2
  have ⟨_, n5⟩ := aset_none n4
  have ⟨n6, n7⟩ := aset_none n5
  have ⟨_, n8⟩ := aset_none n7
  have ⟨n9, n10⟩ := aset_none n8
  have ⟨_, n11⟩ := aset_none n10
  have ⟨n12, n13⟩ := aset_none n11
  have d1 := Ne.symm nf
  have d2 := Ne.symm t1
  have d3 := Ne.symm t3
  have d4 := Ne.symm o1
  have d5 := Ne.symm o3
  have d6 := Ne.symm o6
  have d7 := Ne.symm r1
  have d8 := Ne.symm r3
  have d9 := Ne.symm r6
  have d10 := Ne.symm r9
  have d11 := Ne.symm n1
  have d12 := Ne.symm n3
  have d13 := Ne.symm n6
  have d14 := Ne.symm n9
  have d15 := Ne.symm n12
  refine q _ ⟨p, f, t, o, r, n⟩ rfl ⟨?_, ?_, ?_, ?_, ?_, ?_, ?_, nd, List.nodup_nil⟩ ?_ ?_
  · exact aset_same
  · simp only [aset_ne, aset_same, ne_eq, not_false_eq_true, *]
  · simp only [aset_ne, aset_same, ne_eq, not_false_eq_true, *]
    rfl
  · simp only [aset_ne, aset_same, ne_eq, not_false_eq_true, *]
    rfl
  · simp only [aset_ne, aset_same, ne_eq, not_false_eq_true, *]
    rfl
  · simp only [aset_ne, aset_same, ne_eq, not_false_eq_true, *]
    rfl
  · unfold Ads.all
    simp only [List.nodup_cons, List.mem_cons, List.not_mem_nil, or_false, not_or, List.nodup_nil, and_true, not_false_eq_true]
    exact ⟨⟨nf, d2, d4, d7, d11⟩, ⟨d3, d6, d10, d15⟩, ⟨d5, d9, d14⟩, ⟨d8, d13⟩, d12⟩
  · intro a ha
    unfold Ads.all at ha
    simp only [List.mem_cons, List.not_mem_nil, or_false, not_or] at ha
    obtain ⟨a1, a2, a3, a4, a5, a6⟩ := ha
    simp only [aset_ne a1, aset_ne a6, aset_ne a5, aset_ne a4, aset_ne a3, aset_ne a2]
  · intro a ha hne
    unfold Ads.all at ha
    simp only [List.mem_cons, List.not_mem_nil, or_false] at ha
    rcases ha with rfl | rfl | rfl | rfl | rfl | rfl
    · exact absurd rfl hne
    · exact hf
    · exact t4
    · exact o7
    · exact r10
    · exact n13
theorem st_goT {p : Addr} {l0 : List (Str × (List Int × Int))} {g : Addr} (hp : α p = some (oD CS [])) (hg : α g = some (.dict (tD flU l0))) (hgp : g ≠ p) (nd : (l0.map (·.1)).Nodup) (hl : l0.length ≤ 100) (q : ∀ α' A, A.p = p → StAt CS α' A ⟨l0, [], [], [], [], 0, none⟩ → Oth A α α' → (∀ a ∈ A.all, a ≠ p → α a = none) → Q .none α') : f_Store_init CL CE CS CF CP CI gX [dref p, dref g, .tuple []] α Q E := by
  unfold f_Store_init m_Store_init
  refine w_runF rfl ?_
  sizeOf_list_dec
  (repeat' array_get_dec)
  intro f hf
  have nf : p ≠ f := fun e => by rw [e, hf] at hp; cases hp
  (repeat' array_get_dec)
  refine ceo_of (by rw [aset_ne nf]; exact hp) ?_
  refine ⟨by show (0 : Nat) < 900; decide, ?_⟩
  (repeat' array_get_dec)
  (refine bar_of ?_; sizeOf_list_dec; (repeat' array_get_dec))
  have gf : g ≠ f := fun e => by rw [e, hf] at hg; cases hg
  refine w_lockS (p := g) (ds := tD flU l0) (by rw [aset_ne hgp, aset_ne gf]; exact hg) (tD_real _ _) ?_
  refine w_for (w_keysL (w_kV rfl (kl_of aset_same (tD_real _ _) ?_)))
  rw [tD_keys]
  refine for_mapG (xs := l0) (u := fun x => .str x.1) (by rw [List.map_map]; rfl) (fun k ρ α' => ∃ x3 x4 x5, ρ = [some (dref p), some (dref g), some (.tuple []), x3, x4, x5] ∧ α' = aset (aset (aset α f (.dict (tD flU (l0.take k)))) p (oD CS [(.str "files", dref f)])) g (fzD (tD flU l0))) ⟨none, none, none, rfl, rfl⟩ ?_ ?_ ?_
  · rintro k ρ _ ⟨x3, x4, x5, rfl, rfl⟩
    exact aset_same
  rotate_left
  · rintro k hk ρ _ ⟨x3, x4, x5, rfl, rfl⟩ X hX
    have hta := List.take_append_getElem hk
    have hgm : aGet l0[k].1 l0 = some l0[k].2 := aGet_nodup nd (List.getElem_mem hk)
    have hfc : (aset (aset (aset α f (.dict (tD flU (l0.take k)))) p (oD CS [(.str "files", dref f)])) g (fzD (tD flU l0))) f = some (.dict (tD flU (l0.take k))) := by rw [aset_ne (Ne.symm gf), aset_ne (Ne.symm nf), aset_same]
    have hpc : (aset (aset (aset α f (.dict (tD flU (l0.take k)))) p (oD CS [(.str "files", dref f)])) g (fzD (tD flU l0))) p = some (oD CS [(.str "files", dref f)]) := by rw [aset_ne (Ne.symm hgp), aset_same]
    have hgc : (aset (aset (aset α f (.dict (tD flU (l0.take k)))) p (oD CS [(.str "files", dref f)])) g (fzD (tD flU l0))) g = some (fzD (tD flU l0)) := aset_same
    have hfl : ∀ R : D → Prop, R (dref f) → oq (fldD CS "files" (oD CS [(.str "files", dref f)])) R := fun R h => ⟨_, by
      show (if Int.ofNat CS = Int.ofNat CS then _ else _) = _
      rw [if_pos rfl]
      rfl, h⟩
    have hnd : (((l0.take k) ++ [l0[k]]).map (·.1)).Nodup := by
      rw [hta]
      exact List.Nodup.sublist ((List.take_sublist _ _).map _) nd
    generalize l0[k] = e at *
    obtain ⟨n, c, t⟩ := e
    sizeOf_list_dec
    (repeat' array_get_dec)
    refine dc_l hgc (tD_real _ _) ?_
    (repeat' array_get_dec)
    rw [look_s, hgm]
    (try simp only [Option.map_none, Option.map_some, Option.isSome_none, Option.isSome_some, Bool.not_true, Bool.not_false, Option.getD_some, Option.getD_none])
    simp only [flU]
    (repeat' array_get_dec)
    try refine bar_of ?_
    sizeOf_list_dec
    (repeat' array_get_dec)
    refine hfl _ ?_
    (repeat' array_get_dec)
    refine ⟨by rw [tD_len]; have := List.length_take_le k l0; omega, ?_⟩
    (repeat' array_get_dec)
    have hnt : n ∉ (l0.take k).map (·.1) := by
      rw [List.map_append, List.nodup_append] at hnd
      exact fun hm => hnd.2.2 _ hm n (by simp) rfl
    have ep : putP (.str n) (.tuple [ctD c, .int t]) (tD flU (l0.take k)) = tD flU (l0.take (k + 1)) := by
      rw [show putP (.str n) (.tuple [ctD c, .int t]) (tD flU (l0.take k)) = tD flU (aPut n (c, t) (l0.take k)) from tD_put flU n (c, t) (List.Nodup.sublist ((List.take_sublist _ _).map _) nd), aPut_new hnt, hta]
    rw [ep]
    refine hX _ _ ⟨_, _, _, rfl, ?_⟩
    rw [aset_comm gf, aset_comm nf, aset_aset]
  rintro ρ _ ⟨x3, x4, x5, rfl, rfl⟩
  refine wk_nx aset_same ?_
  rw [aset_aset, aset_id (a := g) (by rw [aset_ne hgp, aset_ne gf]; exact hg)]
  rw [List.take_length]
  (refine bar_of ?_; sizeOf_list_dec; (repeat' array_get_dec))
  (repeat' array_get_dec)
  intro t ht
  have ⟨t1, t2⟩ := aset_none ht
  (repeat' array_get_dec)
  refine ceo_of (by rw [aset_ne (Ne.symm t1), aset_same]) ?_
  refine ⟨by show (1 : Nat) < 900; decide, ?_⟩
  (repeat' array_get_dec)
  try refine bar_of ?_
  sizeOf_list_dec
  (repeat' array_get_dec)
  intro o ho
  have ⟨o1, o2⟩ := aset_none ho
  (repeat' array_get_dec)
  refine ceo_of (by rw [aset_ne (Ne.symm o1), aset_same]) ?_
  refine ⟨by show (2 : Nat) < 900; decide, ?_⟩
  (repeat' array_get_dec)
  try refine bar_of ?_
  sizeOf_list_dec
  (repeat' array_get_dec)
  intro r hr
  have ⟨r1, r2⟩ := aset_none hr
  (repeat' array_get_dec)
  refine ceo_of (by rw [aset_ne (Ne.symm r1), aset_same]) ?_
  refine ⟨by show (3 : Nat) < 900; decide, ?_⟩
  (repeat' array_get_dec)
  try refine bar_of ?_
  sizeOf_list_dec
  (repeat' array_get_dec)
  intro n hn
  have ⟨n1, n2⟩ := aset_none hn
  (repeat' array_get_dec)
  refine ceo_of (by rw [aset_ne (Ne.symm n1), aset_same]) ?_
  refine ⟨by show (4 : Nat) < 900; decide, ?_⟩
  (repeat' array_get_dec)
  try refine bar_of ?_
  sizeOf_list_dec
  (repeat' array_get_dec)
  refine ⟨by show (5 : Nat) < 900; decide, ?_⟩
  (repeat' array_get_dec)
  try refine bar_of ?_
  sizeOf_list_dec
  (repeat' array_get_dec)
  refine ⟨by show (6 : Nat) < 900; decide, ?_⟩
  (repeat' array_get_dec)
  have ⟨t3, t4⟩ := aset_none t2
  have ⟨o3, o4⟩ := aset_none o2
  have ⟨_, o5⟩ := aset_none o4
  have ⟨o6, o7⟩ := aset_none o5
  have ⟨r3, r4⟩ := aset_none r2
  have ⟨_, r5⟩ := aset_none r4
  have ⟨r6, r7⟩ := aset_none r5
  have ⟨_, r8⟩ := aset_none r7
  have ⟨r9, r10⟩ := aset_none r8
  have ⟨n3, n4⟩ := aset_none n2
  have ⟨_, n5⟩ := aset_none n4
  have ⟨n6, n7⟩ := aset_none n5
  have ⟨_, n8⟩ := aset_none n7
  have ⟨n9, n10⟩ := aset_none n8
  have ⟨_, n11⟩ := aset_none n10
  have ⟨n12, n13⟩ := aset_none n11
  have d1 := Ne.symm nf
  have d2 := Ne.symm t1
  have d3 := Ne.symm t3
  have d4 := Ne.symm o1
  have d5 := Ne.symm o3
  have d6 := Ne.symm o6
  have d7 := Ne.symm r1
  have d8 := Ne.symm r3
  have d9 := Ne.symm r6
  have d10 := Ne.symm r9
  have d11 := Ne.symm n1
  have d12 := Ne.symm n3
  have d13 := Ne.symm n6
  have d14 := Ne.symm n9
  have d15 := Ne.symm n12
  refine q _ ⟨p, f, t, o, r, n⟩ rfl ⟨?_, ?_, ?_, ?_, ?_, ?_, ?_, nd, List.nodup_nil⟩ ?_ ?_
  · exact aset_same
  · simp only [aset_ne, aset_same, ne_eq, not_false_eq_true, *]
  · simp only [aset_ne, aset_same, ne_eq, not_false_eq_true, *]
    rfl
  · simp only [aset_ne, aset_same, ne_eq, not_false_eq_true, *]
    rfl
  · simp only [aset_ne, aset_same, ne_eq, not_false_eq_true, *]
    rfl
  · simp only [aset_ne, aset_same, ne_eq, not_false_eq_true, *]
    rfl
  · unfold Ads.all
    simp only [List.nodup_cons, List.mem_cons, List.not_mem_nil, or_false, not_or, List.nodup_nil, and_true, not_false_eq_true]
    exact ⟨⟨nf, d2, d4, d7, d11⟩, ⟨d3, d6, d10, d15⟩, ⟨d5, d9, d14⟩, ⟨d8, d13⟩, d12⟩
  · intro a ha
    unfold Ads.all at ha
    simp only [List.mem_cons, List.not_mem_nil, or_false, not_or] at ha
    obtain ⟨a1, a2, a3, a4, a5, a6⟩ := ha
    simp only [aset_ne a1, aset_ne a6, aset_ne a5, aset_ne a4, aset_ne a3, aset_ne a2]
  · intro a ha hne
    unfold Ads.all at ha
    simp only [List.mem_cons, List.not_mem_nil, or_false] at ha
    rcases ha with rfl | rfl | rfl | rfl | rfl | rfl
    · exact absurd rfl hne
    · exact hf
    · exact t4
    · exact o7
    · exact r10
    · exact n13
/-- what stays of a store, told -/
def duF (l : List (Str × (List Int × Int))) (n : Str) : D := .tuple [.str n, .tuple (((aGet n l).getD ([], 0)).1.map .int), .int ((aGet n l).getD ([], 0)).2]
def duT (l : List (Str × List Int)) (n : Str) : D := .tuple [.str n, .tuple (((aGet n l).getD []).map .int)]
def duO (x : Row) : D := .tuple [.str x.1, x.2.1, .tuple (x.2.2.map .int)]
def duD (s : Sto) (fs ts : List Str) : D := .tuple [.tuple (fs.map (duF s.files)), .tuple (ts.map (duT s.temps)), .tuple (s.old.map duO), .tuple (s.recs.map .int), .tuple (s.fresh.map .int)]
theorem dur_go {A : Ads} {s : Sto} (S : StAt CS α A s) (hl : s.files.length < 64 ∧ s.temps.length < 64 ∧ s.old.length ≤ 1000) (h : ∀ fs ts : List Str, fs.Perm (s.files.map (·.1)) → PyProof.Rows.sortedS fs = true → ts.Perm (s.temps.map (·.1)) → PyProof.Rows.sortedS ts = true → Q (duD s fs ts) α) : f_Store_durable CL CE CS CF CP CI gX [dref A.p] α Q E := by
  unfold f_Store_durable m_Store_durable
  refine w_runP rfl ?_
  have hf := S.f
  sizeOf_list_dec
  (repeat' array_get_dec)
  refine meth_st S rfl rfl ?_
  (repeat' array_get_dec)
  refine names_go S hl.1 fun fs f1 f2 => ?_
  sizeOf_list_dec
  (repeat' array_get_dec)
  refine lc_map fs .str (duF s.files) rfl (by rw [f1.length_eq, List.length_map]; omega) trivial (fun n hn => ?_) ?_
  · obtain ⟨c, hc⟩ : ∃ c, aGet n s.files = some c := by
      cases hg : aGet n s.files with
      | none => exact absurd (f1.mem_iff.mp hn) (aGet_none.mp hg)
      | some c => exact ⟨c, rfl⟩
    refine ⟨_, rfl, fun R hR => ?_⟩
    sizeOf_list_dec
    (repeat' decreasing_trivial_pre_omega)
    have e3 : duF s.files n = .tuple [.str n, .tuple (c.1.map .int), .int c.2] := by
      unfold duF
      rw [hc]
      rfl
    rw [e3] at hR
    rw [look_s, hc]
    (try simp only [Option.map_none, Option.map_some, Option.isSome_none, Option.isSome_some, Bool.not_true, Bool.not_false, Option.getD_some, Option.getD_none])
    simp only [flU]
    (repeat' decreasing_trivial_pre_omega)
    rw [look_s, hc]
    (try simp only [Option.map_none, Option.map_some, Option.isSome_none, Option.isSome_some, Bool.not_true, Bool.not_false, Option.getD_some, Option.getD_none])
    simp only [flU]
    (repeat' decreasing_trivial_pre_omega)
    exact hR
  · (repeat' array_get_dec)
    (refine bar_of ?_; sizeOf_list_dec; (repeat' array_get_dec))
    refine meth_st S rfl rfl ?_
    (repeat' array_get_dec)
    refine tnames_go S hl.2.1 fun ts t1 t2 => ?_
    have ht := S.t
    sizeOf_list_dec
    (repeat' array_get_dec)
    refine lc_map ts .str (duT s.temps) rfl (by rw [t1.length_eq, List.length_map]; omega) trivial (fun n hn => ?_) ?_
    · obtain ⟨c, hc⟩ : ∃ c, aGet n s.temps = some c := by
        cases hg : aGet n s.temps with
        | none => exact absurd (t1.mem_iff.mp hn) (aGet_none.mp hg)
        | some c => exact ⟨c, rfl⟩
      refine ⟨_, rfl, fun R hR => ?_⟩
      have e3 : duT s.temps n = .tuple [.str n, .tuple (c.map .int)] := by
        unfold duT
        rw [hc]
        rfl
      rw [e3] at hR
      sizeOf_list_dec
      (repeat' decreasing_trivial_pre_omega)
      rw [look_s, hc]
      (try simp only [Option.map_none, Option.map_some, Option.isSome_none, Option.isSome_some, Bool.not_true, Bool.not_false, Option.getD_some, Option.getD_none])
      (repeat' decreasing_trivial_pre_omega)
      exact hR
    · have ho := S.o
      have hr := S.r
      have hn := S.n
      (repeat' array_get_dec)
      (refine bar_of ?_; sizeOf_list_dec; (repeat' array_get_dec))
      refine lc_map s.old olU duO rfl (by omega) ?_ (fun x hx => ?_) ?_
      · exact ho
      · obtain ⟨n, v, c⟩ := x
        refine oq_tgTup rfl (oq_tgCons (oq_setv (oq_tgCons (oq_setv (oq_tgCons (oq_setv (oq_tgNil ?_)))))))
        intro R hR
        sizeOf_list_dec
        (repeat' decreasing_trivial_pre_omega)
        exact hR
      · (repeat' array_get_dec)
        (refine bar_of ?_; sizeOf_list_dec; (repeat' array_get_dec))
        rw [arst_self]
        exact h fs ts f1 f2 t1 t2
end K26
namespace K26
open PySem L2 Hz
variable {CL CE CS CF CP CI gX : Nat} {α : AH} {Q : QD} {E : QX}
theorem fe_n {n v h m d t b : D} {R : D → Prop} (q : R n) : oq (fldD CE "name" (enD CE n v h m d t b)) R := ⟨_, by
  show (if Int.ofNat CE = Int.ofNat CE then _ else _) = _
  rw [if_pos rfl]
  rfl, q⟩
theorem fe_b {n v h m d t b : D} {R : D → Prop} (q : R b) : oq (fldD CE "blocks" (enD CE n v h m d t b)) R := ⟨_, by
  show (if Int.ofNat CE = Int.ofNat CE then _ else _) = _
  rw [if_pos rfl]
  rfl, q⟩
theorem vw_en {n v h m d t b : D} {R : D → Prop} (q : R (enD CE n v h m d t b)) : oq (vw α (enD CE n v h m d t b)) R := ⟨_, rfl, q⟩
local macro_rules | `(tactic| array_mem_dec) => `(tactic| (first | ((with_reducible apply fd_cons); exact trivial) | ((with_reducible apply fd_nil); exact trivial) | ((with_reducible apply oq_isiB (b := true)); exact rfl) | ((with_reducible apply oq_isiB (b := false)); exact rfl) | ((with_reducible apply w_xi); exact rfl; exact decide_eq_true rfl; exact if_pos rfl) | ((with_reducible apply w_xf); exact rfl; exact decide_eq_true rfl; exact rfl) | ((with_reducible apply w_frzS); exact rfl; (first | assumption | exact aset_same); (try simp only [List.set])) | ((with_reducible apply rg1_of); (first | omega | decide)) | ((with_reducible apply rg2_of); (first | omega | decide)) | ((with_reducible apply lok); exact rfl) | ((with_reducible refine it2_dec ?_ ?_) <;> intro)))
local macro_rules | `(tactic| array_mem_dec) => `(tactic| (first | ((with_reducible apply dc_c); (first | assumption | exact aset_same); (first | exact rfl | exact tD_real _ _)) | ((with_reducible apply cdi_of); (first | assumption | exact aset_same); (first | exact rfl | exact tD_real _ _)) | ((with_reducible apply dc_d); (first | exact rfl | exact tD_real _ _)) | ((with_reducible apply dc_f); (first | exact rfl | exact tD_real _ _)) | ((with_reducible apply lk_of); exact rfl) | ((with_reducible apply oq_setv2); (simp only [List.set, wipeA]; exact rfl)) | ((with_reducible apply cal_of); exact rfl; (try simp only [List.cons_append, List.nil_append, List.append_nil])) | ((with_reducible apply w_aug); exact rfl) | ((with_reducible apply cel_of); (first | assumption | exact aset_same)) | ((with_reducible apply ceo_of); (first | assumption | exact aset_same)) | ((with_reducible apply tlG_r); (first | assumption | exact aset_same)) | ((with_reducible apply fr_of); (first | assumption | exact aset_same))))
local macro_rules | `(tactic| array_mem_dec) => `(tactic| (with_reducible first | refine w_isiC ?_))
local macro_rules | `(tactic| array_mem_dec) => `(tactic| (with_reducible first | refine pr2_of ?_ | refine fl_f ?_ | refine fl_t ?_ | refine fl_o ?_ | refine fl_r ?_ | refine fl_n ?_ | refine fl_w ?_ | refine fl_m ?_ | refine ctD_list ?_ | refine ctD_tup ?_ | refine vw_ct ?_ | refine fe_n ?_ | refine fe_b ?_ | refine vw_en ?_ | refine w_dget ?_ | refine w_dget1 ?_ | refine w_dget2 ?_ | refine w_din ?_ | refine w_dnotin ?_ | refine w_dpop1 ?_ | refine w_dpop2 ?_ | refine w_dput ?_ | refine w_daug ?_ | refine w_lenD ?_ | refine w_dnew ?_ | refine w_fz ?_ | refine w_listD ?_ | refine w_dictD ?_ | refine w_dictP ?_ | refine w_sortD ?_))
local macro_rules | `(tactic| array_mem_dec) => `(tactic| (with_reducible first | refine tb_b ?_ | refine ti_b ?_ | refine ts_b ?_ | refine we_nx ?_ | refine we_rt ?_ | refine we_ex ?_ | refine wn_nx ?_ | refine wn_rt ?_ | refine wn_bk ?_ | refine wn_ct ?_ | refine wn_ex ?_ | refine wl_nx ?_ | refine wl_rt ?_ | refine wl_bk ?_ | refine wl_ct ?_ | refine wl_ex ?_ | refine wx_nx ?_ | refine wx_rt ?_ | refine wx_bk ?_ | refine wx_ct ?_ | refine wx_ex ?_ | refine wh_nx ?_ | refine wh_rt ?_ | refine wh_bk ?_ | refine wh_ct ?_ | refine it2_t ?_ | refine it2_f ?_ | refine it2_not ?_ | refine tlG_l ?_ | refine ttG_t ?_))
local macro_rules | `(tactic| array_mem_dec) => `(tactic| ((with_reducible refine oq_id ?_); (first | (with_reducible first | refine vw_i ?_ | refine vw_s ?_ | refine vw_b ?_ | refine vw_n ?_ | refine vw_l ?_ | refine vw_t ?_ | refine vw_sc ?_ | refine vw_o ?_ | refine mv_nil ?_ | refine mv_cons ?_ | refine oq_tgNil ?_ | refine oq_tgCons ?_ | refine oq_add_i ?_ | refine oq_sub ?_ | refine oq_lt ?_ | refine oq_le ?_ | refine oq_gt ?_ | refine oq_ge ?_ | refine oq_eq_i ?_ | refine oq_ne_i ?_ | refine oq_eq_s ?_ | refine oq_ne_s ?_ | refine oq_eq_b ?_ | refine oq_ne_b ?_ | refine oq_is ?_ | refine oq_isNot ?_ | refine oq_in_s ?_ | refine oq_notIn_s ?_ | refine oq_len_l ?_ | refine oq_len_t ?_ | refine oq_int ?_ | refine oq_abs ?_ | refine oq_ord ?_ | refine oq_cut_l ?_ | refine oq_cut_t ?_ | refine oq_list_l ?_ | refine oq_list_t ?_ | refine oq_tuple_l ?_ | refine oq_tuple_t ?_ | refine oq_max2 ?_ | refine oq_min2 ?_ | refine oq_some ?_ | refine oq_len_sc ?_ | refine oq_eq_il ?_ | refine oq_ne_il ?_ | refine oq_eq_it ?_ | refine oq_ne_it ?_ | refine oq_lt_il ?_ | refine oq_lt_it ?_ | refine oq_iadd_i ?_ | refine oq_isT ?_ | refine oq_isNotT ?_) | (first | ((with_reducible apply vw_st); assumption) | ((with_reducible apply oq_tgTup); exact rfl) | ((with_reducible apply oq_ix_lk); exact rfl) | ((with_reducible apply oq_ix_tk); exact rfl) | ((with_reducible apply vw_r); (first | assumption | exact aset_same)) | ((with_reducible apply oq_ixN_k); exact rfl; (try simp only [List.set, Int.reduceToNat])) | ((with_reducible apply oq_mod); (first | omega | decide)) | ((with_reducible apply oq_div); (first | omega | decide)) | ((with_reducible apply oq_mul); (first | omega | decide)) | ((with_reducible apply oq_pow); (first | omega | decide)) | ((with_reducible apply oq_shl); (first | omega | decide)) | ((with_reducible apply oq_shr); (first | omega | decide))) | (first | ((with_reducible apply oq_add_s); (first | omega | decide)) | ((with_reducible apply oq_len_s); (first | omega | decide)) | ((with_reducible apply oq_cut_s); (first | omega | decide)) | ((with_reducible apply oq_append); (first | omega | decide)) | ((with_reducible apply oq_insert); (first | omega | decide)) | ((with_reducible apply oq_rep); (first | omega | decide)) | ((with_reducible apply oq_cat); (first | omega | decide))))))
local macro_rules | `(tactic| array_mem_dec) => `(tactic| (with_reducible first | refine w_list ?_ | refine w_tuple ?_ | refine w_str ?_ | refine w_range1 ?_ | refine w_range2 ?_ | refine w_range3 ?_ | refine w_next ?_ | refine w_break ?_ | refine w_cont ?_ | refine w_drop ?_ | refine w_ret ?_ | refine w_retN ?_ | refine w_if ?_ | refine w_asg ?_ | refine w_raise ?_ | refine w_fld ?_ | refine w_seta ?_ | refine w_auga ?_ | refine w_seti ?_ | refine w_mut ?_ | refine w_frz ?_ | refine w_new ?_ | refine w_ext ?_ | refine w_for ?_ | refine w_lc ?_ | refine w_tryA ?_ | refine w_try ?_ | refine w_par ?_))
local macro_rules | `(tactic| array_mem_dec) => `(tactic| (first | ((with_reducible apply w_kV); exact rfl) | (with_reducible first | refine w_kC ?_ | refine w_bop ?_ | refine w_tst ?_ | refine w_val ?_ | refine w_and ?_ | refine w_or ?_ | refine w_not ?_ | refine w_andV ?_ | refine w_orV ?_ | refine w_chain ?_ | refine w_ifK ?_ | refine w_nil ?_ | refine w_cons ?_ | refine w_tup ?_ | refine w_lst ?_ | refine w_call ?_ | refine w_neg ?_ | refine w_b1 ?_ | refine w_bn ?_ | refine w_isi ?_ | refine w_met ?_ | refine w_pnone ?_ | refine w_psome ?_ | refine w_cut ?_ | refine w_yes ?_)))
local macro_rules | `(tactic| array_get_dec) => `(tactic| (with_reducible refine w_seqB ?_))
local macro_rules | `(tactic| array_get_dec) => `(tactic| array_mem_dec)
local macro_rules | `(tactic| decreasing_trivial_pre_omega) => `(tactic| (with_reducible refine w_seq ?_))
local macro_rules | `(tactic| decreasing_trivial_pre_omega) => `(tactic| array_mem_dec)
local macro_rules | `(tactic| sizeOf_list_dec) => `(tactic| (try simp only [List.set, Int.reduceToNat, List.map_cons, List.map_nil, Nat.reduceSub, List.reduceReplicate, List.cons_append, List.nil_append, wipeA, aset_aset, List.getElem?_cons_zero, List.getElem?_cons_succ]))
def kb (p : List Int) : Int := val 256 1 p
def bkD (c : List Int) : D := .tuple ((pcs c).map fun p => .int (val 256 1 p))
theorem cut_any (t : List Int) (lo len : Nat) : cutD (t.map PyData.int) (some (lo : Int)) (some ((lo : Int) + (len : Int))) = ((t.drop lo).take len).map .int := by
  unfold cutD
  rw [List.length_map, show ((lo : Int) + (len : Int)) = ((lo + len : Nat) : Int) by omega, HT.sIx_nat, HT.sIx_nat, List.map_take, List.map_drop]
  by_cases h : lo ≤ t.length
  · rw [Nat.min_eq_left h, List.take_eq_take_iff, List.length_drop, List.length_map]
    omega
  · rw [Nat.min_eq_right (by omega), List.drop_eq_nil_of_le (by rw [List.length_map]; omega), List.drop_eq_nil_of_le (by rw [List.length_map]; omega), List.take_nil, List.take_nil]
def mt (t c : List Int) (j : Nat) : Prop := (t.drop (4 * j)).take (ck c j).length = ck c j
instance {t c : List Int} {j : Nat} : Decidable (mt t c j) := by unfold mt; infer_instance
/-- how many of the content's pieces lie ahead in the temp -/
def IsFr (t : Option (List Int)) (c : List Int) (k : Nat) : Prop := match t with
  | none => k = 0
  | some t => k ≤ nk c ∧ (∀ j, j < k → mt t c j) ∧ (k < nk c → ¬ mt t c k)
theorem IsFr.uniq {t : Option (List Int)} {c : List Int} {k j : Nat} (h : IsFr t c k) (g : IsFr t c j) : k = j := by
  unfold IsFr at h g
  cases t with
  | none => exact h.trans g.symm
  | some t =>
    obtain ⟨h1, h2, h3⟩ := h
    obtain ⟨g1, g2, g3⟩ := g
    rcases Nat.lt_trichotomy k j with q | q | q
    · exact absurd (g2 k q) (h3 (by omega))
    · exact q
    · exact absurd (h2 j q) (g3 (by omega))
theorem ck_len {c : List Int} {k : Nat} (h : k < nk c) : 4 * k + (ck c k).length = min (4 * (k + 1)) c.length ∧ 4 * k < c.length := by
  unfold nk at h
  unfold ck
  rw [List.length_take, List.length_drop]
  omega
theorem pcs_len {c : List Int} : (pcs c).length = nk c := by
  unfold pcs
  rw [List.length_map, List.length_range]
theorem len_bk {c : List Int} {R : D → Prop} (q : R (.int (nk c : Nat))) : oq (dLen [bkD c]) R := ⟨_, by
  show (some (PyData.int (((pcs c).map fun p => PyData.int (val 256 1 p)).length : Nat))) = _
  rw [List.length_map, pcs_len], q⟩
theorem vw_bk {c : List Int} {R : D → Prop} (q : R (bkD c)) : oq (vw α (bkD c)) R := ⟨_, rfl, q⟩
theorem ix_bk {c : List Int} {k : Nat} {R : D → Prop} (hk : k < nk c) (q : R (.int (val 256 1 (ck c k)))) : oq (dIx (bkD c) (.int (k : Nat))) R := by
  refine oq_ix_t (by omega) (by rw [List.length_map, pcs_len]; omega) fun z e => ?_
  rw [Int.toNat_natCast] at e
  unfold pcs at e
  rw [List.map_map, List.getElem?_map, List.getElem?_range hk] at e
  cases e
  exact q
local macro_rules | `(tactic| array_mem_dec) => `(tactic| (with_reducible first | refine len_bk ?_ | refine vw_bk ?_))
theorem kept_go {A : Ads} {s : Sto} {n : Str} {v h m d t : D} {c : List Int} (S : StAt CS α A s) (hc : okc c) (q : ∀ k : Nat, IsFr (aGet n s.temps) c k → Q (.int k) α) : f_kept_blocks CL CE CS CF CP CI gX [dref A.p, enD CE (.str n) v h m d t (bkD c)] α Q E := by
  unfold f_kept_blocks m_kept_blocks
  refine w_runP rfl ?_
  sizeOf_list_dec
  (repeat' array_get_dec)
  refine meth_st S rfl rfl ?_
  (repeat' array_get_dec)
  refine temp_go S ?_
  sizeOf_list_dec
  (repeat' array_get_dec)
  (refine bar_of ?_; sizeOf_list_dec; (repeat' array_get_dec))
  cases hg : aGet n s.temps with
  | none =>
    rw [hg] at q
    (refine bar_of ?_; sizeOf_list_dec; (repeat' array_get_dec))
    simp only [isNoneD]
    (repeat' decreasing_trivial_pre_omega)
    (refine bar_of ?_; sizeOf_list_dec; (repeat' array_get_dec))
    rw [arst_self]
    exact q 0 rfl
  | some tt =>
    rw [hg] at q
    (refine bar_of ?_; sizeOf_list_dec; (repeat' array_get_dec))
    simp only [isNoneD, ctD]
    (repeat' array_get_dec)
    try refine bar_of ?_
    sizeOf_list_dec
    (repeat' array_get_dec)
    try refine bar_of ?_
    sizeOf_list_dec
    (repeat' array_get_dec)
    refine w_while (fun mm ρ α' => α = α' ∧ ∃ (k : Nat) (x : Option D), mm = nk c - k ∧ k ≤ nk c ∧ (∀ j, j < k → mt tt c j) ∧ ρ = [some (dref A.p), some (enD CE (.str n) v h m d t (bkD c)), some (.list (tt.map .int)), some (.int (k : Nat)), some (.int (min (4 * k) c.length : Nat)), x]) (nk c) ⟨rfl, 0, none, by omega, by omega, fun _ h => absurd h (by omega), by simp⟩ ?_
    rintro mm ρ _ ⟨rfl, k, x, rfl, hk, hj, rfl⟩ X hX
    have hlp : ((pcs c).map fun p => PyData.int (val 256 1 p)).length = nk c := by rw [List.length_map, pcs_len]
    sizeOf_list_dec
    (repeat' array_get_dec)
    · rename_i hk2
      have hk' : k < nk c := by omega
      have ⟨l1, l2⟩ := ck_len hk'
      rw [show min (4 * k) c.length = 4 * k by omega]
      refine ix_bk hk' ?_
      (repeat' array_get_dec)
      refine bb_go (ck_ok hc hk') ?_
      sizeOf_list_dec
      (repeat' array_get_dec)
      (refine bar_of ?_; sizeOf_list_dec; (repeat' array_get_dec))
      rw [List.length_map, cut_any]
      refine oq_ne_il ?_
      by_cases hm : mt tt c k
      · rw [show ((tt.drop (4 * k)).take (ck c k).length) = ck c k from hm, decide_eq_true rfl]
        (repeat' array_get_dec)
        try refine bar_of ?_
        sizeOf_list_dec
        (repeat' array_get_dec)
        try refine bar_of ?_
        sizeOf_list_dec
        (repeat' array_get_dec)
        rw [List.length_map]
        refine hX _ _ _ ?_ ⟨rfl, k + 1, some (.list ((ck c k).map .int)), rfl, by omega, fun j hj' => ?_, ?_⟩
        · omega
        · by_cases e : j = k
          · rw [e]
            exact hm
          · exact hj j (by omega)
        · rw [← l1]
          rfl
      · rw [decide_eq_false (p := ((tt.drop (4 * k)).take (ck c k).length) = ck c k) hm]
        (repeat' array_get_dec)
        try refine bar_of ?_
        sizeOf_list_dec
        (repeat' array_get_dec)
        rw [arst_self]
        exact q k ⟨hk, hj, fun _ => hm⟩
    · rename_i hk2
      (refine bar_of ?_; sizeOf_list_dec; (repeat' array_get_dec))
      rw [arst_self]
      exact q k ⟨hk, hj, fun h => absurd h (by omega)⟩
end K26
namespace K26
open PySem L2 Hz
local macro_rules | `(tactic| array_mem_dec) => `(tactic| (first | ((with_reducible apply fd_cons); exact trivial) | ((with_reducible apply fd_nil); exact trivial) | ((with_reducible apply oq_isiB (b := true)); exact rfl) | ((with_reducible apply oq_isiB (b := false)); exact rfl) | ((with_reducible apply w_xi); exact rfl; exact decide_eq_true rfl; exact if_pos rfl) | ((with_reducible apply w_xf); exact rfl; exact decide_eq_true rfl; exact rfl) | ((with_reducible apply w_frzS); exact rfl; (first | assumption | exact aset_same); (try simp only [List.set])) | ((with_reducible apply rg1_of); (first | omega | decide)) | ((with_reducible apply rg2_of); (first | omega | decide)) | ((with_reducible apply lok); exact rfl) | ((with_reducible refine it2_dec ?_ ?_) <;> intro)))
local macro_rules | `(tactic| array_mem_dec) => `(tactic| (first | ((with_reducible apply dc_c); (first | assumption | exact aset_same); (first | exact rfl | exact tD_real _ _)) | ((with_reducible apply cdi_of); (first | assumption | exact aset_same); (first | exact rfl | exact tD_real _ _)) | ((with_reducible apply dc_d); (first | exact rfl | exact tD_real _ _)) | ((with_reducible apply dc_f); (first | exact rfl | exact tD_real _ _)) | ((with_reducible apply lk_of); exact rfl) | ((with_reducible apply oq_setv2); (simp only [List.set, wipeA]; exact rfl)) | ((with_reducible apply cal_of); exact rfl; (try simp only [List.cons_append, List.nil_append, List.append_nil])) | ((with_reducible apply w_aug); exact rfl) | ((with_reducible apply cel_of); (first | assumption | exact aset_same)) | ((with_reducible apply ceo_of); (first | assumption | exact aset_same)) | ((with_reducible apply tlG_r); (first | assumption | exact aset_same)) | ((with_reducible apply fr_of); (first | assumption | exact aset_same))))
local macro_rules | `(tactic| array_mem_dec) => `(tactic| (with_reducible first | refine w_dictP ?_ | refine w_sortD ?_ | refine w_isiC ?_))
local macro_rules | `(tactic| array_mem_dec) => `(tactic| (with_reducible first | refine pr2_of ?_ | refine fl_f ?_ | refine fl_t ?_ | refine fl_o ?_ | refine fl_r ?_ | refine fl_n ?_ | refine fl_w ?_ | refine fl_m ?_ | refine ctD_list ?_ | refine ctD_tup ?_ | refine vw_ct ?_ | refine fe_n ?_ | refine fe_b ?_ | refine vw_en ?_ | refine len_bk ?_ | refine vw_bk ?_ | refine w_dget ?_ | refine w_dget1 ?_ | refine w_dget2 ?_ | refine w_din ?_ | refine w_dnotin ?_ | refine w_dpop1 ?_ | refine w_dpop2 ?_ | refine w_dput ?_ | refine w_daug ?_ | refine w_lenD ?_ | refine w_dnew ?_ | refine w_fz ?_ | refine w_listD ?_ | refine w_dictD ?_))
local macro_rules | `(tactic| array_mem_dec) => `(tactic| (with_reducible first | refine tb_b ?_ | refine ti_b ?_ | refine ts_b ?_ | refine we_nx ?_ | refine we_rt ?_ | refine we_ex ?_ | refine wn_nx ?_ | refine wn_rt ?_ | refine wn_bk ?_ | refine wn_ct ?_ | refine wn_ex ?_ | refine wl_nx ?_ | refine wl_rt ?_ | refine wl_bk ?_ | refine wl_ct ?_ | refine wl_ex ?_ | refine wx_nx ?_ | refine wx_rt ?_ | refine wx_bk ?_ | refine wx_ct ?_ | refine wx_ex ?_ | refine wh_nx ?_ | refine wh_rt ?_ | refine wh_bk ?_ | refine wh_ct ?_ | refine it2_t ?_ | refine it2_f ?_ | refine it2_not ?_ | refine tlG_l ?_ | refine ttG_t ?_))
local macro_rules | `(tactic| array_mem_dec) => `(tactic| ((with_reducible refine oq_id ?_); (first | (with_reducible first | refine vw_i ?_ | refine vw_s ?_ | refine vw_b ?_ | refine vw_n ?_ | refine vw_l ?_ | refine vw_t ?_ | refine vw_sc ?_ | refine vw_o ?_ | refine mv_nil ?_ | refine mv_cons ?_ | refine oq_tgNil ?_ | refine oq_tgCons ?_ | refine oq_add_i ?_ | refine oq_sub ?_ | refine oq_lt ?_ | refine oq_le ?_ | refine oq_gt ?_ | refine oq_ge ?_ | refine oq_eq_i ?_ | refine oq_ne_i ?_ | refine oq_eq_s ?_ | refine oq_ne_s ?_ | refine oq_eq_b ?_ | refine oq_ne_b ?_ | refine oq_is ?_ | refine oq_isNot ?_ | refine oq_in_s ?_ | refine oq_notIn_s ?_ | refine oq_len_l ?_ | refine oq_len_t ?_ | refine oq_int ?_ | refine oq_abs ?_ | refine oq_ord ?_ | refine oq_cut_l ?_ | refine oq_cut_t ?_ | refine oq_list_l ?_ | refine oq_list_t ?_ | refine oq_tuple_l ?_ | refine oq_tuple_t ?_ | refine oq_max2 ?_ | refine oq_min2 ?_ | refine oq_some ?_ | refine oq_len_sc ?_ | refine oq_eq_il ?_ | refine oq_ne_il ?_ | refine oq_eq_it ?_ | refine oq_ne_it ?_ | refine oq_lt_il ?_ | refine oq_lt_it ?_ | refine oq_iadd_i ?_ | refine oq_isT ?_ | refine oq_isNotT ?_) | (first | ((with_reducible apply vw_st); assumption) | ((with_reducible apply oq_tgTup); exact rfl) | ((with_reducible apply oq_ix_lk); exact rfl) | ((with_reducible apply oq_ix_tk); exact rfl) | ((with_reducible apply vw_r); (first | assumption | exact aset_same)) | ((with_reducible apply oq_ixN_k); exact rfl; (try simp only [List.set, Int.reduceToNat])) | ((with_reducible apply oq_mod); (first | omega | decide)) | ((with_reducible apply oq_div); (first | omega | decide)) | ((with_reducible apply oq_mul); (first | omega | decide)) | ((with_reducible apply oq_pow); (first | omega | decide)) | ((with_reducible apply oq_shl); (first | omega | decide)) | ((with_reducible apply oq_shr); (first | omega | decide))) | (first | ((with_reducible apply oq_add_s); (first | omega | decide)) | ((with_reducible apply oq_len_s); (first | omega | decide)) | ((with_reducible apply oq_cut_s); (first | omega | decide)) | ((with_reducible apply oq_append); (first | omega | decide)) | ((with_reducible apply oq_insert); (first | omega | decide)) | ((with_reducible apply oq_rep); (first | omega | decide)) | ((with_reducible apply oq_cat); (first | omega | decide))))))
local macro_rules | `(tactic| array_mem_dec) => `(tactic| (with_reducible first | refine w_list ?_ | refine w_tuple ?_ | refine w_str ?_ | refine w_range1 ?_ | refine w_range2 ?_ | refine w_range3 ?_ | refine w_next ?_ | refine w_break ?_ | refine w_cont ?_ | refine w_drop ?_ | refine w_ret ?_ | refine w_retN ?_ | refine w_if ?_ | refine w_asg ?_ | refine w_raise ?_ | refine w_fld ?_ | refine w_seta ?_ | refine w_auga ?_ | refine w_seti ?_ | refine w_mut ?_ | refine w_frz ?_ | refine w_new ?_ | refine w_ext ?_ | refine w_for ?_ | refine w_lc ?_ | refine w_tryA ?_ | refine w_try ?_ | refine w_par ?_))
local macro_rules | `(tactic| array_mem_dec) => `(tactic| (first | ((with_reducible apply w_kV); exact rfl) | (with_reducible first | refine w_kC ?_ | refine w_bop ?_ | refine w_tst ?_ | refine w_val ?_ | refine w_and ?_ | refine w_or ?_ | refine w_not ?_ | refine w_andV ?_ | refine w_orV ?_ | refine w_chain ?_ | refine w_ifK ?_ | refine w_nil ?_ | refine w_cons ?_ | refine w_tup ?_ | refine w_lst ?_ | refine w_call ?_ | refine w_neg ?_ | refine w_b1 ?_ | refine w_bn ?_ | refine w_isi ?_ | refine w_met ?_ | refine w_pnone ?_ | refine w_psome ?_ | refine w_cut ?_ | refine w_yes ?_)))
local macro_rules | `(tactic| array_get_dec) => `(tactic| (with_reducible refine w_seqB ?_))
local macro_rules | `(tactic| array_get_dec) => `(tactic| array_mem_dec)
local macro_rules | `(tactic| decreasing_trivial_pre_omega) => `(tactic| (with_reducible refine w_seq ?_))
local macro_rules | `(tactic| decreasing_trivial_pre_omega) => `(tactic| array_mem_dec)
local macro_rules | `(tactic| sizeOf_list_dec) => `(tactic| (try simp only [List.set, Int.reduceToNat, List.map_cons, List.map_nil, Nat.reduceSub, List.reduceReplicate, List.cons_append, List.nil_append, wipeA, aset_aset, List.getElem?_cons_zero, List.getElem?_cons_succ]))
variable {CL CE CS CF CP CI gX : Nat} {α : AH} {Q : QD} {E : QX}
theorem draw_ok {ns : List Int} {a b n : Int} {p : Addr} {α : AH} (hp : α p = some (.list [.int a, .int b])) (hn : 0 < n ∧ n < 2 ^ 80) {Q : QD} {E : QX} (q : ∀ d a' b', 0 ≤ d → d < n → Q (.int d) (aset α p (.list [.int a', .int b']))) :
    f_law_draw CL CE CS CF CP CI gX [dref p, scriptD ns, .int n] α Q E := by
  unfold f_law_draw m_law_draw
  refine w_runP rfl ?_
  sizeOf_list_dec
  have h0 := hn.1
  refine w_seqI (fun ρ α' => ∃ a b y z, ρ = [some (dref p), some (scriptD ns), some (.int n), none, y, z] ∧ α' = aset α p (.list [.int a, .int b])) ?_ fun X hX => ?_
  · rintro _ _ ⟨a, b, y, z, rfl, rfl⟩
    (repeat' decreasing_trivial_pre_omega)
    sizeOf_list_dec
    rw [arst_old ⟨_, hp⟩, arst_self]
    exact q _ _ _ (Int.emod_nonneg _ (by omega)) (Int.emod_lt_of_pos _ h0)
  · have hid : α = aset α p (.list [.int a, .int b]) := (aset_id hp).symm
    have fin : ∀ a' b' y z, X [some (dref p), some (scriptD ns), some (.int n), none, y, z] (aset α p (.list [.int a', .int b'])) := fun a' b' y z => hX _ _ ⟨a', b', y, z, rfl, rfl⟩
    (repeat' decreasing_trivial_pre_omega)
    · have h1 : 0 ≤ a % ↑ns.length := Int.emod_nonneg _ (by omega)
      have h2 : a % ↑ns.length < ↑ns.length := Int.emod_lt_of_pos _ (by omega)
      refine oq_ix_sc h1 h2 fun z _ => ?_
      (repeat' decreasing_trivial_pre_omega)
      all_goals (sizeOf_list_dec; exact fin _ _ _ _)
    all_goals first | (sizeOf_list_dec; exact fin _ _ _ _) | (rw [hid]; exact fin _ _ _ _)
def DrAt (p : Addr) (α : AH) : Prop := ∃ a b, α p = some (.list [.int a, .int b])
def But (p : Addr) (α α' : AH) : Prop := ∀ a, a ≠ p → α' a = α a
theorem But.refl {p : Addr} : But p α α := fun _ _ => rfl
theorem But.trans {p : Addr} {α1 α2 : AH} (h : But p α α1) (k : But p α1 α2) : But p α α2 := fun a n => (k a n).trans (h a n)
theorem DrAt.isS {p : Addr} (h : DrAt p α) : (α p).isSome = true := by
  obtain ⟨a, b, h⟩ := h
  rw [h]
  rfl
theorem arst_but {p : Addr} {α' : AH} (h : DrAt p α) (B : But p α α') : arst α α' = α' := by
  funext a
  unfold arst
  by_cases e : a = p
  · subst e
    rw [if_pos h.isS]
  · rw [B a e]
    cases q : α a with
    | none => rfl
    | some c => rfl
theorem arst_new {p : Addr} {d : D} (h : α p = none) : arst α (aset α p d) = α := by
  funext z
  unfold arst
  by_cases hz : (α z).isSome = true
  · rw [if_pos hz, aset_ne (fun e => by rw [e, h] at hz; cases hz)]
  · rw [if_neg hz]
    cases hq : α z with
    | none => rfl
    | some _ => rw [hq] at hz; exact absurd rfl hz
theorem dr_go {ns : List Int} {p : Addr} {n : Int} (h : DrAt p α) (hn : 0 < n ∧ n < 2 ^ 80) (q : ∀ d α', 0 ≤ d → d < n → DrAt p α' → But p α α' → Q (.int d) α') : f_law_draw CL CE CS CF CP CI gX [dref p, scriptD ns, .int n] α Q E := by
  obtain ⟨a, b, h1⟩ := h
  exact draw_ok h1 hn fun d a' b' g1 g2 => q d _ g1 g2 ⟨a', b', aset_same⟩ fun x hx => aset_ne hx
def okS (n : Str) : Prop := PyData.strOk n = true
def NM : List Str := ["a", "b", "a/b", "Z9", "c", "longer/names/are/here/abcdefghijklmnopqr"]
theorem nmi_go {i : Int} {R : D → Prop} (h0 : 0 ≤ i) (h1 : i < 6) (h : ∀ n : Str, okS n → R (.str n)) : oq (dIx (.list [.str "a", .str "b", .str "a/b", .str "Z9", .str "c", .str "longer/names/are/here/abcdefghijklmnopqr"]) (.int i)) R :=
  oq_ix_mf (xs := NM) (u := .str) (k := i.toNat) (by omega) (by show i.toNat < 6; omega) (h _ (by
    have : ∀ n ∈ NM, PyData.strOk n = true := by decide +kernel
    exact this _ (List.getElem_mem _)))
theorem nm_go {ns : List Int} {p : Addr} (h : DrAt p α) (q : ∀ n α', okS n → DrAt p α' → But p α α' → Q (.str n) α') : f_law_name CL CE CS CF CP CI gX [dref p, scriptD ns] α Q E := by
  unfold f_law_name m_law_name
  refine w_runP rfl ?_
  sizeOf_list_dec
  (repeat' array_get_dec)
  refine dr_go h (by decide) fun d α' g1 g2 D B => ?_
  sizeOf_list_dec
  (repeat' array_get_dec)
  refine nmi_go g1 g2 fun n hn => ?_
  (repeat' array_get_dec)
  rw [arst_but h B]
  exact q n _ hn D B
theorem ct_go {ns : List Int} {p : Addr} {most : Int} (hm : 0 ≤ most ∧ most ≤ 7) (h : DrAt p α) (q : ∀ xs α', (xs.length : Int) ≤ 4 * most → okc xs → DrAt p α' → But p α α' → Q (ctD xs) α') : f_law_content CL CE CS CF CP CI gX [dref p, scriptD ns, .int most] α Q E := by
  unfold f_law_content m_law_content
  refine w_runP rfl ?_
  sizeOf_list_dec
  (repeat' array_get_dec)
  refine dr_go h (by decide) fun x α1 x1 x2 D1 B1 => ?_
  sizeOf_list_dec
  (repeat' array_get_dec)
  try refine bar_of ?_
  sizeOf_list_dec
  (repeat' array_get_dec)
  try refine bar_of ?_
  sizeOf_list_dec
  (repeat' array_get_dec)
  refine dr_go D1 (by omega) fun n α2 n1 n2 D2 B2 => ?_
  sizeOf_list_dec
  (repeat' array_get_dec)
  refine for_nums (fun k ρ α' => ∃ (xs : List Int) (v : Option D), ρ = [some (dref p), some (scriptD ns), some (.int most), some (.list [.list [.int 1, .int 2, .int 3, .int 4], .list [.int 0, .int 0, .int 0, .int 0], .list [.int 255, .int 254, .int 253, .int 252], .list [.int 5], .list [.int 9, .int 9], .list [.int x, .int 7, .int 7, .int 7]]), some (ctD xs), v] ∧ DrAt p α' ∧ But p α α' ∧ xs.length ≤ 4 * k ∧ ∀ d ∈ xs, 0 ≤ d ∧ d < 256) ⟨[], none, rfl, D2, B1.trans B2, by simp, fun _ h => nomatch h⟩ ?_ ?_
  · rintro ρ α' ⟨xs, v, rfl, D, B, hl, hk⟩
    (repeat' array_get_dec)
    try refine bar_of ?_
    sizeOf_list_dec
    (repeat' array_get_dec)
    rw [arst_but h B]
    exact q xs _ (by omega) ⟨by omega, hk⟩ D B
  · rintro k hk' ρ α' ⟨xs, v, rfl, D, B, hl, hk⟩ X hX
    sizeOf_list_dec
    (repeat' decreasing_trivial_pre_omega)
    refine dr_go D (by decide) fun d α3 g1 g2 D3 B3 => ?_
    sizeOf_list_dec
    (repeat' decreasing_trivial_pre_omega)
    refine oq_ix_mf (xs := ([[1, 2, 3, 4], [0, 0, 0, 0], [255, 254, 253, 252], [5], [9, 9], [x, 7, 7, 7]] : List (List Int))) (u := ctD) (k := d.toNat) (by omega) (by show d.toNat < 6; omega) ?_
    have hW : ∀ w ∈ ([[1, 2, 3, 4], [0, 0, 0, 0], [255, 254, 253, 252], [5], [9, 9], [x, 7, 7, 7]] : List (List Int)), w.length ≤ 4 ∧ ∀ z ∈ w, 0 ≤ z ∧ z < 256 := by
      intro w hw
      simp only [List.mem_cons, List.not_mem_nil, or_false] at hw
      rcases hw with rfl | rfl | rfl | rfl | rfl | rfl
      · decide
      · decide
      · decide
      · decide
      · decide
      · refine ⟨by simp, fun z hz => ?_⟩
        simp only [List.mem_cons, List.not_mem_nil, or_false] at hz
        omega
    obtain ⟨w, hw1⟩ : ∃ w : List Int, ([[1, 2, 3, 4], [0, 0, 0, 0], [255, 254, 253, 252], [5], [9, 9], [x, 7, 7, 7]] : List (List Int))[d.toNat]'(by show d.toNat < 6; omega) = w := ⟨_, rfl⟩
    obtain ⟨hw2, hw3⟩ := hW w (by rw [← hw1]; exact List.getElem_mem _)
    rw [hw1]
    refine ⟨_, rfl, _, rfl, ?_⟩
    refine oq_add_l (by rw [List.length_map, List.length_map]; have := Int.toNat_of_nonneg n1; omega) ?_
    (repeat' array_get_dec)
    refine hX _ _ ⟨xs ++ w, _, by rw [show ctD (xs ++ w) = .list (xs.map .int ++ w.map .int) by unfold ctD; rw [List.map_append]], D3, B.trans B3, by rw [List.length_append]; omega, fun z hz => ?_⟩
    rcases List.mem_append.mp hz with hz | hz
    · exact hk z hz
    · exact hw3 z hz
theorem bl_go {c : List Int} (hc : okc c) (h : Q (bkD c) α) : f_law_blocks CL CE CS CF CP CI gX [ctD c] α Q E := by
  unfold f_law_blocks m_law_blocks
  refine w_runP rfl ?_
  unfold ctD
  have hl : (c.map PyData.int).length = c.length := List.length_map _
  sizeOf_list_dec
  (repeat' array_get_dec)
  intro p1 hp1
  (repeat' array_get_dec)
  try refine bar_of ?_
  sizeOf_list_dec
  (repeat' array_get_dec)
  rw [hl]
  refine rg3_of (small4 hc) ?_
  rw [rng4, numsC_map]
  have hpl := pcs_length hc
  have hpn := pcs_len (c := c)
  refine for_map (xs := List.range (nk c)) (u := fun k => .int (0 + (k : Nat) * 4)) rfl (fun k ρ α' => ∃ x2 x3 x4, ρ = [some (.list (c.map .int)), some (dref p1), x2, x3, x4] ∧ α' = aset α p1 (.list (((pcs c).take k).map fun p => .int (kb p)))) ⟨none, none, none, rfl, rfl⟩ ?_ ?_
  · rintro ρ _ ⟨x2, x3, x4, rfl, rfl⟩
    rw [List.length_range, ← hpn, List.take_length]
    (repeat' array_get_dec)
    try refine bar_of ?_
    sizeOf_list_dec
    (repeat' array_get_dec)
    rw [arst_new hp1]
    exact h
  · rintro k hk ρ _ ⟨x2, x3, x4, rfl, rfl⟩ X hX
    rw [List.length_range] at hk
    rw [List.getElem_range]
    sizeOf_list_dec
    (repeat' array_get_dec)
    try refine bar_of ?_
    sizeOf_list_dec
    (repeat' array_get_dec)
    rw [cut_ck c hk]
    refine for_map (xs := ck c k) (u := .int) rfl (fun j ρ α' => ∃ a v, val 256 a ((ck c k).drop j) = kb (ck c k) ∧ ρ = [some (.list (c.map .int)), some (dref p1), some (.int (0 + (k : Nat) * 4)), some (.int a), v] ∧ α' = aset α p1 (.list (((pcs c).take k).map fun p => .int (kb p)))) ⟨1, x4, rfl, rfl, rfl⟩ ?_ ?_
    · rintro _ _ ⟨a, v, e, rfl, rfl⟩
      sizeOf_list_dec
      (repeat' array_get_dec)
      try refine bar_of ?_
      sizeOf_list_dec
      (repeat' array_get_dec)
      rw [List.drop_length] at e
      obtain rfl : a = kb (ck c k) := e
      refine oq_append (by rw [List.length_map, List.length_take]; omega) ?_
      (repeat' array_get_dec)
      refine hX _ _ ⟨_, _, _, rfl, ?_⟩
      have hk' : k < (pcs c).length := by omega
      rw [aset_aset, ← List.take_append_getElem hk', List.map_append, show (pcs c)[k] = ck c k by simp [pcs]]
      rfl
    · rintro j hj _ _ ⟨a, v, e, rfl, rfl⟩ X2 hX2
      sizeOf_list_dec
      (repeat' decreasing_trivial_pre_omega)
      refine hX2 _ _ ⟨_, _, ?_, rfl, rfl⟩
      rw [List.drop_eq_getElem_cons hj] at e
      exact e
theorem by_go {ps : List (List Int)} (hp : ∀ p ∈ ps, okp p) (hl : ps.length ≤ 255) (h : Q (ctD ps.flatten) α) : f_law_bytes CL CE CS CF CP CI gX [.list (ps.map fun p => .int (kb p))] α Q E := by
  unfold f_law_bytes m_law_bytes
  refine w_runP rfl ?_
  sizeOf_list_dec
  (repeat' array_get_dec)
  try refine bar_of ?_
  sizeOf_list_dec
  (repeat' array_get_dec)
  refine for_map (xs := ps) (u := fun p => .int (kb p)) rfl (fun k ρ α' => ∃ x2 x3, ρ = [some (.list (ps.map fun p => .int (kb p))), some (ctD (ps.take k).flatten), x2, x3] ∧ α = α' ∧ (ps.take k).flatten.length ≤ 4 * k) ⟨none, none, rfl, rfl, Nat.le_refl _⟩ ?_ ?_
  · rintro ρ _ ⟨x2, x3, rfl, rfl, _⟩
    rw [List.take_length]
    (repeat' array_get_dec)
    try refine bar_of ?_
    sizeOf_list_dec
    (repeat' array_get_dec)
    rw [arst_self]
    exact h
  · rintro k hk ρ _ ⟨x2, x3, rfl, rfl, hlen⟩ X hX
    have hta := List.take_append_getElem hk
    have hok := hp _ (List.getElem_mem hk)
    generalize ps[k] = pc at *
    sizeOf_list_dec
    (repeat' array_get_dec)
    try refine bar_of ?_
    sizeOf_list_dec
    (repeat' array_get_dec)
    refine w_while (fun m ρ α' => ∃ l acc : List Int, pc = l ++ acc ∧ l.length = m ∧ ρ = [some (.list (ps.map fun p => .int (kb p))), some (ctD (ps.take k).flatten), some (.int (val 256 1 l)), some (ctD acc)] ∧ α = α') pc.length ⟨pc, [], by simp, rfl, rfl, rfl⟩ ?_
    rintro m _ _ ⟨l, acc, e, hm, rfl, rfl⟩ Y hY
    have hd : ∀ d ∈ l, 0 ≤ d ∧ d < 256 := fun d hd => hok.2.2 d (by rw [e]; exact List.mem_append_left _ hd)
    have hpl := hok.1
    sizeOf_list_dec
    (repeat' array_get_dec)
    · rename_i h1
      rcases List.eq_nil_or_concat l with rfl | ⟨l', d, rfl⟩
      · exact absurd h1 (by show ¬ (1 : Int) < 1; decide)
      · rw [List.concat_eq_append] at *
        have dd := hd d (by simp)
        have hlen := congrArg List.length e
        simp only [List.length_append, List.length_cons, List.length_nil] at hlen hm
        refine oq_and255 ?_
        (repeat' array_get_dec)
        refine oq_add_l (ds := [_]) (es := acc.map .int) (by rw [List.length_map]; show 1 + _ ≤ _; omega) ?_
        (repeat' array_get_dec)
        try refine bar_of ?_
        sizeOf_list_dec
        (repeat' array_get_dec)
        rw [val_app]
        refine hY l'.length _ _ (by omega) ⟨l', d :: acc, by rw [e]; simp, rfl, ?_, rfl⟩
        have e1 : (val 256 1 l' * 256 + d) / 2 ^ (8 : Int).toNat = val 256 1 l' := by
          show (val 256 1 l' * 256 + d) / 256 = _
          omega
        have e2 : (val 256 1 l' * 256 + d) % 256 = d := by omega
        rw [e1, e2]
        rfl
    · rename_i h1
      rcases List.eq_nil_or_concat l with rfl | ⟨l', d, rfl⟩
      · rw [List.nil_append] at e
        (repeat' array_get_dec)
        try refine bar_of ?_
        sizeOf_list_dec
        (repeat' array_get_dec)
        refine oq_add_l (ds := (ps.take k).flatten.map .int) (es := acc.map .int) (by rw [List.length_map, List.length_map, ← e]; omega) ?_
        (repeat' array_get_dec)
        rw [← List.map_append, ← e]
        refine hX _ _ ⟨_, _, by rw [show ctD (ps.take (k + 1)).flatten = .list (((ps.take k).flatten ++ pc).map .int) by rw [← hta, List.flatten_append]; simp [ctD]], rfl, ?_⟩
        rw [← hta, List.flatten_append, List.length_append]
        simp only [List.flatten_cons, List.flatten_nil, List.append_nil]
        omega
      · rw [List.concat_eq_append] at *
        have dd := hd d (by simp)
        have := val_ge l' 1 (by omega) fun x hx => hd x (by simp [hx])
        rw [val_app] at h1
        omega
end K26
namespace K26
open PySem L2 Hz
local macro_rules | `(tactic| array_mem_dec) => `(tactic| (first | ((with_reducible apply fd_cons); exact trivial) | ((with_reducible apply fd_nil); exact trivial) | ((with_reducible apply oq_isiB (b := true)); exact rfl) | ((with_reducible apply oq_isiB (b := false)); exact rfl) | ((with_reducible apply w_xi); exact rfl; exact decide_eq_true rfl; exact if_pos rfl) | ((with_reducible apply w_xf); exact rfl; exact decide_eq_true rfl; exact rfl) | ((with_reducible apply w_frzS); exact rfl; (first | assumption | exact aset_same); (try simp only [List.set])) | ((with_reducible apply rg1_of); (first | omega | decide)) | ((with_reducible apply rg2_of); (first | omega | decide)) | ((with_reducible apply lok); exact rfl) | ((with_reducible refine it2_dec ?_ ?_) <;> intro)))
local macro_rules | `(tactic| array_mem_dec) => `(tactic| (first | ((with_reducible apply dc_c); (first | assumption | exact aset_same); (first | exact rfl | exact tD_real _ _)) | ((with_reducible apply cdi_of); (first | assumption | exact aset_same); (first | exact rfl | exact tD_real _ _)) | ((with_reducible apply dc_d); (first | exact rfl | exact tD_real _ _)) | ((with_reducible apply dc_f); (first | exact rfl | exact tD_real _ _)) | ((with_reducible apply lk_of); exact rfl) | ((with_reducible apply oq_setv2); (simp only [List.set, wipeA]; exact rfl)) | ((with_reducible apply cal_of); exact rfl; (try simp only [List.cons_append, List.nil_append, List.append_nil])) | ((with_reducible apply w_aug); exact rfl) | ((with_reducible apply cel_of); (first | assumption | exact aset_same)) | ((with_reducible apply ceo_of); (first | assumption | exact aset_same)) | ((with_reducible apply tlG_r); (first | assumption | exact aset_same)) | ((with_reducible apply fr_of); (first | assumption | exact aset_same))))
local macro_rules | `(tactic| array_mem_dec) => `(tactic| (with_reducible first | refine w_dictP ?_ | refine w_sortD ?_ | refine w_isiC ?_))
local macro_rules | `(tactic| array_mem_dec) => `(tactic| (with_reducible first | refine pr2_of ?_ | refine fl_f ?_ | refine fl_t ?_ | refine fl_o ?_ | refine fl_r ?_ | refine fl_n ?_ | refine fl_w ?_ | refine fl_m ?_ | refine ctD_list ?_ | refine ctD_tup ?_ | refine vw_ct ?_ | refine fe_n ?_ | refine fe_b ?_ | refine vw_en ?_ | refine len_bk ?_ | refine vw_bk ?_ | refine w_dget ?_ | refine w_dget1 ?_ | refine w_dget2 ?_ | refine w_din ?_ | refine w_dnotin ?_ | refine w_dpop1 ?_ | refine w_dpop2 ?_ | refine w_dput ?_ | refine w_daug ?_ | refine w_lenD ?_ | refine w_dnew ?_ | refine w_fz ?_ | refine w_listD ?_ | refine w_dictD ?_))
local macro_rules | `(tactic| array_mem_dec) => `(tactic| (with_reducible first | refine tb_b ?_ | refine ti_b ?_ | refine ts_b ?_ | refine we_nx ?_ | refine we_rt ?_ | refine we_ex ?_ | refine wn_nx ?_ | refine wn_rt ?_ | refine wn_bk ?_ | refine wn_ct ?_ | refine wn_ex ?_ | refine wl_nx ?_ | refine wl_rt ?_ | refine wl_bk ?_ | refine wl_ct ?_ | refine wl_ex ?_ | refine wx_nx ?_ | refine wx_rt ?_ | refine wx_bk ?_ | refine wx_ct ?_ | refine wx_ex ?_ | refine wh_nx ?_ | refine wh_rt ?_ | refine wh_bk ?_ | refine wh_ct ?_ | refine it2_t ?_ | refine it2_f ?_ | refine it2_not ?_ | refine tlG_l ?_ | refine ttG_t ?_))
local macro_rules | `(tactic| array_mem_dec) => `(tactic| ((with_reducible refine oq_id ?_); (first | (with_reducible first | refine vw_i ?_ | refine vw_s ?_ | refine vw_b ?_ | refine vw_n ?_ | refine vw_l ?_ | refine vw_t ?_ | refine vw_sc ?_ | refine vw_o ?_ | refine mv_nil ?_ | refine mv_cons ?_ | refine oq_tgNil ?_ | refine oq_tgCons ?_ | refine oq_add_i ?_ | refine oq_sub ?_ | refine oq_lt ?_ | refine oq_le ?_ | refine oq_gt ?_ | refine oq_ge ?_ | refine oq_eq_i ?_ | refine oq_ne_i ?_ | refine oq_eq_s ?_ | refine oq_ne_s ?_ | refine oq_eq_b ?_ | refine oq_ne_b ?_ | refine oq_is ?_ | refine oq_isNot ?_ | refine oq_in_s ?_ | refine oq_notIn_s ?_ | refine oq_len_l ?_ | refine oq_len_t ?_ | refine oq_int ?_ | refine oq_abs ?_ | refine oq_ord ?_ | refine oq_cut_l ?_ | refine oq_cut_t ?_ | refine oq_list_l ?_ | refine oq_list_t ?_ | refine oq_tuple_l ?_ | refine oq_tuple_t ?_ | refine oq_max2 ?_ | refine oq_min2 ?_ | refine oq_some ?_ | refine oq_len_sc ?_ | refine oq_eq_il ?_ | refine oq_ne_il ?_ | refine oq_eq_it ?_ | refine oq_ne_it ?_ | refine oq_lt_il ?_ | refine oq_lt_it ?_ | refine oq_iadd_i ?_ | refine oq_isT ?_ | refine oq_isNotT ?_) | (first | ((with_reducible apply vw_st); assumption) | ((with_reducible apply oq_tgTup); exact rfl) | ((with_reducible apply oq_ix_lk); exact rfl) | ((with_reducible apply oq_ix_tk); exact rfl) | ((with_reducible apply vw_r); (first | assumption | exact aset_same)) | ((with_reducible apply oq_ixN_k); exact rfl; (try simp only [List.set, Int.reduceToNat])) | ((with_reducible apply oq_mod); (first | omega | decide)) | ((with_reducible apply oq_div); (first | omega | decide)) | ((with_reducible apply oq_mul); (first | omega | decide)) | ((with_reducible apply oq_pow); (first | omega | decide)) | ((with_reducible apply oq_shl); (first | omega | decide)) | ((with_reducible apply oq_shr); (first | omega | decide))) | (first | ((with_reducible apply oq_add_s); (first | omega | decide)) | ((with_reducible apply oq_len_s); (first | omega | decide)) | ((with_reducible apply oq_cut_s); (first | omega | decide)) | ((with_reducible apply oq_append); (first | omega | decide)) | ((with_reducible apply oq_insert); (first | omega | decide)) | ((with_reducible apply oq_rep); (first | omega | decide)) | ((with_reducible apply oq_cat); (first | omega | decide))))))
local macro_rules | `(tactic| array_mem_dec) => `(tactic| (with_reducible first | refine w_list ?_ | refine w_tuple ?_ | refine w_str ?_ | refine w_range1 ?_ | refine w_range2 ?_ | refine w_range3 ?_ | refine w_next ?_ | refine w_break ?_ | refine w_cont ?_ | refine w_drop ?_ | refine w_ret ?_ | refine w_retN ?_ | refine w_if ?_ | refine w_asg ?_ | refine w_raise ?_ | refine w_fld ?_ | refine w_seta ?_ | refine w_auga ?_ | refine w_seti ?_ | refine w_mut ?_ | refine w_frz ?_ | refine w_new ?_ | refine w_ext ?_ | refine w_for ?_ | refine w_lc ?_ | refine w_tryA ?_ | refine w_try ?_ | refine w_par ?_))
local macro_rules | `(tactic| array_mem_dec) => `(tactic| (first | ((with_reducible apply w_kV); exact rfl) | (with_reducible first | refine w_kC ?_ | refine w_bop ?_ | refine w_tst ?_ | refine w_val ?_ | refine w_and ?_ | refine w_or ?_ | refine w_not ?_ | refine w_andV ?_ | refine w_orV ?_ | refine w_chain ?_ | refine w_ifK ?_ | refine w_nil ?_ | refine w_cons ?_ | refine w_tup ?_ | refine w_lst ?_ | refine w_call ?_ | refine w_neg ?_ | refine w_b1 ?_ | refine w_bn ?_ | refine w_isi ?_ | refine w_met ?_ | refine w_pnone ?_ | refine w_psome ?_ | refine w_cut ?_ | refine w_yes ?_)))
local macro_rules | `(tactic| array_get_dec) => `(tactic| (with_reducible refine w_seqB ?_))
local macro_rules | `(tactic| array_get_dec) => `(tactic| array_mem_dec)
local macro_rules | `(tactic| decreasing_trivial_pre_omega) => `(tactic| (with_reducible refine w_seq ?_))
local macro_rules | `(tactic| decreasing_trivial_pre_omega) => `(tactic| array_mem_dec)
local macro_rules | `(tactic| sizeOf_list_dec) => `(tactic| (try simp only [List.set, Int.reduceToNat, List.map_cons, List.map_nil, Nat.reduceSub, List.reduceReplicate, List.cons_append, List.nil_append, wipeA, aset_aset, List.getElem?_cons_zero, List.getElem?_cons_succ]))
variable {CL CE CS CF CP CI gX : Nat} {α : AH} {Q : QD} {E : QX}
theorem StAt.ext {A : Ads} {s : Sto} {α' : AH} (S : StAt CS α A s) (h : ∀ a, (α a).isSome = true → α' a = α a) : StAt CS α' A s :=
  ⟨(h _ (by rw [S.p]; rfl)).trans S.p, (h _ (by rw [S.f]; rfl)).trans S.f, (h _ (by rw [S.t]; rfl)).trans S.t, (h _ (by rw [S.o]; rfl)).trans S.o, (h _ (by rw [S.r]; rfl)).trans S.r, (h _ (by rw [S.n]; rfl)).trans S.n, S.nd, S.nf, S.nt⟩
theorem keep1 {p : Addr} {d : D} (hp : α p = none) : ∀ a, (α a).isSome = true → aset α p d a = α a := fun a h => aset_ne fun e => by rw [e, hp] at h; cases h
abbrev Lot := D × D × List (List Int)
def ltD (x : Lot) : D := .tuple [x.1, x.2.1, .tuple (x.2.2.map fun p => .int (val 256 1 p))]
theorem cut_take {c : List Int} {k : Nat} : cutD ((pcs c).map fun p => PyData.int (val 256 1 p)) none (some (k : Int)) = ((pcs c).take k).map fun p => PyData.int (val 256 1 p) := by
  unfold cutD
  rw [HT.sIx_nat, List.length_map, show HT.sIx (pcs c).length 0 none = 0 from rfl, List.drop_zero, Nat.sub_zero, List.map_take, List.take_eq_take_iff, List.length_map]
  omega
def nent (x : Lot) (j : Nat) : Int × D := (kb (x.2.2.getD j []), .tuple [x.1, x.2.1, .int (0 + (j : Nat))])
def nrow (x : Lot) : List (Int × D) := (List.range x.2.2.length).map (nent x)
def nadd (l : List (Int × D)) (y : Int × D) : List (Int × D) := if y.1 ∈ l.map (·.1) then l else aPut y.1 y.2 l
def nearL (lots : List Lot) : List (Int × D) := (lots.flatMap nrow).foldl nadd []
def lfile (s : Sto) (f : Str) : Lot := (.str "file", .str f, pcs ((aGet f s.files).getD ([], 0)).1)
def lold (s : Sto) (i : Nat) : Lot := (.str "attic", .int (0 + (i : Nat)), pcs (s.old.getD i (⟨#[]⟩, .none, [])).2.2)
def lotsF (n : Str) (s : Sto) (fs : List Str) (c : List Int) (k : Nat) : List Lot := (.str "temp", .str n, (pcs c).take k) :: fs.map (lfile s)
def lotsO (n : Str) (s : Sto) (fs : List Str) (c : List Int) (k : Nat) (i : Nat) : List Lot := lotsF n s fs c k ++ (List.range i).map (lold s)
def lotsL (n : Str) (s : Sto) (fs : List Str) (c : List Int) (k : Nat) : List Lot := lotsO n s fs c k s.old.length
theorem lotsF_len {n : Str} {s : Sto} {fs : List Str} {c : List Int} {k : Nat} : (lotsF n s fs c k).length = fs.length + 1 := by
  unfold lotsF
  rw [List.length_cons, List.length_map]
theorem lotsO_len {n : Str} {s : Sto} {fs : List Str} {c : List Int} {k i : Nat} : (lotsO n s fs c k i).length = fs.length + 1 + i := by
  unfold lotsO
  rw [List.length_append, List.length_map, List.length_range, lotsF_len]
theorem lotsF_step {n : Str} {s : Sto} {fs : List Str} {c : List Int} {k j : Nat} (h : j < fs.length) : lotsF n s (fs.take (j + 1)) c k = lotsF n s (fs.take j) c k ++ [lfile s fs[j]] := by
  unfold lotsF
  rw [← List.take_append_getElem h, List.map_append]
  rfl
theorem lotsO_step {n : Str} {s : Sto} {fs : List Str} {c : List Int} {k j : Nat} : lotsO n s fs c k (j + 1) = lotsO n s fs c k j ++ [lold s j] := by
  unfold lotsO
  rw [List.range_succ, List.map_append, List.append_assoc]
  rfl
theorem lotsO_zero {n : Str} {s : Sto} {fs : List Str} {c : List Int} {k : Nat} : lotsO n s fs c k 0 = lotsF n s fs c k := List.append_nil _
theorem nadd_nodup {l : List (Int × D)} {y : Int × D} (h : (l.map (·.1)).Nodup) : ((nadd l y).map (·.1)).Nodup := by
  unfold nadd
  split
  · exact h
  · exact aPut_nodup h
theorem nadd_len {l : List (Int × D)} {y : Int × D} : (nadd l y).length ≤ l.length + 1 := by
  unfold nadd
  split
  · omega
  · rename_i h
    rw [aPut_new h, List.length_append]
    exact Nat.le_refl _
theorem lots_ok {s : Sto} {n : Str} {fs : List Str} {c : List Int} {k : Nat} (hc : okc c) (hF : ∀ x ∈ s.files, okc x.2.1) (hO : ∀ x ∈ s.old, okc x.2.2) : ∀ x ∈ lotsL n s fs c k, x.2.2.length ≤ 255 := fun x hx => by
  unfold lotsL lotsO lotsF at hx
  rcases List.mem_append.mp hx with e | e
  · rcases List.mem_cons.mp e with rfl | e
    · rw [List.length_take]
      have := pcs_length hc
      omega
    · obtain ⟨z, hz, rfl⟩ := List.mem_map.mp e
      show (pcs ((aGet z s.files).getD ([], 0)).1).length ≤ 255
      cases hg : aGet z s.files with
      | none => exact Nat.zero_le _
      | some w => exact pcs_length (hF _ (aGet_mem hg))
  · obtain ⟨i, hi, rfl⟩ := List.mem_map.mp e
    show (pcs (s.old.getD i _).2.2).length ≤ 255
    have hi := List.mem_range.mp hi
    rw [List.getD_eq_getElem?_getD, List.getElem?_eq_getElem hi]
    exact pcs_length (hO _ (List.getElem_mem hi))
theorem near_go {A : Ads} {s : Sto} {n : Str} {v h m d t : D} {c : List Int} (S : StAt CS α A s) (hc : okc c) (hl : s.files.length < 64 ∧ s.old.length ≤ 100) (hF : ∀ x ∈ s.files, okc x.2.1) (hO : ∀ x ∈ s.old, okc x.2.2)
    (q : ∀ (fs : List Str) (k : Nat), fs.Perm (s.files.map (·.1)) → PyProof.Rows.sortedS fs = true → IsFr (aGet n s.temps) c k → Q (.dict (tD id (nearL (lotsL n s fs c k)))) α) :
    f_near_places CL CE CS CF CP CI gX [dref A.p, enD CE (.str n) v h m d t (bkD c)] α Q E := by
  unfold f_near_places m_near_places
  refine w_runP rfl ?_
  sizeOf_list_dec
  (repeat' array_get_dec)
  intro p2 h2
  (repeat' array_get_dec)
  try refine bar_of ?_
  sizeOf_list_dec
  (repeat' array_get_dec)
  have S1 := S.ext (keep1 (d := .dict []) h2)
  refine kept_go S1 hc fun k0 hk0 => ?_
  sizeOf_list_dec
  (repeat' array_get_dec)
  refine ⟨_, rfl, ?_⟩
  rw [cut_take]
  (repeat' array_get_dec)
  intro p3 h3
  have ⟨n32, h3'⟩ := aset_none h3
  (repeat' array_get_dec)
  try refine bar_of ?_
  sizeOf_list_dec
  (repeat' array_get_dec)
  have S2 : ∀ d2 d3, StAt CS (aset (aset α p2 d2) p3 d3) A s := fun d2 d3 => S.ext fun a ha => by
    rw [aset_ne (fun e => by rw [e, h3'] at ha; cases ha), aset_ne (fun e => by rw [e, h2] at ha; cases ha)]
  refine meth_st (S2 _ _) rfl rfl ?_
  (repeat' array_get_dec)
  refine names_go (S2 _ _) hl.1 fun fs f1 f2 => ?_
  sizeOf_list_dec
  (repeat' array_get_dec)
  have hfl : fs.length < 64 := by rw [f1.length_eq, List.length_map]; exact hl.1
  refine for_map (xs := fs) (u := .str) rfl (fun k ρ α' => ∃ (x : Option D), ρ = [some (dref A.p), some (enD CE (.str n) v h m d t (bkD c)), some (dref p2), some (dref p3), x, none, none, none, none, none] ∧ α' = aset (aset α p2 (.dict [])) p3 (.list ((lotsF n s (fs.take k) c k0).map ltD))) ⟨none, rfl, rfl⟩ ?_ ?_
  · rintro ρ _ ⟨x, rfl, rfl⟩
    rw [List.take_length]
    sizeOf_list_dec
    (repeat' array_get_dec)
    try refine bar_of ?_
    sizeOf_list_dec
    (repeat' array_get_dec)
    refine meth_st (S2 _ _) rfl rfl ?_
    (repeat' array_get_dec)
    refine attic_go (S2 _ _) (by have := hl.2; omega) ?_
    sizeOf_list_dec
    (repeat' array_get_dec)
    try refine bar_of ?_
    sizeOf_list_dec
    (repeat' array_get_dec)
    rw [List.length_map]
    refine rg1_of (by omega) ?_
    refine for_nums (fun k ρ α' => ∃ (x y : Option D), ρ = [some (dref A.p), some (enD CE (.str n) v h m d t (bkD c)), some (dref p2), some (dref p3), x, some (.list (s.old.map olU)), y, none, none, none] ∧ α' = aset (aset α p2 (.dict [])) p3 (.list ((lotsO n s fs c k0 k).map ltD))) ⟨x, none, rfl, by rw [lotsO_zero]⟩ ?_ ?_
    · rintro ρ _ ⟨x, y, rfl, rfl⟩
      sizeOf_list_dec
      (repeat' array_get_dec)
      try refine bar_of ?_
      sizeOf_list_dec
      (repeat' array_get_dec)
      rw [show lotsO n s fs c k0 ((s.old.length : Nat) : Int).toNat = lotsL n s fs c k0 from rfl]
      have hps := lots_ok (n := n) (fs := fs) (k := k0) hc hF hO
      have hlen : (lotsL n s fs c k0).length ≤ 164 := by
        unfold lotsL
        rw [lotsO_len]
        omega
      have qq := q fs k0 f1 f2 hk0
      unfold nearL at qq
      generalize lotsL n s fs c k0 = lots at *
      refine for_mapG (xs := lots) (u := ltD) rfl (fun k ρ α' => ∃ (y v7 v8 v9 : Option D) (l : List (Int × D)), ρ = [some (dref A.p), some (enD CE (.str n) v h m d t (bkD c)), some (dref p2), some (dref p3), x, some (.list (s.old.map olU)), y, v7, v8, v9] ∧ α' = aset (aset α p2 (.dict (tD id l))) p3 (.list (lots.map ltD)) ∧ (l.map (·.1)).Nodup ∧ l.length ≤ 255 * k ∧ l = ((lots.take k).flatMap nrow).foldl nadd []) ⟨y, none, none, none, [], rfl, rfl, List.nodup_nil, by simp, rfl⟩ ?_ ?_ ?_
      · rintro k ρ _ ⟨y, v7, v8, v9, l, rfl, rfl, hnd, hll, hmem⟩
        exact aset_same
      · rintro ρ _ ⟨y, v7, v8, v9, l, rfl, rfl, hnd, hll, hmem⟩
        sizeOf_list_dec
        (repeat' array_get_dec)
        try refine bar_of ?_
        sizeOf_list_dec
        (repeat' array_get_dec)
        refine fr_of (c := .dict (tD id l)) (by rw [aset_ne (Ne.symm n32), aset_same]) ?_
        (repeat' array_get_dec)
        have ea : arst α (adel (aset (aset α p2 (.dict (tD id l))) p3 (.list (lots.map ltD))) p2) = α := by
          funext z
          unfold arst
          by_cases hz : (α z).isSome = true
          · rw [if_pos hz, adel_ne (fun e => by rw [e, h2] at hz; cases hz), aset_ne (fun e => by rw [e, h3'] at hz; cases hz), aset_ne (fun e => by rw [e, h2] at hz; cases hz)]
          · rw [if_neg hz]
            cases hq : α z with
            | none => rfl
            | some _ => rw [hq] at hz; exact absurd rfl hz
        rw [ea]
        rw [List.take_length] at hmem
        rw [hmem]
        exact qq
      · rintro k hk ρ _ ⟨y, v7, v8, v9, l, rfl, rfl, hnd, hll, hmem⟩ X hX
        have hta := List.take_append_getElem hk
        have hp1 := hps _ (List.getElem_mem hk)
        generalize lots[k] = lot at *
        have hmem2 : ((lots.take (k + 1)).flatMap nrow).foldl nadd [] = (nrow lot).foldl nadd l := by
          rw [← hta, List.flatMap_append, List.foldl_append, ← hmem]
          simp
        obtain ⟨l7, l8, l9⟩ := lot
        have hp1 : l9.length ≤ 255 := hp1
        refine oq_tgTup rfl (oq_tgCons (oq_setv (oq_tgCons (oq_setv (oq_tgCons (oq_setv (oq_tgNil ?_)))))))
        sizeOf_list_dec
        (repeat' array_get_dec)
        rw [List.length_map]
        refine rg1_of (by omega) ?_
        refine for_nums (fun j ρ α' => ∃ (y : Option D) (l' : List (Int × D)), ρ = [some (dref A.p), some (enD CE (.str n) v h m d t (bkD c)), some (dref p2), some (dref p3), x, some (.list (s.old.map olU)), y, some l7, some l8, some (.tuple (l9.map fun p => .int (val 256 1 p)))] ∧ α' = aset (aset α p2 (.dict (tD id l'))) p3 (.list (lots.map ltD)) ∧ (l'.map (·.1)).Nodup ∧ l'.length ≤ 255 * k + j ∧ l' = ((List.range j).map (nent (l7, l8, l9))).foldl nadd l) ⟨y, l, rfl, rfl, hnd, by omega, rfl⟩ ?_ ?_
        · rintro ρ _ ⟨y, l', rfl, rfl, hnd, hll, he⟩
          refine hX _ _ ⟨_, _, _, _, l', rfl, rfl, hnd, ?_, he.trans hmem2.symm⟩
          have : ((l9.length : Nat) : Int).toNat = l9.length := rfl
          omega
        · rintro j hj ρ _ ⟨y, l', rfl, rfl, hnd, hll, he⟩ X2 hX2
          have hj' : j < l9.length := by
            have : ((l9.length : Nat) : Int).toNat = l9.length := rfl
            omega
          have hst : ((List.range (j + 1)).map (nent (l7, l8, l9))).foldl nadd l = nadd l' (nent (l7, l8, l9) j) := by
            rw [List.range_succ, List.map_append, List.foldl_append, ← he]
            rfl
          have hne : nent (l7, l8, l9) j = (val 256 1 l9[j], .tuple [l7, l8, .int (0 + (j : Int))]) := by
            unfold nent kb
            rw [show ((l7, l8, l9) : Lot).2.2 = l9 from rfl, List.getD_eq_getElem?_getD, List.getElem?_eq_getElem hj']
            rfl
          rw [hne] at hst
          have hal := nadd_len (l := l') (y := (val 256 1 l9[j], .tuple [l7, l8, .int (0 + (j : Int))]))
          have han := nadd_nodup (y := (val 256 1 l9[j], .tuple [l7, l8, .int (0 + (j : Int))])) hnd
          sizeOf_list_dec
          (repeat' array_get_dec)
          have hix : ∀ R : D → Prop, R (.int (val 256 1 l9[j])) → oq (dIx (.tuple (l9.map fun p => .int (val 256 1 p))) (.int (0 + (j : Nat)))) R := fun R hR => by
            refine oq_ix_t (by omega) (by rw [List.length_map]; omega) fun z e => ?_
            rw [show (0 + (j : Int)).toNat = j by omega, List.getElem?_map, List.getElem?_eq_getElem hj'] at e
            cases e
            exact hR
          generalize l9[j] = pc at *
          refine hix _ ?_
          (repeat' array_get_dec)
          refine dc_c (by rw [aset_ne (Ne.symm n32), aset_same]) (tD_real id l') ⟨rfl, ?_⟩
          rw [look_i]
          cases hg : aGet (val 256 1 pc) l' with
          | some w =>
            (try simp only [Option.map_none, Option.map_some, Option.isSome_none, Option.isSome_some, Bool.not_true, Bool.not_false, Option.getD_some, Option.getD_none])
            (repeat' array_get_dec)
            have hin : val 256 1 pc ∈ l'.map (·.1) := List.mem_map_of_mem (f := fun x : Int × D => x.1) (aGet_mem hg)
            refine hX2 _ _ ⟨_, l', rfl, rfl, hnd, by omega, ?_⟩
            rw [hst]
            unfold nadd
            rw [if_pos hin]
          | none =>
            (try simp only [Option.map_none, Option.map_some, Option.isSome_none, Option.isSome_some, Bool.not_true, Bool.not_false, Option.getD_some, Option.getD_none])
            (repeat' array_get_dec)
            refine hix _ ?_
            refine cdi_of (by rw [aset_ne (Ne.symm n32), aset_same]) (tD_real id l') ⟨rfl, by rw [tD_len]; omega, ?_⟩
            (repeat' array_get_dec)
            have hni := aGet_none.mp hg
            have ep : putP (.int (val 256 1 pc)) (.tuple [l7, l8, .int (0 + (j : Int))]) (tD id l') = tD id (aPut (val 256 1 pc) (.tuple [l7, l8, .int (0 + (j : Int))]) l') := tD_put id (val 256 1 pc) _ hnd
            have ea : nadd l' (val 256 1 pc, .tuple [l7, l8, .int (0 + (j : Int))]) = aPut (val 256 1 pc) (.tuple [l7, l8, .int (0 + (j : Int))]) l' := by
              unfold nadd
              rw [if_neg hni]
            rw [ea] at hst hal han
            refine hX2 _ _ ⟨_, _, rfl, ?_, han, by omega, hst.symm⟩
            rw [ep, aset_comm n32, aset_aset]
    · rintro k hk ρ _ ⟨x, y, rfl, rfl⟩ X hX
      have hk : k < s.old.length := by
        have : ((s.old.length : Nat) : Int).toNat = s.old.length := rfl
        omega
      have hob := hO _ (List.getElem_mem hk)
      sizeOf_list_dec
      (repeat' array_get_dec)
      refine oq_ix_mf (k := k) (by omega) hk ?_
      have hrow : lold s k = (.str "attic", .int (0 + (k : Nat)), pcs s.old[k].2.2) := by
        unfold lold
        rw [List.getD_eq_getElem?_getD, List.getElem?_eq_getElem hk]
        rfl
      generalize s.old[k] = row at *
      obtain ⟨rn, rv, rc⟩ := row
      simp only [olU]
      sizeOf_list_dec
      (repeat' array_get_dec)
      refine sp_go hob ?_
      sizeOf_list_dec
      (repeat' array_get_dec)
      refine oq_append (by rw [List.length_map, lotsO_len]; omega) ?_
      (repeat' array_get_dec)
      refine hX _ _ ⟨_, _, rfl, ?_⟩
      rw [aset_aset, lotsO_step, List.map_append, hrow]
      rfl
  · rintro k hk ρ _ ⟨x, rfl, rfl⟩ X hX
    obtain ⟨w, hw⟩ : ∃ w, aGet fs[k] s.files = some w := by
      cases hg : aGet fs[k] s.files with
      | none => exact absurd (f1.mem_iff.mp (List.getElem_mem hk)) (aGet_none.mp hg)
      | some c => exact ⟨c, rfl⟩
    sizeOf_list_dec
    (repeat' array_get_dec)
    refine meth_st (S2 _ _) rfl rfl ?_
    (repeat' array_get_dec)
    refine read_go (S2 _ _) ?_
    rw [hw]
    simp only [flU]
    sizeOf_list_dec
    (repeat' array_get_dec)
    refine sp_go (hF _ (aGet_mem hw)) ?_
    sizeOf_list_dec
    (repeat' array_get_dec)
    refine oq_append (by rw [List.length_map, lotsF_len, List.length_take]; omega) ?_
    (repeat' array_get_dec)
    have hrow : lfile s fs[k] = (.str "file", .str fs[k], pcs w.1) := by
      unfold lfile
      rw [hw]
      rfl
    refine hX _ _ ⟨_, rfl, ?_⟩
    rw [aset_aset, lotsF_step hk, List.map_append, hrow]
    rfl
end K26
namespace K26
open PySem L2 Hz
local macro_rules | `(tactic| array_mem_dec) => `(tactic| (first | ((with_reducible apply fd_cons); exact trivial) | ((with_reducible apply fd_nil); exact trivial) | ((with_reducible apply oq_isiB (b := true)); exact rfl) | ((with_reducible apply oq_isiB (b := false)); exact rfl) | ((with_reducible apply w_xi); exact rfl; exact decide_eq_true rfl; exact if_pos rfl) | ((with_reducible apply w_xf); exact rfl; exact decide_eq_true rfl; exact rfl) | ((with_reducible apply w_frzS); exact rfl; (first | assumption | exact aset_same); (try simp only [List.set])) | ((with_reducible apply rg1_of); (first | omega | decide)) | ((with_reducible apply rg2_of); (first | omega | decide)) | ((with_reducible apply lok); exact rfl) | ((with_reducible refine it2_dec ?_ ?_) <;> intro)))
local macro_rules | `(tactic| array_mem_dec) => `(tactic| (first | ((with_reducible apply dc_c); (first | assumption | exact aset_same); (first | exact rfl | exact tD_real _ _)) | ((with_reducible apply cdi_of); (first | assumption | exact aset_same); (first | exact rfl | exact tD_real _ _)) | ((with_reducible apply dc_d); (first | exact rfl | exact tD_real _ _)) | ((with_reducible apply dc_f); (first | exact rfl | exact tD_real _ _)) | ((with_reducible apply lk_of); exact rfl) | ((with_reducible apply oq_setv2); (simp only [List.set, wipeA]; exact rfl)) | ((with_reducible apply cal_of); exact rfl; (try simp only [List.cons_append, List.nil_append, List.append_nil])) | ((with_reducible apply w_aug); exact rfl) | ((with_reducible apply cel_of); (first | assumption | exact aset_same)) | ((with_reducible apply ceo_of); (first | assumption | exact aset_same)) | ((with_reducible apply tlG_r); (first | assumption | exact aset_same)) | ((with_reducible apply fr_of); (first | assumption | exact aset_same))))
local macro_rules | `(tactic| array_mem_dec) => `(tactic| (with_reducible first | refine w_dictP ?_ | refine w_sortD ?_ | refine w_isiC ?_))
local macro_rules | `(tactic| array_mem_dec) => `(tactic| (with_reducible first | refine pr2_of ?_ | refine fl_f ?_ | refine fl_t ?_ | refine fl_o ?_ | refine fl_r ?_ | refine fl_n ?_ | refine fl_w ?_ | refine fl_m ?_ | refine ctD_list ?_ | refine ctD_tup ?_ | refine vw_ct ?_ | refine fe_n ?_ | refine fe_b ?_ | refine vw_en ?_ | refine len_bk ?_ | refine vw_bk ?_ | refine w_dget ?_ | refine w_dget1 ?_ | refine w_dget2 ?_ | refine w_din ?_ | refine w_dnotin ?_ | refine w_dpop1 ?_ | refine w_dpop2 ?_ | refine w_dput ?_ | refine w_daug ?_ | refine w_lenD ?_ | refine w_dnew ?_ | refine w_fz ?_ | refine w_listD ?_ | refine w_dictD ?_))
local macro_rules | `(tactic| array_mem_dec) => `(tactic| (with_reducible first | refine tb_b ?_ | refine ti_b ?_ | refine ts_b ?_ | refine we_nx ?_ | refine we_rt ?_ | refine we_ex ?_ | refine wn_nx ?_ | refine wn_rt ?_ | refine wn_bk ?_ | refine wn_ct ?_ | refine wn_ex ?_ | refine wl_nx ?_ | refine wl_rt ?_ | refine wl_bk ?_ | refine wl_ct ?_ | refine wl_ex ?_ | refine wx_nx ?_ | refine wx_rt ?_ | refine wx_bk ?_ | refine wx_ct ?_ | refine wx_ex ?_ | refine wh_nx ?_ | refine wh_rt ?_ | refine wh_bk ?_ | refine wh_ct ?_ | refine it2_t ?_ | refine it2_f ?_ | refine it2_not ?_ | refine tlG_l ?_ | refine ttG_t ?_))
local macro_rules | `(tactic| array_mem_dec) => `(tactic| ((with_reducible refine oq_id ?_); (first | (with_reducible first | refine vw_i ?_ | refine vw_s ?_ | refine vw_b ?_ | refine vw_n ?_ | refine vw_l ?_ | refine vw_t ?_ | refine vw_sc ?_ | refine vw_o ?_ | refine mv_nil ?_ | refine mv_cons ?_ | refine oq_tgNil ?_ | refine oq_tgCons ?_ | refine oq_add_i ?_ | refine oq_sub ?_ | refine oq_lt ?_ | refine oq_le ?_ | refine oq_gt ?_ | refine oq_ge ?_ | refine oq_eq_i ?_ | refine oq_ne_i ?_ | refine oq_eq_s ?_ | refine oq_ne_s ?_ | refine oq_eq_b ?_ | refine oq_ne_b ?_ | refine oq_is ?_ | refine oq_isNot ?_ | refine oq_in_s ?_ | refine oq_notIn_s ?_ | refine oq_len_l ?_ | refine oq_len_t ?_ | refine oq_int ?_ | refine oq_abs ?_ | refine oq_ord ?_ | refine oq_cut_l ?_ | refine oq_cut_t ?_ | refine oq_list_l ?_ | refine oq_list_t ?_ | refine oq_tuple_l ?_ | refine oq_tuple_t ?_ | refine oq_max2 ?_ | refine oq_min2 ?_ | refine oq_some ?_ | refine oq_len_sc ?_ | refine oq_eq_il ?_ | refine oq_ne_il ?_ | refine oq_eq_it ?_ | refine oq_ne_it ?_ | refine oq_lt_il ?_ | refine oq_lt_it ?_ | refine oq_iadd_i ?_ | refine oq_isT ?_ | refine oq_isNotT ?_) | (first | ((with_reducible apply vw_st); assumption) | ((with_reducible apply oq_tgTup); exact rfl) | ((with_reducible apply oq_ix_lk); exact rfl) | ((with_reducible apply oq_ix_tk); exact rfl) | ((with_reducible apply vw_r); (first | assumption | exact aset_same)) | ((with_reducible apply oq_ixN_k); exact rfl; (try simp only [List.set, Int.reduceToNat])) | ((with_reducible apply oq_mod); (first | omega | decide)) | ((with_reducible apply oq_div); (first | omega | decide)) | ((with_reducible apply oq_mul); (first | omega | decide)) | ((with_reducible apply oq_pow); (first | omega | decide)) | ((with_reducible apply oq_shl); (first | omega | decide)) | ((with_reducible apply oq_shr); (first | omega | decide))) | (first | ((with_reducible apply oq_add_s); (first | omega | decide)) | ((with_reducible apply oq_len_s); (first | omega | decide)) | ((with_reducible apply oq_cut_s); (first | omega | decide)) | ((with_reducible apply oq_append); (first | omega | decide)) | ((with_reducible apply oq_insert); (first | omega | decide)) | ((with_reducible apply oq_rep); (first | omega | decide)) | ((with_reducible apply oq_cat); (first | omega | decide))))))
local macro_rules | `(tactic| array_mem_dec) => `(tactic| (with_reducible first | refine w_list ?_ | refine w_tuple ?_ | refine w_str ?_ | refine w_range1 ?_ | refine w_range2 ?_ | refine w_range3 ?_ | refine w_next ?_ | refine w_break ?_ | refine w_cont ?_ | refine w_drop ?_ | refine w_ret ?_ | refine w_retN ?_ | refine w_if ?_ | refine w_asg ?_ | refine w_raise ?_ | refine w_fld ?_ | refine w_seta ?_ | refine w_auga ?_ | refine w_seti ?_ | refine w_mut ?_ | refine w_frz ?_ | refine w_new ?_ | refine w_ext ?_ | refine w_for ?_ | refine w_lc ?_ | refine w_tryA ?_ | refine w_try ?_ | refine w_par ?_))
local macro_rules | `(tactic| array_mem_dec) => `(tactic| (first | ((with_reducible apply w_kV); exact rfl) | (with_reducible first | refine w_kC ?_ | refine w_bop ?_ | refine w_tst ?_ | refine w_val ?_ | refine w_and ?_ | refine w_or ?_ | refine w_not ?_ | refine w_andV ?_ | refine w_orV ?_ | refine w_chain ?_ | refine w_ifK ?_ | refine w_nil ?_ | refine w_cons ?_ | refine w_tup ?_ | refine w_lst ?_ | refine w_call ?_ | refine w_neg ?_ | refine w_b1 ?_ | refine w_bn ?_ | refine w_isi ?_ | refine w_met ?_ | refine w_pnone ?_ | refine w_psome ?_ | refine w_cut ?_ | refine w_yes ?_)))
local macro_rules | `(tactic| array_get_dec) => `(tactic| (with_reducible refine w_seqB ?_))
local macro_rules | `(tactic| array_get_dec) => `(tactic| array_mem_dec)
local macro_rules | `(tactic| decreasing_trivial_pre_omega) => `(tactic| (with_reducible refine w_seq ?_))
local macro_rules | `(tactic| decreasing_trivial_pre_omega) => `(tactic| array_mem_dec)
local macro_rules | `(tactic| sizeOf_list_dec) => `(tactic| (try simp only [List.set, Int.reduceToNat, List.map_cons, List.map_nil, Nat.reduceSub, List.reduceReplicate, List.cons_append, List.nil_append, wipeA, aset_aset, List.getElem?_cons_zero, List.getElem?_cons_succ]))
variable {CL CE CS CF CP CI gX : Nat} {α : AH} {Q : QD} {E : QX}
def dadd (l : List (Int × D)) (acc : List Int) (y : Int) : List Int := if y ∈ l.map (·.1) ∨ y ∈ acc then acc else acc ++ [y]
def dueL (l : List (Int × D)) (ys : List Int) : List Int := ys.foldl (dadd l) []
theorem cut_drop {c : List Int} {k : Nat} : cutD ((pcs c).map fun p => PyData.int (val 256 1 p)) (some (k : Int)) none = (((pcs c).drop k).map kb).map PyData.int := by
  unfold cutD
  rw [HT.sIx_nat, List.length_map, show HT.sIx (pcs c).length (pcs c).length none = (pcs c).length from rfl, List.take_of_length_le (by rw [List.length_drop, List.length_map]; omega), List.map_map, ← List.map_drop]
  by_cases h : k ≤ (pcs c).length
  · rw [Nat.min_eq_left h]
    rfl
  · rw [Nat.min_eq_right (by omega), List.drop_eq_nil_of_le (Nat.le_refl _), List.drop_eq_nil_of_le (by omega)]
    rfl
theorem any_i {b : Int} {xs : List Int} : ((xs.map PyData.int).any fun z => PyData.eqv z (.int b)) = decide (b ∈ xs) := by
  rw [List.any_map, Bool.eq_iff_iff, List.any_eq_true, decide_eq_true_eq]
  constructor
  · rintro ⟨x, hx, e⟩
    have : x = b := by simpa [PyData.eqv] using e
    exact this ▸ hx
  · intro h
    exact ⟨b, h, by simp [PyData.eqv]⟩
theorem oq_nin_i {b : Int} {xs : List Int} {R : D → Prop} (h : R (.bool (!decide (b ∈ xs)))) : oq (dNotIn (.int b) (.list (xs.map .int))) R := ⟨_, by
  show ((if okD 60 (.int b) = true ∧ okD 60 (.list (xs.map .int)) = true then some _ else none).map _ : Option D) = _
  rw [if_pos ⟨rfl, okD_ints 59 xs⟩]
  show some (PyData.bool (!((xs.map PyData.int).any fun z => PyData.eqv z (.int b)))) = _
  rw [any_i], h⟩
theorem miss_go {A : Ads} {s : Sto} {n : Str} {v h m d t : D} {c : List Int} (S : StAt CS α A s) (hc : okc c) (hl : s.files.length < 64 ∧ s.old.length ≤ 100) (hF : ∀ x ∈ s.files, okc x.2.1) (hO : ∀ x ∈ s.old, okc x.2.2)
    (q : ∀ (fs : List Str) (k : Nat), fs.Perm (s.files.map (·.1)) → PyProof.Rows.sortedS fs = true → IsFr (aGet n s.temps) c k → Q (.list ((dueL (nearL (lotsL n s fs c k)) (((pcs c).drop k).map kb)).map .int)) α) :
    f_missing CL CE CS CF CP CI gX [dref A.p, enD CE (.str n) v h m d t (bkD c)] α Q E := by
  unfold f_missing m_missing
  refine w_runP rfl ?_
  sizeOf_list_dec
  (repeat' array_get_dec)
  refine near_go S hc hl hF hO fun fs k f1 f2 hk => ?_
  have qq := q fs k f1 f2 hk
  unfold dueL at qq
  generalize nearL (lotsL n s fs c k) = l at *
  sizeOf_list_dec
  (repeat' array_get_dec)
  try refine bar_of ?_
  sizeOf_list_dec
  (repeat' array_get_dec)
  intro p3 h3
  (repeat' array_get_dec)
  try refine bar_of ?_
  sizeOf_list_dec
  (repeat' array_get_dec)
  refine kept_go (S.ext (keep1 h3)) hc fun k' hk' => ?_
  obtain rfl := hk.uniq hk'
  sizeOf_list_dec
  (repeat' array_get_dec)
  refine ⟨_, rfl, ?_⟩
  rw [cut_drop]
  sizeOf_list_dec
  (repeat' array_get_dec)
  have hyl : (((pcs c).drop k).map kb).length ≤ 255 := by
    rw [List.length_map, List.length_drop]
    have := pcs_length hc
    omega
  generalize ((pcs c).drop k).map kb = ys at *
  refine for_map (xs := ys) (u := .int) rfl (fun j ρ α' => ∃ (x : Option D) (acc : List Int), ρ = [some (dref A.p), some (enD CE (.str n) v h m d t (bkD c)), some (.dict (tD id l)), some (dref p3), x] ∧ α' = aset α p3 (.list (acc.map .int)) ∧ acc.length ≤ j ∧ acc = (ys.take j).foldl (dadd l) []) ⟨none, [], rfl, rfl, by simp, rfl⟩ ?_ ?_
  · rintro ρ _ ⟨x, acc, rfl, rfl, hlen, hacc⟩
    sizeOf_list_dec
    (repeat' array_get_dec)
    try refine bar_of ?_
    sizeOf_list_dec
    (repeat' array_get_dec)
    rw [adel_aset h3, arst_self]
    rw [List.take_length] at hacc
    rw [hacc]
    exact qq
  · rintro j hj ρ _ ⟨x, acc, rfl, rfl, hlen, hacc⟩ X hX
    have hta := List.take_append_getElem hj
    generalize ys[j] = y at *
    have hst : (ys.take (j + 1)).foldl (dadd l) [] = dadd l acc y := by
      rw [← hta, List.foldl_append, ← hacc]
      rfl
    sizeOf_list_dec
    (repeat' array_get_dec)
    rw [look_i]
    cases hg : aGet y l with
    | some w =>
      (try simp only [Option.map_none, Option.map_some, Option.isSome_none, Option.isSome_some, Bool.not_true, Bool.not_false, Option.getD_some, Option.getD_none])
      (repeat' array_get_dec)
      have hin : y ∈ l.map (·.1) := List.mem_map_of_mem (f := fun x : Int × D => x.1) (aGet_mem hg)
      refine hX _ _ ⟨_, acc, rfl, rfl, by omega, ?_⟩
      rw [hst]
      unfold dadd
      rw [if_pos (.inl hin)]
    | none =>
      have hni := aGet_none.mp hg
      (try simp only [Option.map_none, Option.map_some, Option.isSome_none, Option.isSome_some, Bool.not_true, Bool.not_false, Option.getD_some, Option.getD_none])
      (repeat' array_get_dec)
      refine oq_nin_i ?_
      by_cases hy : y ∈ acc
      · rw [decide_eq_true hy]
        (repeat' array_get_dec)
        refine hX _ _ ⟨_, acc, rfl, rfl, by omega, ?_⟩
        rw [hst]
        unfold dadd
        rw [if_pos (.inr hy)]
      · rw [decide_eq_false hy]
        (repeat' array_get_dec)
        refine oq_append (by rw [List.length_map]; omega) ?_
        (repeat' array_get_dec)
        refine hX _ _ ⟨_, acc ++ [y], rfl, ?_, by rw [List.length_append]; exact Nat.succ_le_succ hlen, ?_⟩
        · rw [aset_aset, List.map_append]
          rfl
        · rw [hst]
          unfold dadd
          rw [if_neg (by rintro (h | h); exact hni h; exact hy h)]
end K26
namespace K26
open PySem L2 Hz
def PM (t c : List Int) (k : Nat) : Prop := t.take (c.take (4 * k)).length = c.take (4 * k)
instance {t c : List Int} {k : Nat} : Decidable (PM t c k) := by unfold PM; infer_instance
theorem flat_range {c : List Int} : ∀ k, ((List.range k).map (ck c)).flatten = c.take (4 * k)
  | 0 => by simp
  | k + 1 => by
    rw [List.range_succ, List.map_append, List.flatten_append, flat_range k, show 4 * (k + 1) = 4 * k + 4 by omega, List.take_add]
    simp [ck]
theorem flat_take {c : List Int} {k : Nat} (h : k ≤ nk c) : ((pcs c).take k).flatten = c.take (4 * k) := by
  rw [← flat_range]
  unfold pcs
  rw [← List.map_take, List.take_range, Nat.min_eq_left h]
theorem pm_succ {t c : List Int} {k : Nat} (h : k < nk c) : PM t c (k + 1) ↔ PM t c k ∧ mt t c k := by
  have h4 : 4 * k < c.length := by unfold nk at h; omega
  have l0 : (c.take (4 * k)).length = 4 * k := by rw [List.length_take]; omega
  have e1 : c.take (4 * (k + 1)) = c.take (4 * k) ++ ck c k := by
    rw [show 4 * (k + 1) = 4 * k + 4 by omega, List.take_add]
    rfl
  have l1 : 1 ≤ (ck c k).length := by
    unfold ck
    rw [List.length_take, List.length_drop]
    omega
  unfold PM mt
  rw [e1, List.length_append, l0, List.take_add]
  constructor
  · intro h
    by_cases q : 4 * k ≤ t.length
    · have := List.append_inj h (by rw [l0, List.length_take]; omega)
      exact this
    · exfalso
      have := congrArg List.length h
      rw [List.length_append, List.length_append, l0, List.length_take, List.length_take, List.length_drop] at this
      omega
  · rintro ⟨h1, h2⟩
    rw [h1, h2]
theorem pm_all {t c : List Int} : ∀ {k : Nat}, k ≤ nk c → (PM t c k ↔ ∀ j, j < k → mt t c j)
  | 0, _ => by
    constructor
    · intro _ j hj
      omega
    · intro _
      unfold PM
      simp
  | k + 1, h => by
    rw [pm_succ (by omega), pm_all (k := k) (by omega)]
    constructor
    · rintro ⟨h1, h2⟩ j hj
      by_cases e : j = k
      · rw [e]
        exact h2
      · exact h1 j (by omega)
    · intro h1
      exact ⟨fun j hj => h1 j (by omega), h1 k (by omega)⟩
theorem fr_iff {t c : List Int} {k : Nat} : IsFr (some t) c k ↔ k ≤ nk c ∧ PM t c k ∧ (k < nk c → ¬ PM t c (k + 1)) := by
  constructor
  · rintro ⟨h1, h2, h3⟩
    exact ⟨h1, (pm_all h1).mpr h2, fun hlt hm => h3 hlt ((pm_succ hlt).mp hm).2⟩
  · rintro ⟨h1, h2, h3⟩
    exact ⟨h1, (pm_all h1).mp h2, fun hlt hm => h3 hlt ((pm_succ hlt).mpr ⟨h2, hm⟩)⟩
/-- the temporary file holds k whole pieces and nothing else -/
def Cl (T : Option (List Int)) (c : List Int) (k : Nat) : Prop := k ≤ nk c ∧ T.getD [] = c.take (4 * k) ∧ (T = none → k = 0)
theorem take_lt {c : List Int} {k : Nat} (h : k < nk c) : (c.take (4 * k)).length = 4 * k ∧ 4 * k < (c.take (4 * (k + 1))).length ∧ c.take (4 * (k + 1)) = c.take (4 * k) ++ ck c k := by
  have h4 : 4 * k < c.length := by unfold nk at h; omega
  refine ⟨by rw [List.length_take]; omega, by rw [List.length_take]; omega, ?_⟩
  rw [show 4 * (k + 1) = 4 * k + 4 by omega, List.take_add]
  rfl
theorem Cl.fr {T : Option (List Int)} {c : List Int} {k : Nat} (h : Cl T c k) : IsFr T c k := by
  obtain ⟨h1, h2, h3⟩ := h
  cases T with
  | none => exact h3 rfl
  | some t =>
    have h2 : t = c.take (4 * k) := h2
    subst h2
    refine fr_iff.mpr ⟨h1, ?_, fun hlt hm => ?_⟩
    · unfold PM
      rw [List.take_length]
    · obtain ⟨g1, g2, _⟩ := take_lt hlt
      unfold PM at hm
      have := congrArg List.length hm
      rw [List.length_take, g1] at this
      omega
/-- a piece half written -/
theorem fr_part {c : List Int} {k j : Nat} (h : k < nk c) (hj : j < (ck c k).length) : IsFr (some (c.take (4 * k) ++ (ck c k).take j)) c k := by
  obtain ⟨g1, g2, g3⟩ := take_lt h
  refine fr_iff.mpr ⟨by omega, ?_, fun _ hm => ?_⟩
  · unfold PM
    rw [List.take_append_of_le_length (Nat.le_refl _), List.take_length]
  · unfold PM at hm
    have := congrArg List.length hm
    rw [g3] at this
    simp only [List.length_take, List.length_append] at this
    omega
theorem fr_some {t c : List Int} {k : Nat} (h : IsFr (some t) c k) : k ≤ nk c ∧ t.take (c.take (4 * k)).length = c.take (4 * k) := by
  obtain ⟨h1, h2, _⟩ := fr_iff.mp h
  exact ⟨h1, h2⟩
theorem Cl.step {T : Option (List Int)} {c : List Int} {k : Nat} (h : Cl T c k) (hk : k < nk c) : Cl (some (T.getD [] ++ ck c k)) c (k + 1) :=
  ⟨hk, by rw [h.2.1, (take_lt hk).2.2]; rfl, fun e => by cases e⟩
def Eb (c : List Int) : List Int := (pcs c).map kb
theorem Eb_len {c : List Int} : (Eb c).length = nk c := by
  unfold Eb
  rw [List.length_map, pcs_len]
def fad (N acc : List Int) (y : Int) : List Int := if y ∈ N ∨ y ∈ acc then acc else acc ++ [y]
def DD (bs E : List Int) (k0 k : Nat) : List Int := ((E.take k).drop k0).foldl (fad (E.take k0 ++ bs)) []
def dd (l : List Int) : List Int := l.foldl (fad []) []
theorem fad_mem {N acc : List Int} {y x : Int} : x ∈ fad N acc y ↔ x ∈ acc ∨ (x = y ∧ y ∉ N) := by
  unfold fad
  by_cases h : y ∈ N ∨ y ∈ acc
  · rw [if_pos h]
    constructor
    · exact .inl
    · rintro (h1 | ⟨rfl, h2⟩)
      · exact h1
      · rcases h with h | h
        · exact absurd h h2
        · exact h
  · rw [if_neg h, List.mem_append, List.mem_singleton]
    constructor
    · rintro (h1 | rfl)
      · exact .inl h1
      · exact .inr ⟨rfl, fun z => h (.inl z)⟩
    · rintro (h1 | ⟨rfl, _⟩)
      · exact .inl h1
      · exact .inr rfl
theorem foldl_fad {N : List Int} {x : Int} : ∀ (ys acc : List Int), x ∈ ys.foldl (fad N) acc ↔ x ∈ acc ∨ (x ∈ ys ∧ x ∉ N)
  | [], acc => by simp
  | y :: ys, acc => by
    rw [List.foldl_cons, foldl_fad ys, fad_mem]
    constructor
    · rintro ((h | ⟨rfl, h⟩) | ⟨h1, h2⟩)
      · exact .inl h
      · exact .inr ⟨List.mem_cons_self, h⟩
      · exact .inr ⟨List.mem_cons_of_mem _ h1, h2⟩
    · rintro (h | ⟨h1, h2⟩)
      · exact .inl (.inl h)
      · rcases List.mem_cons.mp h1 with rfl | h1
        · exact .inl (.inr ⟨rfl, h2⟩)
        · exact .inr ⟨h1, h2⟩
theorem DD_self {bs E : List Int} {k0 : Nat} : DD bs E k0 k0 = [] := by
  unfold DD
  rw [List.drop_eq_nil_of_le (by rw [List.length_take]; omega)]
  rfl
/-- it is new at k -/
def Nw (bs E : List Int) (k : Nat) : Prop := ∃ h : k < E.length, E[k] ∉ E.take k ∧ E[k] ∉ bs
theorem drop_snoc {E : List Int} {k0 k : Nat} (h0 : k0 ≤ k) (hk : k < E.length) : (E.take (k + 1)).drop k0 = (E.take k).drop k0 ++ [E[k]] := by
  rw [← List.take_append_getElem hk, List.drop_append_of_le_length (by rw [List.length_take]; omega)]
theorem DD_step {bs E : List Int} {k0 k : Nat} (h0 : k0 ≤ k) (hk : k < E.length) : DD bs E k0 (k + 1) = fad (E.take k0 ++ bs) (DD bs E k0 k) E[k] := by
  unfold DD
  rw [drop_snoc h0 hk, List.foldl_append]
  rfl
theorem mem_split {E : List Int} {k0 k : Nat} {y : Int} (h0 : k0 ≤ k) : y ∈ E.take k ↔ y ∈ E.take k0 ∨ y ∈ (E.take k).drop k0 := by
  have h1 : E.take k = E.take k0 ++ (E.take k).drop k0 := by
    conv => lhs; rw [← List.take_append_drop k0 (E.take k)]
    rw [List.take_take, Nat.min_eq_left h0]
  conv => lhs; rw [h1]
  rw [List.mem_append]
theorem DD_old {bs E : List Int} {k0 k : Nat} (h0 : k0 ≤ k) (hk : k < E.length) (h : E[k] ∈ E.take k ∨ E[k] ∈ bs) : DD bs E k0 (k + 1) = DD bs E k0 k := by
  rw [DD_step h0 hk]
  unfold fad
  rw [if_pos]
  rcases h with h | h
  · rcases (mem_split h0).mp h with h | h
    · exact .inl (List.mem_append_left _ h)
    · by_cases q : E[k] ∈ E.take k0 ++ bs
      · exact .inl q
      · exact .inr ((foldl_fad _ _).mpr (.inr ⟨h, q⟩))
  · exact .inl (List.mem_append_right _ h)
theorem DD_new {bs E : List Int} {k0 k : Nat} (h0 : k0 ≤ k) (hk : k < E.length) (h1 : E[k] ∉ E.take k) (h2 : E[k] ∉ bs) : E[k] ∉ DD bs E k0 k ∧ DD bs E k0 (k + 1) = DD bs E k0 k ++ [E[k]] := by
  have n1 : E[k] ∉ DD bs E k0 k := fun h => by
    unfold DD at h
    rcases (foldl_fad _ _).mp h with h | ⟨h, _⟩
    · cases h
    · exact h1 ((mem_split h0).mpr (.inr h))
  refine ⟨n1, ?_⟩
  rw [DD_step h0 hk]
  unfold fad
  rw [if_neg]
  rintro (h | h)
  · rcases List.mem_append.mp h with h | h
    · exact h1 ((mem_split h0).mpr (.inl h))
    · exact h2 h
  · exact n1 h
theorem dd_snoc {l : List Int} {y : Int} : dd (l ++ [y]) = if y ∈ dd l then dd l else dd l ++ [y] := by
  unfold dd
  rw [List.foldl_append]
  show fad [] _ y = _
  unfold fad
  simp
/-- what was asked up to k, behind C cuts -/
def Ak (bs E : List Int) (k0 C k : Nat) (a : List Int) : Prop := (dd a = DD bs E k0 k ∧ a.length ≤ (DD bs E k0 k).length + C) ∨ (Nw bs E k ∧ dd a = DD bs E k0 (k + 1) ∧ a.length + 1 ≤ (DD bs E k0 (k + 1)).length + C)
def Bk (bs E : List Int) (k0 C k : Nat) (a : List Int) : Prop := dd a = DD bs E k0 (k + 1) ∧ a.length ≤ (DD bs E k0 (k + 1)).length + C
section
variable {bs E : List Int} {k0 C k : Nat} {a : List Int}
theorem ak_zero : Ak bs E k0 0 k0 [] := .inl ⟨by rw [DD_self]; rfl, by simp⟩
theorem ak_skip (h0 : k0 ≤ k) (hk : k < E.length) (h : E[k] ∈ E.take k ∨ E[k] ∈ bs) (A : Ak bs E k0 C k a) : Ak bs E k0 C (k + 1) a := by
  rcases A with A | ⟨⟨_, n1, n2⟩, _⟩
  · refine .inl ?_
    rw [DD_old h0 hk h]
    exact A
  · rcases h with h | h
    · exact absurd h n1
    · exact absurd h n2
theorem ak_ask (h0 : k0 ≤ k) (hk : k < E.length) (h1 : E[k] ∉ E.take k) (h2 : E[k] ∉ bs) (A : Ak bs E k0 C k a) : Bk bs E k0 C k (a ++ [E[k]]) := by
  obtain ⟨g1, g2⟩ := DD_new h0 hk h1 h2
  rcases A with ⟨A1, A2⟩ | ⟨_, A1, A2⟩
  · refine ⟨?_, ?_⟩
    · rw [dd_snoc, A1, if_neg g1, g2]
    · rw [g2]
      simp only [List.length_append, List.length_cons, List.length_nil]
      omega
  · refine ⟨?_, ?_⟩
    · rw [dd_snoc, A1, if_pos (by rw [g2]; simp)]
    · simp only [List.length_append, List.length_cons, List.length_nil]
      omega
theorem bk_give (B : Bk bs E k0 C k a) : Ak bs E k0 C (k + 1) a := .inl B
theorem bk_cut (h : Nw bs E k) (B : Bk bs E k0 C k a) : Ak bs E k0 (C + 1) k a := .inr ⟨h, B.1, by have := B.2; omega⟩
theorem ak_cut (A : Ak bs E k0 C k a) : Ak bs E k0 (C + 1) k a := by
  rcases A with ⟨A1, A2⟩ | ⟨n, A1, A2⟩
  · exact .inl ⟨A1, by omega⟩
  · exact .inr ⟨n, A1, by omega⟩
theorem ak_end (A : Ak bs E k0 C E.length a) : dd a = DD bs E k0 E.length ∧ a.length ≤ (DD bs E k0 E.length).length + C := by
  rcases A with A | ⟨⟨h, _⟩, _⟩
  · exact A
  · omega
end
theorem nadd_keys {l : List (Int × D)} {y : Int × D} {b : Int} : b ∈ (nadd l y).map (·.1) ↔ b ∈ l.map (·.1) ∨ b = y.1 := by
  unfold nadd
  split
  · rename_i h
    constructor
    · exact .inl
    · rintro (h1 | rfl)
      · exact h1
      · exact h
  · rename_i h
    rw [aPut_keys, if_neg h, List.mem_append, List.mem_singleton]
theorem fold_keys {b : Int} : ∀ (ys l : List (Int × D)), b ∈ (ys.foldl nadd l).map (·.1) ↔ b ∈ l.map (·.1) ∨ b ∈ ys.map (·.1)
  | [], l => by simp
  | y :: ys, l => by
    rw [List.foldl_cons, fold_keys ys, nadd_keys, List.map_cons, List.mem_cons, or_assoc]
theorem near_keys {lots : List Lot} {b : Int} : b ∈ (nearL lots).map (·.1) ↔ ∃ x ∈ lots, b ∈ x.2.2.map kb := by
  unfold nearL
  rw [fold_keys]
  constructor
  · rintro (h | h)
    · cases h
    · obtain ⟨z, hz, rfl⟩ := List.mem_map.mp h
      obtain ⟨x, hx, hz⟩ := List.mem_flatMap.mp hz
      refine ⟨x, hx, ?_⟩
      unfold nrow at hz
      obtain ⟨j, hj, rfl⟩ := List.mem_map.mp hz
      have hj := List.mem_range.mp hj
      refine List.mem_map.mpr ⟨x.2.2[j], List.getElem_mem hj, ?_⟩
      show _ = kb (x.2.2.getD j [])
      rw [List.getD_eq_getElem?_getD, List.getElem?_eq_getElem hj]
      rfl
  · rintro ⟨x, hx, h⟩
    refine .inr ?_
    obtain ⟨p, hp, rfl⟩ := List.mem_map.mp h
    obtain ⟨j, hj, e⟩ := List.getElem_of_mem hp
    refine List.mem_map.mpr ⟨nent x j, List.mem_flatMap.mpr ⟨x, hx, List.mem_map.mpr ⟨j, List.mem_range.mpr hj, rfl⟩⟩, ?_⟩
    show kb (x.2.2.getD j []) = _
    rw [List.getD_eq_getElem?_getD, List.getElem?_eq_getElem hj, ← e]
    rfl
/-- the blocks of the files and of the attic -/
def bsL (s : Sto) (fs : List Str) : List Int := (fs.map (lfile s) ++ (List.range s.old.length).map (lold s)).flatMap fun x => x.2.2.map kb
theorem lots_keys {n : Str} {s : Sto} {fs : List Str} {c : List Int} {k : Nat} {b : Int} : b ∈ (nearL (lotsL n s fs c k)).map (·.1) ↔ b ∈ (Eb c).take k ∨ b ∈ bsL s fs := by
  rw [near_keys]
  have e1 : (Eb c).take k = ((pcs c).take k).map kb := by unfold Eb; rw [List.map_take]
  have e2 : lotsL n s fs c k = (.str "temp", .str n, (pcs c).take k) :: (fs.map (lfile s) ++ (List.range s.old.length).map (lold s)) := rfl
  rw [e1, e2]
  unfold bsL
  rw [List.mem_flatMap]
  constructor
  · rintro ⟨x, hx, h⟩
    rcases List.mem_cons.mp hx with rfl | hx
    · exact .inl h
    · exact .inr ⟨x, hx, h⟩
  · rintro (h | ⟨x, hx, h⟩)
    · exact ⟨_, List.mem_cons_self, h⟩
    · exact ⟨x, List.mem_cons_of_mem _ hx, h⟩
theorem due_DD {n : Str} {s : Sto} {fs : List Str} {c : List Int} {k0 : Nat} : dueL (nearL (lotsL n s fs c k0)) (((pcs c).drop k0).map kb) = DD (bsL s fs) (Eb c) k0 (Eb c).length := by
  unfold dueL DD
  rw [List.take_length, show ((pcs c).drop k0).map kb = (Eb c).drop k0 by unfold Eb; rw [List.map_drop]]
  have e : ∀ acc y, dadd (nearL (lotsL n s fs c k0)) acc y = fad ((Eb c).take k0 ++ bsL s fs) acc y := fun acc y => by
    unfold dadd fad
    have h := lots_keys (n := n) (s := s) (fs := fs) (c := c) (k := k0) (b := y)
    by_cases q : y ∈ (nearL (lotsL n s fs c k0)).map (·.1)
    · rw [if_pos (.inl q), if_pos (.inl (List.mem_append.mpr (h.mp q)))]
    · have q' : y ∉ (Eb c).take k0 ++ bsL s fs := fun z => q (h.mpr (List.mem_append.mp z))
      by_cases r : y ∈ acc
      · rw [if_pos (.inr r), if_pos (.inr r)]
      · rw [if_neg, if_neg]
        · rintro (z | z)
          · exact q' z
          · exact r z
        · rintro (z | z)
          · exact q z
          · exact r z
  have e' : dadd (nearL (lotsL n s fs c k0)) = fad ((Eb c).take k0 ++ bsL s fs) := funext fun acc => funext fun y => e acc y
  rw [e']
end K26
namespace K26
open PySem L2 Hz
local macro_rules | `(tactic| array_mem_dec) => `(tactic| (first | ((with_reducible apply fd_cons); exact trivial) | ((with_reducible apply fd_nil); exact trivial) | ((with_reducible apply oq_isiB (b := true)); exact rfl) | ((with_reducible apply oq_isiB (b := false)); exact rfl) | ((with_reducible apply w_xi); exact rfl; exact decide_eq_true rfl; exact if_pos rfl) | ((with_reducible apply w_xf); exact rfl; exact decide_eq_true rfl; exact rfl) | ((with_reducible apply w_frzS); exact rfl; (first | assumption | exact aset_same); (try simp only [List.set])) | ((with_reducible apply rg1_of); (first | omega | decide)) | ((with_reducible apply rg2_of); (first | omega | decide)) | ((with_reducible apply lok); exact rfl) | ((with_reducible refine it2_dec ?_ ?_) <;> intro)))
local macro_rules | `(tactic| array_mem_dec) => `(tactic| (first | ((with_reducible apply dc_c); (first | assumption | exact aset_same); (first | exact rfl | exact tD_real _ _)) | ((with_reducible apply cdi_of); (first | assumption | exact aset_same); (first | exact rfl | exact tD_real _ _)) | ((with_reducible apply dc_d); (first | exact rfl | exact tD_real _ _)) | ((with_reducible apply dc_f); (first | exact rfl | exact tD_real _ _)) | ((with_reducible apply lk_of); exact rfl) | ((with_reducible apply oq_setv2); (simp only [List.set, wipeA]; exact rfl)) | ((with_reducible apply cal_of); exact rfl; (try simp only [List.cons_append, List.nil_append, List.append_nil])) | ((with_reducible apply w_aug); exact rfl) | ((with_reducible apply cel_of); (first | assumption | exact aset_same)) | ((with_reducible apply ceo_of); (first | assumption | exact aset_same)) | ((with_reducible apply tlG_r); (first | assumption | exact aset_same)) | ((with_reducible apply fr_of); (first | assumption | exact aset_same))))
local macro_rules | `(tactic| array_mem_dec) => `(tactic| (with_reducible first | refine w_dictP ?_ | refine w_sortD ?_ | refine w_isiC ?_))
local macro_rules | `(tactic| array_mem_dec) => `(tactic| (with_reducible first | refine pr2_of ?_ | refine fl_f ?_ | refine fl_t ?_ | refine fl_o ?_ | refine fl_r ?_ | refine fl_n ?_ | refine fl_w ?_ | refine fl_m ?_ | refine ctD_list ?_ | refine ctD_tup ?_ | refine vw_ct ?_ | refine fe_n ?_ | refine fe_b ?_ | refine vw_en ?_ | refine len_bk ?_ | refine vw_bk ?_ | refine w_dget ?_ | refine w_dget1 ?_ | refine w_dget2 ?_ | refine w_din ?_ | refine w_dnotin ?_ | refine w_dpop1 ?_ | refine w_dpop2 ?_ | refine w_dput ?_ | refine w_daug ?_ | refine w_lenD ?_ | refine w_dnew ?_ | refine w_fz ?_ | refine w_listD ?_ | refine w_dictD ?_))
local macro_rules | `(tactic| array_mem_dec) => `(tactic| (with_reducible first | refine tb_b ?_ | refine ti_b ?_ | refine ts_b ?_ | refine we_nx ?_ | refine we_rt ?_ | refine we_ex ?_ | refine wn_nx ?_ | refine wn_rt ?_ | refine wn_bk ?_ | refine wn_ct ?_ | refine wn_ex ?_ | refine wl_nx ?_ | refine wl_rt ?_ | refine wl_bk ?_ | refine wl_ct ?_ | refine wl_ex ?_ | refine wx_nx ?_ | refine wx_rt ?_ | refine wx_bk ?_ | refine wx_ct ?_ | refine wx_ex ?_ | refine wh_nx ?_ | refine wh_rt ?_ | refine wh_bk ?_ | refine wh_ct ?_ | refine it2_t ?_ | refine it2_f ?_ | refine it2_not ?_ | refine tlG_l ?_ | refine ttG_t ?_))
local macro_rules | `(tactic| array_mem_dec) => `(tactic| ((with_reducible refine oq_id ?_); (first | (with_reducible first | refine vw_i ?_ | refine vw_s ?_ | refine vw_b ?_ | refine vw_n ?_ | refine vw_l ?_ | refine vw_t ?_ | refine vw_sc ?_ | refine vw_o ?_ | refine mv_nil ?_ | refine mv_cons ?_ | refine oq_tgNil ?_ | refine oq_tgCons ?_ | refine oq_add_i ?_ | refine oq_sub ?_ | refine oq_lt ?_ | refine oq_le ?_ | refine oq_gt ?_ | refine oq_ge ?_ | refine oq_eq_i ?_ | refine oq_ne_i ?_ | refine oq_eq_s ?_ | refine oq_ne_s ?_ | refine oq_eq_b ?_ | refine oq_ne_b ?_ | refine oq_is ?_ | refine oq_isNot ?_ | refine oq_in_s ?_ | refine oq_notIn_s ?_ | refine oq_len_l ?_ | refine oq_len_t ?_ | refine oq_int ?_ | refine oq_abs ?_ | refine oq_ord ?_ | refine oq_cut_l ?_ | refine oq_cut_t ?_ | refine oq_list_l ?_ | refine oq_list_t ?_ | refine oq_tuple_l ?_ | refine oq_tuple_t ?_ | refine oq_max2 ?_ | refine oq_min2 ?_ | refine oq_some ?_ | refine oq_len_sc ?_ | refine oq_eq_il ?_ | refine oq_ne_il ?_ | refine oq_eq_it ?_ | refine oq_ne_it ?_ | refine oq_lt_il ?_ | refine oq_lt_it ?_ | refine oq_iadd_i ?_ | refine oq_isT ?_ | refine oq_isNotT ?_) | (first | ((with_reducible apply vw_st); assumption) | ((with_reducible apply oq_tgTup); exact rfl) | ((with_reducible apply oq_ix_lk); exact rfl) | ((with_reducible apply oq_ix_tk); exact rfl) | ((with_reducible apply vw_r); (first | assumption | exact aset_same)) | ((with_reducible apply oq_ixN_k); exact rfl; (try simp only [List.set, Int.reduceToNat])) | ((with_reducible apply oq_mod); (first | omega | decide)) | ((with_reducible apply oq_div); (first | omega | decide)) | ((with_reducible apply oq_mul); (first | omega | decide)) | ((with_reducible apply oq_pow); (first | omega | decide)) | ((with_reducible apply oq_shl); (first | omega | decide)) | ((with_reducible apply oq_shr); (first | omega | decide))) | (first | ((with_reducible apply oq_add_s); (first | omega | decide)) | ((with_reducible apply oq_len_s); (first | omega | decide)) | ((with_reducible apply oq_cut_s); (first | omega | decide)) | ((with_reducible apply oq_append); (first | omega | decide)) | ((with_reducible apply oq_insert); (first | omega | decide)) | ((with_reducible apply oq_rep); (first | omega | decide)) | ((with_reducible apply oq_cat); (first | omega | decide))))))
local macro_rules | `(tactic| array_mem_dec) => `(tactic| (with_reducible first | refine w_list ?_ | refine w_tuple ?_ | refine w_str ?_ | refine w_range1 ?_ | refine w_range2 ?_ | refine w_range3 ?_ | refine w_next ?_ | refine w_break ?_ | refine w_cont ?_ | refine w_drop ?_ | refine w_ret ?_ | refine w_retN ?_ | refine w_if ?_ | refine w_asg ?_ | refine w_raise ?_ | refine w_fld ?_ | refine w_seta ?_ | refine w_auga ?_ | refine w_seti ?_ | refine w_mut ?_ | refine w_frz ?_ | refine w_new ?_ | refine w_ext ?_ | refine w_for ?_ | refine w_lc ?_ | refine w_tryA ?_ | refine w_try ?_ | refine w_par ?_))
local macro_rules | `(tactic| array_mem_dec) => `(tactic| (first | ((with_reducible apply w_kV); exact rfl) | (with_reducible first | refine w_kC ?_ | refine w_bop ?_ | refine w_tst ?_ | refine w_val ?_ | refine w_and ?_ | refine w_or ?_ | refine w_not ?_ | refine w_andV ?_ | refine w_orV ?_ | refine w_chain ?_ | refine w_ifK ?_ | refine w_nil ?_ | refine w_cons ?_ | refine w_tup ?_ | refine w_lst ?_ | refine w_call ?_ | refine w_neg ?_ | refine w_b1 ?_ | refine w_bn ?_ | refine w_isi ?_ | refine w_met ?_ | refine w_pnone ?_ | refine w_psome ?_ | refine w_cut ?_ | refine w_yes ?_)))
local macro_rules | `(tactic| array_get_dec) => `(tactic| (with_reducible refine w_seqB ?_))
local macro_rules | `(tactic| array_get_dec) => `(tactic| array_mem_dec)
local macro_rules | `(tactic| decreasing_trivial_pre_omega) => `(tactic| (with_reducible refine w_seq ?_))
local macro_rules | `(tactic| decreasing_trivial_pre_omega) => `(tactic| array_mem_dec)
local macro_rules | `(tactic| sizeOf_list_dec) => `(tactic| (try simp only [List.set, Int.reduceToNat, List.map_cons, List.map_nil, Nat.reduceSub, List.reduceReplicate, List.cons_append, List.nil_append, wipeA, aset_aset, List.getElem?_cons_zero, List.getElem?_cons_succ]))
variable {CL CE CS CF CP CI gX : Nat} {α : AH} {Q : QD} {E : QX}
def tmp (n : Str) : Option (List Int) → List (Str × List Int)
  | none => []
  | some t => [(n, t)]
theorem tmp_get {n : Str} {T : Option (List Int)} : aGet n (tmp n T) = T := by
  cases T with
  | none => rfl
  | some t => unfold tmp; rw [aGet, if_pos rfl]
theorem tmp_put {n : Str} {T : Option (List Int)} {v : List Int} : aPut n v (tmp n T) = tmp n (some v) := by
  cases T with
  | none => rfl
  | some t => unfold tmp; rw [aPut, if_pos rfl]
theorem tmp_del {n : Str} {T : Option (List Int)} : aDel n (tmp n T) = tmp n none := by
  cases T with
  | none => rfl
  | some t => simp [tmp, aDel]
theorem tmp_len {n : Str} {T : Option (List Int)} : (tmp n T).length ≤ 1 := by
  cases T <;> simp [tmp]
theorem apT_tmp {n : Str} : ∀ {d : List Int} {T : Option (List Int)}, apT n d (tmp n T) = tmp n (if d = [] then T else some (T.getD [] ++ d))
  | [], T => by rw [if_pos rfl]; rfl
  | b :: d, T => by
    show apT n d (aPut n ((aGet n (tmp n T)).getD [] ++ [b]) (tmp n T)) = _
    rw [tmp_put, tmp_get, apT_tmp]
    have e : (if (b :: d : List Int) = [] then T else some (T.getD [] ++ (b :: d))) = some (T.getD [] ++ (b :: d)) := if_neg (by simp)
    rw [e]
    by_cases h : d = []
    · rw [if_pos h, h]
    · rw [if_neg h]
      show tmp n (some ((T.getD [] ++ [b]) ++ d)) = _
      rw [List.append_assoc]
      rfl
theorem cut_pre {t : List Int} {k : Nat} : cutD (t.map PyData.int) none (some (k : Int)) = (t.take k).map .int := by
  unfold cutD
  rw [HT.sIx_nat, List.length_map, show HT.sIx t.length 0 none = 0 from rfl, List.drop_zero, Nat.sub_zero, List.map_take, List.take_eq_take_iff, List.length_map]
  omega
theorem ctD_cut {t : List Int} {k : Nat} {R : D → Prop} (h : R (ctD (t.take k))) : oq (dCut (ctD t) none (some (k : Nat))) R := ⟨.list (cutD (t.map PyData.int) none (some (k : Int))), rfl, by rw [cut_pre]; exact h⟩
local macro_rules | `(tactic| array_mem_dec) => `(tactic| (with_reducible first | refine ctD_cut ?_))
/-- the store while the entry n is pulled: its files, the attic, the temporary file of n, the budget -/
def PS (CS : Nat) (α : AH) (A : Ads) (n : Str) (F : List (Str × (List Int × Int))) (O : List Row) (T : Option (List Int)) (mo : Option Int) : Prop := ∃ w, StAt CS α A ⟨F, tmp n T, O, [], [], w, mo⟩
def cutX (CP : Nat) (w : Int) : Ex := ⟨CP, [(.str "place", .int w)]⟩
/-- the temporary file behind j bytes -/
def half (T : Option (List Int)) (d : List Int) (j : Nat) : Option (List Int) := if d.take j = [] then T else some (T.getD [] ++ d.take j)
section
variable {A : Ads} {n : Str} {F : List (Str × (List Int × Int))} {O : List Row} {T : Option (List Int)} {mo : Option Int}
theorem pap_go {d : List Int} (S : PS CS α A n F O T mo) (hd : d ≠ []) (hl : (T.getD []).length + d.length ≤ 5000) (hX : mo ≠ none → ∀ α' j w, j < d.length → PS CS α' A n F O (half T d j) mo → Oth A α α' → E (cutX CP w) α')
    (h : ∀ α', PS CS α' A n F O (some (T.getD [] ++ d)) mo → Oth A α α' → Q .none α') : f_Store_append_temp CL CE CS CF CP CI gX [dref A.p, .str n, ctD d] α Q E := by
  obtain ⟨w, S⟩ := S
  have hl1 := tmp_len (n := n) (T := T)
  refine app_go S (by show (tmp n T).length < 1000; omega) (by show ((aGet n (tmp n T)).getD []).length + _ ≤ _; rw [tmp_get]; exact hl) (fun x hx => ?_) (fun hm α' w j hj S' O' => ?_) fun α' w S' O' => ?_
  · cases T with
    | none => cases hx
    | some t =>
      obtain rfl := List.mem_singleton.mp hx
      have : t.length + d.length ≤ 5000 := hl
      show t.length ≤ 5000
      omega
  · rw [apT_tmp] at S'
    exact hX hm α' j w hj ⟨w, S'⟩ O'
  · rw [apT_tmp, if_neg hd] at S'
    exact h α' ⟨w, S'⟩ O'
theorem cutt_go {t : List Int} {k : Nat} (S : PS CS α A n F O (some t) mo) (hX : mo ≠ none → ∀ w, E (cutX CP w) α) (h : ∀ α', PS CS α' A n F O (if k = 0 then none else some (t.take k)) mo → Oth A α α' → Q .none α') : f_Store_cut_temp CL CE CS CF CP CI gX [dref A.p, .str n, .int (k : Nat)] α Q E := by
  obtain ⟨w, S⟩ := S
  unfold f_Store_cut_temp m_Store_cut_temp
  refine w_runP rfl ?_
  sizeOf_list_dec
  (repeat' array_get_dec)
  refine meth_st S rfl rfl ?_
  (repeat' array_get_dec)
  refine wnow_go S (fun m e _ => ?_) fun _ α1 S1 O1 => ?_
  · (repeat' array_get_dec)
    rw [arst_self]
    exact hX (fun z => by rw [show mo = some m from e] at z; cases z) w
  · have ht : α1 A.t = some (.dict (tD ctD (tmp n (some t)))) := S1.t
    (repeat' array_get_dec)
    (refine bar_of ?_; sizeOf_list_dec; (repeat' array_get_dec))
    · rename_i hk
      have hk : k = 0 := by omega
      subst hk
      rw [if_pos rfl] at h
      have S2 := S1.sett (tmp n none) List.nodup_nil
      have O2 := O1.trans (Oth.set (d := .dict (tD ctD (tmp n none))) in_t)
      have e1 : dropP (.str n) (tD ctD (tmp n (some t))) = tD ctD (tmp n none) := (tD_drop ctD n (tmp n (some t))).trans (by rw [tmp_del])
      refine ⟨fun z hz => ?_, fun hz => ?_⟩
      · (repeat' array_get_dec)
        rw [e1, arst_oth S S2 O2]
        exact h _ ⟨_, S2⟩ O2
      · rw [look_s, tmp_get] at hz
        cases hz
    · rename_i hk
      rw [if_neg (by omega)] at h
      rw [look_s, tmp_get]
      (try simp only [Option.map_none, Option.map_some, Option.isSome_none, Option.isSome_some, Bool.not_true, Bool.not_false, Option.getD_some, Option.getD_none])
      (repeat' array_get_dec)
      rw [look_s, tmp_get]
      (try simp only [Option.map_none, Option.map_some, Option.isSome_none, Option.isSome_some, Bool.not_true, Bool.not_false, Option.getD_some, Option.getD_none])
      (repeat' array_get_dec)
      have ep : putP (.str n) (ctD (t.take k)) (tD ctD (tmp n (some t))) = tD ctD (tmp n (some (t.take k))) := (tD_put ctD n (t.take k) (l := tmp n (some t)) S1.nt).trans (by rw [tmp_put])
      have S2 := S1.sett (tmp n (some (t.take k))) (by simp [tmp])
      have O2 := O1.trans (Oth.set (d := .dict (tD ctD (tmp n (some (t.take k))))) in_t)
      rw [ep]
      refine ⟨by rw [tD_len]; have := tmp_len (n := n) (T := some t); omega, ?_⟩
      (repeat' array_get_dec)
      rw [arst_oth S S2 O2]
      exact h _ ⟨_, S2⟩ O2
theorem place_go {tm : Int} (S : PS CS α A n F O T mo) (hl : F.length < 1000) (hX : mo ≠ none → ∀ w, E (cutX CP w) α) (h : ∀ α', PS CS α' A n (aPut n (T.getD [], tm) F) O none mo → Oth A α α' → Q .none α') : f_Store_place CL CE CS CF CP CI gX [dref A.p, .str n, .int tm] α Q E := by
  obtain ⟨w, S⟩ := S
  unfold f_Store_place m_Store_place
  refine w_runP rfl ?_
  sizeOf_list_dec
  (repeat' array_get_dec)
  refine meth_st S rfl rfl ?_
  (repeat' array_get_dec)
  refine wnow_go S (fun m e _ => ?_) fun _ α1 S1 O1 => ?_
  · (repeat' array_get_dec)
    rw [arst_self]
    exact hX (fun z => by rw [show mo = some m from e] at z; cases z) w
  · have ht : α1 A.t = some (.dict (tD ctD (tmp n T))) := S1.t
    have hf : α1 A.f = some (.dict (tD flU F)) := S1.f
    have nd : (F.map (·.1)).Nodup := S1.nf
    have ep : putP (.str n) (.tuple [ctD (T.getD []), .int tm]) (tD flU F) = tD flU (aPut n (T.getD [], tm) F) := tD_put flU n (T.getD [], tm) nd
    have e1 : dropP (.str n) (tD ctD (tmp n T)) = tD ctD (tmp n none) := (tD_drop ctD n (tmp n T)).trans (by rw [tmp_del])
    have S2 := S1.sett (tmp n none) List.nodup_nil
    have O2 := O1.trans (Oth.set (d := .dict (tD ctD (tmp n none))) in_t)
    have S3 := S2.setf (aPut n (T.getD [], tm) F) (aPut_nodup nd)
    have O3 := O2.trans (Oth.set (d := .dict (tD flU (aPut n (T.getD [], tm) F))) in_f)
    have hf2 : (aset α1 A.t (.dict (tD ctD (tmp n none)))) A.f = some (.dict (tD flU F)) := S2.f
    (repeat' array_get_dec)
    try refine bar_of ?_
    sizeOf_list_dec
    (repeat' array_get_dec)
    refine ⟨fun z hz => ?_, fun hz => ?_⟩
    · rw [look_s, tmp_get] at hz
      cases T with
      | none => cases hz
      | some t =>
        cases hz
        rw [e1]
        (repeat' array_get_dec)
        refine ⟨by rw [tD_len]; omega, ?_⟩
        (repeat' array_get_dec)
        rw [show (some t : Option (List Int)).getD [] = t from rfl] at *
        rw [ep, arst_oth S S3 O3]
        exact h _ ⟨_, S3⟩ O3
    · rw [look_s, tmp_get] at hz
      cases T with
      | some t => cases hz
      | none =>
        have S4 := S1.setf (aPut n ([], tm) F) (aPut_nodup nd)
        have O4 := O1.trans (Oth.set (d := .dict (tD flU (aPut n ([], tm) F))) in_f)
        (repeat' array_get_dec)
        refine ⟨by rw [tD_len]; omega, ?_⟩
        (repeat' array_get_dec)
        rw [show putP (.str n) (.tuple [.list [], .int tm]) (tD flU F) = tD flU (aPut n ([], tm) F) from ep, arst_oth S S4 O4]
        exact h _ ⟨_, S4⟩ O4
theorem setb_go {s : Sto} {v : D} (S : StAt CS α A s) (hv : v = .none ∨ ∃ i, v = .int i) (h : ∀ mo α', StAt CS α' A { s with mo := mo } → Oth A α α' → Q .none α') : f_Store_set_budget CL CE CS CF CP CI gX [dref A.p, v] α Q E := by
  have hp := S.p
  have fin : ∀ mo, Q .none (arst α (aset α A.p (oD CS (fld A s.wr mo)))) := fun mo => by
    rw [arst_oth S (S.setp s.wr mo) (Oth.set in_p)]
    exact h mo _ (S.setp s.wr mo) (Oth.set in_p)
  unfold f_Store_set_budget m_Store_set_budget
  refine w_runP rfl ?_
  rcases hv with rfl | ⟨i, rfl⟩
  · clear S
    sizeOf_list_dec
    (repeat' array_get_dec)
    simp only [isNoneD]
    (repeat' array_get_dec)
    refine ⟨by show (7 : Nat) < 900; decide, ?_⟩
    (repeat' array_get_dec)
    exact fin none
  · clear S
    sizeOf_list_dec
    (repeat' array_get_dec)
    simp only [isNoneD]
    (repeat' array_get_dec)
    refine ⟨by show (7 : Nat) < 900; decide, ?_⟩
    (repeat' array_get_dec)
    exact fin (some _)
end
end K26
namespace K26
open PySem L2 Hz
local macro_rules | `(tactic| array_mem_dec) => `(tactic| (first | ((with_reducible apply fd_cons); exact trivial) | ((with_reducible apply fd_nil); exact trivial) | ((with_reducible apply oq_isiB (b := true)); exact rfl) | ((with_reducible apply oq_isiB (b := false)); exact rfl) | ((with_reducible apply w_xi); exact rfl; exact decide_eq_true rfl; exact if_pos rfl) | ((with_reducible apply w_xf); exact rfl; exact decide_eq_true rfl; exact rfl) | ((with_reducible apply w_frzS); exact rfl; (first | assumption | exact aset_same); (try simp only [List.set])) | ((with_reducible apply rg1_of); (first | omega | decide)) | ((with_reducible apply rg2_of); (first | omega | decide)) | ((with_reducible apply lok); exact rfl) | ((with_reducible refine it2_dec ?_ ?_) <;> intro)))
local macro_rules | `(tactic| array_mem_dec) => `(tactic| (first | ((with_reducible apply dc_c); (first | assumption | exact aset_same); (first | exact rfl | exact tD_real _ _)) | ((with_reducible apply cdi_of); (first | assumption | exact aset_same); (first | exact rfl | exact tD_real _ _)) | ((with_reducible apply dc_d); (first | exact rfl | exact tD_real _ _)) | ((with_reducible apply dc_f); (first | exact rfl | exact tD_real _ _)) | ((with_reducible apply lk_of); exact rfl) | ((with_reducible apply oq_setv2); (simp only [List.set, wipeA]; exact rfl)) | ((with_reducible apply cal_of); exact rfl; (try simp only [List.cons_append, List.nil_append, List.append_nil])) | ((with_reducible apply w_aug); exact rfl) | ((with_reducible apply cel_of); (first | assumption | exact aset_same)) | ((with_reducible apply ceo_of); (first | assumption | exact aset_same)) | ((with_reducible apply tlG_r); (first | assumption | exact aset_same)) | ((with_reducible apply fr_of); (first | assumption | exact aset_same))))
local macro_rules | `(tactic| array_mem_dec) => `(tactic| (with_reducible first | refine w_dictP ?_ | refine w_sortD ?_ | refine w_isiC ?_))
local macro_rules | `(tactic| array_mem_dec) => `(tactic| (with_reducible first | refine pr2_of ?_ | refine fl_f ?_ | refine fl_t ?_ | refine fl_o ?_ | refine fl_r ?_ | refine fl_n ?_ | refine fl_w ?_ | refine fl_m ?_ | refine ctD_list ?_ | refine ctD_tup ?_ | refine vw_ct ?_ | refine fe_n ?_ | refine fe_b ?_ | refine vw_en ?_ | refine len_bk ?_ | refine vw_bk ?_ | refine w_dget ?_ | refine w_dget1 ?_ | refine w_dget2 ?_ | refine w_din ?_ | refine w_dnotin ?_ | refine w_dpop1 ?_ | refine w_dpop2 ?_ | refine w_dput ?_ | refine w_daug ?_ | refine w_lenD ?_ | refine w_dnew ?_ | refine w_fz ?_ | refine w_listD ?_ | refine w_dictD ?_))
local macro_rules | `(tactic| array_mem_dec) => `(tactic| (with_reducible first | refine tb_b ?_ | refine ti_b ?_ | refine ts_b ?_ | refine we_nx ?_ | refine we_rt ?_ | refine we_ex ?_ | refine wn_nx ?_ | refine wn_rt ?_ | refine wn_bk ?_ | refine wn_ct ?_ | refine wn_ex ?_ | refine wl_nx ?_ | refine wl_rt ?_ | refine wl_bk ?_ | refine wl_ct ?_ | refine wl_ex ?_ | refine wx_nx ?_ | refine wx_rt ?_ | refine wx_bk ?_ | refine wx_ct ?_ | refine wx_ex ?_ | refine wh_nx ?_ | refine wh_rt ?_ | refine wh_bk ?_ | refine wh_ct ?_ | refine it2_t ?_ | refine it2_f ?_ | refine it2_not ?_ | refine tlG_l ?_ | refine ttG_t ?_))
local macro_rules | `(tactic| array_mem_dec) => `(tactic| ((with_reducible refine oq_id ?_); (first | (with_reducible first | refine vw_i ?_ | refine vw_s ?_ | refine vw_b ?_ | refine vw_n ?_ | refine vw_l ?_ | refine vw_t ?_ | refine vw_sc ?_ | refine vw_o ?_ | refine mv_nil ?_ | refine mv_cons ?_ | refine oq_tgNil ?_ | refine oq_tgCons ?_ | refine oq_add_i ?_ | refine oq_sub ?_ | refine oq_lt ?_ | refine oq_le ?_ | refine oq_gt ?_ | refine oq_ge ?_ | refine oq_eq_i ?_ | refine oq_ne_i ?_ | refine oq_eq_s ?_ | refine oq_ne_s ?_ | refine oq_eq_b ?_ | refine oq_ne_b ?_ | refine oq_is ?_ | refine oq_isNot ?_ | refine oq_in_s ?_ | refine oq_notIn_s ?_ | refine oq_len_l ?_ | refine oq_len_t ?_ | refine oq_int ?_ | refine oq_abs ?_ | refine oq_ord ?_ | refine oq_cut_l ?_ | refine oq_cut_t ?_ | refine oq_list_l ?_ | refine oq_list_t ?_ | refine oq_tuple_l ?_ | refine oq_tuple_t ?_ | refine oq_max2 ?_ | refine oq_min2 ?_ | refine oq_some ?_ | refine oq_len_sc ?_ | refine oq_eq_il ?_ | refine oq_ne_il ?_ | refine oq_eq_it ?_ | refine oq_ne_it ?_ | refine oq_lt_il ?_ | refine oq_lt_it ?_ | refine oq_iadd_i ?_ | refine oq_isT ?_ | refine oq_isNotT ?_) | (first | ((with_reducible apply vw_st); assumption) | ((with_reducible apply oq_tgTup); exact rfl) | ((with_reducible apply oq_ix_lk); exact rfl) | ((with_reducible apply oq_ix_tk); exact rfl) | ((with_reducible apply vw_r); (first | assumption | exact aset_same)) | ((with_reducible apply oq_ixN_k); exact rfl; (try simp only [List.set, Int.reduceToNat])) | ((with_reducible apply oq_mod); (first | omega | decide)) | ((with_reducible apply oq_div); (first | omega | decide)) | ((with_reducible apply oq_mul); (first | omega | decide)) | ((with_reducible apply oq_pow); (first | omega | decide)) | ((with_reducible apply oq_shl); (first | omega | decide)) | ((with_reducible apply oq_shr); (first | omega | decide))) | (first | ((with_reducible apply oq_add_s); (first | omega | decide)) | ((with_reducible apply oq_len_s); (first | omega | decide)) | ((with_reducible apply oq_cut_s); (first | omega | decide)) | ((with_reducible apply oq_append); (first | omega | decide)) | ((with_reducible apply oq_insert); (first | omega | decide)) | ((with_reducible apply oq_rep); (first | omega | decide)) | ((with_reducible apply oq_cat); (first | omega | decide))))))
local macro_rules | `(tactic| array_mem_dec) => `(tactic| (with_reducible first | refine w_list ?_ | refine w_tuple ?_ | refine w_str ?_ | refine w_range1 ?_ | refine w_range2 ?_ | refine w_range3 ?_ | refine w_next ?_ | refine w_break ?_ | refine w_cont ?_ | refine w_drop ?_ | refine w_ret ?_ | refine w_retN ?_ | refine w_if ?_ | refine w_asg ?_ | refine w_raise ?_ | refine w_fld ?_ | refine w_seta ?_ | refine w_auga ?_ | refine w_seti ?_ | refine w_mut ?_ | refine w_frz ?_ | refine w_new ?_ | refine w_ext ?_ | refine w_for ?_ | refine w_lc ?_ | refine w_tryA ?_ | refine w_try ?_ | refine w_par ?_))
local macro_rules | `(tactic| array_mem_dec) => `(tactic| (first | ((with_reducible apply w_kV); exact rfl) | (with_reducible first | refine w_kC ?_ | refine w_bop ?_ | refine w_tst ?_ | refine w_val ?_ | refine w_and ?_ | refine w_or ?_ | refine w_not ?_ | refine w_andV ?_ | refine w_orV ?_ | refine w_chain ?_ | refine w_ifK ?_ | refine w_nil ?_ | refine w_cons ?_ | refine w_tup ?_ | refine w_lst ?_ | refine w_call ?_ | refine w_neg ?_ | refine w_b1 ?_ | refine w_bn ?_ | refine w_isi ?_ | refine w_met ?_ | refine w_pnone ?_ | refine w_psome ?_ | refine w_cut ?_ | refine w_yes ?_)))
local macro_rules | `(tactic| array_get_dec) => `(tactic| (with_reducible refine w_seqB ?_))
local macro_rules | `(tactic| array_get_dec) => `(tactic| array_mem_dec)
local macro_rules | `(tactic| decreasing_trivial_pre_omega) => `(tactic| (with_reducible refine w_seq ?_))
local macro_rules | `(tactic| decreasing_trivial_pre_omega) => `(tactic| array_mem_dec)
local macro_rules | `(tactic| sizeOf_list_dec) => `(tactic| (try simp only [List.set, Int.reduceToNat, List.map_cons, List.map_nil, Nat.reduceSub, List.reduceReplicate, List.cons_append, List.nil_append, wipeA, aset_aset, List.getElem?_cons_zero, List.getElem?_cons_succ]))
variable {CL CE CS CF CP CI gX : Nat} {α : AH} {Q : QD} {E : QX}
def fU (x : Str × (List Int × Int)) : D := .tuple [.str x.1, .tuple (x.2.1.map .int), .int x.2.2]
def tU (x : Str × List Int) : D := .tuple [.str x.1, .tuple (x.2.map .int)]
theorem fd_go {l : List (Str × (List Int × Int))} {ts : List (Str × List Int)} {old : List Row} (nd : (l.map (·.1)).Nodup) (nt : (ts.map (·.1)).Nodup) (hl : l.length ≤ 100 ∧ ts.length ≤ 100 ∧ old.length ≤ 100)
    (q : ∀ α' A w, StAt CS α' A ⟨l, ts, old, [], [], w, none⟩ → (∀ a, (α a).isSome = true → α' a = α a) → (∀ a ∈ A.all, α a = none) → Q (dref A.p) α') : f_from_durable CL CE CS CF CP CI gX [.tuple [.tuple (l.map fU), .tuple (ts.map tU), .tuple (old.map duO), .tuple [], .tuple []]] α Q E := by
  unfold f_from_durable m_from_durable
  refine w_runF rfl ?_
  sizeOf_list_dec
  (repeat' array_get_dec)
  refine bar_of ?_
  sizeOf_list_dec
  (repeat' array_get_dec)
  intro g hg
  (repeat' array_get_dec)
  refine ⟨rfl, fun p hp => ?_⟩
  have ⟨gp, hp'⟩ := aset_none hp
  refine st_goT (l0 := []) (g := g) aset_same (by rw [aset_ne (Ne.symm gp), aset_same]; rfl) (Ne.symm gp) List.nodup_nil (by simp) fun α1 A Ap S0 O0 A0 => ?_
  subst Ap
  have fr : ∀ a ∈ A.all, α a = none := fun a ha => by
    by_cases e : a = A.p
    · rw [e]
      exact hp'
    · exact (aset_none (aset_none (A0 a ha e)).2).2
  have k1 : ∀ a, (α a).isSome = true → α1 a = α a := fun a ha => by
    have nin : a ∉ A.all := fun z => by rw [fr a z] at ha; cases ha
    rw [O0 a nin, aset_ne (fun e => nin (by rw [e]; exact in_p)), aset_ne (fun e => by rw [e, hg] at ha; cases ha)]
  refine ⟨rfl, ?_⟩
  (repeat' array_get_dec)
  try refine bar_of ?_
  sizeOf_list_dec
  (repeat' array_get_dec)
  generalize PyData.tuple [.tuple (l.map fU), .tuple (ts.map tU), .tuple (old.map duO), .tuple [], .tuple []] = dv
  refine for_mapG (xs := l) (u := fU) rfl (fun k ρ α' => ∃ x7 x8 x9 w, ρ = [some dv, some (dref A.p), some (.tuple (l.map fU)), some (.tuple (ts.map tU)), some (.tuple (old.map duO)), some (.tuple []), some (.tuple []), x7, x8, x9, none] ∧ StAt CS α' A ⟨l.take k, [], [], [], [], w, none⟩ ∧ Oth A α1 α') ⟨none, none, none, 0, rfl, S0, Oth.refl⟩ (fun _ _ _ _ => trivial) ?_ ?_
  rotate_left
  · rintro k hk ρ α2 ⟨x7, x8, x9, w, rfl, S, O⟩ X hX
    have hta := List.take_append_getElem hk
    have hnd : (((l.take k) ++ [l[k]]).map (·.1)).Nodup := by
      rw [hta]
      exact List.Nodup.sublist ((List.take_sublist _ _).map _) nd
    have hlk := List.length_take_le k l
    rw [← hta] at hX
    generalize l[k] = e at *
    obtain ⟨n, c, t⟩ := e
    have hnt : n ∉ (l.take k).map (·.1) := by
      rw [List.map_append, List.nodup_append] at hnd
      exact fun hm => hnd.2.2 _ hm n (by simp) rfl
    have ep : putP (.str n) (.tuple [ctD c, .int t]) (tD flU (l.take k)) = tD flU (l.take k ++ [(n, c, t)]) := by
      rw [show putP (.str n) (.tuple [ctD c, .int t]) (tD flU (l.take k)) = tD flU (aPut n (c, t) (l.take k)) from tD_put flU n (c, t) S.nf, aPut_new hnt]
    simp only [fU]
    sizeOf_list_dec
    (repeat' array_get_dec)
    refine cdi_of S.f (tD_real _ _) ⟨rfl, by rw [tD_len]; show (l.take k).length < 100000; omega, ?_⟩
    rw [show putP (PyData.str n) (PyData.tuple [PyData.list (List.map PyData.int c), PyData.int t]) (tD flU (l.take k)) = tD flU (l.take k ++ [(n, c, t)]) from ep]
    (repeat' array_get_dec)
    exact hX _ _ ⟨_, _, _, w, rfl, S.setf _ hnd, O.trans (Oth.set in_f)⟩
  rintro ρ α2 ⟨x7, x8, x9, w, rfl, S, O⟩
  rw [List.take_length] at S
  sizeOf_list_dec
  (repeat' array_get_dec)
  refine bar_of ?_
  sizeOf_list_dec
  (repeat' array_get_dec)
  refine for_mapG (xs := ts) (u := tU) rfl (fun k ρ α' => ∃ x7 x8 x9 w, ρ = [some dv, some (dref A.p), some (.tuple (l.map fU)), some (.tuple (ts.map tU)), some (.tuple (old.map duO)), some (.tuple []), some (.tuple []), x7, x8, x9, none] ∧ StAt CS α' A ⟨l, ts.take k, [], [], [], w, none⟩ ∧ Oth A α1 α') ⟨x7, x8, x9, w, rfl, S, O⟩ (fun _ _ _ _ => trivial) ?_ ?_
  rotate_left
  · clear S O x7 x8 x9 w
    rintro k hk ρ α2 ⟨x7, x8, x9, w, rfl, S, O⟩ X hX
    have hta := List.take_append_getElem hk
    have hnd : (((ts.take k) ++ [ts[k]]).map (·.1)).Nodup := by
      rw [hta]
      exact List.Nodup.sublist ((List.take_sublist _ _).map _) nt
    have hlk := List.length_take_le k ts
    rw [← hta] at hX
    generalize ts[k] = e at *
    obtain ⟨n, c⟩ := e
    have hnt : n ∉ (ts.take k).map (·.1) := by
      rw [List.map_append, List.nodup_append] at hnd
      exact fun hm => hnd.2.2 _ hm n (by simp) rfl
    have ep : putP (.str n) (ctD c) (tD ctD (ts.take k)) = tD ctD (ts.take k ++ [(n, c)]) := by
      rw [show putP (.str n) (ctD c) (tD ctD (ts.take k)) = tD ctD (aPut n c (ts.take k)) from tD_put ctD n c S.nt, aPut_new hnt]
    simp only [tU]
    sizeOf_list_dec
    (repeat' array_get_dec)
    refine cdi_of S.t (tD_real _ _) ⟨rfl, by rw [tD_len]; show (ts.take k).length < 100000; omega, ?_⟩
    rw [show putP (PyData.str n) (PyData.list (List.map PyData.int c)) (tD ctD (ts.take k)) = tD ctD (ts.take k ++ [(n, c)]) from ep]
    (repeat' array_get_dec)
    exact hX _ _ ⟨_, _, _, w, rfl, S.sett _ hnd, O.trans (Oth.set in_t)⟩
  clear S O x7 x8 x9 w
  rintro ρ α2 ⟨x7, x8, x9, w, rfl, S, O⟩
  rw [List.take_length] at S
  sizeOf_list_dec
  (repeat' array_get_dec)
  refine bar_of ?_
  sizeOf_list_dec
  (repeat' array_get_dec)
  have kS : ∀ a, (α a).isSome = true → α2 a = α a := fun a ha => by
    have nin : a ∉ A.all := fun z => by rw [fr a z] at ha; cases ha
    rw [O a nin, k1 a ha]
  have kN : ∀ a, α2 a = none → α a = none := fun a h => by
    cases e : α a with
    | none => rfl
    | some c => rw [kS a (by rw [e]; rfl), e] at h; cases h
  refine lc_map old duO olU rfl (by omega) trivial (fun x hx => ?_) ?_
  · obtain ⟨n, v, c⟩ := x
    refine oq_tgTup rfl (oq_tgCons (oq_setv (oq_tgCons (oq_setv (oq_tgCons (oq_setv (oq_tgNil ?_)))))))
    intro R hR
    sizeOf_list_dec
    (repeat' decreasing_trivial_pre_omega)
    exact hR
  (repeat' array_get_dec)
  intro o' ho
  have po : A.p ≠ o' := fun e => by rw [← e, S.p] at ho; cases ho
  (repeat' array_get_dec)
  refine ceo_of (by rw [aset_ne po]; exact S.p) ?_
  refine ⟨by show (7 : Nat) < 900; decide, ?_⟩
  (repeat' array_get_dec)
  refine bar_of ?_
  sizeOf_list_dec
  (repeat' array_get_dec)
  intro n' hn
  have ⟨np, hn2⟩ := aset_none hn
  have ⟨no, hn3⟩ := aset_none hn2
  (repeat' array_get_dec)
  refine ceo_of (by rw [aset_ne (Ne.symm np), aset_same]) ?_
  refine ⟨by show (7 : Nat) < 900; decide, ?_⟩
  (repeat' array_get_dec)
  refine bar_of ?_
  sizeOf_list_dec
  (repeat' array_get_dec)
  have nx : ∀ {z b : Addr} {c : D}, α2 z = some c → α2 b = none → z ≠ b := fun h1 h2 e => by rw [e, h2] at h1; cases h1
  have pn := Ne.symm np
  have on := Ne.symm no
  have fo := nx S.f ho
  have to := nx S.t ho
  have ro := nx S.r ho
  have fn := nx S.f hn3
  have tn := nx S.t hn3
  have rn := nx S.r hn3
  obtain ⟨e1, e2, e3, e4, e5, e6, e7, e8, e9, e10, e11, e12, e13, e14, e15⟩ := S.ne
  have e1' := Ne.symm e1
  have e2' := Ne.symm e2
  have e4' := Ne.symm e4
  have or := Ne.symm ro
  have po' := Ne.symm po
  refine q _ ⟨A.p, A.f, A.t, o', A.r, n'⟩ w ⟨?_, ?_, ?_, ?_, ?_, ?_, ?_, S.nf, S.nt⟩ (fun a ha => ?_) (fun a ha => ?_)
  · exact aset_same
  · simp only [aset_ne, aset_same, ne_eq, not_false_eq_true, *]
    exact S.f
  · simp only [aset_ne, aset_same, ne_eq, not_false_eq_true, *]
    exact S.t
  · simp only [aset_ne, aset_same, ne_eq, not_false_eq_true, *]
  · simp only [aset_ne, aset_same, ne_eq, not_false_eq_true, *]
    exact S.r
  · simp only [aset_ne, aset_same, ne_eq, not_false_eq_true, *]
    rfl
  · unfold Ads.all
    simp only [List.nodup_cons, List.mem_cons, List.not_mem_nil, or_false, not_or, List.nodup_nil, and_true, not_false_eq_true]
    exact ⟨⟨e1, e2, po, e4, pn⟩, ⟨e6, fo, e8, fn⟩, ⟨to, e11, tn⟩, ⟨or, on⟩, rn⟩
  · have h2 : (α2 a).isSome = true := by rw [kS a ha]; exact ha
    have a1 : a ≠ A.p := fun e => by rw [e, fr _ in_p] at ha; cases ha
    have a2 : a ≠ o' := fun e => by rw [e, ho] at h2; cases h2
    have a3 : a ≠ n' := fun e => by rw [e, hn3] at h2; cases h2
    rw [aset_ne a1, aset_ne a3, aset_ne a1, aset_ne a2]
    exact kS a ha
  · unfold Ads.all at ha
    simp only [List.mem_cons, List.not_mem_nil, or_false] at ha
    rcases ha with rfl | rfl | rfl | rfl | rfl | rfl
    · exact fr _ in_p
    · exact fr _ in_f
    · exact fr _ in_t
    · exact kN _ ho
    · exact fr A.r (by unfold Ads.all; simp)
    · exact kN _ hn3
end K26
namespace K26
open PySem L2 Hz
local macro_rules | `(tactic| array_mem_dec) => `(tactic| (first | ((with_reducible apply fd_cons); exact trivial) | ((with_reducible apply fd_nil); exact trivial) | ((with_reducible apply oq_isiB (b := true)); exact rfl) | ((with_reducible apply oq_isiB (b := false)); exact rfl) | ((with_reducible apply w_xi); exact rfl; exact decide_eq_true rfl; exact if_pos rfl) | ((with_reducible apply w_xf); exact rfl; exact decide_eq_true rfl; exact rfl) | ((with_reducible apply w_frzS); exact rfl; (first | assumption | exact aset_same); (try simp only [List.set])) | ((with_reducible apply rg1_of); (first | omega | decide)) | ((with_reducible apply rg2_of); (first | omega | decide)) | ((with_reducible apply lok); exact rfl) | ((with_reducible refine it2_dec ?_ ?_) <;> intro)))
local macro_rules | `(tactic| array_mem_dec) => `(tactic| (first | ((with_reducible apply dc_c); (first | assumption | exact aset_same); (first | exact rfl | exact tD_real _ _)) | ((with_reducible apply cdi_of); (first | assumption | exact aset_same); (first | exact rfl | exact tD_real _ _)) | ((with_reducible apply dc_d); (first | exact rfl | exact tD_real _ _)) | ((with_reducible apply dc_f); (first | exact rfl | exact tD_real _ _)) | ((with_reducible apply lk_of); exact rfl) | ((with_reducible apply oq_setv2); (simp only [List.set, wipeA]; exact rfl)) | ((with_reducible apply cal_of); exact rfl; (try simp only [List.cons_append, List.nil_append, List.append_nil])) | ((with_reducible apply w_aug); exact rfl) | ((with_reducible apply cel_of); (first | assumption | exact aset_same)) | ((with_reducible apply ceo_of); (first | assumption | exact aset_same)) | ((with_reducible apply tlG_r); (first | assumption | exact aset_same)) | ((with_reducible apply fr_of); (first | assumption | exact aset_same))))
local macro_rules | `(tactic| array_mem_dec) => `(tactic| (with_reducible first | refine w_dictD ?_ | refine w_dictP ?_ | refine w_sortD ?_ | refine w_isiC ?_))
local macro_rules | `(tactic| array_mem_dec) => `(tactic| (with_reducible first | refine pr2_of ?_ | refine fl_f ?_ | refine fl_t ?_ | refine fl_o ?_ | refine fl_r ?_ | refine fl_n ?_ | refine fl_w ?_ | refine fl_m ?_ | refine ctD_list ?_ | refine ctD_tup ?_ | refine vw_ct ?_ | refine fe_n ?_ | refine fe_b ?_ | refine vw_en ?_ | refine len_bk ?_ | refine vw_bk ?_ | refine ctD_cut ?_ | refine w_dget ?_ | refine w_dget1 ?_ | refine w_dget2 ?_ | refine w_din ?_ | refine w_dnotin ?_ | refine w_dpop1 ?_ | refine w_dpop2 ?_ | refine w_dput ?_ | refine w_daug ?_ | refine w_lenD ?_ | refine w_dnew ?_ | refine w_fz ?_ | refine w_listD ?_))
local macro_rules | `(tactic| array_mem_dec) => `(tactic| (with_reducible first | refine tb_b ?_ | refine ti_b ?_ | refine ts_b ?_ | refine we_nx ?_ | refine we_rt ?_ | refine we_ex ?_ | refine wn_nx ?_ | refine wn_rt ?_ | refine wn_bk ?_ | refine wn_ct ?_ | refine wn_ex ?_ | refine wl_nx ?_ | refine wl_rt ?_ | refine wl_bk ?_ | refine wl_ct ?_ | refine wl_ex ?_ | refine wx_nx ?_ | refine wx_rt ?_ | refine wx_bk ?_ | refine wx_ct ?_ | refine wx_ex ?_ | refine wh_nx ?_ | refine wh_rt ?_ | refine wh_bk ?_ | refine wh_ct ?_ | refine it2_t ?_ | refine it2_f ?_ | refine it2_not ?_ | refine tlG_l ?_ | refine ttG_t ?_))
local macro_rules | `(tactic| array_mem_dec) => `(tactic| ((with_reducible refine oq_id ?_); (first | (with_reducible first | refine vw_i ?_ | refine vw_s ?_ | refine vw_b ?_ | refine vw_n ?_ | refine vw_l ?_ | refine vw_t ?_ | refine vw_sc ?_ | refine vw_o ?_ | refine mv_nil ?_ | refine mv_cons ?_ | refine oq_tgNil ?_ | refine oq_tgCons ?_ | refine oq_add_i ?_ | refine oq_sub ?_ | refine oq_lt ?_ | refine oq_le ?_ | refine oq_gt ?_ | refine oq_ge ?_ | refine oq_eq_i ?_ | refine oq_ne_i ?_ | refine oq_eq_s ?_ | refine oq_ne_s ?_ | refine oq_eq_b ?_ | refine oq_ne_b ?_ | refine oq_is ?_ | refine oq_isNot ?_ | refine oq_in_s ?_ | refine oq_notIn_s ?_ | refine oq_len_l ?_ | refine oq_len_t ?_ | refine oq_int ?_ | refine oq_abs ?_ | refine oq_ord ?_ | refine oq_cut_l ?_ | refine oq_cut_t ?_ | refine oq_list_l ?_ | refine oq_list_t ?_ | refine oq_tuple_l ?_ | refine oq_tuple_t ?_ | refine oq_max2 ?_ | refine oq_min2 ?_ | refine oq_some ?_ | refine oq_len_sc ?_ | refine oq_eq_il ?_ | refine oq_ne_il ?_ | refine oq_eq_it ?_ | refine oq_ne_it ?_ | refine oq_lt_il ?_ | refine oq_lt_it ?_ | refine oq_iadd_i ?_ | refine oq_isT ?_ | refine oq_isNotT ?_) | (first | ((with_reducible apply vw_st); assumption) | ((with_reducible apply oq_tgTup); exact rfl) | ((with_reducible apply oq_ix_lk); exact rfl) | ((with_reducible apply oq_ix_tk); exact rfl) | ((with_reducible apply vw_r); (first | assumption | exact aset_same)) | ((with_reducible apply oq_ixN_k); exact rfl; (try simp only [List.set, Int.reduceToNat])) | ((with_reducible apply oq_mod); (first | omega | decide)) | ((with_reducible apply oq_div); (first | omega | decide)) | ((with_reducible apply oq_mul); (first | omega | decide)) | ((with_reducible apply oq_pow); (first | omega | decide)) | ((with_reducible apply oq_shl); (first | omega | decide)) | ((with_reducible apply oq_shr); (first | omega | decide))) | (first | ((with_reducible apply oq_add_s); (first | omega | decide)) | ((with_reducible apply oq_len_s); (first | omega | decide)) | ((with_reducible apply oq_cut_s); (first | omega | decide)) | ((with_reducible apply oq_append); (first | omega | decide)) | ((with_reducible apply oq_insert); (first | omega | decide)) | ((with_reducible apply oq_rep); (first | omega | decide)) | ((with_reducible apply oq_cat); (first | omega | decide))))))
local macro_rules | `(tactic| array_mem_dec) => `(tactic| (with_reducible first | refine w_list ?_ | refine w_tuple ?_ | refine w_str ?_ | refine w_range1 ?_ | refine w_range2 ?_ | refine w_range3 ?_ | refine w_next ?_ | refine w_break ?_ | refine w_cont ?_ | refine w_drop ?_ | refine w_ret ?_ | refine w_retN ?_ | refine w_if ?_ | refine w_asg ?_ | refine w_raise ?_ | refine w_fld ?_ | refine w_seta ?_ | refine w_auga ?_ | refine w_seti ?_ | refine w_mut ?_ | refine w_frz ?_ | refine w_new ?_ | refine w_ext ?_ | refine w_for ?_ | refine w_lc ?_ | refine w_tryA ?_ | refine w_try ?_ | refine w_par ?_))
local macro_rules | `(tactic| array_mem_dec) => `(tactic| (first | ((with_reducible apply w_kV); exact rfl) | (with_reducible first | refine w_kC ?_ | refine w_bop ?_ | refine w_tst ?_ | refine w_val ?_ | refine w_and ?_ | refine w_or ?_ | refine w_not ?_ | refine w_andV ?_ | refine w_orV ?_ | refine w_chain ?_ | refine w_ifK ?_ | refine w_nil ?_ | refine w_cons ?_ | refine w_tup ?_ | refine w_lst ?_ | refine w_call ?_ | refine w_neg ?_ | refine w_b1 ?_ | refine w_bn ?_ | refine w_isi ?_ | refine w_met ?_ | refine w_pnone ?_ | refine w_psome ?_ | refine w_cut ?_ | refine w_yes ?_)))
local macro_rules | `(tactic| array_get_dec) => `(tactic| (with_reducible refine w_seqB ?_))
local macro_rules | `(tactic| array_get_dec) => `(tactic| array_mem_dec)
local macro_rules | `(tactic| decreasing_trivial_pre_omega) => `(tactic| (with_reducible refine w_seq ?_))
local macro_rules | `(tactic| decreasing_trivial_pre_omega) => `(tactic| array_mem_dec)
local macro_rules | `(tactic| sizeOf_list_dec) => `(tactic| (try simp only [List.set, Int.reduceToNat, List.map_cons, List.map_nil, Nat.reduceSub, List.reduceReplicate, List.cons_append, List.nil_append, wipeA, aset_aset, List.getElem?_cons_zero, List.getElem?_cons_succ]))
variable {CL CE CS CF CP CI gX : Nat} {α : AH} {Q : QD} {E : QX}
theorem len_go {ps : List (List Int)} (hp : ∀ p ∈ ps, okp p) (hl : ps.length ≤ 255) (h : Q (.int (ps.flatten.length : Nat)) α) : f_length_of CL CE CS CF CP CI gX [.tuple (ps.map fun p => .int (val 256 1 p))] α Q E := by
  unfold f_length_of m_length_of
  refine w_runP rfl ?_
  sizeOf_list_dec
  (repeat' array_get_dec)
  refine lc_map ps (fun p => .int (val 256 1 p)) (fun p => .int (p.length : Nat)) rfl (by omega) trivial (fun p hpm => ?_) ?_
  · refine ⟨_, rfl, fun R hR => ?_⟩
    sizeOf_list_dec
    (repeat' array_get_dec)
    refine bb_go (hp p hpm) ?_
    (repeat' array_get_dec)
    rw [List.length_map]
    exact hR
  · (repeat' array_get_dec)
    refine oq_sum ?_
    (repeat' array_get_dec)
    rw [arst_self]
    have e : ∀ ps : List (List Int), (ps.map fun p => ((p.length : Nat) : Int)).sum = (ps.flatten.length : Nat) := fun ps => by
      induction ps with
      | nil => rfl
      | cons p r ih =>
        rw [List.map_cons, List.sum_cons, ih, List.flatten_cons, List.length_append]
        omega
    rw [e]
    exact h
theorem StAt.same {A : Ads} {s : Sto} {α' : AH} (S : StAt CS α A s) (h : ∀ a ∈ A.all, α' a = α a) : StAt CS α' A s := by
  have hr : A.r ∈ A.all := by unfold Ads.all; simp
  have hn : A.n ∈ A.all := by unfold Ads.all; simp
  exact ⟨(h _ in_p).trans S.p, (h _ in_f).trans S.f, (h _ in_t).trans S.t, (h _ in_o).trans S.o, (h _ hr).trans S.r, (h _ hn).trans S.n, S.nd, S.nf, S.nt⟩
theorem PS.same {A : Ads} {n : Str} {F : List (Str × (List Int × Int))} {O : List Row} {T : Option (List Int)} {mo : Option Int} {α' : AH} (S : PS CS α A n F O T mo) (h : ∀ a ∈ A.all, α' a = α a) : PS CS α' A n F O T mo := by
  obtain ⟨w, S⟩ := S
  exact ⟨w, S.same h⟩
/-- a pull -/
def plD (CL : Nat) (s e : D) : D := oD CL [(.str "store", s), (.str "entry", e)]
theorem fp_s {s e : D} {R : D → Prop} (h : R s) : oq (fldD CL "store" (plD CL s e)) R := ⟨_, by
  show (if Int.ofNat CL = Int.ofNat CL then _ else _) = _
  rw [if_pos rfl]
  rfl, h⟩
theorem fp_e {s e : D} {R : D → Prop} (h : R e) : oq (fldD CL "entry" (plD CL s e)) R := ⟨_, by
  show (if Int.ofNat CL = Int.ofNat CL then _ else _) = _
  rw [if_pos rfl]
  rfl, h⟩
theorem fe_t {n v h m d t b : D} {R : D → Prop} (q : R t) : oq (fldD CE "time" (enD CE n v h m d t b)) R := ⟨_, by
  show (if Int.ofNat CE = Int.ofNat CE then _ else _) = _
  rw [if_pos rfl]
  rfl, q⟩
theorem vw_pl {P : Addr} {s e : D} {R : D → Prop} (hP : α P = some (plD CL s e)) (h : R (plD CL s e)) : oq (vw α (dref P)) R := ⟨_, hP, h⟩
local macro_rules | `(tactic| array_mem_dec) => `(tactic| (first | ((with_reducible apply vw_pl); assumption)))
local macro_rules | `(tactic| array_mem_dec) => `(tactic| (with_reducible first | refine fp_s ?_ | refine fp_e ?_ | refine fe_t ?_))
section
variable {A : Ads} {n : Str} {F : List (Str × (List Int × Int))} {O : List Row} {T : Option (List Int)} {mo : Option Int} {P : Addr} {v h m d : D} {c : List Int} {k : Nat}
/-- only the store's cells and the pull's have changed -/
def OthP (A : Ads) (P : Addr) (α α' : AH) : Prop := ∀ a, a ∉ A.all → a ≠ P → α' a = α a
theorem take_pos {c : List Int} {k : Nat} (h : k ≤ nk c) (h0 : (c.take (4 * k)).length = 0) : k = 0 := by
  rw [List.length_take] at h0
  unfold nk at h
  omega
theorem pinit_go (hP : α P = some (oD CL [])) (hPA : P ∉ A.all) (S : PS CS α A n F O T mo) (hc : okc c) (hT : IsFr T c k)
    (hX : mo ≠ none → ∀ α' w, OthP A P α α' → PS CS α' A n F O T mo → E (cutX CP w) α')
    (q : ∀ α' T', PS CS α' A n F O T' mo → Cl T' c k → α' P = some (plD CL (dref A.p) (enD CE (.str n) v h m d (.int 30) (bkD c))) → OthP A P α α' → Q .none α') : f_Pull_init CL CE CS CF CP CI gX [dref P, dref A.p, enD CE (.str n) v h m d (.int 30) (bkD c)] α Q E := by
  unfold f_Pull_init m_Pull_init
  refine w_runF rfl ?_
  sizeOf_list_dec
  (repeat' array_get_dec)
  refine ⟨by show (0 : Nat) < 900; decide, ?_⟩
  (repeat' array_get_dec)
  refine bar_of ?_
  sizeOf_list_dec
  (repeat' array_get_dec)
  refine ⟨by show (1 : Nat) < 900; decide, ?_⟩
  (repeat' array_get_dec)
  refine bar_of ?_
  sizeOf_list_dec
  (repeat' array_get_dec)
  rw [show oD CL (putD (Str.ofString "entry") (enD CE (PyData.str n) v h m d (PyData.int 30) (bkD c)) (putD (Str.ofString "store") (dref A.p) [])) = plD CL (dref A.p) (enD CE (.str n) v h m d (.int 30) (bkD c)) from rfl]
  obtain ⟨α1, e1⟩ : ∃ x, aset α P (plD CL (dref A.p) (enD CE (.str n) v h m d (.int 30) (bkD c))) = x := ⟨_, rfl⟩
  rw [e1]
  have P1 : α1 P = some (plD CL (dref A.p) (enD CE (.str n) v h m d (.int 30) (bkD c))) := by rw [← e1, aset_same]
  have O1 : OthP A P α α1 := fun a _ h2 => by rw [← e1, aset_ne h2]
  have S1 : PS CS α1 A n F O T mo := S.same fun a ha => by rw [← e1, aset_ne (fun e => hPA (by rw [← e]; exact ha))]
  clear S hP e1
  have S1' := S1
  obtain ⟨w, S1⟩ := S1
  refine meth_st S1 rfl rfl ?_
  (repeat' array_get_dec)
  refine temp_go S1 ?_
  rw [show aGet n (tmp n T) = T from tmp_get]
  sizeOf_list_dec
  (repeat' array_get_dec)
  refine bar_of ?_
  sizeOf_list_dec
  (repeat' array_get_dec)
  refine kept_go S1 hc fun k' hk' => ?_
  obtain rfl : k' = k := IsFr.uniq hk' (by rw [show aGet n (tmp n T) = T from tmp_get]; exact hT)
  sizeOf_list_dec
  (repeat' array_get_dec)
  refine ⟨_, rfl, ?_⟩
  rw [cut_take]
  (repeat' array_get_dec)
  have hkn : k' ≤ nk c := by
    cases T with
    | none => exact (show k' = 0 from hT) ▸ Nat.zero_le _
    | some t => exact hT.1
  refine len_go (fun p hp => pcs_ok hc p (List.mem_of_mem_take hp)) (by rw [List.length_take, pcs_len]; have := pcs_length hc; rw [pcs_len] at this; omega) ?_
  rw [flat_take hkn]
  sizeOf_list_dec
  (repeat' array_get_dec)
  refine bar_of ?_
  sizeOf_list_dec
  (repeat' array_get_dec)
  cases T with
  | none =>
    sizeOf_list_dec
    (repeat' array_get_dec)
    simp only [isNoneD]
    (repeat' array_get_dec)
    have k0 : k' = 0 := hT
    exact q _ _ S1' ⟨hkn, by rw [k0]; rfl, fun _ => k0⟩ P1 O1
  | some t =>
    obtain ⟨f1, f2⟩ := fr_some hT
    sizeOf_list_dec
    simp only [ctD]
    (repeat' array_get_dec)
    rw [show isNoneD (PyData.list (t.map PyData.int)) = false from rfl]
    (repeat' array_get_dec)
    · rename_i hgt
      rw [List.length_map] at hgt
      refine meth_st S1 rfl rfl ?_
      (repeat' array_get_dec)
      refine cutt_go S1' (fun hm w => ?_) fun α2 S2 O2 => ?_
      · (repeat' array_get_dec)
        exact hX hm _ w O1 S1'
      · (repeat' array_get_dec)
        have hO : OthP A P α α2 := fun a h1 h2 => (O2 a h1).trans (O1 a h1 h2)
        have hP2 : α2 P = _ := (O2 P hPA).trans P1
        by_cases h0 : (c.take (4 * k')).length = 0
        · rw [if_pos h0] at S2
          have k0 := take_pos f1 h0
          exact q _ _ S2 ⟨f1, by rw [k0]; rfl, fun _ => k0⟩ hP2 hO
        · rw [if_neg h0] at S2
          exact q _ _ S2 ⟨f1, f2, fun e => by cases e⟩ hP2 hO
    · rename_i hgt
      rw [List.length_map] at hgt
      refine q _ _ S1' ⟨f1, ?_, fun e => by cases e⟩ P1 O1
      rw [← f2, List.take_of_length_le (by omega)]
      rfl
end
end K26
namespace K26
open PySem L2 Hz
local macro_rules | `(tactic| array_mem_dec) => `(tactic| (first | ((with_reducible apply fd_cons); exact trivial) | ((with_reducible apply fd_nil); exact trivial) | ((with_reducible apply oq_isiB (b := true)); exact rfl) | ((with_reducible apply oq_isiB (b := false)); exact rfl) | ((with_reducible apply w_xi); exact rfl; exact decide_eq_true rfl; exact if_pos rfl) | ((with_reducible apply w_xf); exact rfl; exact decide_eq_true rfl; exact rfl) | ((with_reducible apply w_frzS); exact rfl; (first | assumption | exact aset_same); (try simp only [List.set])) | ((with_reducible apply rg1_of); (first | omega | decide)) | ((with_reducible apply rg2_of); (first | omega | decide)) | ((with_reducible apply lok); exact rfl) | ((with_reducible refine it2_dec ?_ ?_) <;> intro)))
local macro_rules | `(tactic| array_mem_dec) => `(tactic| (first | ((with_reducible apply dc_c); (first | assumption | exact aset_same); (first | exact rfl | exact tD_real _ _)) | ((with_reducible apply cdi_of); (first | assumption | exact aset_same); (first | exact rfl | exact tD_real _ _)) | ((with_reducible apply dc_d); (first | exact rfl | exact tD_real _ _)) | ((with_reducible apply dc_f); (first | exact rfl | exact tD_real _ _)) | ((with_reducible apply lk_of); exact rfl) | ((with_reducible apply oq_setv2); (simp only [List.set, wipeA]; exact rfl)) | ((with_reducible apply cal_of); exact rfl; (try simp only [List.cons_append, List.nil_append, List.append_nil])) | ((with_reducible apply w_aug); exact rfl) | ((with_reducible apply cel_of); (first | assumption | exact aset_same)) | ((with_reducible apply ceo_of); (first | assumption | exact aset_same)) | ((with_reducible apply tlG_r); (first | assumption | exact aset_same)) | ((with_reducible apply fr_of); (first | assumption | exact aset_same))))
local macro_rules | `(tactic| array_mem_dec) => `(tactic| (with_reducible first | refine w_dnew ?_ | refine w_fz ?_ | refine w_listD ?_ | refine w_dictD ?_ | refine w_dictP ?_ | refine w_sortD ?_ | refine w_isiC ?_))
local macro_rules | `(tactic| array_mem_dec) => `(tactic| (with_reducible first | refine pr2_of ?_ | refine fl_f ?_ | refine fl_t ?_ | refine fl_o ?_ | refine fl_r ?_ | refine fl_n ?_ | refine fl_w ?_ | refine fl_m ?_ | refine ctD_list ?_ | refine ctD_tup ?_ | refine vw_ct ?_ | refine fe_n ?_ | refine fe_b ?_ | refine vw_en ?_ | refine len_bk ?_ | refine vw_bk ?_ | refine ctD_cut ?_ | refine fp_s ?_ | refine fp_e ?_ | refine fe_t ?_ | refine w_dget ?_ | refine w_dget1 ?_ | refine w_dget2 ?_ | refine w_din ?_ | refine w_dnotin ?_ | refine w_dpop1 ?_ | refine w_dpop2 ?_ | refine w_dput ?_ | refine w_daug ?_ | refine w_lenD ?_))
local macro_rules | `(tactic| array_mem_dec) => `(tactic| (with_reducible first | refine tb_b ?_ | refine ti_b ?_ | refine ts_b ?_ | refine we_nx ?_ | refine we_rt ?_ | refine we_ex ?_ | refine wn_nx ?_ | refine wn_rt ?_ | refine wn_bk ?_ | refine wn_ct ?_ | refine wn_ex ?_ | refine wl_nx ?_ | refine wl_rt ?_ | refine wl_bk ?_ | refine wl_ct ?_ | refine wl_ex ?_ | refine wx_nx ?_ | refine wx_rt ?_ | refine wx_bk ?_ | refine wx_ct ?_ | refine wx_ex ?_ | refine wh_nx ?_ | refine wh_rt ?_ | refine wh_bk ?_ | refine wh_ct ?_ | refine it2_t ?_ | refine it2_f ?_ | refine it2_not ?_ | refine tlG_l ?_ | refine ttG_t ?_))
local macro_rules | `(tactic| array_mem_dec) => `(tactic| ((with_reducible refine oq_id ?_); (first | (with_reducible first | refine vw_i ?_ | refine vw_s ?_ | refine vw_b ?_ | refine vw_n ?_ | refine vw_l ?_ | refine vw_t ?_ | refine vw_sc ?_ | refine vw_o ?_ | refine mv_nil ?_ | refine mv_cons ?_ | refine oq_tgNil ?_ | refine oq_tgCons ?_ | refine oq_add_i ?_ | refine oq_sub ?_ | refine oq_lt ?_ | refine oq_le ?_ | refine oq_gt ?_ | refine oq_ge ?_ | refine oq_eq_i ?_ | refine oq_ne_i ?_ | refine oq_eq_s ?_ | refine oq_ne_s ?_ | refine oq_eq_b ?_ | refine oq_ne_b ?_ | refine oq_is ?_ | refine oq_isNot ?_ | refine oq_in_s ?_ | refine oq_notIn_s ?_ | refine oq_len_l ?_ | refine oq_len_t ?_ | refine oq_int ?_ | refine oq_abs ?_ | refine oq_ord ?_ | refine oq_cut_l ?_ | refine oq_cut_t ?_ | refine oq_list_l ?_ | refine oq_list_t ?_ | refine oq_tuple_l ?_ | refine oq_tuple_t ?_ | refine oq_max2 ?_ | refine oq_min2 ?_ | refine oq_some ?_ | refine oq_len_sc ?_ | refine oq_eq_il ?_ | refine oq_ne_il ?_ | refine oq_eq_it ?_ | refine oq_ne_it ?_ | refine oq_lt_il ?_ | refine oq_lt_it ?_ | refine oq_iadd_i ?_ | refine oq_isT ?_ | refine oq_isNotT ?_) | (first | ((with_reducible apply vw_st); assumption) | ((with_reducible apply vw_pl); assumption) | ((with_reducible apply oq_tgTup); exact rfl) | ((with_reducible apply oq_ix_lk); exact rfl) | ((with_reducible apply oq_ix_tk); exact rfl) | ((with_reducible apply vw_r); (first | assumption | exact aset_same)) | ((with_reducible apply oq_ixN_k); exact rfl; (try simp only [List.set, Int.reduceToNat])) | ((with_reducible apply oq_mod); (first | omega | decide)) | ((with_reducible apply oq_div); (first | omega | decide)) | ((with_reducible apply oq_mul); (first | omega | decide)) | ((with_reducible apply oq_pow); (first | omega | decide)) | ((with_reducible apply oq_shl); (first | omega | decide))) | (first | ((with_reducible apply oq_shr); (first | omega | decide)) | ((with_reducible apply oq_add_s); (first | omega | decide)) | ((with_reducible apply oq_len_s); (first | omega | decide)) | ((with_reducible apply oq_cut_s); (first | omega | decide)) | ((with_reducible apply oq_append); (first | omega | decide)) | ((with_reducible apply oq_insert); (first | omega | decide)) | ((with_reducible apply oq_rep); (first | omega | decide)) | ((with_reducible apply oq_cat); (first | omega | decide))))))
local macro_rules | `(tactic| array_mem_dec) => `(tactic| (with_reducible first | refine w_list ?_ | refine w_tuple ?_ | refine w_str ?_ | refine w_range1 ?_ | refine w_range2 ?_ | refine w_range3 ?_ | refine w_next ?_ | refine w_break ?_ | refine w_cont ?_ | refine w_drop ?_ | refine w_ret ?_ | refine w_retN ?_ | refine w_if ?_ | refine w_asg ?_ | refine w_raise ?_ | refine w_fld ?_ | refine w_seta ?_ | refine w_auga ?_ | refine w_seti ?_ | refine w_mut ?_ | refine w_frz ?_ | refine w_new ?_ | refine w_ext ?_ | refine w_for ?_ | refine w_lc ?_ | refine w_tryA ?_ | refine w_try ?_ | refine w_par ?_))
local macro_rules | `(tactic| array_mem_dec) => `(tactic| (first | ((with_reducible apply w_kV); exact rfl) | (with_reducible first | refine w_kC ?_ | refine w_bop ?_ | refine w_tst ?_ | refine w_val ?_ | refine w_and ?_ | refine w_or ?_ | refine w_not ?_ | refine w_andV ?_ | refine w_orV ?_ | refine w_chain ?_ | refine w_ifK ?_ | refine w_nil ?_ | refine w_cons ?_ | refine w_tup ?_ | refine w_lst ?_ | refine w_call ?_ | refine w_neg ?_ | refine w_b1 ?_ | refine w_bn ?_ | refine w_isi ?_ | refine w_met ?_ | refine w_pnone ?_ | refine w_psome ?_ | refine w_cut ?_ | refine w_yes ?_)))
local macro_rules | `(tactic| array_get_dec) => `(tactic| (with_reducible refine w_seqB ?_))
local macro_rules | `(tactic| array_get_dec) => `(tactic| array_mem_dec)
local macro_rules | `(tactic| decreasing_trivial_pre_omega) => `(tactic| (with_reducible refine w_seq ?_))
local macro_rules | `(tactic| decreasing_trivial_pre_omega) => `(tactic| array_mem_dec)
local macro_rules | `(tactic| sizeOf_list_dec) => `(tactic| (try simp only [List.set, Int.reduceToNat, List.map_cons, List.map_nil, Nat.reduceSub, List.reduceReplicate, List.cons_append, List.nil_append, wipeA, aset_aset, List.getElem?_cons_zero, List.getElem?_cons_succ]))
variable {CL CE CS CF CP CI gX : Nat} {α : AH} {Q : QD} {E : QX}
section
variable {A : Ads} {n : Str} {F : List (Str × (List Int × Int))} {O : List Row} {T : Option (List Int)} {mo : Option Int} {P : Addr} {v h m d : D} {c : List Int} {k : Nat}
theorem count_go (hP : α P = some (plD CL (dref A.p) (enD CE (.str n) v h m d (.int 30) (bkD c)))) (S : PS CS α A n F O T mo) (hc : okc c) (hT : IsFr T c k) (q : Q (.int (k : Nat)) α) : f_Pull_count CL CE CS CF CP CI gX [dref P] α Q E := by
  obtain ⟨w, S⟩ := S
  unfold f_Pull_count m_Pull_count
  refine w_runP rfl ?_
  sizeOf_list_dec
  (repeat' array_get_dec)
  refine kept_go S hc fun k' hk' => ?_
  obtain rfl : k' = k := IsFr.uniq hk' (by rw [show aGet n (tmp n T) = T from tmp_get]; exact hT)
  (repeat' array_get_dec)
  rw [arst_self]
  exact q
theorem meth_pl {e s : D} {ρ : En} {i np : Nat} {mt : Str} {fm : Fm} {ds : List D} {ml : ML} (hP : α P = some (plD CL s e)) (hm : lookF mt [(.str "store", s), (.str "entry", e)] = none) (er : ρ[i]? = some (some (dref P))) (h : ml ρ α (fun as α2 => cal np (fun xs => fm (dref P :: xs)) as ds α2 Q E) E) : methK CL mt np fm ds (Hz.kV i) ml ρ α Q E :=
  w_meth (w_kV er ⟨_, hP, by
    show (decide (Int.ofNat CL = Int.ofNat CL) && (lookF mt [(.str "store", s), (.str "entry", e)]).isNone) = true
    rw [hm, decide_eq_true rfl]
    rfl, h⟩)
theorem whole_go (hP : α P = some (plD CL (dref A.p) (enD CE (.str n) v h m d (.int 30) (bkD c)))) (S : PS CS α A n F O T mo) (hc : okc c) (hT : IsFr T c k) (q : Q (.bool (decide (k = nk c))) α) : f_Pull_is_whole CL CE CS CF CP CI gX [dref P] α Q E := by
  unfold f_Pull_is_whole m_Pull_is_whole
  refine w_runP rfl ?_
  sizeOf_list_dec
  (repeat' array_get_dec)
  refine meth_pl hP rfl rfl ?_
  (repeat' array_get_dec)
  refine count_go hP S hc hT ?_
  (repeat' array_get_dec)
  rw [arst_self, show decide (((k : Nat) : Int) = ((nk c : Nat) : Int)) = decide (k = nk c) from decide_eq_decide.mpr Int.ofNat_inj]
  exact q
theorem nof_st {s : Sto} {mt : Str} {R : Prop} (S : StAt CS α A s) (hm : lookF mt (fld A s.wr s.mo) = none) (h : R) : oq (vw α (dref A.p)) fun od => noF CS mt od = true ∧ R := ⟨_, S.p, by
    show (decide (Int.ofNat CS = Int.ofNat CS) && (lookF mt (fld A s.wr s.mo)).isNone) = true
    rw [hm, decide_eq_true rfl]
    rfl, h⟩
theorem half_fr {j : Nat} (hT : Cl T c k) (hk : k < nk c) (hj : j < (ck c k).length) : IsFr (half T (ck c k) j) c k := by
  unfold half
  by_cases h : (ck c k).take j = []
  · rw [if_pos h]
    exact hT.fr
  · rw [if_neg h, hT.2.1]
    exact fr_part hk hj
theorem arst_othP {α' : AH} (hi : ∀ a ∈ A.all, (α a).isSome = true) (O : Oth A α α') : arst α α' = α' := by
  funext a
  unfold arst
  by_cases h : a ∈ A.all
  · rw [if_pos (hi a h)]
  · rw [O a h]
    cases q : α a with
    | none => rfl
    | some c => rfl
theorem PS.isS (S : PS CS α A n F O T mo) : ∀ a ∈ A.all, (α a).isSome = true := fun a h => by
  obtain ⟨w, S⟩ := S
  unfold Ads.all at h
  simp only [List.mem_cons, List.not_mem_nil, or_false] at h
  rcases h with rfl | rfl | rfl | rfl | rfl | rfl
  · rw [S.p]; rfl
  · rw [S.f]; rfl
  · rw [S.t]; rfl
  · rw [S.o]; rfl
  · rw [S.r]; rfl
  · rw [S.n]; rfl
theorem appd_go (hP : α P = some (plD CL (dref A.p) (enD CE (.str n) v h m d (.int 30) (bkD c)))) (S : PS CS α A n F O T mo) (hc : okc c) (hT : Cl T c k) (hk : k < nk c)
    (hX : mo ≠ none → ∀ α' w T', PS CS α' A n F O T' mo → IsFr T' c k → Oth A α α' → E (cutX CP w) α')
    (q : ∀ α' T', PS CS α' A n F O T' mo → Cl T' c (k + 1) → Oth A α α' → Q .none α') : f_Pull_append CL CE CS CF CP CI gX [dref P, .int (kb (ck c k))] α Q E := by
  unfold f_Pull_append m_Pull_append
  refine w_runP rfl ?_
  sizeOf_list_dec
  (repeat' array_get_dec)
  refine w_meth ?_
  (repeat' array_get_dec)
  have SI := S.isS
  have S' := S
  obtain ⟨w0, S0⟩ := S'
  refine nof_st S0 rfl ?_
  (repeat' array_get_dec)
  have l1 : (ck c k).length ≤ 4 := (ck_ok hc hk).1
  have l2 := hc.1
  have l3 : (T.getD []).length ≤ 1020 := by
    rw [hT.2.1, List.length_take]
    omega
  refine bb_go (ck_ok hc hk) ?_
  (repeat' array_get_dec)
  refine pap_go S (ck_ok hc hk).2.1 (by omega) (fun hm α' j w hj S1 O1 => ?_) fun α' S1 O1 => ?_
  · (repeat' array_get_dec)
    rw [arst_othP SI O1]
    exact hX hm _ _ _ S1 (half_fr hT hk hj) O1
  · (repeat' array_get_dec)
    rw [arst_othP SI O1]
    exact q _ _ S1 (hT.step hk) O1
theorem pplace_go (hP : α P = some (plD CL (dref A.p) (enD CE (.str n) v h m d (.int 30) (bkD c)))) (S : PS CS α A n F O T mo) (hl : F.length < 1000) 
    (hX : mo ≠ none → ∀ w, E (cutX CP w) α)
    (q : ∀ α', PS CS α' A n (aPut n (T.getD [], 30) F) O none mo → Oth A α α' → Q .none α') : f_Pull_place CL CE CS CF CP CI gX [dref P] α Q E := by
  unfold f_Pull_place m_Pull_place
  refine w_runP rfl ?_
  sizeOf_list_dec
  (repeat' array_get_dec)
  refine w_meth ?_
  (repeat' array_get_dec)
  have SI := S.isS
  have S' := S
  obtain ⟨w0, S0⟩ := S'
  refine nof_st S0 rfl ?_
  (repeat' array_get_dec)
  refine place_go S hl (fun hm w => ?_) fun α' S1 O1 => ?_
  · (repeat' array_get_dec)
    rw [arst_self]
    exact hX hm w
  · (repeat' array_get_dec)
    rw [arst_othP SI O1]
    exact q _ S1 O1
end
end K26
namespace K26
open PySem L2 Hz
local macro_rules | `(tactic| array_mem_dec) => `(tactic| (first | ((with_reducible apply fd_cons); exact trivial) | ((with_reducible apply fd_nil); exact trivial) | ((with_reducible apply oq_isiB (b := true)); exact rfl) | ((with_reducible apply oq_isiB (b := false)); exact rfl) | ((with_reducible apply w_xi); exact rfl; exact decide_eq_true rfl; exact if_pos rfl) | ((with_reducible apply w_xf); exact rfl; exact decide_eq_true rfl; exact rfl) | ((with_reducible apply w_frzS); exact rfl; (first | assumption | exact aset_same); (try simp only [List.set])) | ((with_reducible apply rg1_of); (first | omega | decide)) | ((with_reducible apply rg2_of); (first | omega | decide)) | ((with_reducible apply lok); exact rfl) | ((with_reducible refine it2_dec ?_ ?_) <;> intro)))
local macro_rules | `(tactic| array_mem_dec) => `(tactic| (first | ((with_reducible apply dc_c); (first | assumption | exact aset_same); (first | exact rfl | exact tD_real _ _)) | ((with_reducible apply cdi_of); (first | assumption | exact aset_same); (first | exact rfl | exact tD_real _ _)) | ((with_reducible apply dc_d); (first | exact rfl | exact tD_real _ _)) | ((with_reducible apply dc_f); (first | exact rfl | exact tD_real _ _)) | ((with_reducible apply lk_of); exact rfl) | ((with_reducible apply oq_setv2); (simp only [List.set, wipeA]; exact rfl)) | ((with_reducible apply cal_of); exact rfl; (try simp only [List.cons_append, List.nil_append, List.append_nil])) | ((with_reducible apply w_aug); exact rfl) | ((with_reducible apply cel_of); (first | assumption | exact aset_same)) | ((with_reducible apply ceo_of); (first | assumption | exact aset_same)) | ((with_reducible apply tlG_r); (first | assumption | exact aset_same)) | ((with_reducible apply fr_of); (first | assumption | exact aset_same))))
local macro_rules | `(tactic| array_mem_dec) => `(tactic| (with_reducible first | refine w_dnew ?_ | refine w_fz ?_ | refine w_listD ?_ | refine w_dictD ?_ | refine w_dictP ?_ | refine w_sortD ?_ | refine w_isiC ?_))
local macro_rules | `(tactic| array_mem_dec) => `(tactic| (with_reducible first | refine pr2_of ?_ | refine fl_f ?_ | refine fl_t ?_ | refine fl_o ?_ | refine fl_r ?_ | refine fl_n ?_ | refine fl_w ?_ | refine fl_m ?_ | refine ctD_list ?_ | refine ctD_tup ?_ | refine vw_ct ?_ | refine fe_n ?_ | refine fe_b ?_ | refine vw_en ?_ | refine len_bk ?_ | refine vw_bk ?_ | refine ctD_cut ?_ | refine fp_s ?_ | refine fp_e ?_ | refine fe_t ?_ | refine w_dget ?_ | refine w_dget1 ?_ | refine w_dget2 ?_ | refine w_din ?_ | refine w_dnotin ?_ | refine w_dpop1 ?_ | refine w_dpop2 ?_ | refine w_dput ?_ | refine w_daug ?_ | refine w_lenD ?_))
local macro_rules | `(tactic| array_mem_dec) => `(tactic| (with_reducible first | refine tb_b ?_ | refine ti_b ?_ | refine ts_b ?_ | refine we_nx ?_ | refine we_rt ?_ | refine we_ex ?_ | refine wn_nx ?_ | refine wn_rt ?_ | refine wn_bk ?_ | refine wn_ct ?_ | refine wn_ex ?_ | refine wl_nx ?_ | refine wl_rt ?_ | refine wl_bk ?_ | refine wl_ct ?_ | refine wl_ex ?_ | refine wx_nx ?_ | refine wx_rt ?_ | refine wx_bk ?_ | refine wx_ct ?_ | refine wx_ex ?_ | refine wh_nx ?_ | refine wh_rt ?_ | refine wh_bk ?_ | refine wh_ct ?_ | refine it2_t ?_ | refine it2_f ?_ | refine it2_not ?_ | refine tlG_l ?_ | refine ttG_t ?_))
local macro_rules | `(tactic| array_mem_dec) => `(tactic| ((with_reducible refine oq_id ?_); (first | (with_reducible first | refine vw_i ?_ | refine vw_s ?_ | refine vw_b ?_ | refine vw_n ?_ | refine vw_l ?_ | refine vw_t ?_ | refine vw_sc ?_ | refine vw_o ?_ | refine mv_nil ?_ | refine mv_cons ?_ | refine oq_tgNil ?_ | refine oq_tgCons ?_ | refine oq_add_i ?_ | refine oq_sub ?_ | refine oq_lt ?_ | refine oq_le ?_ | refine oq_gt ?_ | refine oq_ge ?_ | refine oq_eq_i ?_ | refine oq_ne_i ?_ | refine oq_eq_s ?_ | refine oq_ne_s ?_ | refine oq_eq_b ?_ | refine oq_ne_b ?_ | refine oq_is ?_ | refine oq_isNot ?_ | refine oq_in_s ?_ | refine oq_notIn_s ?_ | refine oq_len_l ?_ | refine oq_len_t ?_ | refine oq_int ?_ | refine oq_abs ?_ | refine oq_ord ?_ | refine oq_cut_l ?_ | refine oq_cut_t ?_ | refine oq_list_l ?_ | refine oq_list_t ?_ | refine oq_tuple_l ?_ | refine oq_tuple_t ?_ | refine oq_max2 ?_ | refine oq_min2 ?_ | refine oq_some ?_ | refine oq_len_sc ?_ | refine oq_eq_il ?_ | refine oq_ne_il ?_ | refine oq_eq_it ?_ | refine oq_ne_it ?_ | refine oq_lt_il ?_ | refine oq_lt_it ?_ | refine oq_iadd_i ?_ | refine oq_isT ?_ | refine oq_isNotT ?_) | (first | ((with_reducible apply vw_st); assumption) | ((with_reducible apply vw_pl); assumption) | ((with_reducible apply oq_tgTup); exact rfl) | ((with_reducible apply oq_ix_lk); exact rfl) | ((with_reducible apply oq_ix_tk); exact rfl) | ((with_reducible apply vw_r); (first | assumption | exact aset_same)) | ((with_reducible apply oq_ixN_k); exact rfl; (try simp only [List.set, Int.reduceToNat])) | ((with_reducible apply oq_mod); (first | omega | decide)) | ((with_reducible apply oq_div); (first | omega | decide)) | ((with_reducible apply oq_mul); (first | omega | decide)) | ((with_reducible apply oq_pow); (first | omega | decide)) | ((with_reducible apply oq_shl); (first | omega | decide))) | (first | ((with_reducible apply oq_shr); (first | omega | decide)) | ((with_reducible apply oq_add_s); (first | omega | decide)) | ((with_reducible apply oq_len_s); (first | omega | decide)) | ((with_reducible apply oq_cut_s); (first | omega | decide)) | ((with_reducible apply oq_append); (first | omega | decide)) | ((with_reducible apply oq_insert); (first | omega | decide)) | ((with_reducible apply oq_rep); (first | omega | decide)) | ((with_reducible apply oq_cat); (first | omega | decide))))))
local macro_rules | `(tactic| array_mem_dec) => `(tactic| (with_reducible first | refine w_list ?_ | refine w_tuple ?_ | refine w_str ?_ | refine w_range1 ?_ | refine w_range2 ?_ | refine w_range3 ?_ | refine w_next ?_ | refine w_break ?_ | refine w_cont ?_ | refine w_drop ?_ | refine w_ret ?_ | refine w_retN ?_ | refine w_if ?_ | refine w_asg ?_ | refine w_raise ?_ | refine w_fld ?_ | refine w_seta ?_ | refine w_auga ?_ | refine w_seti ?_ | refine w_mut ?_ | refine w_frz ?_ | refine w_new ?_ | refine w_ext ?_ | refine w_for ?_ | refine w_lc ?_ | refine w_tryA ?_ | refine w_try ?_ | refine w_par ?_))
local macro_rules | `(tactic| array_mem_dec) => `(tactic| (first | ((with_reducible apply w_kV); exact rfl) | (with_reducible first | refine w_kC ?_ | refine w_bop ?_ | refine w_tst ?_ | refine w_val ?_ | refine w_and ?_ | refine w_or ?_ | refine w_not ?_ | refine w_andV ?_ | refine w_orV ?_ | refine w_chain ?_ | refine w_ifK ?_ | refine w_nil ?_ | refine w_cons ?_ | refine w_tup ?_ | refine w_lst ?_ | refine w_call ?_ | refine w_neg ?_ | refine w_b1 ?_ | refine w_bn ?_ | refine w_isi ?_ | refine w_met ?_ | refine w_pnone ?_ | refine w_psome ?_ | refine w_cut ?_ | refine w_yes ?_)))
local macro_rules | `(tactic| array_get_dec) => `(tactic| (with_reducible refine w_seqB ?_))
local macro_rules | `(tactic| array_get_dec) => `(tactic| array_mem_dec)
local macro_rules | `(tactic| decreasing_trivial_pre_omega) => `(tactic| (with_reducible refine w_seq ?_))
local macro_rules | `(tactic| decreasing_trivial_pre_omega) => `(tactic| array_mem_dec)
local macro_rules | `(tactic| sizeOf_list_dec) => `(tactic| (try simp only [List.set, Int.reduceToNat, List.map_cons, List.map_nil, Nat.reduceSub, List.reduceReplicate, List.cons_append, List.nil_append, wipeA, aset_aset, List.getElem?_cons_zero, List.getElem?_cons_succ]))
variable {CL CE CS CF CP CI gX : Nat} {α : AH} {Q : QD} {E : QX}
/-- it is a block of a file or of the attic -/
def BsP (F : List (Str × (List Int × Int))) (O : List Row) (b : Int) : Prop := (∃ f, f ∈ F.map (·.1) ∧ b ∈ (pcs ((aGet f F).getD ([], 0)).1).map kb) ∨ ∃ i, i < O.length ∧ b ∈ (pcs (O.getD i (⟨#[]⟩, .none, [])).2.2).map kb
theorem bs_iff {s : Sto} {fs : List Str} {b : Int} (hf : fs.Perm (s.files.map (·.1))) : b ∈ bsL s fs ↔ BsP s.files s.old b := by
  unfold bsL BsP
  rw [List.mem_flatMap]
  constructor
  · rintro ⟨x, hx, h⟩
    rcases List.mem_append.mp hx with hx | hx
    · obtain ⟨f, hf1, rfl⟩ := List.mem_map.mp hx
      exact .inl ⟨f, hf.mem_iff.mp hf1, h⟩
    · obtain ⟨i, hi, rfl⟩ := List.mem_map.mp hx
      exact .inr ⟨i, List.mem_range.mp hi, h⟩
  · rintro (⟨f, hf1, h⟩ | ⟨i, hi, h⟩)
    · exact ⟨_, List.mem_append_left _ (List.mem_map.mpr ⟨f, hf.mem_iff.mpr hf1, rfl⟩), h⟩
    · exact ⟨_, List.mem_append_right _ (List.mem_map.mpr ⟨i, List.mem_range.mpr hi, rfl⟩), h⟩
def KO (F : List (Str × (List Int × Int))) (O : List Row) : Prop := (F.length < 64 ∧ O.length ≤ 100) ∧ (∀ x ∈ F, okc x.2.1) ∧ ∀ x ∈ O, okc x.2.2
/-- what was asked holds on from k to k' -/
def Tr (bs : List Int) (c : List Int) (k k' : Nat) : Prop := k ≤ k' ∧ k' ≤ nk c ∧ ∀ k0 C a, k0 ≤ k → Ak bs (Eb c) k0 C k a → Ak bs (Eb c) k0 C k' a
theorem Tr.refl {bs c : List Int} {k : Nat} (h : k ≤ nk c) : Tr bs c k k := ⟨Nat.le_refl _, h, fun _ _ _ _ h => h⟩
theorem Eb_get {c : List Int} {k : Nat} (h : k < (Eb c).length) : (Eb c)[k] = kb (ck c k) := by
  unfold Eb pcs
  simp
theorem Tr.step {bs c : List Int} {k k' : Nat} (T : Tr bs c k k') (h : k' < nk c) (hm : kb (ck c k') ∈ (Eb c).take k' ∨ kb (ck c k') ∈ bs) : Tr bs c k (k' + 1) := by
  obtain ⟨t1, t2, t3⟩ := T
  have hl : k' < (Eb c).length := by rw [Eb_len]; exact h
  exact ⟨by omega, by omega, fun k0 C a h0 A => ak_skip (by omega) hl (by rw [Eb_get]; exact hm) (t3 k0 C a h0 A)⟩
section
variable {A : Ads} {n : Str} {F : List (Str × (List Int × Int))} {O : List Row} {T : Option (List Int)} {mo : Option Int} {P : Addr} {v h m d : D} {c : List Int} {k : Nat} {bs : List Int}
theorem adv_go (hP : α P = some (plD CL (dref A.p) (enD CE (.str n) v h m d (.int 30) (bkD c)))) (hPA : P ∉ A.all) (S : PS CS α A n F O T mo) (hc : okc c) (K : KO F O) (hbs : ∀ b, b ∈ bs ↔ BsP F O b) (hT : Cl T c k)
    (hX : mo ≠ none → ∀ α' w T' k', PS CS α' A n F O T' mo → IsFr T' c k' → Tr bs c k k' → Oth A α α' → E (cutX CP w) α')
    (q1 : ∀ α' T', PS CS α' A n F O T' mo → Cl T' c (nk c) → Tr bs c k (nk c) → Oth A α α' → Q .none α')
    (q2 : ∀ α' T' k', k' < nk c → PS CS α' A n F O T' mo → Cl T' c k' → Tr bs c k k' → Nw bs (Eb c) k' → Oth A α α' → Q (.int (kb (ck c k'))) α') : f_Pull_advance CL CE CS CF CP CI gX [dref P] α Q E := by
  have SI := S.isS
  unfold f_Pull_advance m_Pull_advance
  refine w_runP rfl ?_
  sizeOf_list_dec
  (repeat' array_get_dec)
  refine w_while (fun mm ρ α' => ∃ (k' : Nat) (T' : Option (List Int)) (x : Option D), mm = nk c - k' ∧ ρ = [some (dref P), x] ∧ PS CS α' A n F O T' mo ∧ Cl T' c k' ∧ Tr bs c k k' ∧ Oth A α α') (nk c - k) ⟨k, T, none, rfl, rfl, S, hT, Tr.refl hT.1, Oth.refl⟩ ?_
  clear S hT
  rintro mm ρ α1 ⟨k', T', x, rfl, rfl, S, hT, t, O1⟩ X hXw
  have hP1 : α1 P = _ := (O1 P hPA).trans hP
  sizeOf_list_dec
  (repeat' array_get_dec)
  refine meth_pl hP1 rfl rfl ?_
  (repeat' array_get_dec)
  refine whole_go hP1 S hc hT.fr ?_
  by_cases hk : k' = nk c
  · subst hk
    rw [decide_eq_true rfl]
    (repeat' array_get_dec)
    refine bar_of ?_
    sizeOf_list_dec
    (repeat' array_get_dec)
    rw [arst_othP SI O1]
    exact q1 _ _ S hT t O1
  · have hk' : k' < nk c := by have := hT.1; omega
    rw [decide_eq_false hk]
    (repeat' array_get_dec)
    refine meth_pl hP1 rfl rfl ?_
    (repeat' array_get_dec)
    refine count_go hP1 S hc hT.fr ?_
    (repeat' array_get_dec)
    refine ix_bk hk' ?_
    rw [show val 256 1 (ck c k') = kb (ck c k') from rfl]
    (repeat' array_get_dec)
    refine bar_of ?_
    sizeOf_list_dec
    (repeat' array_get_dec)
    have S' := S
    obtain ⟨w, S0⟩ := S'
    refine near_go S0 hc K.1 K.2.1 K.2.2 fun fs kk f1 f2 hkk => ?_
    obtain rfl : kk = k' := IsFr.uniq hkk (by rw [show aGet n (tmp n T') = T' from tmp_get]; exact hT.fr)
    have hlk := lots_keys (n := n) (s := ⟨F, tmp n T', O, [], [], w, mo⟩) (fs := fs) (c := c) (k := kk) (b := kb (ck c kk))
    rw [bs_iff f1, ← hbs] at hlk
    generalize nearL (lotsL n ⟨F, tmp n T', O, [], [], w, mo⟩ fs c kk) = l at *
    (repeat' array_get_dec)
    rw [look_i]
    cases hg : aGet (kb (ck c kk)) l with
    | some z =>
      have hin := hlk.mp (List.mem_map_of_mem (f := fun x : Int × D => x.1) (aGet_mem hg))
      (try simp only [Option.map_none, Option.map_some, Option.isSome_none, Option.isSome_some, Bool.not_true, Bool.not_false, Option.getD_some, Option.getD_none])
      (repeat' array_get_dec)
      refine bar_of ?_
      sizeOf_list_dec
      (repeat' array_get_dec)
      refine meth_pl hP1 rfl rfl ?_
      (repeat' array_get_dec)
      refine appd_go hP1 S hc hT hk' (fun hm α2 w2 T2 S2 h2 O2 => ?_) fun α2 T2 S2 h2 O2 => ?_
      · (repeat' array_get_dec)
        rw [arst_othP SI (O1.trans O2)]
        exact hX hm _ _ _ _ S2 h2 t (O1.trans O2)
      · (repeat' array_get_dec)
        exact hXw _ _ _ (by omega) ⟨kk + 1, T2, _, rfl, rfl, S2, h2, t.step hk' hin, O1.trans O2⟩
    | none =>
      have hni := fun h => aGet_none.mp hg (hlk.mpr h)
      (try simp only [Option.map_none, Option.map_some, Option.isSome_none, Option.isSome_some, Bool.not_true, Bool.not_false, Option.getD_some, Option.getD_none])
      (repeat' array_get_dec)
      rw [arst_othP SI O1]
      exact q2 _ _ _ hk' S hT t ⟨by rw [Eb_len]; exact hk', by rw [Eb_get]; exact fun z => hni (.inl z), by rw [Eb_get]; exact fun z => hni (.inr z)⟩ O1
theorem give_go (hP : α P = some (plD CL (dref A.p) (enD CE (.str n) v h m d (.int 30) (bkD c)))) (hPA : P ∉ A.all) (S : PS CS α A n F O T mo) (hc : okc c) (hT : Cl T c k) (hk : k < nk c) {x : Int} {y : List Int}
    (hX : x = kb (ck c k) → y = ck c k → mo ≠ none → ∀ α' w T', PS CS α' A n F O T' mo → IsFr T' c k → Oth A α α' → E (cutX CP w) α')
    (q0 : ¬ (x = kb (ck c k) ∧ y = ck c k) → Q (.bool false) α)
    (q1 : x = kb (ck c k) → y = ck c k → ∀ α' T', PS CS α' A n F O T' mo → Cl T' c (k + 1) → Oth A α α' → Q (.bool true) α') : f_Pull_give CL CE CS CF CP CI gX [dref P, .int x, ctD y] α Q E := by
  have SI := S.isS
  unfold f_Pull_give m_Pull_give
  refine w_runP rfl ?_
  sizeOf_list_dec
  (repeat' array_get_dec)
  refine meth_pl hP rfl rfl ?_
  (repeat' array_get_dec)
  refine whole_go hP S hc hT.fr ?_
  rw [decide_eq_false (by omega)]
  (repeat' array_get_dec)
  refine meth_pl hP rfl rfl ?_
  (repeat' array_get_dec)
  refine count_go hP S hc hT.fr ?_
  (repeat' array_get_dec)
  refine ix_bk hk ?_
  rw [show val 256 1 (ck c k) = kb (ck c k) from rfl]
  (repeat' array_get_dec)
  · rename_i he
    have hx : x = kb (ck c k) := he.symm
    subst hx
    refine bb_go (ck_ok hc hk) ?_
    (repeat' array_get_dec)
    refine oq_ne_il ?_
    by_cases hy : ck c k = y
    · subst hy
      rw [decide_eq_true rfl]
      (repeat' array_get_dec)
      refine bar_of ?_
      sizeOf_list_dec
      (repeat' array_get_dec)
      refine meth_pl hP rfl rfl ?_
      (repeat' array_get_dec)
      refine appd_go hP S hc hT hk (fun hm α2 w2 T2 S2 h2 O2 => ?_) fun α2 T2 S2 h2 O2 => ?_
      · (repeat' array_get_dec)
        rw [arst_othP SI O2]
        exact hX rfl rfl hm _ _ _ S2 h2 O2
      · (repeat' array_get_dec)
        refine bar_of ?_
        sizeOf_list_dec
        (repeat' array_get_dec)
        rw [arst_othP SI O2]
        exact q1 rfl rfl _ _ S2 h2 O2
    · rw [decide_eq_false hy]
      (repeat' array_get_dec)
      rw [arst_self]
      exact q0 fun z => hy z.2.symm
  · rename_i he
    rw [arst_self]
    exact q0 fun z => he z.1.symm
end
end K26
namespace K26
open PySem L2 Hz
local macro_rules | `(tactic| array_mem_dec) => `(tactic| (first | ((with_reducible apply fd_cons); exact trivial) | ((with_reducible apply fd_nil); exact trivial) | ((with_reducible apply oq_isiB (b := true)); exact rfl) | ((with_reducible apply oq_isiB (b := false)); exact rfl) | ((with_reducible apply w_xi); exact rfl; exact decide_eq_true rfl; exact if_pos rfl) | ((with_reducible apply w_xf); exact rfl; exact decide_eq_true rfl; exact rfl) | ((with_reducible apply w_frzS); exact rfl; (first | assumption | exact aset_same); (try simp only [List.set])) | ((with_reducible apply rg1_of); (first | omega | decide)) | ((with_reducible apply rg2_of); (first | omega | decide)) | ((with_reducible apply lok); exact rfl) | ((with_reducible refine it2_dec ?_ ?_) <;> intro)))
local macro_rules | `(tactic| array_mem_dec) => `(tactic| (first | ((with_reducible apply dc_c); (first | assumption | exact aset_same); (first | exact rfl | exact tD_real _ _)) | ((with_reducible apply cdi_of); (first | assumption | exact aset_same); (first | exact rfl | exact tD_real _ _)) | ((with_reducible apply dc_d); (first | exact rfl | exact tD_real _ _)) | ((with_reducible apply dc_f); (first | exact rfl | exact tD_real _ _)) | ((with_reducible apply lk_of); exact rfl) | ((with_reducible apply oq_setv2); (simp only [List.set, wipeA]; exact rfl)) | ((with_reducible apply cal_of); exact rfl; (try simp only [List.cons_append, List.nil_append, List.append_nil])) | ((with_reducible apply w_aug); exact rfl) | ((with_reducible apply cel_of); (first | assumption | exact aset_same)) | ((with_reducible apply ceo_of); (first | assumption | exact aset_same)) | ((with_reducible apply tlG_r); (first | assumption | exact aset_same)) | ((with_reducible apply fr_of); (first | assumption | exact aset_same))))
local macro_rules | `(tactic| array_mem_dec) => `(tactic| (with_reducible first | refine w_dnew ?_ | refine w_fz ?_ | refine w_listD ?_ | refine w_dictD ?_ | refine w_dictP ?_ | refine w_sortD ?_ | refine w_isiC ?_))
local macro_rules | `(tactic| array_mem_dec) => `(tactic| (with_reducible first | refine pr2_of ?_ | refine fl_f ?_ | refine fl_t ?_ | refine fl_o ?_ | refine fl_r ?_ | refine fl_n ?_ | refine fl_w ?_ | refine fl_m ?_ | refine ctD_list ?_ | refine ctD_tup ?_ | refine vw_ct ?_ | refine fe_n ?_ | refine fe_b ?_ | refine vw_en ?_ | refine len_bk ?_ | refine vw_bk ?_ | refine ctD_cut ?_ | refine fp_s ?_ | refine fp_e ?_ | refine fe_t ?_ | refine w_dget ?_ | refine w_dget1 ?_ | refine w_dget2 ?_ | refine w_din ?_ | refine w_dnotin ?_ | refine w_dpop1 ?_ | refine w_dpop2 ?_ | refine w_dput ?_ | refine w_daug ?_ | refine w_lenD ?_))
local macro_rules | `(tactic| array_mem_dec) => `(tactic| (with_reducible first | refine tb_b ?_ | refine ti_b ?_ | refine ts_b ?_ | refine we_nx ?_ | refine we_rt ?_ | refine we_ex ?_ | refine wn_nx ?_ | refine wn_rt ?_ | refine wn_bk ?_ | refine wn_ct ?_ | refine wn_ex ?_ | refine wl_nx ?_ | refine wl_rt ?_ | refine wl_bk ?_ | refine wl_ct ?_ | refine wl_ex ?_ | refine wx_nx ?_ | refine wx_rt ?_ | refine wx_bk ?_ | refine wx_ct ?_ | refine wx_ex ?_ | refine wh_nx ?_ | refine wh_rt ?_ | refine wh_bk ?_ | refine wh_ct ?_ | refine it2_t ?_ | refine it2_f ?_ | refine it2_not ?_ | refine tlG_l ?_ | refine ttG_t ?_))
local macro_rules | `(tactic| array_mem_dec) => `(tactic| ((with_reducible refine oq_id ?_); (first | (with_reducible first | refine vw_i ?_ | refine vw_s ?_ | refine vw_b ?_ | refine vw_n ?_ | refine vw_l ?_ | refine vw_t ?_ | refine vw_sc ?_ | refine vw_o ?_ | refine mv_nil ?_ | refine mv_cons ?_ | refine oq_tgNil ?_ | refine oq_tgCons ?_ | refine oq_add_i ?_ | refine oq_sub ?_ | refine oq_lt ?_ | refine oq_le ?_ | refine oq_gt ?_ | refine oq_ge ?_ | refine oq_eq_i ?_ | refine oq_ne_i ?_ | refine oq_eq_s ?_ | refine oq_ne_s ?_ | refine oq_eq_b ?_ | refine oq_ne_b ?_ | refine oq_is ?_ | refine oq_isNot ?_ | refine oq_in_s ?_ | refine oq_notIn_s ?_ | refine oq_len_l ?_ | refine oq_len_t ?_ | refine oq_int ?_ | refine oq_abs ?_ | refine oq_ord ?_ | refine oq_cut_l ?_ | refine oq_cut_t ?_ | refine oq_list_l ?_ | refine oq_list_t ?_ | refine oq_tuple_l ?_ | refine oq_tuple_t ?_ | refine oq_max2 ?_ | refine oq_min2 ?_ | refine oq_some ?_ | refine oq_len_sc ?_ | refine oq_eq_il ?_ | refine oq_ne_il ?_ | refine oq_eq_it ?_ | refine oq_ne_it ?_ | refine oq_lt_il ?_ | refine oq_lt_it ?_ | refine oq_iadd_i ?_ | refine oq_isT ?_ | refine oq_isNotT ?_) | (first | ((with_reducible apply vw_st); assumption) | ((with_reducible apply vw_pl); assumption) | ((with_reducible apply oq_tgTup); exact rfl) | ((with_reducible apply oq_ix_lk); exact rfl) | ((with_reducible apply oq_ix_tk); exact rfl) | ((with_reducible apply vw_r); (first | assumption | exact aset_same)) | ((with_reducible apply oq_ixN_k); exact rfl; (try simp only [List.set, Int.reduceToNat])) | ((with_reducible apply oq_mod); (first | omega | decide)) | ((with_reducible apply oq_div); (first | omega | decide)) | ((with_reducible apply oq_mul); (first | omega | decide)) | ((with_reducible apply oq_pow); (first | omega | decide)) | ((with_reducible apply oq_shl); (first | omega | decide))) | (first | ((with_reducible apply oq_shr); (first | omega | decide)) | ((with_reducible apply oq_add_s); (first | omega | decide)) | ((with_reducible apply oq_len_s); (first | omega | decide)) | ((with_reducible apply oq_cut_s); (first | omega | decide)) | ((with_reducible apply oq_append); (first | omega | decide)) | ((with_reducible apply oq_insert); (first | omega | decide)) | ((with_reducible apply oq_rep); (first | omega | decide)) | ((with_reducible apply oq_cat); (first | omega | decide))))))
local macro_rules | `(tactic| array_mem_dec) => `(tactic| (with_reducible first | refine w_list ?_ | refine w_tuple ?_ | refine w_str ?_ | refine w_range1 ?_ | refine w_range2 ?_ | refine w_range3 ?_ | refine w_next ?_ | refine w_break ?_ | refine w_cont ?_ | refine w_drop ?_ | refine w_ret ?_ | refine w_retN ?_ | refine w_if ?_ | refine w_asg ?_ | refine w_raise ?_ | refine w_fld ?_ | refine w_seta ?_ | refine w_auga ?_ | refine w_seti ?_ | refine w_mut ?_ | refine w_frz ?_ | refine w_new ?_ | refine w_ext ?_ | refine w_for ?_ | refine w_lc ?_ | refine w_tryA ?_ | refine w_try ?_ | refine w_par ?_))
local macro_rules | `(tactic| array_mem_dec) => `(tactic| (first | ((with_reducible apply w_kV); exact rfl) | (with_reducible first | refine w_kC ?_ | refine w_bop ?_ | refine w_tst ?_ | refine w_val ?_ | refine w_and ?_ | refine w_or ?_ | refine w_not ?_ | refine w_andV ?_ | refine w_orV ?_ | refine w_chain ?_ | refine w_ifK ?_ | refine w_nil ?_ | refine w_cons ?_ | refine w_tup ?_ | refine w_lst ?_ | refine w_call ?_ | refine w_neg ?_ | refine w_b1 ?_ | refine w_bn ?_ | refine w_isi ?_ | refine w_met ?_ | refine w_pnone ?_ | refine w_psome ?_ | refine w_cut ?_ | refine w_yes ?_)))
local macro_rules | `(tactic| array_get_dec) => `(tactic| (with_reducible refine w_seqB ?_))
local macro_rules | `(tactic| array_get_dec) => `(tactic| array_mem_dec)
local macro_rules | `(tactic| decreasing_trivial_pre_omega) => `(tactic| (with_reducible refine w_seq ?_))
local macro_rules | `(tactic| decreasing_trivial_pre_omega) => `(tactic| array_mem_dec)
local macro_rules | `(tactic| sizeOf_list_dec) => `(tactic| (try simp only [List.set, Int.reduceToNat, List.map_cons, List.map_nil, Nat.reduceSub, List.reduceReplicate, List.cons_append, List.nil_append, wipeA, aset_aset, List.getElem?_cons_zero, List.getElem?_cons_succ]))
variable {CL CE CS CF CP CI gX : Nat} {α : AH} {Q : QD} {E : QX}
def leS (a b : Str) : Prop := a.cps.toList ≤ b.cps.toList
theorem rs_pw : ∀ (l : List Str) (p : Str), PyProof.Rows.risingS p l = true → (p :: l).Pairwise leS
  | [], p, _ => List.pairwise_singleton _ _
  | x :: r, p, h => by
    unfold PyProof.Rows.risingS at h
    rw [Bool.and_eq_true] at h
    have h2 := rs_pw r x h.2
    have h1 : leS p x := by
      have := h.1
      rw [PyProof.Rows.ltCps_eq] at this
      simp only [Bool.not_eq_eq_eq_not, Bool.not_true, decide_eq_false_iff_not] at this
      exact List.not_lt.mp this
    refine List.pairwise_cons.mpr ⟨fun y hy => ?_, h2⟩
    rcases List.mem_cons.mp hy with rfl | hy
    · exact h1
    · exact List.le_trans h1 (List.rel_of_pairwise_cons h2 hy)
theorem sS_eq {a b : List Str} (h : a.Perm b) (ha : PyProof.Rows.sortedS a = true) (hb : PyProof.Rows.sortedS b = true) : a = b := by
  have pw : ∀ l : List Str, PyProof.Rows.sortedS l = true → l.Pairwise leS := fun l h => by
    cases l with
    | nil => exact List.Pairwise.nil
    | cons x r => exact rs_pw r x h
  refine List.Perm.eq_of_pairwise (le := leS) (fun x y _ _ h1 h2 => ?_) (pw a ha) (pw b hb) h
  have := List.le_antisymm h1 h2
  cases x
  cases y
  congr 1
  exact Array.toList_inj.mp this
theorem okD_int (k : Nat) (i : Int) : okD k (.int i) = true := by cases k <;> rfl
theorem okD_str (k : Nat) {n : Str} (h : okS n) : okD k (.str n) = true := by cases k <;> exact h
theorem okD_it (k : Nat) (xs : List Int) : okD (k + 1) (.tuple (xs.map .int)) = true := okD_ints k xs
structure SOk (s : Sto) : Prop where
  fs : ∀ x ∈ s.files, okS x.1
  ts : ∀ x ∈ s.temps, okS x.1
  os : ∀ x ∈ s.old, okS x.1 ∧ ∃ i j : Int, x.2.1 = .tuple [.tuple [.int i, .int j]]
theorem du_ok {s : Sto} {fs ts : List Str} (h : SOk s) (hf : ∀ n ∈ fs, okS n) (ht : ∀ n ∈ ts, okS n) : okD 60 (duD s fs ts) = true := by
  have e1 : (fs.map (duF s.files)).all (okD 58) = true := by
    rw [List.all_eq_true]
    intro d hd
    obtain ⟨n, hn, rfl⟩ := List.mem_map.mp hd
    show (okD 57 (.str n) && (okD 57 (.tuple _) && (okD 57 (.int _) && true))) = true
    rw [okD_str _ (hf n hn), okD_it 56, okD_int]
    rfl
  have e2 : (ts.map (duT s.temps)).all (okD 58) = true := by
    rw [List.all_eq_true]
    intro d hd
    obtain ⟨n, hn, rfl⟩ := List.mem_map.mp hd
    show (okD 57 (.str n) && (okD 57 (.tuple _) && true)) = true
    rw [okD_str _ (ht n hn), okD_it 56]
    rfl
  have e3 : (s.old.map duO).all (okD 58) = true := by
    rw [List.all_eq_true]
    intro d hd
    obtain ⟨x, hx, rfl⟩ := List.mem_map.mp hd
    obtain ⟨h2, i, j, h3⟩ := h.os x hx
    show (okD 57 (.str x.1) && (okD 57 x.2.1 && (okD 57 (.tuple _) && true))) = true
    rw [okD_str _ h2, h3, okD_it 56]
    rfl
  show (_ && (_ && (_ && (_ && (_ && true))))) = true
  rw [show okD 59 (.tuple (fs.map (duF s.files))) = true from e1, show okD 59 (.tuple (ts.map (duT s.temps))) = true from e2, show okD 59 (.tuple (s.old.map duO)) = true from e3, okD_it 58, okD_it 58]
  rfl
/-- names and vectors are plain -/
def KN (F : List (Str × (List Int × Int))) (O : List Row) (n : Str) : Prop := (∀ x ∈ F, okS x.1) ∧ okS n ∧ ∀ x ∈ O, okS x.1 ∧ ∃ i j : Int, x.2.1 = .tuple [.tuple [.int i, .int j]]
theorem KN.ok {F : List (Str × (List Int × Int))} {O : List Row} {n : Str} {T : Option (List Int)} {w : Int} {mo : Option Int} (h : KN F O n) : SOk ⟨F, tmp n T, O, [], [], w, mo⟩ := ⟨h.1, fun x hx => by
  cases T with
  | none => cases hx
  | some t =>
    obtain rfl := List.mem_singleton.mp hx
    exact h.2.1, h.2.2⟩
theorem cut_tl {x : D} {xs : List D} : cutD (x :: xs) (some 1) none = xs := by
  show cutD (x :: xs) (some ((1 : Nat) : Int)) none = xs
  unfold cutD
  rw [HT.sIx_nat, show HT.sIx (x :: xs).length (x :: xs).length none = (x :: xs).length from rfl]
  have : min 1 (x :: xs).length = 1 := by simp only [List.length_cons]; omega
  rw [this]
  simp
theorem four_go {W : Int → List Int → Prop} {d x1 x2 x3 x4 : Int} {y1 y2 y3 y4 : List Int} {R : D → Prop} (g1 : 0 ≤ d) (g2 : d < 4) (w1 : W x1 y1) (w2 : W x2 y2) (w3 : W x3 y3) (w4 : W x4 y4) (h : ∀ x y, W x y → R (.tuple [.int x, ctD y])) : oq (dIx (.list [.tuple [.int x1, ctD y1], .tuple [.int x2, ctD y2], .tuple [.int x3, ctD y3], .tuple [.int x4, ctD y4]]) (.int d)) R := by
  refine oq_ix_l g1 g2 fun z e => ?_
  obtain rfl | rfl | rfl | rfl : d = 0 ∨ d = 1 ∨ d = 2 ∨ d = 3 := by omega
  · cases e; exact h _ _ w1
  · cases e; exact h _ _ w2
  · cases e; exact h _ _ w3
  · cases e; exact h _ _ w4
theorem eqv_il {xs ys : List Int} : PyData.eqv (.list (xs.map .int)) (.list (ys.map .int)) = decide (xs = ys) := by
  have h := dEqB_il xs ys
  unfold dEqB at h
  rw [if_pos ⟨okD_ints 59 xs, okD_ints 59 ys⟩] at h
  exact Option.some.inj h
theorem pair_ne {x B : Int} {y l : List Int} (h : ¬ (x = B ∧ y = l)) : dEqB (.tuple [.int x, ctD y]) (.tuple [.int B, ctD l]) = some false := by
  have o : ∀ (x : Int) (y : List Int), okD 60 (.tuple [.int x, ctD y]) = true := fun x y => by
    show (okD 59 (.int x) && (okD 59 (.list (y.map .int)) && true)) = true
    rw [show okD 59 (.int x) = true from rfl, show okD 59 (.list (y.map .int)) = true from okD_ints 58 y]
    rfl
  show (if okD 60 _ = true ∧ okD 60 _ = true then some (PyData.eqv _ _) else none) = _
  rw [if_pos ⟨o x y, o B l⟩]
  have e : PyData.eqv (.tuple [.int x, ctD y]) (.tuple [.int B, ctD l]) = (PyData.eqv (.int x) (.int B) && PyData.eqv (.list (y.map .int)) (.list (l.map .int))) := by
    simp [PyData.eqv, PyData.eqvAll, ctD]
  rw [e, eqv_il, show PyData.eqv (.int x) (.int B) = decide (x = B) by rw [PyData.eqv]; exact Bool.beq_eq_decide_eq x B]
  by_cases q : x = B
  · rw [decide_eq_false (p := y = l) (fun z => h ⟨q, z⟩), Bool.and_false]
  · rw [decide_eq_false q, Bool.false_and]
theorem xor_ne {b : Int} (h : 0 ≤ b ∧ b < 256) : Builtin.bitXor b 1 ≠ b := by
  have : ∀ a : Fin 256, Builtin.bitXor ((a.val : Nat) : Int) 1 ≠ ((a.val : Nat) : Int) := by decide +kernel
  have := this ⟨b.toNat, by omega⟩
  rw [show ((b.toNat : Nat) : Int) = b by omega] at this
  exact this
section
variable {A : Ads} {n : Str} {F : List (Str × (List Int × Int))} {O : List Row} {T : Option (List Int)} {mo : Option Int} {P p0 : Addr} {v h m d : D} {c : List Int} {k : Nat} {bs : List Int} {ns : List Int}
theorem ref_go (D : DrAt p0 α) (hpA : p0 ∉ A.all) (hpP : p0 ≠ P) (hP : α P = some (plD CL (dref A.p) (enD CE (.str n) v h m d (.int 30) (bkD c)))) (hPA : P ∉ A.all) (S : PS CS α A n F O T mo) (hc : okc c) (K : KO F O) (N : KN F O n) (hT : Cl T c k) (hk : k < nk c) (h257 : kb (ck c k) ≠ 257)
    (q : ∀ α', DrAt p0 α' → But p0 α α' → Q (.bool true) α') : f_law_refused CL CE CS CF CP CI gX [dref p0, scriptD ns, dref A.p, dref P, .int (kb (ck c k))] α Q E := by
  have hok := ck_ok hc hk
  obtain ⟨b0, r0, hbr⟩ : ∃ b r, ck c k = b :: r := by
    cases e : ck c k with
    | nil => exact absurd e hok.2.1
    | cons b r => exact ⟨b, r, rfl⟩
  have hb0 := hok.2.2 b0 (by rw [hbr]; exact List.mem_cons_self)
  unfold f_law_refused m_law_refused
  refine w_runP rfl ?_
  sizeOf_list_dec
  (repeat' array_get_dec)
  have S' := S
  obtain ⟨w, S0⟩ := S'
  refine meth_st S0 rfl rfl ?_
  (repeat' array_get_dec)
  refine dur_go S0 ⟨K.1.1, by have := tmp_len (n := n) (T := T); show (tmp n T).length < 64; omega, by have := K.1.2; show O.length ≤ 1000; omega⟩ fun fs ts f1 f2 t1 t2 => ?_
  (repeat' array_get_dec)
  refine bar_of ?_
  sizeOf_list_dec
  (repeat' array_get_dec)
  refine by_go (ps := [ck c k]) (fun p hp => by rw [List.mem_singleton.mp hp]; exact hok) (by show 1 ≤ 255; decide) ?_
  rw [show [ck c k].flatten = ck c k by simp]
  (repeat' array_get_dec)
  refine bar_of ?_
  sizeOf_list_dec
  obtain ⟨du, hdu⟩ : ∃ x, duD { files := F, temps := tmp n T, old := O, recs := [], fresh := [], wr := w, mo := mo } fs ts = x := ⟨_, rfl⟩
  obtain ⟨B, hB⟩ : ∃ x, kb (ck c k) = x := ⟨_, rfl⟩
  rw [hdu, hB, hbr]
  have l4 : r0.length ≤ 3 := by have := hok.1; rw [hbr, List.length_cons] at this; omega
  (repeat' array_get_dec)
  refine oq_add_l (ds := (b0 :: r0).map .int) (es := [.int 0]) (by rw [List.length_map]; show r0.length + 1 + 1 ≤ _; omega) ?_
  (repeat' array_get_dec)
  refine oq_ix_l (ds := (b0 :: r0).map .int) (Int.le_refl 0) (by rw [List.length_map]; show (0 : Int) < ((r0.length + 1 : Nat) : Int); omega) fun z e => ?_
  cases e
  (repeat' array_get_dec)
  refine ⟨_, rfl, ?_⟩
  (repeat' array_get_dec)
  refine ⟨.list (r0.map .int), ?_, ?_⟩
  · show some (PyData.list (cutD (.int b0 :: r0.map .int) (some 1) none)) = _
    rw [cut_tl]
  (repeat' array_get_dec)
  refine oq_add_l (ds := [_]) (es := r0.map .int) (by rw [List.length_map]; show 1 + r0.length ≤ _; omega) ?_
  (repeat' array_get_dec)
  refine dr_go D (by decide) fun dd α1 g1 g2 D1 B1 => ?_
  have S1 : PS CS α1 A n F O T mo := S.same fun a ha => B1 a fun e => hpA (by rw [← e]; exact ha)
  have P1 : α1 P = _ := (B1 P (Ne.symm hpP)).trans hP
  (repeat' array_get_dec)
  rw [show PyData.list (List.map PyData.int (b0 :: r0) ++ [PyData.int 0]) = ctD ((b0 :: r0) ++ [0]) by simp [ctD]]
  refine four_go (W := fun x y => ¬ (x = B ∧ y = b0 :: r0)) (y3 := Builtin.bitXor b0 1 :: r0) (y4 := [1]) g1 g2 (fun z => by have := z.1; omega) (fun z => by have := congrArg List.length z.2; simp at this) (fun z => xor_ne hb0 (List.cons.inj z.2).1) (fun z => h257 (by rw [hB]; exact z.1.symm)) fun x y hw => ?_
  have S01 : StAt CS α1 A ⟨F, tmp n T, O, [], [], w, mo⟩ := S0.same fun a ha => B1 a fun e => hpA (by rw [← e]; exact ha)
  (repeat' array_get_dec)
  try refine bar_of ?_
  sizeOf_list_dec
  (repeat' array_get_dec)
  case' _ hx =>
    refine oq_eq_il ?_
    rw [decide_eq_false (fun e => hw ⟨by omega, e⟩)]
    (repeat' array_get_dec)
  all_goals
    refine bar_of ?_
    sizeOf_list_dec
    (repeat' array_get_dec)
    refine oq_eq_d (pair_ne hw) ?_
    (repeat' array_get_dec)
    refine meth_pl P1 rfl rfl ?_
    (repeat' array_get_dec)
    refine give_go P1 hPA S1 hc hT hk (fun z1 z2 => absurd ⟨by rw [← hB]; exact z1, by rw [← hbr]; exact z2⟩ hw) (fun _ => ?_) (fun z1 z2 => absurd ⟨by rw [← hB]; exact z1, by rw [← hbr]; exact z2⟩ hw)
    (repeat' array_get_dec)
    refine meth_st S01 rfl rfl ?_
    (repeat' array_get_dec)
    refine dur_go S01 ⟨K.1.1, by have := tmp_len (n := n) (T := T); show (tmp n T).length < 64; omega, by have := K.1.2; show O.length ≤ 1000; omega⟩ fun fs2 ts2 f3 f4 t3 t4 => ?_
    obtain rfl : fs = fs2 := sS_eq (f1.trans f3.symm) f2 f4
    obtain rfl : ts = ts2 := sS_eq (t1.trans t3.symm) t2 t4
    rw [hdu]
    (repeat' array_get_dec)
    refine ⟨du, by rw [← hdu]; rfl, du, by rw [← hdu]; rfl, ?_⟩
    refine oq_eq_self ?_ ?_
    · rw [← hdu]
      refine du_ok N.ok (fun x hx => ?_) fun x hx => ?_
      · obtain ⟨y, hy, e⟩ := List.mem_map.mp (f1.mem_iff.mp hx)
        exact e ▸ N.1 y hy
      · obtain ⟨y, hy, e⟩ := List.mem_map.mp (t1.mem_iff.mp hx)
        exact e ▸ (N.ok (w := w) (mo := mo)).ts y hy
    (repeat' array_get_dec)
    · rw [arst_but D B1]
      exact q _ D1 B1
    · rename_i hz
      exact absurd rfl hz
end
end K26
namespace K26
open PySem L2 Hz
local macro_rules | `(tactic| array_mem_dec) => `(tactic| (first | ((with_reducible apply fd_cons); exact trivial) | ((with_reducible apply fd_nil); exact trivial) | ((with_reducible apply oq_isiB (b := true)); exact rfl) | ((with_reducible apply oq_isiB (b := false)); exact rfl) | ((with_reducible apply w_xi); exact rfl; exact decide_eq_true rfl; exact if_pos rfl) | ((with_reducible apply w_xf); exact rfl; exact decide_eq_true rfl; exact rfl) | ((with_reducible apply w_frzS); exact rfl; (first | assumption | exact aset_same); (try simp only [List.set])) | ((with_reducible apply rg1_of); (first | omega | decide)) | ((with_reducible apply rg2_of); (first | omega | decide)) | ((with_reducible apply lok); exact rfl) | ((with_reducible refine it2_dec ?_ ?_) <;> intro)))
local macro_rules | `(tactic| array_mem_dec) => `(tactic| (first | ((with_reducible apply dc_c); (first | assumption | exact aset_same); (first | exact rfl | exact tD_real _ _)) | ((with_reducible apply cdi_of); (first | assumption | exact aset_same); (first | exact rfl | exact tD_real _ _)) | ((with_reducible apply dc_d); (first | exact rfl | exact tD_real _ _)) | ((with_reducible apply dc_f); (first | exact rfl | exact tD_real _ _)) | ((with_reducible apply lk_of); exact rfl) | ((with_reducible apply oq_setv2); (simp only [List.set, wipeA]; exact rfl)) | ((with_reducible apply cal_of); exact rfl; (try simp only [List.cons_append, List.nil_append, List.append_nil])) | ((with_reducible apply w_aug); exact rfl) | ((with_reducible apply cel_of); (first | assumption | exact aset_same)) | ((with_reducible apply ceo_of); (first | assumption | exact aset_same)) | ((with_reducible apply tlG_r); (first | assumption | exact aset_same)) | ((with_reducible apply fr_of); (first | assumption | exact aset_same))))
local macro_rules | `(tactic| array_mem_dec) => `(tactic| (with_reducible first | refine w_dnew ?_ | refine w_fz ?_ | refine w_listD ?_ | refine w_dictD ?_ | refine w_dictP ?_ | refine w_sortD ?_ | refine w_isiC ?_))
local macro_rules | `(tactic| array_mem_dec) => `(tactic| (with_reducible first | refine pr2_of ?_ | refine fl_f ?_ | refine fl_t ?_ | refine fl_o ?_ | refine fl_r ?_ | refine fl_n ?_ | refine fl_w ?_ | refine fl_m ?_ | refine ctD_list ?_ | refine ctD_tup ?_ | refine vw_ct ?_ | refine fe_n ?_ | refine fe_b ?_ | refine vw_en ?_ | refine len_bk ?_ | refine vw_bk ?_ | refine ctD_cut ?_ | refine fp_s ?_ | refine fp_e ?_ | refine fe_t ?_ | refine w_dget ?_ | refine w_dget1 ?_ | refine w_dget2 ?_ | refine w_din ?_ | refine w_dnotin ?_ | refine w_dpop1 ?_ | refine w_dpop2 ?_ | refine w_dput ?_ | refine w_daug ?_ | refine w_lenD ?_))
local macro_rules | `(tactic| array_mem_dec) => `(tactic| (with_reducible first | refine tb_b ?_ | refine ti_b ?_ | refine ts_b ?_ | refine we_nx ?_ | refine we_rt ?_ | refine we_ex ?_ | refine wn_nx ?_ | refine wn_rt ?_ | refine wn_bk ?_ | refine wn_ct ?_ | refine wn_ex ?_ | refine wl_nx ?_ | refine wl_rt ?_ | refine wl_bk ?_ | refine wl_ct ?_ | refine wl_ex ?_ | refine wx_nx ?_ | refine wx_rt ?_ | refine wx_bk ?_ | refine wx_ct ?_ | refine wx_ex ?_ | refine wh_nx ?_ | refine wh_rt ?_ | refine wh_bk ?_ | refine wh_ct ?_ | refine it2_t ?_ | refine it2_f ?_ | refine it2_not ?_ | refine tlG_l ?_ | refine ttG_t ?_))
local macro_rules | `(tactic| array_mem_dec) => `(tactic| ((with_reducible refine oq_id ?_); (first | (with_reducible first | refine vw_i ?_ | refine vw_s ?_ | refine vw_b ?_ | refine vw_n ?_ | refine vw_l ?_ | refine vw_t ?_ | refine vw_sc ?_ | refine vw_o ?_ | refine mv_nil ?_ | refine mv_cons ?_ | refine oq_tgNil ?_ | refine oq_tgCons ?_ | refine oq_add_i ?_ | refine oq_sub ?_ | refine oq_lt ?_ | refine oq_le ?_ | refine oq_gt ?_ | refine oq_ge ?_ | refine oq_eq_i ?_ | refine oq_ne_i ?_ | refine oq_eq_s ?_ | refine oq_ne_s ?_ | refine oq_eq_b ?_ | refine oq_ne_b ?_ | refine oq_is ?_ | refine oq_isNot ?_ | refine oq_in_s ?_ | refine oq_notIn_s ?_ | refine oq_len_l ?_ | refine oq_len_t ?_ | refine oq_int ?_ | refine oq_abs ?_ | refine oq_ord ?_ | refine oq_cut_l ?_ | refine oq_cut_t ?_ | refine oq_list_l ?_ | refine oq_list_t ?_ | refine oq_tuple_l ?_ | refine oq_tuple_t ?_ | refine oq_max2 ?_ | refine oq_min2 ?_ | refine oq_some ?_ | refine oq_len_sc ?_ | refine oq_eq_il ?_ | refine oq_ne_il ?_ | refine oq_eq_it ?_ | refine oq_ne_it ?_ | refine oq_lt_il ?_ | refine oq_lt_it ?_ | refine oq_iadd_i ?_ | refine oq_isT ?_ | refine oq_isNotT ?_) | (first | ((with_reducible apply vw_st); assumption) | ((with_reducible apply vw_pl); assumption) | ((with_reducible apply oq_tgTup); exact rfl) | ((with_reducible apply oq_ix_lk); exact rfl) | ((with_reducible apply oq_ix_tk); exact rfl) | ((with_reducible apply vw_r); (first | assumption | exact aset_same)) | ((with_reducible apply oq_ixN_k); exact rfl; (try simp only [List.set, Int.reduceToNat])) | ((with_reducible apply oq_mod); (first | omega | decide)) | ((with_reducible apply oq_div); (first | omega | decide)) | ((with_reducible apply oq_mul); (first | omega | decide)) | ((with_reducible apply oq_pow); (first | omega | decide)) | ((with_reducible apply oq_shl); (first | omega | decide))) | (first | ((with_reducible apply oq_shr); (first | omega | decide)) | ((with_reducible apply oq_add_s); (first | omega | decide)) | ((with_reducible apply oq_len_s); (first | omega | decide)) | ((with_reducible apply oq_cut_s); (first | omega | decide)) | ((with_reducible apply oq_append); (first | omega | decide)) | ((with_reducible apply oq_insert); (first | omega | decide)) | ((with_reducible apply oq_rep); (first | omega | decide)) | ((with_reducible apply oq_cat); (first | omega | decide))))))
local macro_rules | `(tactic| array_mem_dec) => `(tactic| (with_reducible first | refine w_list ?_ | refine w_tuple ?_ | refine w_str ?_ | refine w_range1 ?_ | refine w_range2 ?_ | refine w_range3 ?_ | refine w_next ?_ | refine w_break ?_ | refine w_cont ?_ | refine w_drop ?_ | refine w_ret ?_ | refine w_retN ?_ | refine w_if ?_ | refine w_asg ?_ | refine w_raise ?_ | refine w_fld ?_ | refine w_seta ?_ | refine w_auga ?_ | refine w_seti ?_ | refine w_mut ?_ | refine w_frz ?_ | refine w_new ?_ | refine w_ext ?_ | refine w_for ?_ | refine w_lc ?_ | refine w_tryA ?_ | refine w_try ?_ | refine w_par ?_))
local macro_rules | `(tactic| array_mem_dec) => `(tactic| (first | ((with_reducible apply w_kV); exact rfl) | (with_reducible first | refine w_kC ?_ | refine w_bop ?_ | refine w_tst ?_ | refine w_val ?_ | refine w_and ?_ | refine w_or ?_ | refine w_not ?_ | refine w_andV ?_ | refine w_orV ?_ | refine w_chain ?_ | refine w_ifK ?_ | refine w_nil ?_ | refine w_cons ?_ | refine w_tup ?_ | refine w_lst ?_ | refine w_call ?_ | refine w_neg ?_ | refine w_b1 ?_ | refine w_bn ?_ | refine w_isi ?_ | refine w_met ?_ | refine w_pnone ?_ | refine w_psome ?_ | refine w_cut ?_ | refine w_yes ?_)))
local macro_rules | `(tactic| array_get_dec) => `(tactic| (with_reducible refine w_seqB ?_))
local macro_rules | `(tactic| array_get_dec) => `(tactic| array_mem_dec)
local macro_rules | `(tactic| decreasing_trivial_pre_omega) => `(tactic| (with_reducible refine w_seq ?_))
local macro_rules | `(tactic| decreasing_trivial_pre_omega) => `(tactic| array_mem_dec)
local macro_rules | `(tactic| sizeOf_list_dec) => `(tactic| (try simp only [List.set, Int.reduceToNat, List.map_cons, List.map_nil, Nat.reduceSub, List.reduceReplicate, List.cons_append, List.nil_append, wipeA, aset_aset, List.getElem?_cons_zero, List.getElem?_cons_succ]))
variable {CL CE CS CF CP CI gX : Nat} {α : AH} {Q : QD} {E : QX}
def OthQ (A : Ads) (p0 a0 : Addr) (α α' : AH) : Prop := ∀ a, a ∉ A.all → a ≠ p0 → a ≠ a0 → α' a = α a
def OthR (A : Ads) (P p0 a0 : Addr) (α α' : AH) : Prop := ∀ a, a ∉ A.all → a ≠ P → a ≠ p0 → a ≠ a0 → α' a = α a
section
variable {A : Ads} {n : Str} {F : List (Str × (List Int × Int))} {O : List Row} {T : Option (List Int)} {mo : Option Int} {P p0 a0 : Addr} {v h m d : D} {c : List Int} {k k0 C L : Nat} {bs asked : List Int} {ns : List Int}
theorem arst_fin {α' : AH} (OR : OthR A P p0 a0 α α') (hP : α P = none) (SI : ∀ a ∈ A.all, (α a).isSome = true) (hp : (α p0).isSome = true) (ha : (α a0).isSome = true) :
    (∀ a ∈ A.all, arst α α' a = α' a) ∧ arst α α' p0 = α' p0 ∧ arst α α' a0 = α' a0 ∧ OthQ A p0 a0 α (arst α α') := by
  refine ⟨fun a h => ?_, ?_, ?_, fun a h1 h2 h3 => ?_⟩
  · unfold arst; rw [if_pos (SI a h)]
  · unfold arst; rw [if_pos hp]
  · unfold arst; rw [if_pos ha]
  · unfold arst
    by_cases h : (α a).isSome = true
    · rw [if_pos h]
      exact OR a h1 (fun e => by rw [e, hP] at h; cases h) h2 h3
    · rw [if_neg h]
      cases q : α a with
      | none => rfl
      | some x => rw [q] at h; exact absurd rfl h
theorem exm_cp {w : Int} {R : Bool → Prop} (h : R true) : oq (exm_PowerCut CL CE CS CF CP CI gX (cutX CP w).C) R := ⟨true, by
  show (if CP = CP then some true else _) = _
  rw [if_pos rfl], h⟩
theorem pull_go (D : DrAt p0 α) (hq : α a0 = some (.list (asked.map .int))) (hp0 : p0 ∉ A.all) (ha0 : a0 ∉ A.all) (hpa : p0 ≠ a0)
    (S : PS CS α A n F O T mo) (hc : okc c) (K : KO F O) (N : KN F O n) (hbs : ∀ b, b ∈ bs ↔ BsP F O b) (hT : IsFr T c k) (h0 : k0 ≤ k) (hA : Ak bs (Eb c) k0 C k asked) (hl : asked.length ≤ L) (hL : L ≤ 90000)
    (q1 : ∀ α' as', PS CS α' A n (aPut n (c, 30) F) O none mo → Ak bs (Eb c) k0 C (nk c) as' → α' a0 = some (.list (as'.map .int)) → as'.length ≤ L + 300 → DrAt p0 α' → OthQ A p0 a0 α α' → Q (.str "done") α')
    (q2 : mo ≠ none → ∀ α' as' T' k', k0 ≤ k' → PS CS α' A n F O T' mo → IsFr T' c k' → Ak bs (Eb c) k0 (C + 1) k' as' → α' a0 = some (.list (as'.map .int)) → as'.length ≤ L + 300 → DrAt p0 α' → OthQ A p0 a0 α α' → Q (.str "cut") α') :
    f_law_pulled CL CE CS CF CP CI gX [dref p0, scriptD ns, dref A.p, enD CE (.str n) v h m d (.int 30) (bkD c), dref a0] α Q E := by
  have SI := S.isS
  have hqs : (α a0).isSome = true := by rw [hq]; rfl
  have hnk : nk c ≤ 255 := by have := pcs_length hc; rw [pcs_len] at this; exact this
  -- what a cut leaves
  have cut : mo ≠ none → ∀ P α' as' T' k', α P = none → OthR A P p0 a0 α α' → k0 ≤ k' → PS CS α' A n F O T' mo → IsFr T' c k' → Ak bs (Eb c) k0 (C + 1) k' as' → α' a0 = some (.list (as'.map .int)) → as'.length ≤ L + 300 → DrAt p0 α' → Q (.str "cut") (arst α α') := fun hm P α' as' T' k' hP OR g0 S' hT' A' hq' hl' D' => by
    obtain ⟨r1, r2, r3, r4⟩ := arst_fin OR hP SI D.isS hqs
    exact q2 hm _ as' T' k' g0 (S'.same r1) hT' A' (r3.trans hq') hl' (by obtain ⟨a, b, e⟩ := D'; exact ⟨a, b, r2.trans e⟩) r4
  unfold f_law_pulled m_law_pulled
  refine w_runP rfl ?_
  sizeOf_list_dec
  (repeat' array_get_dec)
  try refine w_mk ?_
  try (repeat' array_get_dec)
  refine ⟨rfl, fun P hP => ?_⟩
  have hPA : P ∉ A.all := fun z => by have := SI P z; rw [hP] at this; cases this
  have hPp : p0 ≠ P := fun e => by have := D.isS; rw [e, hP] at this; cases this
  have hPa : a0 ≠ P := fun e => by rw [e, hP] at hqs; cases hqs
  refine pinit_go aset_same hPA (S.same fun a ha => aset_ne (fun e => hPA (by rw [← e]; exact ha))) hc hT (fun hm α1 w O1 S1 => ?_) fun α1 T1 S1 T1c P1 O1 => ?_
  · refine exm_cp ?_
    (repeat' array_get_dec)
    exact cut hm P α1 asked T k hP (fun a h1 h2 h3 h4 => (O1 a h1 h2).trans (aset_ne h2)) h0 S1 hT (ak_cut hA) ((O1 a0 ha0 hPa).trans ((aset_ne hPa).trans hq)) (by omega) (by
      obtain ⟨a, b, e⟩ := D
      exact ⟨a, b, (O1 p0 hp0 hPp).trans ((aset_ne hPp).trans e)⟩)
  have D1 : DrAt p0 α1 := by
    obtain ⟨a, b, e⟩ := D
    exact ⟨a, b, (O1 p0 hp0 hPp).trans ((aset_ne hPp).trans e)⟩
  have q1' : α1 a0 = some (.list (asked.map .int)) := (O1 a0 ha0 hPa).trans ((aset_ne hPa).trans hq)
  have R1 : OthR A P p0 a0 α α1 := fun a h1 h2 h3 h4 => (O1 a h1 h2).trans (aset_ne h2)
  refine ⟨rfl, ?_⟩
  (repeat' array_get_dec)
  refine bar_of ?_
  sizeOf_list_dec
  (repeat' array_get_dec)
  refine for_nums (fun i ρ α' => ∃ (k' : Nat) (T' : Option (List Int)) (as' : List Int) (x y : Option Hz.D), ρ = [some (dref p0), some (scriptD ns), some (dref A.p), some (enD CE (.str n) v h m d (.int 30) (bkD c)), some (dref a0), some (dref P), x, y] ∧ i ≤ k' ∧ k0 ≤ k' ∧ PS CS α' A n F O T' mo ∧ Cl T' c k' ∧ Ak bs (Eb c) k0 C k' as' ∧ α' a0 = some (.list (as'.map .int)) ∧ as'.length ≤ L + i ∧ DrAt p0 α' ∧ OthR A P p0 a0 α α' ∧ α' P = some (plD CL (dref A.p) (enD CE (.str n) v h m d (.int 30) (bkD c)))) ⟨k, T1, asked, none, none, rfl, Nat.zero_le _, h0, S1, T1c, hA, q1', hl, D1, R1, P1⟩ ?_ ?_
  · rintro ρ α2 ⟨k', T', as', x, y, rfl, hi, h0', S2, T2, A2, q2', l2, D2, R2, P2⟩
    exfalso
    have := T2.1
    omega
  clear S hq hA hl S1 T1c q1' D1 R1 P1 O1
  rintro i hi ρ α1 ⟨k', T', as', x, y, rfl, hik, h0', S1, T1c, A1, q1', l1, D1, R1, P1⟩ X hX
  sizeOf_list_dec
  (repeat' array_get_dec)
  have nxt : ∀ α1 α2 (as : List Int), (DrAt p0 α1 ∧ α1 a0 = some (.list (as.map .int)) ∧ OthR A P p0 a0 α α1 ∧ α1 P = some (plD CL (dref A.p) (enD CE (.str n) v h m d (.int 30) (bkD c)))) → Oth A α1 α2 → (DrAt p0 α2 ∧ α2 a0 = some (.list (as.map .int)) ∧ OthR A P p0 a0 α α2 ∧ α2 P = some (plD CL (dref A.p) (enD CE (.str n) v h m d (.int 30) (bkD c)))) := fun α1 α2 as ⟨⟨a, b, e⟩, f, g, j⟩ O2 =>
    ⟨⟨a, b, (O2 p0 hp0).trans e⟩, (O2 a0 ha0).trans f, fun a h1 h2 h3 h4 => (O2 a h1).trans (g a h1 h2 h3 h4), (O2 P hPA).trans j⟩
  refine meth_pl P1 rfl rfl ?_
  (repeat' array_get_dec)
  refine adv_go P1 hPA S1 hc K hbs T1c (fun hm α2 w T2 k2 S2 h2 t2 O2 => ?_) (fun α2 T2 S2 h2 t2 O2 => ?_) fun α2 T2 k2 hk2 S2 h2 t2 nw O2 => ?_
  · obtain ⟨D2, q2', R2, P2⟩ := nxt _ _ _ ⟨D1, q1', R1, P1⟩ O2
    have tt := t2.1
    refine exm_cp ?_
    (repeat' array_get_dec)
    exact cut hm P α2 as' T2 k2 hP R2 (by omega) S2 h2 (ak_cut (t2.2.2 _ _ _ h0' A1)) q2' (by omega) D2
  · obtain ⟨D2, q2', R2, P2⟩ := nxt _ _ _ ⟨D1, q1', R1, P1⟩ O2
    have tt := t2.1
    clear S1 T1c q1' D1 R1 P1
    (repeat' array_get_dec)
    refine bar_of ?_
    sizeOf_list_dec
    (repeat' array_get_dec)
    simp only [isNoneD]
    (repeat' array_get_dec)
    refine meth_pl P2 rfl rfl ?_
    (repeat' array_get_dec)
    refine whole_go P2 S2 hc h2.fr ?_
    rw [decide_eq_true rfl]
    (repeat' array_get_dec)
    refine meth_pl P2 rfl rfl ?_
    (repeat' array_get_dec)
    refine count_go P2 S2 hc h2.fr ?_
    (repeat' array_get_dec)
    rotate_left
    · rename_i hz
      exact absurd rfl hz
    refine bar_of ?_
    sizeOf_list_dec
    (repeat' array_get_dec)
    refine meth_pl P2 rfl rfl ?_
    (repeat' array_get_dec)
    have e4 : T2.getD [] = c := by
      rw [h2.2.1, List.take_of_length_le (by unfold nk; omega)]
    refine pplace_go P2 S2 (by have := K.1.1; omega) (fun hm w => ?_) fun α3 S3 O3 => ?_
    · refine exm_cp ?_
      (repeat' array_get_dec)
      exact cut hm P α2 as' T2 (nk c) hP R2 (by omega) S2 h2.fr (ak_cut (t2.2.2 _ _ _ h0' A1)) q2' (by omega) D2
    · obtain ⟨D3, q3', R3, P3⟩ := nxt _ _ _ ⟨D2, q2', R2, P2⟩ O3
      (repeat' array_get_dec)
      refine bar_of ?_
      sizeOf_list_dec
      (repeat' array_get_dec)
      rw [e4] at S3
      obtain ⟨r1, r2, r3, r4⟩ := arst_fin R3 hP SI D.isS hqs
      exact q1 _ as' (S3.same r1) (t2.2.2 _ _ _ h0' A1) (r3.trans q3') (by omega) (by obtain ⟨a, b, e⟩ := D3; exact ⟨a, b, r2.trans e⟩) r4
  · obtain ⟨D2, q2', R2, P2⟩ := nxt _ _ _ ⟨D1, q1', R1, P1⟩ O2
    have tt := t2.1
    have A2 := t2.2.2 _ _ _ h0' A1
    clear S1 T1c q1' D1 R1 P1 A1
    (repeat' array_get_dec)
    refine bar_of ?_
    sizeOf_list_dec
    (repeat' array_get_dec)
    simp only [isNoneD]
    (repeat' array_get_dec)
    refine bar_of ?_
    sizeOf_list_dec
    (repeat' array_get_dec)
    refine oq_append (by rw [List.length_map]; omega) ?_
    obtain ⟨B, hB⟩ : ∃ x, kb (ck c k2) = x := ⟨_, rfl⟩
    have eB : (Eb c)[k2]'(by rw [Eb_len]; exact hk2) = B := by rw [Eb_get]; exact hB
    have B3 : Bk bs (Eb c) k0 C k2 (as' ++ [B]) := by
      have := ak_ask (by omega) (by rw [Eb_len]; exact hk2) nw.2.1 nw.2.2 A2
      rw [eB] at this
      exact this
    rw [hB, show as'.map PyData.int ++ [PyData.int B] = (as' ++ [B]).map .int by simp]
    obtain ⟨α3, e3⟩ : ∃ x, aset α2 a0 (.list ((as' ++ [B]).map .int)) = x := ⟨_, rfl⟩
    have q3' : α3 a0 = some (.list ((as' ++ [B]).map .int)) := by rw [← e3, aset_same]
    have S3 : PS CS α3 A n F O T2 mo := S2.same fun a ha => by rw [← e3, aset_ne (fun e => ha0 (by rw [← e]; exact ha))]
    have D3 : DrAt p0 α3 := by
      obtain ⟨a, b, e⟩ := D2
      exact ⟨a, b, by rw [← e3, aset_ne hpa]; exact e⟩
    have P3 : α3 P = some (plD CL (dref A.p) (enD CE (.str n) v h m d (.int 30) (bkD c))) := by rw [← e3, aset_ne (Ne.symm hPa)]; exact P2
    have R3 : OthR A P p0 a0 α α3 := fun a h1 h2 h3 h4 => by rw [← e3, aset_ne h4]; exact R2 a h1 h2 h3 h4
    have l3 : (as' ++ [B]).length ≤ L + (i + 1) := by simp only [List.length_append, List.length_cons, List.length_nil]; omega
    (repeat' array_get_dec)
    rw [e3]
    clear e3 S2 D2 P2 R2 q2' A2
    refine bar_of ?_
    sizeOf_list_dec
    (repeat' array_get_dec)
    refine meth_pl P3 rfl rfl ?_
    (repeat' array_get_dec)
    refine whole_go P3 S3 hc h2.fr ?_
    rw [decide_eq_false (by omega)]
    (repeat' array_get_dec)
    refine meth_pl P3 rfl rfl ?_
    (repeat' array_get_dec)
    refine count_go P3 S3 hc h2.fr ?_
    (repeat' array_get_dec)
    refine ix_bk hk2 ?_
    rw [show val 256 1 (ck c k2) = B from hB]
    (repeat' array_get_dec)
    rotate_left
    · rename_i hz
      exact absurd rfl hz
    refine bar_of ?_
    sizeOf_list_dec
    refine w_seqI (fun ρ α' => ρ = [some (dref p0), some (scriptD ns), some (dref A.p), some (enD CE (.str n) v h m d (.int 30) (bkD c)), some (dref a0), some (dref P), some (.int (0 + (i : Nat))), some (.int B)] ∧ PS CS α' A n F O T2 mo ∧ DrAt p0 α' ∧ α' a0 = some (.list ((as' ++ [B]).map .int)) ∧ OthR A P p0 a0 α α' ∧ α' P = some (plD CL (dref A.p) (enD CE (.str n) v h m d (.int 30) (bkD c)))) ?_ fun Z hZ => ?_
    · rintro ρ α4 ⟨rfl, S4, D4, q4', R4, P4⟩
      subst hB
      (repeat' array_get_dec)
      refine meth_pl P4 rfl rfl ?_
      (repeat' array_get_dec)
      refine by_go (ps := [ck c k2]) (fun p hp => by rw [List.mem_singleton.mp hp]; exact ck_ok hc hk2) (by show 1 ≤ 255; decide) ?_
      rw [show [ck c k2].flatten = ck c k2 by simp]
      (repeat' array_get_dec)
      refine give_go P4 hPA S4 hc h2 hk2 (fun _ _ hm α5 w T5 S5 h5 O5 => ?_) (fun z => absurd ⟨rfl, rfl⟩ z) fun _ _ α5 T5 S5 h5 O5 => ?_
      · obtain ⟨D5, q5', R5, P5⟩ := nxt _ _ _ ⟨D4, q4', R4, P4⟩ O5
        refine exm_cp ?_
        (repeat' array_get_dec)
        exact cut hm P α5 _ T5 k2 hP R5 (by omega) S5 h5 (bk_cut nw B3) q5' (by omega) D5
      · obtain ⟨D5, q5', R5, P5⟩ := nxt _ _ _ ⟨D4, q4', R4, P4⟩ O5
        (repeat' array_get_dec)
        · refine hX _ _ ⟨k2 + 1, T5, _, _, _, rfl, by omega, by omega, S5, h5, bk_give B3, q5', l3, D5, R5, P5⟩
        · rename_i hz
          exact absurd rfl hz
    · (repeat' array_get_dec)
      refine dr_go D3 (by decide) fun dd α4 g1 g2 D4 B4 => ?_
      have S4 : PS CS α4 A n F O T2 mo := S3.same fun a ha => B4 a (fun e => hp0 (by rw [← e]; exact ha))
      have q4' : α4 a0 = some (.list ((as' ++ [B]).map .int)) := (B4 a0 (Ne.symm hpa)).trans q3'
      have R4 : OthR A P p0 a0 α α4 := fun a h1 h2 h3 h4 => (B4 a h3).trans (R3 a h1 h2 h3 h4)
      have P4 : α4 P = some (plD CL (dref A.p) (enD CE (.str n) v h m d (.int 30) (bkD c))) := (B4 P (Ne.symm hPp)).trans P3
      (repeat' array_get_dec)
      · exact hZ _ _ ⟨rfl, S4, D4, q4', R4, P4⟩
      · rename_i h257
        subst hB
        refine ref_go D4 hp0 hPp P4 hPA S4 hc K N h2 hk2 h257 fun α5 D5 B5 => ?_
        (repeat' array_get_dec)
        exact hZ _ _ ⟨rfl, S4.same fun a ha => B5 a (fun e => hp0 (by rw [← e]; exact ha)), D5, (B5 a0 (Ne.symm hpa)).trans q4', fun a h1 h2 h3 h4 => (B5 a h3).trans (R4 a h1 h2 h3 h4), (B5 P (Ne.symm hPp)).trans P4⟩
      · exact hZ _ _ ⟨rfl, S4, D4, q4', R4, P4⟩
end
end K26
namespace K26
open PySem L2 Hz
section
variable {β : Type}
theorem pairs_tab (u : β → D) : ∀ l : List (Str × β), pairsD (l.map fun x => .tuple [.str x.1, u x.2]) = some (tD u l)
  | [] => rfl
  | (k, b) :: l => by
    show (if isK (.str k) = true then (pairsD (l.map fun x => .tuple [.str x.1, u x.2])).map _ else none) = _
    rw [pairs_tab u l]
    rfl
theorem merge_tab (u : β → D) : ∀ (l pre : List (Str × β)), ((pre ++ l).map (·.1)).Nodup → mergeP (tD u pre) (tD u l) = tD u (pre ++ l)
  | [], pre, _ => by rw [List.append_nil]; rfl
  | (k, b) :: l, pre, h => by
    have h1 : (pre.map (·.1)).Nodup := by
      rw [List.map_append] at h
      exact (List.nodup_append.mp h).1
    have h2 : k ∉ pre.map (·.1) := fun hm => by
      rw [List.map_append, List.nodup_append] at h
      exact h.2.2 _ hm k (by simp) rfl
    show mergeP (putP (.str k) (u b) (tD u pre)) (tD u l) = _
    rw [show putP (.str k) (u b) (tD u pre) = tD u (aPut k b pre) from tD_put u k b h1, aPut_new h2, merge_tab u l (pre ++ [(k, b)]) (by rw [List.append_assoc]; exact h), List.append_assoc]
    rfl
theorem rows_tab {u : β → D} {es : List (Str × β)} : ∀ {ds : List (Str × β)}, (∀ x ∈ ds, okD 60 (u x.2) = true) → (∀ x ∈ ds, aGet x.1 es = some x.2) → rowsB (tD u es) (tD u ds) = some true
  | [], _, _ => rfl
  | (k, b) :: r, hv, h => by
    have ho : okD 60 (u b) = true := hv _ List.mem_cons_self
    have e : aGet k es = some b := h _ List.mem_cons_self
    show (match lookP (.str k) (tD u es) with
      | none => some false
      | some y => if okD 60 (u b) = true ∧ okD 60 y = true then (rowsB (tD u es) (tD u r)).map fun z => PyData.eqv (u b) y && z else none) = some true
    rw [look_s, e]
    show (if okD 60 (u b) = true ∧ okD 60 (u b) = true then (rowsB (tD u es) (tD u r)).map fun z => PyData.eqv (u b) (u b) && z else none) = some true
    rw [if_pos ⟨ho, ho⟩, rows_tab (fun x hx => hv x (List.mem_cons_of_mem _ hx)) fun x hx => h x (List.mem_cons_of_mem _ hx), PySem.SeqAt.eqv_refl _ (okD_ok _ _ ho).1]
    rfl
theorem dict_tab {u : β → D} {ds es : List (Str × β)} (hl : ds.length = es.length) (hv : ∀ x ∈ ds, okD 60 (u x.2) = true) (h : ∀ x ∈ ds, aGet x.1 es = some x.2) : dictEqB (tD u ds) (tD u es) = some true := by
  unfold dictEqB
  rw [if_pos (by rw [tD_len, tD_len, hl])]
  exact rows_tab hv h
theorem aGet_map {fs : List Str} {g : Str → β} {x : Str} : aGet x (fs.map fun f => (f, g f)) = if x ∈ fs then some (g x) else none := by
  induction fs with
  | nil => rfl
  | cons f r ih =>
    rw [List.map_cons, aGet, ih]
    by_cases h : f = x
    · subst h
      rw [if_pos rfl, if_pos List.mem_cons_self]
    · rw [if_neg h]
      by_cases q : x ∈ r
      · rw [if_pos q, if_pos (List.mem_cons_of_mem _ q)]
      · rw [if_neg q, if_neg]
        intro z
        rcases List.mem_cons.mp z with e | e
        · exact h e.symm
        · exact q e
theorem aGet_filter {l : List (Str × β)} {n x : Str} (h : x ≠ n) : aGet x (l.filter fun y => !decide (y.1 = n)) = aGet x l := by
  induction l with
  | nil => rfl
  | cons y r ih =>
    obtain ⟨k, b⟩ := y
    rw [List.filter_cons]
    by_cases q : k = n
    · subst q
      rw [if_neg (by simp), ih, aGet, if_neg (Ne.symm h)]
    · rw [if_pos (by simp [q]), aGet, aGet, ih]
end
/-- the same files in another order -/
def GF (l0 F : List (Str × (List Int × Int))) : Prop := (F.map (·.1)).Perm (l0.map (·.1)) ∧ ∀ x, aGet x F = aGet x l0
theorem GF.refl {l : List (Str × (List Int × Int))} : GF l l := ⟨List.Perm.refl _, fun _ => rfl⟩
section
variable {l0 F : List (Str × (List Int × Int))} {O : List Row} {n : Str}
theorem GF.mem (h : GF l0 F) (nd : (F.map (·.1)).Nodup) {x : Str × (List Int × Int)} (hx : x ∈ F) : x ∈ l0 := by
  obtain ⟨k, b⟩ := x
  have := aGet_nodup nd hx
  rw [h.2] at this
  exact aGet_mem this
theorem GF.len (h : GF l0 F) : F.length = l0.length := by
  have := h.1.length_eq
  rwa [List.length_map, List.length_map] at this
theorem KO.gf (K : KO l0 O) (h : GF l0 F) (nd : (F.map (·.1)).Nodup) : KO F O := ⟨⟨by rw [h.len]; exact K.1.1, K.1.2⟩, fun x hx => K.2.1 x (h.mem nd hx), K.2.2⟩
theorem KN.gf (K : KN l0 O n) (h : GF l0 F) (nd : (F.map (·.1)).Nodup) : KN F O n := ⟨fun x hx => K.1 x (h.mem nd hx), K.2⟩
theorem BsP.gf (h : GF l0 F) {b : Int} : BsP F O b ↔ BsP l0 O b := by
  unfold BsP
  constructor
  · rintro (⟨f, h1, h2⟩ | g)
    · exact .inl ⟨f, h.1.mem_iff.mp h1, by rw [← h.2]; exact h2⟩
    · exact .inr g
  · rintro (⟨f, h1, h2⟩ | g)
    · exact .inl ⟨f, h.1.mem_iff.mpr h1, by rw [h.2]; exact h2⟩
    · exact .inr g
/-- the files by their sorted names -/
def NF (F : List (Str × (List Int × Int))) (fs : List Str) : List (Str × (List Int × Int)) := fs.map fun f => (f, (aGet f F).getD ([], 0))
theorem NF_keys {fs : List Str} : (NF F fs).map (·.1) = fs := by
  unfold NF
  rw [List.map_map]
  exact List.map_id _
theorem NF_duF {fs : List Str} : fs.map (duF F) = (NF F fs).map fU := by
  unfold NF
  rw [List.map_map]
  rfl
theorem GF.nf (h : GF l0 F) {fs : List Str} (hf : fs.Perm (F.map (·.1))) : GF l0 (NF F fs) := by
  refine ⟨by rw [NF_keys]; exact hf.trans h.1, fun x => ?_⟩
  rw [← h.2]
  unfold NF
  rw [aGet_map]
  by_cases q : x ∈ fs
  · rw [if_pos q]
    cases e : aGet x F with
    | none => exact absurd (hf.mem_iff.mp q) (aGet_none.mp e)
    | some b => rfl
  · rw [if_neg q, aGet_none.mpr fun z => q (hf.mem_iff.mpr z)]
theorem ts_tmp {T : Option (List Int)} {ts : List Str} (h : ts.Perm ((tmp n T).map (·.1))) : ts.map (duT (tmp n T)) = (tmp n T).map tU := by
  cases T with
  | none =>
    obtain rfl : ts = [] := h.eq_nil
    rfl
  | some t =>
    obtain rfl : ts = [n] := List.perm_singleton.mp h
    unfold duT tmp tU
    simp [aGet]
/-- what is left beside n is what was there -/
theorem rest_eq (h : GF l0 F) (nd0 : (l0.map (·.1)).Nodup) (nd : (F.map (·.1)).Nodup) {c : List Int} {fs : List Str} (hf : fs.Perm ((aPut n (c, 30) F).map (·.1))) :
    dictEqB (tD flU ((fs.filter fun f => !decide (f = n)).map fun f => (f, (aGet f (aPut n (c, 30) F)).getD ([], 0)))) (tD flU (l0.filter fun y => !decide (y.1 = n))) = some true := by
  refine dict_tab ?_ (fun x hx => ?_) fun x hx => ?_
  · rw [List.length_map]
    have e1 : (fs.filter fun f => !decide (f = n)).Perm (((aPut n (c, 30) F).map (·.1)).filter fun f => !decide (f = n)) := hf.filter _
    have e2 : ((aPut n (c, 30) F).map (·.1)).filter (fun f => !decide (f = n)) = (F.map (·.1)).filter fun f => !decide (f = n) := by
      rw [aPut_keys]
      split
      · rfl
      · rw [List.filter_append]
        simp
    have e3 : ((F.map (·.1)).filter fun f => !decide (f = n)).Perm ((l0.map (·.1)).filter fun f => !decide (f = n)) := h.1.filter _
    have e4 : ((l0.map (·.1)).filter fun f => !decide (f = n)).length = (l0.filter fun y => !decide (y.1 = n)).length := by
      rw [List.filter_map, List.length_map]
      rfl
    rw [e1.length_eq, e2, e3.length_eq, e4]
  · obtain ⟨f, hf2, rfl⟩ := List.mem_map.mp hx
    show (okD 59 (.list _) && (okD 59 (.int _) && true)) = true
    generalize (aGet f (aPut n (c, 30) F)).getD ([], 0) = z
    obtain ⟨z1, z2⟩ := z
    show (okD 59 (.list (z1.map .int)) && (okD 59 (.int z2) && true)) = true
    rw [show okD 59 (.list (z1.map .int)) = true from okD_ints 58 z1]
    rfl
  · obtain ⟨f, hf2, rfl⟩ := List.mem_map.mp hx
    obtain ⟨h1, h2⟩ := List.mem_filter.mp hf2
    have hn : f ≠ n := by simpa using h2
    show aGet f (l0.filter fun y => !decide (y.1 = n)) = some ((aGet f (aPut n (c, 30) F)).getD ([], 0))
    rw [aGet_filter hn, aGet_put, if_neg (Ne.symm hn), ← h.2]
    cases e : aGet f F with
    | some b => rfl
    | none =>
      have q := hf.mem_iff.mp h1
      rw [aPut_keys] at q
      split at q
      · exact absurd q (aGet_none.mp e)
      · rcases List.mem_append.mp q with q | q
        · exact absurd q (aGet_none.mp e)
        · exact absurd (List.mem_singleton.mp q) hn
end
end K26
namespace K26
open PySem L2 Hz
local macro_rules | `(tactic| array_mem_dec) => `(tactic| (first | ((with_reducible apply fd_cons); exact trivial) | ((with_reducible apply fd_nil); exact trivial) | ((with_reducible apply oq_isiB (b := true)); exact rfl) | ((with_reducible apply oq_isiB (b := false)); exact rfl) | ((with_reducible apply w_xi); exact rfl; exact decide_eq_true rfl; exact if_pos rfl) | ((with_reducible apply w_xf); exact rfl; exact decide_eq_true rfl; exact rfl) | ((with_reducible apply w_frzS); exact rfl; (first | assumption | exact aset_same); (try simp only [List.set])) | ((with_reducible apply rg1_of); (first | omega | decide)) | ((with_reducible apply rg2_of); (first | omega | decide)) | ((with_reducible apply lok); exact rfl) | ((with_reducible refine it2_dec ?_ ?_) <;> intro)))
local macro_rules | `(tactic| array_mem_dec) => `(tactic| (first | ((with_reducible apply dc_c); (first | assumption | exact aset_same); (first | exact rfl | exact tD_real _ _)) | ((with_reducible apply cdi_of); (first | assumption | exact aset_same); (first | exact rfl | exact tD_real _ _)) | ((with_reducible apply dc_d); (first | exact rfl | exact tD_real _ _)) | ((with_reducible apply dc_f); (first | exact rfl | exact tD_real _ _)) | ((with_reducible apply lk_of); exact rfl) | ((with_reducible apply oq_setv2); (simp only [List.set, wipeA]; exact rfl)) | ((with_reducible apply cal_of); exact rfl; (try simp only [List.cons_append, List.nil_append, List.append_nil])) | ((with_reducible apply w_aug); exact rfl) | ((with_reducible apply cel_of); (first | assumption | exact aset_same)) | ((with_reducible apply ceo_of); (first | assumption | exact aset_same)) | ((with_reducible apply tlG_r); (first | assumption | exact aset_same)) | ((with_reducible apply fr_of); (first | assumption | exact aset_same))))
local macro_rules | `(tactic| array_mem_dec) => `(tactic| (with_reducible first | refine w_dnew ?_ | refine w_fz ?_ | refine w_listD ?_ | refine w_dictD ?_ | refine w_dictP ?_ | refine w_sortD ?_ | refine w_isiC ?_))
local macro_rules | `(tactic| array_mem_dec) => `(tactic| (with_reducible first | refine pr2_of ?_ | refine fl_f ?_ | refine fl_t ?_ | refine fl_o ?_ | refine fl_r ?_ | refine fl_n ?_ | refine fl_w ?_ | refine fl_m ?_ | refine ctD_list ?_ | refine ctD_tup ?_ | refine vw_ct ?_ | refine fe_n ?_ | refine fe_b ?_ | refine vw_en ?_ | refine len_bk ?_ | refine vw_bk ?_ | refine ctD_cut ?_ | refine fp_s ?_ | refine fp_e ?_ | refine fe_t ?_ | refine w_dget ?_ | refine w_dget1 ?_ | refine w_dget2 ?_ | refine w_din ?_ | refine w_dnotin ?_ | refine w_dpop1 ?_ | refine w_dpop2 ?_ | refine w_dput ?_ | refine w_daug ?_ | refine w_lenD ?_))
local macro_rules | `(tactic| array_mem_dec) => `(tactic| (with_reducible first | refine tb_b ?_ | refine ti_b ?_ | refine ts_b ?_ | refine we_nx ?_ | refine we_rt ?_ | refine we_ex ?_ | refine wn_nx ?_ | refine wn_rt ?_ | refine wn_bk ?_ | refine wn_ct ?_ | refine wn_ex ?_ | refine wl_nx ?_ | refine wl_rt ?_ | refine wl_bk ?_ | refine wl_ct ?_ | refine wl_ex ?_ | refine wx_nx ?_ | refine wx_rt ?_ | refine wx_bk ?_ | refine wx_ct ?_ | refine wx_ex ?_ | refine wh_nx ?_ | refine wh_rt ?_ | refine wh_bk ?_ | refine wh_ct ?_ | refine it2_t ?_ | refine it2_f ?_ | refine it2_not ?_ | refine tlG_l ?_ | refine ttG_t ?_))
local macro_rules | `(tactic| array_mem_dec) => `(tactic| ((with_reducible refine oq_id ?_); (first | (with_reducible first | refine vw_i ?_ | refine vw_s ?_ | refine vw_b ?_ | refine vw_n ?_ | refine vw_l ?_ | refine vw_t ?_ | refine vw_sc ?_ | refine vw_o ?_ | refine mv_nil ?_ | refine mv_cons ?_ | refine oq_tgNil ?_ | refine oq_tgCons ?_ | refine oq_add_i ?_ | refine oq_sub ?_ | refine oq_lt ?_ | refine oq_le ?_ | refine oq_gt ?_ | refine oq_ge ?_ | refine oq_eq_i ?_ | refine oq_ne_i ?_ | refine oq_eq_s ?_ | refine oq_ne_s ?_ | refine oq_eq_b ?_ | refine oq_ne_b ?_ | refine oq_is ?_ | refine oq_isNot ?_ | refine oq_in_s ?_ | refine oq_notIn_s ?_ | refine oq_len_l ?_ | refine oq_len_t ?_ | refine oq_int ?_ | refine oq_abs ?_ | refine oq_ord ?_ | refine oq_cut_l ?_ | refine oq_cut_t ?_ | refine oq_list_l ?_ | refine oq_list_t ?_ | refine oq_tuple_l ?_ | refine oq_tuple_t ?_ | refine oq_max2 ?_ | refine oq_min2 ?_ | refine oq_some ?_ | refine oq_len_sc ?_ | refine oq_eq_il ?_ | refine oq_ne_il ?_ | refine oq_eq_it ?_ | refine oq_ne_it ?_ | refine oq_lt_il ?_ | refine oq_lt_it ?_ | refine oq_iadd_i ?_ | refine oq_isT ?_ | refine oq_isNotT ?_) | (first | ((with_reducible apply vw_st); assumption) | ((with_reducible apply vw_pl); assumption) | ((with_reducible apply oq_tgTup); exact rfl) | ((with_reducible apply oq_ix_lk); exact rfl) | ((with_reducible apply oq_ix_tk); exact rfl) | ((with_reducible apply vw_r); (first | assumption | exact aset_same)) | ((with_reducible apply oq_ixN_k); exact rfl; (try simp only [List.set, Int.reduceToNat])) | ((with_reducible apply oq_mod); (first | omega | decide)) | ((with_reducible apply oq_div); (first | omega | decide)) | ((with_reducible apply oq_mul); (first | omega | decide)) | ((with_reducible apply oq_pow); (first | omega | decide)) | ((with_reducible apply oq_shl); (first | omega | decide))) | (first | ((with_reducible apply oq_shr); (first | omega | decide)) | ((with_reducible apply oq_add_s); (first | omega | decide)) | ((with_reducible apply oq_len_s); (first | omega | decide)) | ((with_reducible apply oq_cut_s); (first | omega | decide)) | ((with_reducible apply oq_append); (first | omega | decide)) | ((with_reducible apply oq_insert); (first | omega | decide)) | ((with_reducible apply oq_rep); (first | omega | decide)) | ((with_reducible apply oq_cat); (first | omega | decide))))))
local macro_rules | `(tactic| array_mem_dec) => `(tactic| (with_reducible first | refine w_list ?_ | refine w_tuple ?_ | refine w_str ?_ | refine w_range1 ?_ | refine w_range2 ?_ | refine w_range3 ?_ | refine w_next ?_ | refine w_break ?_ | refine w_cont ?_ | refine w_drop ?_ | refine w_ret ?_ | refine w_retN ?_ | refine w_if ?_ | refine w_asg ?_ | refine w_raise ?_ | refine w_fld ?_ | refine w_seta ?_ | refine w_auga ?_ | refine w_seti ?_ | refine w_mut ?_ | refine w_frz ?_ | refine w_new ?_ | refine w_ext ?_ | refine w_for ?_ | refine w_lc ?_ | refine w_tryA ?_ | refine w_try ?_ | refine w_par ?_))
local macro_rules | `(tactic| array_mem_dec) => `(tactic| (first | ((with_reducible apply w_kV); exact rfl) | (with_reducible first | refine w_kC ?_ | refine w_bop ?_ | refine w_tst ?_ | refine w_val ?_ | refine w_and ?_ | refine w_or ?_ | refine w_not ?_ | refine w_andV ?_ | refine w_orV ?_ | refine w_chain ?_ | refine w_ifK ?_ | refine w_nil ?_ | refine w_cons ?_ | refine w_tup ?_ | refine w_lst ?_ | refine w_call ?_ | refine w_neg ?_ | refine w_b1 ?_ | refine w_bn ?_ | refine w_isi ?_ | refine w_met ?_ | refine w_pnone ?_ | refine w_psome ?_ | refine w_cut ?_ | refine w_yes ?_)))
local macro_rules | `(tactic| array_get_dec) => `(tactic| (with_reducible refine w_seqB ?_))
local macro_rules | `(tactic| array_get_dec) => `(tactic| array_mem_dec)
local macro_rules | `(tactic| decreasing_trivial_pre_omega) => `(tactic| (with_reducible refine w_seq ?_))
local macro_rules | `(tactic| decreasing_trivial_pre_omega) => `(tactic| array_mem_dec)
local macro_rules | `(tactic| sizeOf_list_dec) => `(tactic| (try simp only [List.set, Int.reduceToNat, List.map_cons, List.map_nil, Nat.reduceSub, List.reduceReplicate, List.cons_append, List.nil_append, wipeA, aset_aset, List.getElem?_cons_zero, List.getElem?_cons_succ]))
theorem DrAt.oth {α : AH} {A : Ads} {p : Addr} {α' : AH} (h : DrAt p α) (hp : p ∉ A.all) (O : Oth A α α') : DrAt p α' := by
  obtain ⟨a, b, h1⟩ := h
  exact ⟨a, b, (O p hp).trans h1⟩
theorem DrAt.but {α : AH} {q : Addr} {p : Addr} {α' : AH} (h : DrAt p α) (hp : p ≠ q) (O : But q α α') : DrAt p α' := by
  obtain ⟨a, b, h1⟩ := h
  exact ⟨a, b, (O p hp).trans h1⟩
theorem but_set {α : AH} {p : Addr} {d : D} : But p α (aset α p d) := fun a ha => aset_ne ha
theorem StAt.but {CS : Nat} {α : AH} {A : Ads} {s : Sto} {α' : AH} {p : Addr} (S : StAt CS α A s) (hp : p ∉ A.all) (h : But p α α') : StAt CS α' A s :=
  S.same fun a ha => h a fun z => hp (z ▸ ha)
abbrev en0 (CE : Nat) (n : Str) (c : List Int) : D := enD CE (.str n) (.tuple [.tuple [.int 1, .int 1]]) (.int 1) (.tuple [.int 1, .int 1]) (.bool false) (.int 30) (bkD c)
theorem two_go {d : Int} {x y : List Int} {R : D → Prop} (g1 : 0 ≤ d) (g2 : d < 2) (hx : R (ctD x)) (hy : R (ctD y)) : oq (dIx (.list [ctD x, ctD y]) (.int d)) R := by
  refine oq_ix_l g1 g2 fun z e => ?_
  obtain rfl | rfl : d = 0 ∨ d = 1 := by omega
  · cases e; exact hx
  · cases e; exact hy
/-- where the runs stand -/
def LI (CS : Nat) (α : AH) (A : Ads) (n : Str) (l0 : List (Str × (List Int × Int))) (old : List Row) (c : List Int) (bs : List Int) (k0 i C : Nat) (F : List (Str × (List Int × Int))) (as : List Int) (w : D) : Prop :=
  (w = .str "cut" ∧ i < 6 ∧ ∃ T k mo, PS CS α A n F old T mo ∧ IsFr T c k ∧ k0 ≤ k ∧ Ak bs (Eb c) k0 C k as) ∨
  (w = .str "done" ∧ ∃ mo, PS CS α A n (aPut n (c, 30) F) old none mo ∧ Ak bs (Eb c) k0 C (nk c) as)
theorem w_two {d : Int} {x y : List Int} {R : D → Prop} (g1 : 0 ≤ d) (g2 : d < 2) (h : ∀ t, t = x ∨ t = y → R (ctD t)) : oq (dIx (.list [ctD x, ctD y]) (.int d)) R := two_go g1 g2 (h _ (.inl rfl)) (h _ (.inr rfl))
theorem vw_d {α : AH} {ds : List (Hz.D × Hz.D)} (r : realD ds = true) : vw α (.dict ds) = some (.dict ds) := by
  cases ds with
  | nil => rfl
  | cons p ds =>
    obtain ⟨k, d⟩ := p
    cases k with
    | int i => rfl
    | str i => rfl
    | _ => cases r
theorem olds_ok {O : List Row} (h : ∀ x ∈ O, okS x.1 ∧ ∃ i j : Int, x.2.1 = .tuple [.tuple [.int i, .int j]]) : okD 60 (.list (O.map olU)) = true := by
  show (O.map olU).all (okD 59) = true
  rw [List.all_eq_true]
  intro d hd
  obtain ⟨x, hx, rfl⟩ := List.mem_map.mp hd
  obtain ⟨h1, i, j, h3⟩ := h x hx
  show (okD 58 (.str x.1) && (okD 58 x.2.1 && (okD 58 (.list (x.2.2.map .int)) && true))) = true
  rw [okD_str _ h1, h3, show okD 58 (.list (x.2.2.map .int)) = true from okD_ints 57 _]
  rfl
theorem w_pick {d x : Int} {R : D → Prop} (g1 : 0 ≤ d) (g2 : d < 2) (h : ∀ v, (v = .none ∨ ∃ i, v = .int i) → R v) : oq (dIx (.list [.none, .int x]) (.int d)) R := by
  refine oq_ix_l g1 g2 fun z e => ?_
  obtain rfl | rfl : d = 0 ∨ d = 1 := by omega
  · cases e; exact h _ (.inl rfl)
  · cases e; exact h _ (.inr ⟨_, rfl⟩)
theorem law_true (CL CE CS CF CP CI gX : Nat) (ns : List Int) (hns : ns.length ≤ 63) : f_law CL CE CS CF CP CI gX [scriptD ns] (fun _ => none) (fun d _ => d = .bool true) (fun _ _ => False) := by
  unfold f_law m_law
  refine w_runF rfl ?_
  sizeOf_list_dec
  generalize (fun _ => none : AH) = α0
  (repeat' array_get_dec)
  intro p hp
  have D0 : DrAt p (aset α0 p (.list [.int 0, .int 0])) := ⟨0, 0, aset_same⟩
  generalize aset α0 p (.list [.int 0, .int 0]) = α1 at *
  (repeat' array_get_dec)
  try refine bar_of ?_
  sizeOf_list_dec
  (repeat' array_get_dec)
  refine ct_go (by decide) D0 fun c α2 hcl hc D B => ?_
  clear B
  (repeat' array_get_dec)
  try refine bar_of ?_
  sizeOf_list_dec
  (repeat' array_get_dec)
  try refine w_mk ?_
  (repeat' array_get_dec)
  refine nm_go D fun n α3 hn D B => ?_
  clear B
  (repeat' array_get_dec)
  refine bl_go hc ?_
  (repeat' array_get_dec)
  refine ⟨rfl, fun z hz => ?_⟩
  refine en_go aset_same ⟨rfl, ?_⟩
  rw [aset_aset]
  refine ⟨z, _, rfl, aset_same, ?_⟩
  rw [adel_aset hz]
  (repeat' array_get_dec)
  try refine bar_of ?_
  sizeOf_list_dec
  (repeat' array_get_dec)
  intro pf hf
  have hfp : p ≠ pf := fun e => by
    have := D.isS
    rw [e, hf] at this
    cases this
  replace D : DrAt p (aset α3 pf (.dict [])) := D.but hfp but_set
  have hF0 : (aset α3 pf (.dict [])) pf = some (.dict (tD flU ([] : List (Str × (List Int × Int))))) := aset_same
  clear hz
  generalize aset α3 pf (.dict []) = α4 at *
  (repeat' array_get_dec)
  try refine bar_of ?_
  sizeOf_list_dec
  (repeat' array_get_dec)
  refine dr_go D (by decide) fun d1 α5 g1 g2 D B => ?_
  replace hF0 := (B pf (Ne.symm hfp)).trans hF0
  clear B
  (repeat' array_get_dec)
  refine for_nums (fun k ρ α' => ∃ (x : Option Hz.D) (l0 : List (Str × (List Int × Int))), ρ = [some (scriptD ns), some (dref p), some (ctD c), some (en0 CE n c), some (dref pf), x, none, none, none, none, none, none, none, none, none, none, none] ∧ DrAt p α' ∧ α' pf = some (.dict (tD flU l0)) ∧ (l0.map (·.1)).Nodup ∧ l0.length ≤ k ∧ ∀ y ∈ l0, okc y.2.1 ∧ okS y.1) ⟨none, [], rfl, D, hF0, List.nodup_nil, Nat.le_refl _, fun _ h => nomatch h⟩ ?_ ?_
  rotate_left
  · rintro k hk ρ α' ⟨x, l0, rfl, D, hF, hnd, hl, hok⟩ X hX
    sizeOf_list_dec
    (repeat' array_get_dec)
    refine ct_go (by decide) D fun xs α6 hxl hxs D B => ?_
    replace hF := (B pf (Ne.symm hfp)).trans hF
    clear B
    (repeat' array_get_dec)
    refine nm_go D fun m α7 hm D B => ?_
    replace hF := (B pf (Ne.symm hfp)).trans hF
    clear B
    (repeat' array_get_dec)
    refine ⟨by rw [tD_len]; omega, ?_⟩
    (repeat' array_get_dec)
    refine hX _ _ ⟨_, aPut m (xs, (0 + (k : Int))) l0, rfl, D.but hfp but_set, ?_, aPut_nodup hnd, ?_, fun y hy => ?_⟩
    · rw [aset_same]
      rw [show putP (.str m) (.tuple [ctD xs, .int (0 + (k : Int))]) (tD flU l0) = tD flU (aPut m (xs, (0 + (k : Int))) l0) from tD_put flU m (xs, (0 + (k : Int))) hnd]
    · rw [aPut_len]
      split <;> omega
    · rcases aPut_mem hy with q | rfl
      · exact hok y q
      · exact ⟨hxs, hm⟩
  rintro ρ α6 ⟨x, l0, rfl, D, hF, hnd, hl, hok⟩
  have hl4 : l0.length ≤ 4 := by omega
  clear hl hF0 g1 g2
  sizeOf_list_dec
  (repeat' array_get_dec)
  try refine bar_of ?_
  sizeOf_list_dec
  (repeat' array_get_dec)
  try refine w_mk ?_
  try (repeat' array_get_dec)
  refine ⟨rfl, fun st hst => ?_⟩
  have hfs : pf ≠ st := fun e => by rw [← e, hF] at hst; cases hst
  refine st_go aset_same (g := pf) (by rw [aset_ne hfs]; exact hF) hfs hnd (by omega) fun α7 A hA S O fresh => ?_
  subst hA
  refine ⟨rfl, ?_⟩
  have hpA : p ∉ A.all := fun hm => by
    have hD := D.isS
    by_cases e : p = A.p
    · rw [← e] at hst
      rw [hst] at hD
      cases hD
    · have := fresh p hm e
      rw [aset_ne e] at this
      rw [this] at hD
      cases hD
  have hfA : pf ∉ A.all := fun hm => by
    by_cases e : pf = A.p
    · exact hfs e
    · have := fresh pf hm e
      rw [aset_ne e, hF] at this
      cases this
  replace hF : α7 pf = some (.dict (tD flU l0)) := (O pf hfA).trans (by rw [aset_ne hfs]; exact hF)
  replace D : DrAt p α7 := by
    obtain ⟨a, b, h1⟩ := D
    exact ⟨a, b, (O p hpA).trans (by rw [aset_ne (fun e => hpA (by rw [e]; exact in_p)), h1])⟩
  clear O fresh hst hf hfs
  (repeat' array_get_dec)
  try refine bar_of ?_
  sizeOf_list_dec
  (repeat' array_get_dec)
  refine dr_go D (by decide) fun d2 α8 g1 g2 D B => ?_
  replace S := S.but hpA B
  replace hF := (B pf (Ne.symm hfp)).trans hF
  clear B
  (repeat' array_get_dec)
  refine for_nums (fun k ρ α' => ∃ (x : Option Hz.D) (old : List Row) (w : Int), ρ = [some (scriptD ns), some (dref p), some (ctD c), some (en0 CE n c), some (dref pf), x, some (dref A.p), none, none, none, none, none, none, none, none, none, none] ∧ DrAt p α' ∧ StAt CS α' A ⟨l0, [], old, [], [], w, none⟩ ∧ α' pf = some (.dict (tD flU l0)) ∧ old.length ≤ k ∧ ∀ y ∈ old, okc y.2.2 ∧ okS y.1 ∧ ∃ i j : Int, y.2.1 = .tuple [.tuple [.int i, .int j]]) ⟨x, [], 0, rfl, D, S, hF, Nat.le_refl _, fun _ h => nomatch h⟩ ?_ ?_
  rotate_left
  · clear D S hF x
    rintro k hk ρ α' ⟨x, old, w, rfl, D, S, hF, hol, hok2⟩ X hX
    sizeOf_list_dec
    (repeat' array_get_dec)
    refine meth_st S rfl rfl ?_
    (repeat' array_get_dec)
    refine nm_go D fun m α9 hm D B => ?_
    replace S := S.but hpA B
    replace hF := (B pf (Ne.symm hfp)).trans hF
    clear B
    (repeat' array_get_dec)
    refine ct_go (by decide) D fun xs α10 hxl hxs D B => ?_
    replace S := S.but hpA B
    replace hF := (B pf (Ne.symm hfp)).trans hF
    clear B
    (repeat' array_get_dec)
    refine put_go S (by show old.length < 1000; omega) rfl fun α11 S11 O11 => ?_
    (repeat' array_get_dec)
    refine hX _ _ ⟨_, _, _, rfl, D.oth hpA O11, S11, (O11 pf hfA).trans hF, ?_, fun y hy => ?_⟩
    · show (old ++ [_]).length ≤ k + 1
      rw [List.length_append]
      exact Nat.succ_le_succ hol
    · rcases List.mem_append.mp hy with q | q
      · exact hok2 y q
      · rw [List.mem_singleton.mp q]
        exact ⟨hxs, hm, 2, 1, rfl⟩
  clear D S hF x
  rintro ρ α9 ⟨x, old, w, rfl, D, S, hF, hol, hok2⟩
  have hol4 : old.length ≤ 4 := by omega
  clear hol g1 g2
  sizeOf_list_dec
  (repeat' array_get_dec)
  try refine bar_of ?_
  sizeOf_list_dec
  (repeat' array_get_dec)
  refine meth_st S rfl rfl ?_
  (repeat' array_get_dec)
  refine ct_go (by decide) D fun xs α10 hxl hxs D B => ?_
  replace S := S.but hpA B
  replace hF := (B pf (Ne.symm hfp)).trans hF
  clear B
  (repeat' array_get_dec)
  refine dr_go D (by decide) fun d3 α11 g1 g2 D B => ?_
  replace S := S.but hpA B
  replace hF := (B pf (Ne.symm hfp)).trans hF
  clear B
  obtain ⟨dn, rfl⟩ : ∃ y : Nat, d3 = (y : Int) := ⟨d3.toNat, by omega⟩
  (repeat' array_get_dec)
  refine dr_go D (by decide) fun d4 α12 g3 g4 D B => ?_
  replace S := S.but hpA B
  replace hF := (B pf (Ne.symm hfp)).trans hF
  clear B
  (repeat' array_get_dec)
  refine w_two (x := xs) (y := c.take dn) g3 g4 fun t ht => ?_
  have htl : t.length ≤ 100 := by
    rcases ht with rfl | rfl
    · omega
    · rw [List.length_take]; omega
  (repeat' array_get_dec)
  refine app_go S (by show (0 : Nat) < 1000; decide) (by show 0 + t.length ≤ 5000; omega) (fun _ h => nomatch h) (fun h => absurd rfl h) fun α13 w2 S O => ?_
  replace D := D.oth hpA O
  replace hF := (O pf hfA).trans hF
  clear O
  obtain ⟨T, hT⟩ : ∃ T, (if t = [] then (none : Option (List Int)) else some ([] ++ t)) = T := ⟨_, rfl⟩
  have eT : apT n t ([] : List (Str × List Int)) = tmp n T := by
    have h := apT_tmp (n := n) (d := t) (T := none)
    rw [← hT]
    exact h
  replace S : StAt CS α13 A ⟨l0, tmp n T, old, [], [], w2, none⟩ := by
    have h := S
    rw [eT] at h
    exact h
  clear eT hT htl ht hxl
  have K : KO l0 old := ⟨⟨by omega, by omega⟩, fun y hy => (hok y hy).1, fun y hy => (hok2 y hy).1⟩
  have N : KN l0 old n := ⟨fun y hy => (hok y hy).2, hn, fun y hy => (hok2 y hy).2⟩
  (repeat' array_get_dec)
  refine bar_of ?_
  sizeOf_list_dec
  (repeat' array_get_dec)
  refine miss_go S hc K.1 K.2.1 K.2.2 fun fs k0 f1 f2 hk0 => ?_
  rw [show aGet n (tmp n T) = T from tmp_get] at hk0
  rw [due_DD]
  have hbs : ∀ b, b ∈ bsL ⟨l0, tmp n T, old, [], [], w2, none⟩ fs ↔ BsP l0 old b := fun b => bs_iff f1
  generalize bsL ⟨l0, tmp n T, old, [], [], w2, none⟩ fs = bs at *
  clear f1 f2
  have S' : PS CS α13 A n l0 old T none := ⟨w2, S⟩
  (repeat' array_get_dec)
  refine bar_of ?_
  sizeOf_list_dec
  (repeat' array_get_dec)
  refine meth_st S rfl rfl ?_
  (repeat' array_get_dec)
  refine attic_go S (by show old.length ≤ 1000; omega) ?_
  (repeat' array_get_dec)
  refine bar_of ?_
  sizeOf_list_dec
  (repeat' array_get_dec)
  clear S
  refine w_lockK (p := pf) hF (tD_real _ _) ?_
  refine w_dictP ?_
  refine w_lc (w_keysL (w_kV rfl (kl_of aset_same (tD_real _ _) ?_)))
  rw [tD_keys]
  refine lc_fm l0 (fun x => .str x.1) (fun x => !decide (x.1 = n)) (fun x => .tuple [.str x.1, flU x.2]) (by rw [List.map_map]; rfl) (by omega) aset_same (fun x hx => ⟨_, rfl, fun R hR => ?_, fun hp R hR => ?_⟩) ?_
  · sizeOf_list_dec
    (repeat' array_get_dec)
    exact hR
  · sizeOf_list_dec
    (repeat' array_get_dec)
    refine dc_l aset_same (tD_real _ _) ?_
    (repeat' array_get_dec)
    rw [look_s, aGet_nodup hnd hx]
    (try simp only [Option.map_none, Option.map_some, Option.isSome_none, Option.isSome_some, Bool.not_true, Bool.not_false, Option.getD_some, Option.getD_none])
    (repeat' array_get_dec)
    exact hR
  refine exL_of rfl ⟨_, pairs_tab flU (l0.filter fun x => !decide (x.1 = n)), ?_⟩
  dsimp only
  rw [show mergeP [] (tD flU (l0.filter fun x => !decide (x.1 = n))) = tD flU (l0.filter fun x => !decide (x.1 = n)) from merge_tab flU _ [] (List.Nodup.sublist ((List.filter_sublist).map _) hnd)]
  refine ⟨aset_same, ?_⟩
  rw [aset_aset, aset_id hF]
  (repeat' array_get_dec)
  refine bar_of ?_
  sizeOf_list_dec
  (repeat' array_get_dec)
  intro a0 ha0
  have hpa : p ≠ a0 := fun e => by
    have := D.isS
    rw [e, ha0] at this
    cases this
  have haA : a0 ∉ A.all := fun z => by
    have := S'.isS a0 z
    rw [ha0] at this
    cases this
  replace D : DrAt p (aset α13 a0 (.list [])) := D.but hpa but_set
  replace S' : PS CS (aset α13 a0 (.list [])) A n l0 old T none := S'.same fun a ha => aset_ne fun e => haA (e ▸ ha)
  have hq : (aset α13 a0 (.list [])) a0 = some (.list (([] : List Int).map .int)) := aset_same
  clear hF ha0
  generalize aset α13 a0 (.list []) = α14 at *
  obtain ⟨du, hdu⟩ : ∃ y, DD bs (Eb c) k0 (Eb c).length = y := ⟨_, rfl⟩
  rw [hdu]
  obtain ⟨rest, hrest⟩ : ∃ y, PyData.dict (tD flU (l0.filter fun x => !decide (x.1 = n))) = y := ⟨_, rfl⟩
  rw [hrest]
  (repeat' array_get_dec)
  refine bar_of ?_
  sizeOf_list_dec
  (repeat' array_get_dec)
  refine bar_of ?_
  sizeOf_list_dec
  (repeat' array_get_dec)
  refine bar_of ?_
  sizeOf_list_dec
  (repeat' array_get_dec)
  refine for_nums (fun i ρ α' => ∃ (y : Option Hz.D) (A : Ads) (F : List (Str × (List Int × Int))) (as : List Int) (C : Nat) (w : Hz.D), ρ = [some (scriptD ns), some (dref p), some (ctD c), some (en0 CE n c), some (dref pf), x, some (dref A.p), some (.list (du.map .int)), some (.list (old.map olU)), some rest, some (dref a0), some (.int (C : Nat)), some w, y, none, none, none] ∧ GF l0 F ∧ (F.map (·.1)).Nodup ∧ DrAt p α' ∧ p ∉ A.all ∧ a0 ∉ A.all ∧ α' a0 = some (.list (as.map .int)) ∧ as.length ≤ 300 * i ∧ LI CS α' A n l0 old c bs k0 i C F as w) ⟨none, A, l0, [], 0, _, rfl, GF.refl, hnd, D, hpA, haA, hq, Nat.zero_le _, .inl ⟨rfl, by decide, T, k0, none, S', hk0, Nat.le_refl _, ak_zero⟩⟩ ?_ ?_
  rotate_left
  · clear D S' hq hpA haA hk0
    rintro i hi ρ α1 ⟨y, A, F, as, C, w, rfl, GF1, nd1, D, hpA, haA, hq, hl, L⟩ X hX
    have hi : i < 6 := hi
    rcases L with ⟨rfl, hi6, T, k, mo, S, hT, h0, hA⟩ | ⟨rfl, mo, S, hA⟩
    · sizeOf_list_dec
      (repeat' array_get_dec)
      rotate_left
      · rename_i hz
        exact absurd rfl hz
      obtain ⟨w, S0⟩ := S
      refine meth_st S0 rfl rfl ?_
      (repeat' array_get_dec)
      have htl := tmp_len (n := n) (T := T)
      have hFl := GF1.len
      refine dur_go S0 ⟨by show F.length < 64; omega, by show (tmp n T).length < 64; omega, by show old.length ≤ 1000; omega⟩ fun fs2 ts2 f3 f4 t3 t4 => ?_
      have ev : duD ⟨F, tmp n T, old, [], [], w, mo⟩ fs2 ts2 = .tuple [.tuple ((NF F fs2).map fU), .tuple ((tmp n T).map tU), .tuple (old.map duO), .tuple [], .tuple []] := by
        rw [← NF_duF, ← ts_tmp t3]
        rfl
      rw [ev]
      (repeat' array_get_dec)
      have g2 := GF1.nf f3
      have ndF : ((NF F fs2).map (·.1)).Nodup := by
        rw [NF_keys]
        exact f3.nodup_iff.mpr nd1
      refine fd_go ndF (by cases T <;> simp [tmp]) ⟨by rw [g2.len]; omega, by omega, by omega⟩ fun α2 A2 w3 S2 kp fr2 => ?_
      have D2 : DrAt p α2 := by
        obtain ⟨a, b, e⟩ := D
        exact ⟨a, b, (kp p (by rw [e]; rfl)).trans e⟩
      have hq2 : α2 a0 = some (.list (as.map .int)) := (kp a0 (by rw [hq]; rfl)).trans hq
      have hp2 : p ∉ A2.all := fun z => by
        have h1 := D.isS
        rw [fr2 p z] at h1
        cases h1
      have ha2 : a0 ∉ A2.all := fun z => by
        rw [fr2 a0 z] at hq
        cases hq
      have nd2 := ndF
      generalize NF F fs2 = F2 at *
      clear S0 ev f3 f4 t3 t4 kp fr2 hq D
      (repeat' array_get_dec)
      refine bar_of ?_
      sizeOf_list_dec
      refine w_seqI (fun ρ α' => ρ = [some (scriptD ns), some (dref p), some (ctD c), some (en0 CE n c), some (dref pf), x, some (dref A2.p), some (.list (du.map .int)), some (.list (old.map olU)), some rest, some (dref a0), some (.int (C : Nat)), some (.str "cut"), some (.int (0 + (i : Nat))), none, none, none] ∧ DrAt p α' ∧ α' a0 = some (.list (as.map .int)) ∧ ∃ mo, PS CS α' A2 n F2 old T mo ∧ (i = 5 → mo = none)) ?_ fun Z hZ => ?_
      · rintro ρ α3 ⟨rfl, D3, hq3, mo3, S3, hm5⟩
        (repeat' array_get_dec)
        refine pull_go D3 hq3 hp2 ha2 hpa S3 hc (K.gf g2 ndF) (N.gf g2 ndF) (fun b => (hbs b).trans (BsP.gf g2).symm) hT h0 hA hl (by omega) (fun α4 as4 S4 A4 q4 l4 D4 O4 => ?_) fun hm α4 as4 T4 k4 g4 S4 T4' A4 q4 l4 D4 O4 => ?_
        · (repeat' array_get_dec)
          refine bar_of ?_
          sizeOf_list_dec
          (repeat' array_get_dec)
          rw [decide_eq_false (by decide)]
          refine ⟨.int 0, rfl, ?_⟩
          (repeat' array_get_dec)
          rw [show ((C : Nat) : Int) + 0 = ((C : Nat) : Int) by omega]
          exact hX _ _ ⟨_, A2, F2, as4, C, _, rfl, g2, ndF, D4, hp2, ha2, q4, by omega, .inr ⟨rfl, mo3, S4, A4⟩⟩
        · (repeat' array_get_dec)
          refine bar_of ?_
          sizeOf_list_dec
          (repeat' array_get_dec)
          rw [decide_eq_true rfl]
          refine ⟨.int 1, rfl, ?_⟩
          (repeat' array_get_dec)
          have hi7 : i + 1 < 6 := by
            rcases Nat.lt_or_ge (i + 1) 6 with h | h
            · exact h
            · exact absurd (hm5 (by omega)) hm
          exact hX _ _ ⟨_, A2, F2, as4, C + 1, _, rfl, g2, ndF, D4, hp2, ha2, q4, by omega, .inl ⟨rfl, hi7, T4, k4, mo3, S4, T4', g4, A4⟩⟩
      · (repeat' array_get_dec)
        · refine meth_st S2 rfl rfl ?_
          (repeat' array_get_dec)
          refine dr_go D2 (by decide) fun d5 α3 g5 g6 D3 B3 => ?_
          (repeat' array_get_dec)
          refine dr_go D3 (by decide) fun d6 α4 g7 g8 D4 B4 => ?_
          (repeat' array_get_dec)
          refine w_pick g7 g8 fun vv hv => ?_
          have S4 : StAt CS α4 A2 ⟨F2, tmp n T, old, [], [], w3, none⟩ := (S2.but hp2 B3).but hp2 B4
          have hq4 : α4 a0 = some (.list (as.map .int)) := (B4 a0 (Ne.symm hpa)).trans ((B3 a0 (Ne.symm hpa)).trans hq2)
          have hvv : ∀ α' : AH, vw α' vv = some vv := fun α' => by
            rcases hv with rfl | ⟨j, rfl⟩ <;> rfl
          (repeat' array_get_dec)
          refine setb_go S4 hv fun mo5 α5 S5 O5 => ?_
          (repeat' array_get_dec)
          refine hZ _ _ ⟨rfl, D4.oth hp2 O5, (O5 a0 ha2).trans hq4, mo5, ⟨w3, S5⟩, fun e => ?_⟩
          omega
        · exact hZ _ _ ⟨rfl, D2, hq2, none, ⟨w3, S2⟩, fun _ => rfl⟩
    · sizeOf_list_dec
      (repeat' array_get_dec)
      · rename_i hz
        exact absurd hz (by decide)
      · exact hX _ _ ⟨_, A, F, as, C, _, rfl, GF1, nd1, D, hpA, haA, hq, by omega, .inr ⟨rfl, mo, S, hA⟩⟩
  clear D S' hq hpA haA hk0
  rintro ρ α1 ⟨y, A, F, as, C, w, rfl, GF1, nd1, D, hpA, haA, hq, hl, L⟩
  obtain ⟨rfl, mo, S, hA⟩ : w = .str "done" ∧ ∃ mo, PS CS α1 A n (aPut n (c, 30) F) old none mo ∧ Ak bs (Eb c) k0 C (nk c) as := by
    rcases L with ⟨_, h6, _⟩ | h
    · exact absurd h6 (by decide)
    · exact h
  obtain ⟨w9, S0⟩ := S
  sizeOf_list_dec
  (repeat' array_get_dec)
  refine bar_of ?_
  sizeOf_list_dec
  (repeat' array_get_dec)
  rotate_left
  · rename_i hz
    exact absurd rfl hz
  have eg : aGet n (aPut n (c, 30) F) = some (c, 30) := by rw [aGet_put, if_pos rfl]
  refine meth_st S0 rfl rfl ?_
  (repeat' array_get_dec)
  refine read_go S0 ?_
  rw [eg]
  simp only [flU]
  (repeat' array_get_dec)
  refine oq_ne_self ?_ ?_
  · show (okD 59 (.list (c.map .int)) && (okD 59 (.int 30) && true)) = true
    rw [show okD 59 (.list (c.map .int)) = true from okD_ints 58 c]
    rfl
  (repeat' array_get_dec)
  refine meth_st S0 rfl rfl ?_
  (repeat' array_get_dec)
  refine temp_go S0 ?_
  rw [show aGet n (tmp n none) = (none : Option (List Int)) from rfl]
  (repeat' array_get_dec)
  simp only [isNoneD]
  (repeat' array_get_dec)
  refine bar_of ?_
  sizeOf_list_dec
  (repeat' array_get_dec)
  have hFl := GF1.len
  have hlF : (aPut n (c, 30) F).length < 64 := by
    rw [aPut_len]
    split <;> omega
  refine meth_st S0 rfl rfl ?_
  (repeat' array_get_dec)
  refine names_go S0 hlF fun fs3 f5 f6 => ?_
  have f5 : fs3.Perm ((aPut n (c, 30) F).map (·.1)) := f5
  have hl3 : fs3.length < 64 := by rw [f5.length_eq, List.length_map]; exact hlF
  (repeat' array_get_dec)
  refine lc_fm fs3 .str (fun f => !decide (f = n)) (fun f => .tuple [.str f, flU ((aGet f (aPut n (c, 30) F)).getD ([], 0))]) rfl (by omega) trivial (fun f hfm => ⟨_, rfl, fun R hR => ?_, fun hp R hR => ?_⟩) ?_
  · sizeOf_list_dec
    (repeat' array_get_dec)
    exact hR
  · sizeOf_list_dec
    (repeat' array_get_dec)
    refine meth_st S0 rfl rfl ?_
    (repeat' array_get_dec)
    refine read_go S0 ?_
    have hb : ∃ b, aGet f (aPut n (c, 30) F) = some b := by
      cases e : aGet f (aPut n (c, 30) F) with
      | none => exact absurd (f5.mem_iff.mp hfm) (aGet_none.mp e)
      | some b => exact ⟨b, rfl⟩
    obtain ⟨b, hb⟩ := hb
    rw [hb] at hR
    rw [hb]
    dsimp only
    (repeat' array_get_dec)
    exact hR
  have ep : pairsD ((fs3.filter fun f => !decide (f = n)).map fun f => .tuple [.str f, flU ((aGet f (aPut n (c, 30) F)).getD ([], 0))]) = some (tD flU ((fs3.filter fun f => !decide (f = n)).map fun f => (f, (aGet f (aPut n (c, 30) F)).getD ([], 0)))) := by
    have h := pairs_tab flU ((fs3.filter fun f => !decide (f = n)).map fun f => (f, (aGet f (aPut n (c, 30) F)).getD ([], 0)))
    rw [List.map_map] at h
    exact h
  refine exL_of rfl ⟨_, ep, ?_⟩
  dsimp only
  rw [show mergeP [] (tD flU ((fs3.filter fun f => !decide (f = n)).map fun f => (f, (aGet f (aPut n (c, 30) F)).getD ([], 0)))) = tD flU ((fs3.filter fun f => !decide (f = n)).map fun f => (f, (aGet f (aPut n (c, 30) F)).getD ([], 0))) from merge_tab flU _ [] (by
    rw [List.nil_append, List.map_map]
    refine List.Nodup.sublist ?_ (f5.nodup_iff.mpr (aPut_nodup nd1))
    show (List.map (fun f => f) (fs3.filter _)).Sublist fs3
    rw [List.map_id']
    exact List.filter_sublist)]
  (repeat' array_get_dec)
  rw [← hrest]
  refine ⟨_, vw_d (tD_real _ _), _, vw_d (tD_real _ _), ?_⟩
  refine oq_eqM (tD_real _ _) (tD_real _ _) (rest_eq GF1 hnd nd1 f5) ?_
  rw [if_pos rfl, Bool.not_true]
  (repeat' array_get_dec)
  refine meth_st S0 rfl rfl ?_
  (repeat' array_get_dec)
  refine attic_go S0 (by show old.length ≤ 1000; omega) ?_
  (repeat' array_get_dec)
  refine oq_ne_self (olds_ok fun y hy => (hok2 y hy).2) ?_
  (repeat' array_get_dec)
  refine bar_of ?_
  sizeOf_list_dec
  (repeat' array_get_dec)
  intro o0 ho0
  have hoa : a0 ≠ o0 := fun e => by rw [e, ho0] at hq; cases hq
  (repeat' array_get_dec)
  refine bar_of ?_
  sizeOf_list_dec
  (repeat' array_get_dec)
  have hql : ∀ d, (aset α1 o0 d) a0 = some (.list (as.map .int)) := fun d => (aset_ne hoa).trans hq
  have hal : as.length ≤ 1800 := by
    have : (6 : Int).toNat = 6 := rfl
    omega
  obtain ⟨rs, hrs⟩ : ∃ y, PyData.dict (tD flU (l0.filter fun x => !decide (x.1 = n))) = y := ⟨_, rfl⟩
  rw [hrs]
  refine ⟨as.map .int, hql _, ?_⟩
  refine for_mapG (xs := as) (u := .int) rfl (fun k ρ α' => ∃ (z : Option Hz.D) (acc : List Int), ρ = [some (scriptD ns), some (dref p), some (ctD c), some (en0 CE n c), some (dref pf), x, some (dref A.p), some (.list (du.map .int)), some (.list (old.map olU)), some rs, some (dref a0), some (.int (C : Nat)), some (.str "done"), y, some (dref o0), z, none] ∧ α' = aset α1 o0 (.list (acc.map .int)) ∧ acc.length ≤ k ∧ acc = (as.take k).foldl (fad []) []) ⟨none, [], rfl, rfl, Nat.le_refl _, rfl⟩ ?_ ?_ ?_
  · rintro k ρ _ ⟨z, acc, rfl, rfl, _, _⟩
    exact hql _
  · rintro ρ _ ⟨z, acc, rfl, rfl, hacl, hacc⟩
    rw [List.take_length] at hacc
    have hdd : acc = dd as := hacc
    rw [← Eb_len] at hA
    obtain ⟨d1, d2⟩ := ak_end hA
    rw [hdu] at d1 d2
    have hacc2 : acc = du := hdd.trans d1
    sizeOf_list_dec
    (repeat' array_get_dec)
    refine bar_of ?_
    sizeOf_list_dec
    (repeat' array_get_dec)
    rotate_left
    · rename_i hz
      exact absurd hacc2 hz
    refine ⟨_, hql _, ?_⟩
    (repeat' array_get_dec)
    rw [List.length_map, List.length_map, decide_eq_true (by omega)]
  · rintro k hk ρ _ ⟨z, acc, rfl, rfl, hacl, hacc⟩ X hX
    have hta := List.take_append_getElem hk
    generalize as[k] = b at *
    have hst : (as.take (k + 1)).foldl (fad []) [] = fad [] acc b := by
      rw [← hta, List.foldl_append, ← hacc]
      rfl
    sizeOf_list_dec
    (repeat' array_get_dec)
    refine oq_nin_i ?_
    by_cases hb : b ∈ acc
    · rw [decide_eq_true hb]
      (repeat' array_get_dec)
      refine hX _ _ ⟨_, acc, rfl, rfl, by omega, ?_⟩
      rw [hst]
      unfold fad
      rw [if_pos (.inr hb)]
    · rw [decide_eq_false hb]
      (repeat' array_get_dec)
      refine oq_append (by rw [List.length_map]; omega) ?_
      (repeat' array_get_dec)
      refine hX _ _ ⟨_, acc ++ [b], rfl, ?_, by rw [List.length_append]; exact Nat.succ_le_succ hacl, ?_⟩
      · rw [aset_aset, List.map_append]
        rfl
      · rw [hst]
        unfold fad
        rw [if_neg (by rintro (h | h); cases h; exact hb h)]
end K26
open PySem PySem.W PyProof.Rows in
set_option maxRecDepth 100000 in
set_option maxHeartbeats 0 in
theorem PySem.Challenge.cw_folderkin_k26_whole_pulls_holds : PySem.Challenge.rw_folderkin_k26_whole_pulls.Holds := by
  w_on; o_law; k_head; (case hw => w_witness2)
  k_fill
  refine Hz.walk_law (l := PySem.Challenge.rw_folderkin_k26_whole_pulls) (k := 10) (x := "_law_script") rfl rfl ⟨rfl, by decide, by decide⟩ (fun w h Y => PySem.W.kIn_of Y) ?F
  case F =>
    intro w mg fa h KX G hmg
    refine' K26.all_mk KX G hmg ?aC_Pull ?aC_Entry ?aC_Store ?aC_FolderkinError ?aC_PowerCut ?aC_InvalidBlock ?a0 ?l0 ?c0 ?k0 ?a1 ?l1 ?c1 ?k1 ?a2 ?l2 ?c2 ?k2 ?a3 ?l3 ?c3 ?k3 ?a4 ?l4 ?c4 ?k4 ?a5 ?l5 ?c5 ?k5 ?a6 ?l6 ?c6 ?k6 ?a7 ?l7 ?c7 ?k7 ?a8 ?l8 ?c8 ?k8 ?a9 ?i9 ?l9 ?c9 ?k9 ?a10 ?i10 ?l10 ?c10 ?k10 ?a11 ?i11 ?l11 ?c11 ?k11 ?a12 ?i12 ?l12 ?c12 ?k12 ?a13 ?i13 ?l13 ?c13 ?k13 ?a14 ?i14 ?l14 ?c14 ?k14 ?a15 ?i15 ?l15 ?c15 ?k15 ?a16 ?i16 ?l16 ?c16 ?k16 ?a17 ?i17 ?l17 ?c17 ?k17 ?a18 ?i18 ?l18 ?c18 ?k18 ?a19 ?i19 ?l19 ?c19 ?k19 ?a20 ?i20 ?l20 ?c20 ?k20 ?a21 ?i21 ?l21 ?c21 ?k21 ?a22 ?i22 ?l22 ?c22 ?k22 ?a23 ?i23 ?l23 ?c23 ?k23 ?a24 ?i24 ?l24 ?c24 ?k24 ?a25 ?i25 ?l25 ?c25 ?k25 ?a26 ?i26 ?l26 ?c26 ?k26 ?a27 ?i27 ?l27 ?c27 ?k27 ?a28 ?i28 ?l28 ?c28 ?k28 ?a29 ?i29 ?l29 ?c29 ?k29 ?a30 ?l30 ?c30 ?k30 ?a31 ?l31 ?c31 ?k31 ?a32 ?l32 ?c32 ?k32 ?a33 ?l33 ?c33 ?k33 ?a34 ?l34 ?c34 ?k34 ?a35 ?l35 ?c35 ?k35 ?a36 ?l36 ?c36 ?k36 ?a37 ?l37 ?c37 ?k37 ?a38 ?l38 ?c38 ?k38 ?pg_Pull ?hd_Pull ?po_Pull ?sa_Pull ?mk_Pull ?kc_Pull ?cha_Pull ?chn_Pull ?cht_Pull ?chm_Pull ?cic_Pull ?cty_Pull ?nNoneType_Pull ?nbool_Pull ?nint_Pull ?nstr_Pull ?nlist_Pull ?ntuple_Pull ?na_store_Pull ?na_entry_Pull ?pg_Entry ?hd_Entry ?po_Entry ?sa_Entry ?mk_Entry ?kc_Entry ?cha_Entry ?chn_Entry ?cht_Entry ?chm_Entry ?cic_Entry ?cty_Entry ?nNoneType_Entry ?nbool_Entry ?nint_Entry ?nstr_Entry ?nlist_Entry ?ntuple_Entry ?na_name_Entry ?na_vector_Entry ?na_height_Entry ?na_maker_Entry ?na_deleted_Entry ?na_time_Entry ?na_blocks_Entry ?pg_Store ?hd_Store ?po_Store ?sa_Store ?mk_Store ?kc_Store ?cha_Store ?chn_Store ?cht_Store ?chm_Store ?cic_Store ?cty_Store ?nNoneType_Store ?nbool_Store ?nint_Store ?nstr_Store ?nlist_Store ?ntuple_Store ?na_files_Store ?na_temps_Store ?na_old_Store ?na_records_Store ?na_fresh_Store ?na_writes_Store ?na_most_Store ?lX ?cX ?oX ?vX ?fX ?ceX ?dX ?kX ?tX ?tpX ?topX ?suX ?e0_FolderkinError ?ez_FolderkinError ?e1_FolderkinError ?e2_FolderkinError ?e3_FolderkinError ?e4_FolderkinError ?e5_FolderkinError ?e6_FolderkinError ?e7_FolderkinError ?e8_FolderkinError ?e9_FolderkinError ?ea_FolderkinError ?eb_FolderkinError ?ec_FolderkinError ?ed_FolderkinError ?ee_FolderkinError ?ef_FolderkinError ?eg_FolderkinError ?eh_FolderkinError ?e0_PowerCut ?ez_PowerCut ?e1_PowerCut ?e2_PowerCut ?e3_PowerCut ?e4_PowerCut ?e5_PowerCut ?e6_PowerCut ?e7_PowerCut ?e8_PowerCut ?e9_PowerCut ?ea_PowerCut ?eb_PowerCut ?ec_PowerCut ?ed_PowerCut ?ee_PowerCut ?ef_PowerCut ?eg_PowerCut ?eh_PowerCut ?e0_InvalidBlock ?ez_InvalidBlock ?e1_InvalidBlock ?e2_InvalidBlock ?e3_InvalidBlock ?e4_InvalidBlock ?e5_InvalidBlock ?e6_InvalidBlock ?e7_InvalidBlock ?e8_InvalidBlock ?e9_InvalidBlock ?ea_InvalidBlock ?eb_InvalidBlock ?ec_InvalidBlock ?ed_InvalidBlock ?ee_InvalidBlock ?ef_InvalidBlock ?eg_InvalidBlock ?eh_InvalidBlock ?es_PowerCut_PowerCut ?es_InvalidBlock_PowerCut ?z_dict ?z_int ?z_len ?z_list ?z_range ?z_sorted ?z_sum ?z_tuple ?y_BLOCK ?y_TEMP ?y_FILE ?y_ATTIC K26.law_true
    (case aC_Pull => k_is)
    (case aC_Entry => k_is)
    (case aC_Store => k_is)
    (case aC_FolderkinError => k_is)
    (case aC_PowerCut => k_is)
    (case aC_InvalidBlock => k_is)
    (case ea_FolderkinError => k_is)
    (case ea_PowerCut => k_is)
    (case ea_InvalidBlock => k_is)
    (case a0 => k_is)
    (case l0 => k_is)
    (case c0 => k_is)
    (case k0 => k_is)
    (case a1 => k_is)
    (case l1 => k_is)
    (case c1 => k_is)
    (case k1 => k_is)
    (case a2 => k_is)
    (case l2 => k_is)
    (case c2 => k_is)
    (case k2 => k_is)
    (case a3 => k_is)
    (case l3 => k_is)
    (case c3 => k_is)
    (case k3 => k_is)
    (case a4 => k_is)
    (case l4 => k_is)
    (case c4 => k_is)
    (case k4 => k_is)
    (case a5 => k_is)
    (case l5 => k_is)
    (case c5 => k_is)
    (case k5 => k_is)
    (case a6 => k_is)
    (case l6 => k_is)
    (case c6 => k_is)
    (case k6 => k_is)
    (case a7 => k_is)
    (case l7 => k_is)
    (case c7 => k_is)
    (case k7 => k_is)
    (case a8 => k_is)
    (case l8 => k_is)
    (case c8 => k_is)
    (case k8 => k_is)
    (case a9 => k_is)
    (case i9 => k_is)
    (case l9 => k_is)
    (case c9 => k_is)
    (case k9 => k_is)
    (case a10 => k_is)
    (case i10 => k_is)
    (case l10 => k_is)
    (case c10 => k_is)
    (case k10 => k_is)
    (case a11 => k_is)
    (case i11 => k_is)
    (case l11 => k_is)
    (case c11 => k_is)
    (case k11 => k_is)
    (case a12 => k_is)
    (case i12 => k_is)
    (case l12 => k_is)
    (case c12 => k_is)
    (case k12 => k_is)
    (case a13 => k_is)
    (case i13 => k_is)
    (case l13 => k_is)
    (case c13 => k_is)
    (case k13 => k_is)
    (case a14 => k_is)
    (case i14 => k_is)
    (case l14 => k_is)
    (case c14 => k_is)
    (case k14 => k_is)
    (case a15 => k_is)
    (case i15 => k_is)
    (case l15 => k_is)
    (case c15 => k_is)
    (case k15 => k_is)
    (case a16 => k_is)
    (case i16 => k_is)
    (case l16 => k_is)
    (case c16 => k_is)
    (case k16 => k_is)
    (case a17 => k_is)
    (case i17 => k_is)
    (case l17 => k_is)
    (case c17 => k_is)
    (case k17 => k_is)
    (case a18 => k_is)
    (case i18 => k_is)
    (case l18 => k_is)
    (case c18 => k_is)
    (case k18 => k_is)
    (case a19 => k_is)
    (case i19 => k_is)
    (case l19 => k_is)
    (case c19 => k_is)
    (case k19 => k_is)
    (case a20 => k_is)
    (case i20 => k_is)
    (case l20 => k_is)
    (case c20 => k_is)
    (case k20 => k_is)
    (case a21 => k_is)
    (case i21 => k_is)
    (case l21 => k_is)
    (case c21 => k_is)
    (case k21 => k_is)
    (case a22 => k_is)
    (case i22 => k_is)
    (case l22 => k_is)
    (case c22 => k_is)
    (case k22 => k_is)
    (case a23 => k_is)
    (case i23 => k_is)
    (case l23 => k_is)
    (case c23 => k_is)
    (case k23 => k_is)
    (case a24 => k_is)
    (case i24 => k_is)
    (case l24 => k_is)
    (case c24 => k_is)
    (case k24 => k_is)
    (case a25 => k_is)
    (case i25 => k_is)
    (case l25 => k_is)
    (case c25 => k_is)
    (case k25 => k_is)
    (case a26 => k_is)
    (case i26 => k_is)
    (case l26 => k_is)
    (case c26 => k_is)
    (case k26 => k_is)
    (case a27 => k_is)
    (case i27 => k_is)
    (case l27 => k_is)
    (case c27 => k_is)
    (case k27 => k_is)
    (case a28 => k_is)
    (case i28 => k_is)
    (case l28 => k_is)
    (case c28 => k_is)
    (case k28 => k_is)
    (case a29 => k_is)
    (case i29 => k_is)
    (case l29 => k_is)
    (case c29 => k_is)
    (case k29 => k_is)
    (case a30 => k_is)
    (case l30 => k_is)
    (case c30 => k_is)
    (case k30 => k_is)
    (case a31 => k_is)
    (case l31 => k_is)
    (case c31 => k_is)
    (case k31 => k_is)
    (case a32 => k_is)
    (case l32 => k_is)
    (case c32 => k_is)
    (case k32 => k_is)
    (case a33 => k_is)
    (case l33 => k_is)
    (case c33 => k_is)
    (case k33 => k_is)
    (case a34 => k_is)
    (case l34 => k_is)
    (case c34 => k_is)
    (case k34 => k_is)
    (case a35 => k_is)
    (case l35 => k_is)
    (case c35 => k_is)
    (case k35 => k_is)
    (case a36 => k_is)
    (case l36 => k_is)
    (case c36 => k_is)
    (case k36 => k_is)
    (case a37 => k_is)
    (case l37 => k_is)
    (case c37 => k_is)
    (case k37 => k_is)
    (case a38 => k_is)
    (case l38 => k_is)
    (case c38 => k_is)
    (case k38 => k_is)
    (case pg_Pull => k_is)
    (case hd_Pull => k_is)
    (case po_Pull => k_is)
    (case sa_Pull => k_is)
    (case mk_Pull => k_is)
    (case kc_Pull => k_is)
    (case cha_Pull => k_is)
    (case chn_Pull => k_is)
    (case cht_Pull => k_is)
    (case chm_Pull => k_is)
    (case cic_Pull => k_is)
    (case cty_Pull => k_is)
    (case nNoneType_Pull => k_is)
    (case nbool_Pull => k_is)
    (case nint_Pull => k_is)
    (case nstr_Pull => k_is)
    (case nlist_Pull => k_is)
    (case ntuple_Pull => k_is)
    (case na_store_Pull => k_is)
    (case na_entry_Pull => k_is)
    (case pg_Entry => k_is)
    (case hd_Entry => k_is)
    (case po_Entry => k_is)
    (case sa_Entry => k_is)
    (case mk_Entry => k_is)
    (case kc_Entry => k_is)
    (case cha_Entry => k_is)
    (case chn_Entry => k_is)
    (case cht_Entry => k_is)
    (case chm_Entry => k_is)
    (case cic_Entry => k_is)
    (case cty_Entry => k_is)
    (case nNoneType_Entry => k_is)
    (case nbool_Entry => k_is)
    (case nint_Entry => k_is)
    (case nstr_Entry => k_is)
    (case nlist_Entry => k_is)
    (case ntuple_Entry => k_is)
    (case na_name_Entry => k_is)
    (case na_vector_Entry => k_is)
    (case na_height_Entry => k_is)
    (case na_maker_Entry => k_is)
    (case na_deleted_Entry => k_is)
    (case na_time_Entry => k_is)
    (case na_blocks_Entry => k_is)
    (case pg_Store => k_is)
    (case hd_Store => k_is)
    (case po_Store => k_is)
    (case sa_Store => k_is)
    (case mk_Store => k_is)
    (case kc_Store => k_is)
    (case cha_Store => k_is)
    (case chn_Store => k_is)
    (case cht_Store => k_is)
    (case chm_Store => k_is)
    (case cic_Store => k_is)
    (case cty_Store => k_is)
    (case nNoneType_Store => k_is)
    (case nbool_Store => k_is)
    (case nint_Store => k_is)
    (case nstr_Store => k_is)
    (case nlist_Store => k_is)
    (case ntuple_Store => k_is)
    (case na_files_Store => k_is)
    (case na_temps_Store => k_is)
    (case na_old_Store => k_is)
    (case na_records_Store => k_is)
    (case na_fresh_Store => k_is)
    (case na_writes_Store => k_is)
    (case na_most_Store => k_is)
    (case lX => k_is)
    (case cX => k_is)
    (case oX => k_is)
    (case vX => rfl)
    (case fX => decide +kernel)
    (case ceX => k_is)
    (case dX => k_is)
    (case kX => k_is)
    (case tX => k_is)
    (case tpX => k_is)
    (case topX => decide +kernel)
    (case suX => k_is)
    (case e0_FolderkinError => k_is)
    (case ez_FolderkinError => rfl)
    (case e1_FolderkinError => k_is)
    (case e2_FolderkinError => k_is)
    (case e3_FolderkinError => k_is)
    (case e4_FolderkinError => k_is)
    (case e5_FolderkinError => k_is)
    (case e6_FolderkinError => k_is)
    (case e7_FolderkinError => ks_is)
    (case e8_FolderkinError => k_is)
    (case e9_FolderkinError => k_is)
    (case eb_FolderkinError => k_is)
    (case ec_FolderkinError => k_is)
    (case ed_FolderkinError => k_is)
    (case ee_FolderkinError => k_is)
    (case ef_FolderkinError => k_is)
    (case eg_FolderkinError => k_is)
    (case eh_FolderkinError => k_is)
    (case e0_PowerCut => k_is)
    (case ez_PowerCut => rfl)
    (case e1_PowerCut => k_is)
    (case e2_PowerCut => k_is)
    (case e3_PowerCut => k_is)
    (case e4_PowerCut => k_is)
    (case e5_PowerCut => k_is)
    (case e6_PowerCut => k_is)
    (case e7_PowerCut => ks_is)
    (case e8_PowerCut => k_is)
    (case e9_PowerCut => k_is)
    (case eb_PowerCut => k_is)
    (case ec_PowerCut => k_is)
    (case ed_PowerCut => k_is)
    (case ee_PowerCut => k_is)
    (case ef_PowerCut => k_is)
    (case eg_PowerCut => k_is)
    (case eh_PowerCut => k_is)
    (case e0_InvalidBlock => k_is)
    (case ez_InvalidBlock => rfl)
    (case e1_InvalidBlock => k_is)
    (case e2_InvalidBlock => k_is)
    (case e3_InvalidBlock => k_is)
    (case e4_InvalidBlock => k_is)
    (case e5_InvalidBlock => k_is)
    (case e6_InvalidBlock => k_is)
    (case e7_InvalidBlock => ks_is)
    (case e8_InvalidBlock => k_is)
    (case e9_InvalidBlock => k_is)
    (case eb_InvalidBlock => k_is)
    (case ec_InvalidBlock => k_is)
    (case ed_InvalidBlock => k_is)
    (case ee_InvalidBlock => k_is)
    (case ef_InvalidBlock => k_is)
    (case eg_InvalidBlock => k_is)
    (case eh_InvalidBlock => k_is)
    (case es_PowerCut_PowerCut => k_is)
    (case es_InvalidBlock_PowerCut => k_is)
    (case z_dict => k_is)
    (case z_int => k_is)
    (case z_len => k_is)
    (case z_list => k_is)
    (case z_range => k_is)
    (case z_sorted => k_is)
    (case z_sum => k_is)
    (case z_tuple => k_is)
    (case y_BLOCK => k_is)
    (case y_TEMP => k_is)
    (case y_FILE => k_is)
    (case y_ATTIC => k_is)
