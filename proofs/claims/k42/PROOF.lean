import PyProof.Rows.All
import Wide.All
import OpenK.AllK
import Wide.FinOn
import HandS.ForMost
import HandS.ForExc
import HandS.CallSlots
import HandS.IsInst
import HandS.TupAny
import HandS.Deep
import HandS.Wide
import HandS.Zip
import KE.DataCmp
import HandS.OwnEq
import HandS.SlotsOwn
import HandS.Defaults
import HandS.ExcInit
import HandS.ExcSuper
import HandS.ExcField
import HandS.ExcIs
import KE.KSuper
import KE.KExcSuper
import HandS.TryOnly
import HandS.Iter
import HandS.More
import HandS.Replace
import HandS.StrMore
import PyProof.Rows.StrRev
import HandS.Style
import KE.DatumOrd
import PyProof.StrLawsFirst
import PyProof.StrLawsChain
import PyProof.Rows.StrDouble
import PyProof.StrOps2
import PySem.Challenge.RW_folderkin_k42_any_text_as_patterns
import KE.RegKSuper
set_option Elab.async false
set_option linter.all false
set_option maxRecDepth 100000
set_option maxHeartbeats 4000000
namespace Hz
open PySem L2
abbrev D := PyData
abbrev Frag := PySem.W.Frag
/-- the heap without the addresses that B hides -/
def hide (B : Addr → Bool) (H : Hp) : Hp := fun a => if B a = true then none else H a
def Sub (H H' : Hp) : Prop := ∀ a o, H a = some o → H' a = some o
theorem Sub.refl (H : Hp) : Sub H H := fun _ _ h => h
theorem Sub.trans {H H1 H2 : Hp} (a : Sub H H1) (b : Sub H1 H2) : Sub H H2 := fun x o h => b x o (a x o h)
theorem hide_some {B : Addr → Bool} {H : Hp} {a : Addr} {o : HO} (h : hide B H a = some o) : B a = false ∧ H a = some o := by
  unfold hide at h
  split at h
  · cases h
  · rename_i q
    exact ⟨by simpa using q, h⟩
theorem hide_of {B : Addr → Bool} {H : Hp} {a : Addr} {o : HO} (b : B a = false) (h : H a = some o) : hide B H a = some o := by
  unfold hide
  rw [b]
  exact h
theorem hide_sub (B : Addr → Bool) (H : Hp) : Sub (hide B H) H := fun a o h => (hide_some h).2
theorem Sub.new {H : Hp} {p : Addr} {o : HO} (h : H p = none) : Sub H (upd H p o) := fun a u e => by
  rw [upd_ne (ne_of_none e h)]
  exact e
def kD : Key → D
  | .inl i => .int i
  | .inr x => .str x
/-- a tuple that begins with a pair of a whole number and something: its object is known -/
def needX : List D → Bool
  | .tuple [.int _, _] :: _ => true
  | _ => false
def ExT (o : Obj) : Prop := o.cls = .type "tuple" ∧ o.dict = none
def XT (H : Hp) (a : Addr) : Prop := ∃ (o : Obj) (u : HO), H a = some (.frz o u) ∧ ExT o
theorem XT.mono {H H' : Hp} {a : Addr} (e : Sub H H') (h : XT H a) : XT H' a := let ⟨o, u, h1, h2⟩ := h; ⟨o, u, e _ _ h1, h2⟩
mutual
/-- v, in H, is the datum d -/
inductive Rp (K : Frag) (H : Hp) : V → D → Prop
  | non : Rp K H .non .none
  | bl (b : Bool) : Rp K H (.bl b) (.bool b)
  | int (i : Int) : Rp K H (.int i) (.int i)
  | str (x : Str) : Rp K H (.str x) (.str x)
  | lst {a : Addr} {xs : List V} {ds : List D} : SqL K H a xs → RpL K H xs ds → Rp K H (.ref a) (.list ds)
  | tup {a : Addr} {xs : List V} {ds : List D} : SqT K H a xs → RpL K H xs ds → (needX ds = true → XT H a) → Rp K H (.ref a) (.tuple ds)
  | dct {a : Addr} {kvs : List (Key × V)} {ds : List (D × D)} : Rd H a (.dK kvs) → RpK K H kvs ds → Rp K H (.ref a) (.dict ds)
  | obj {a C dx : Addr} {fs : List (Str × V)} {ds : List (D × D)} : H a = some (.ins C dx fs) → RpF K H fs ds → Rp K H (.ref a) (.dict ((.none, .int (Int.ofNat C)) :: ds))
  | fnc {a : Addr} : Rp K H (.ref a) (.dict [(.bool true, .int (Int.ofNat a))])
  /-- a thing that may change: its address -/
  | ref {a : Addr} : Rp K H (.ref a) (.dict [(.bool false, .int (Int.ofNat a))])
  /-- a caught exception: its dict, its class -/
  | exc {a dx C : Addr} {fs : List (Str × V)} {ds : List (D × D)} : H dx = some (.xd fs) → RpF K H fs ds → Rp K H (.ref a) (.dict ((.bool true, .tuple [.int (Int.ofNat a), .int (Int.ofNat dx), .int (Int.ofNat C)]) :: ds))
inductive RpL (K : Frag) (H : Hp) : List V → List D → Prop
  | nil : RpL K H [] []
  | cons {v : V} {vs : List V} {d : D} {ds : List D} : Rp K H v d → RpL K H vs ds → RpL K H (v :: vs) (d :: ds)
inductive RpK (K : Frag) (H : Hp) : List (Key × V) → List (D × D) → Prop
  | nil : RpK K H [] []
  | cons {k : Key} {v : V} {vs : List (Key × V)} {d : D} {ds : List (D × D)} : Rp K H v d → RpK K H vs ds → RpK K H ((k, v) :: vs) ((kD k, d) :: ds)
inductive RpF (K : Frag) (H : Hp) : List (Str × V) → List (D × D) → Prop
  | nil : RpF K H [] []
  | cons {f : Str} {v : V} {vs : List (Str × V)} {d : D} {ds : List (D × D)} : Rp K H v d → RpF K H vs ds → RpF K H ((f, v) :: vs) ((.str f, d) :: ds)
end
theorem sub_rd {H H' : Hp} {a : Addr} {u : HO} (e : Sub H H') (h : Rd H a u) : Rd H' a u := by
  rcases h with h | ⟨o, h⟩
  · exact Or.inl (e a _ h)
  · exact Or.inr ⟨o, e a _ h⟩
theorem sub_l {K : Frag} {H H' : Hp} {a : Addr} {xs : List V} (e : Sub H H') (h : SqL K H a xs) : SqL K H' a xs := by
  rcases h with h | h
  · exact Or.inl (sub_rd e h)
  · exact Or.inr h
theorem sub_t {K : Frag} {H H' : Hp} {a : Addr} {xs : List V} (e : Sub H H') (h : SqT K H a xs) : SqT K H' a xs := by
  rcases h with h | h
  · exact Or.inl (sub_rd e h)
  · exact Or.inr h
mutual
theorem Rp.mono {K : Frag} {H H' : Hp} (e : Sub H H') : ∀ {v : V} {d : D}, Rp K H v d → Rp K H' v d
  | _, _, .non => .non
  | _, _, .bl b => .bl b
  | _, _, .int i => .int i
  | _, _, .str x => .str x
  | _, _, .lst h r => .lst (sub_l e h) (RpL.mono e r)
  | _, _, .tup h r x => .tup (sub_t e h) (RpL.mono e r) fun n => (x n).mono e
  | _, _, .dct h r => .dct (sub_rd e h) (RpK.mono e r)
  | _, _, .obj h r => .obj (e _ _ h) (RpF.mono e r)
  | _, _, .fnc => .fnc
  | _, _, .ref => .ref
  | _, _, .exc h r => .exc (e _ _ h) (RpF.mono e r)
theorem RpL.mono {K : Frag} {H H' : Hp} (e : Sub H H') : ∀ {v : List V} {d : List D}, RpL K H v d → RpL K H' v d
  | _, _, .nil => .nil
  | _, _, .cons h r => .cons (Rp.mono e h) (RpL.mono e r)
theorem RpK.mono {K : Frag} {H H' : Hp} (e : Sub H H') : ∀ {v : List (Key × V)} {d : List (D × D)}, RpK K H v d → RpK K H' v d
  | _, _, .nil => .nil
  | _, _, .cons h r => .cons (Rp.mono e h) (RpK.mono e r)
theorem RpF.mono {K : Frag} {H H' : Hp} (e : Sub H H') : ∀ {v : List (Str × V)} {d : List (D × D)}, RpF K H v d → RpF K H' v d
  | _, _, .nil => .nil
  | _, _, .cons h r => .cons (Rp.mono e h) (RpF.mono e r)
end
theorem RpL.length {K : Frag} {H : Hp} : ∀ {vs : List V} {ds : List D}, RpL K H vs ds → vs.length = ds.length
  | _, _, .nil => rfl
  | _, _, .cons _ r => by rw [List.length_cons, List.length_cons, RpL.length r]
theorem RpL.get' {K : Frag} {H : Hp} : ∀ {vs : List V} {ds : List D} {i : Nat} {d : D}, RpL K H vs ds → ds[i]? = some d → ∃ v, vs[i]? = some v ∧ Rp K H v d
  | _, _, _, _, .nil, e => by simp at e
  | _, _, 0, _, .cons h r, e => by
    simp at e
    subst e
    exact ⟨_, rfl, h⟩
  | _, _, i + 1, v, .cons h r, e => by
    obtain ⟨d, h1, h2⟩ := RpL.get' (i := i) (d := v) r (by simpa using e)
    exact ⟨d, by simpa using h1, h2⟩
theorem RpL.append {K : Frag} {H : Hp} : ∀ {vs us : List V} {ds es : List D}, RpL K H vs ds → RpL K H us es → RpL K H (vs ++ us) (ds ++ es)
  | _, _, _, _, .nil, s => s
  | _, _, _, _, .cons h r, s => .cons h (RpL.append r s)
theorem RpL.set {K : Frag} {H : Hp} {v : V} {d : D} (q : Rp K H v d) : ∀ {vs : List V} {ds : List D} (i : Nat), RpL K H vs ds → RpL K H (vs.set i v) (ds.set i d)
  | _, _, _, .nil => .nil
  | _, _, 0, .cons _ r => .cons q r
  | _, _, i + 1, .cons h r => .cons h (RpL.set q i r)
theorem RpL.take {K : Frag} {H : Hp} : ∀ {vs : List V} {ds : List D} (n : Nat), RpL K H vs ds → RpL K H (vs.take n) (ds.take n)
  | _, _, 0, _ => .nil
  | _, _, _ + 1, .nil => .nil
  | _, _, n + 1, .cons h r => .cons h (RpL.take n r)
theorem RpL.drop {K : Frag} {H : Hp} : ∀ {vs : List V} {ds : List D} (n : Nat), RpL K H vs ds → RpL K H (vs.drop n) (ds.drop n)
  | _, _, 0, r => r
  | _, _, _ + 1, .nil => .nil
  | _, _, n + 1, .cons _ r => RpL.drop n r
theorem RpL.ints {K : Frag} {H : Hp} : ∀ ns : List Int, RpL K H (ns.map V.int) (ns.map PyData.int)
  | [] => .nil
  | n :: ns => .cons (.int n) (RpL.ints ns)
theorem RpL.of_strs {K : Frag} {H : Hp} : ∀ {ns : List Str} {vs : List V}, RpL K H vs (ns.map PyData.str) → vs = ns.map V.str
  | [], _, h => by cases h; rfl
  | n :: ns, _, h => by
    cases h with
    | cons a b =>
      cases a
      rw [RpL.of_strs b]
      rfl
theorem RpL.strs {K : Frag} {H : Hp} : ∀ ns : List Str, RpL K H (ns.map V.str) (ns.map PyData.str)
  | [] => .nil
  | n :: ns => .cons (.str n) (RpL.strs ns)
/-- a value that may be read: its own node may be hidden, its parts are not -/
inductive Rs (K : Frag) (B : Addr → Bool) (H : Hp) : V → D → Prop
  | vis {v : V} {d : D} : Rp K (hide B H) v d → Rs K B H v d
  | lst {a : Addr} {xs : List V} {ds : List D} : SqL K H a xs → RpL K (hide B H) xs ds → Rs K B H (.ref a) (.list ds)
  | dct {a : Addr} {kvs : List (Key × V)} {ds : List (D × D)} : Rd H a (.dK kvs) → RpK K (hide B H) kvs ds → Rs K B H (.ref a) (.dict ds)
  | obj {a C dx : Addr} {fs : List (Str × V)} {ds : List (D × D)} : H a = some (.ins C dx fs) → RpF K (hide B H) fs ds → Rs K B H (.ref a) (.dict ((.none, .int (Int.ofNat C)) :: ds))
theorem Rs.rp {K : Frag} {B : Addr → Bool} {H : Hp} {v : V} {d : D} (h : Rs K B H v d) : Rp K H v d := by
  cases h with
  | vis h => exact h.mono (hide_sub B H)
  | lst h r => exact .lst h (r.mono (hide_sub B H))
  | dct h r => exact .dct h (r.mono (hide_sub B H))
  | obj h r => exact .obj h (r.mono (hide_sub B H))
theorem Rs.list {K : Frag} {B : Addr → Bool} {H : Hp} {v : V} {ds : List D} (h : Rs K B H v (.list ds)) : ∃ a xs, v = .ref a ∧ SqL K H a xs ∧ RpL K (hide B H) xs ds := by
  cases h with
  | vis h =>
    cases h with
    | lst h r => exact ⟨_, _, rfl, sub_l (hide_sub B H) h, r⟩
  | lst h r => exact ⟨_, _, rfl, h, r⟩
theorem Rs.tuple {K : Frag} {B : Addr → Bool} {H : Hp} {v : V} {ds : List D} (h : Rs K B H v (.tuple ds)) : ∃ a xs, v = .ref a ∧ SqT K H a xs ∧ RpL K (hide B H) xs ds := by
  cases h with
  | vis h =>
    cases h with
    | tup h r x => exact ⟨_, _, rfl, sub_t (hide_sub B H) h, r⟩
theorem Rs.int {K : Frag} {B : Addr → Bool} {H : Hp} {v : V} {i : Int} (h : Rs K B H v (.int i)) : v = .int i := by
  cases h with
  | vis h => cases h; rfl
theorem Rs.bool {K : Frag} {B : Addr → Bool} {H : Hp} {v : V} {i : Bool} (h : Rs K B H v (.bool i)) : v = .bl i := by
  cases h with
  | vis h => cases h; rfl
theorem Rs.str {K : Frag} {B : Addr → Bool} {H : Hp} {v : V} {i : Str} (h : Rs K B H v (.str i)) : v = .str i := by
  cases h with
  | vis h => cases h; rfl
theorem Rs.none {K : Frag} {B : Addr → Bool} {H : Hp} {v : V} (h : Rs K B H v .none) : v = .non := by
  cases h with
  | vis h => cases h; rfl
theorem Rp.inti {K : Frag} {H : Hp} {v : V} {i : Int} (h : Rp K H v (.int i)) : v = .int i := by cases h; rfl
theorem Rp.booli {K : Frag} {H : Hp} {v : V} {i : Bool} (h : Rp K H v (.bool i)) : v = .bl i := by cases h; rfl
theorem Rp.stri {K : Frag} {H : Hp} {v : V} {i : Str} (h : Rp K H v (.str i)) : v = .str i := by cases h; rfl
theorem Rp.nonei {K : Frag} {H : Hp} {v : V} (h : Rp K H v .none) : v = .non := by cases h; rfl
mutual
def plain : D → Bool
  | .dict _ => false
  | .list ds => plains ds
  | .tuple ds => plains ds
  | _ => true
def plains : List D → Bool
  | [] => true
  | d :: ds => plain d && plains ds
end
mutual
theorem Rp.dp {K : Frag} {H : Hp} : ∀ {v : V} {d : D}, Rp K H v d → plain d = true → Dp K H v d
  | _, _, .non, _ => .non
  | _, _, .bl b, _ => .bl b
  | _, _, .int i, _ => .int i
  | _, _, .str x, _ => .str x
  | _, _, .lst h r, p => .lst h (RpL.dp r (by simpa [plain] using p))
  | _, _, .tup h r _, p => .tup h (RpL.dp r (by simpa [plain] using p))
  | _, _, .dct h r, p => by simp [plain] at p
  | _, _, .obj h r, p => by simp [plain] at p
  | _, _, .fnc, p => by simp [plain] at p
  | _, _, .ref, p => by simp [plain] at p
  | _, _, .exc _ _, p => by simp [plain] at p
theorem RpL.dp {K : Frag} {H : Hp} : ∀ {v : List V} {d : List D}, RpL K H v d → plains d = true → DpAll K H v d
  | _, _, .nil, _ => .nil
  | _, _, .cons (d := d) (ds := ds) h r, p => by
    have q : plain d = true ∧ plains ds = true := by simpa [plains] using p
    exact .cons (Rp.dp h q.1) (RpL.dp r q.2)
end
end Hz
namespace Hz
open PySem L2
def OwnAt (K : Frag) (Hh : Hp) (o : Option HO) : D → Prop
  | .list ds => ∃ vs, o = some (.lst vs) ∧ RpL K Hh vs ds
  | .dict ds => ∃ kvs, o = some (.dK kvs) ∧ RpK K Hh kvs ds
  | _ => False
theorem OwnAt.mono {K : Frag} {H H' : Hp} {o : Option HO} {d : D} (e : Sub H H') (h : OwnAt K H o d) : OwnAt K H' o d := by
  cases d with
  | list ds => obtain ⟨vs, a, b⟩ := h; exact ⟨vs, a, b.mono e⟩
  | dict ds => obtain ⟨vs, a, b⟩ := h; exact ⟨vs, a, b.mono e⟩
  | _ => exact h.elim
theorem OwnAt.ne {K : Frag} {H : Hp} {o : Option HO} {d : D} (h : OwnAt K H o d) : ∃ u, o = some u := by
  cases d with
  | list ds => obtain ⟨vs, a, b⟩ := h; exact ⟨_, a⟩
  | dict ds => obtain ⟨vs, a, b⟩ := h; exact ⟨_, a⟩
  | _ => exact h.elim
/-- what stands at a cell -/
inductive CellAt (K : Frag) (Hh : Hp) : Option HO → D → Prop
  | own {o : Option HO} {d : D} : OwnAt K Hh o d → CellAt K Hh o d
  | obj {C dx : Addr} {fs : List (Str × V)} {ds : List (D × D)} : RpF K Hh fs ds → CellAt K Hh (some (.ins C dx fs)) (.dict ((.none, .int (Int.ofNat C)) :: ds))
theorem CellAt.mono {K : Frag} {H H' : Hp} {o : Option HO} {d : D} (e : Sub H H') (h : CellAt K H o d) : CellAt K H' o d := by
  cases h with
  | own h => exact .own (h.mono e)
  | obj h => exact .obj (h.mono e)
theorem CellAt.ne {K : Frag} {H : Hp} {o : Option HO} {d : D} (h : CellAt K H o d) : ∃ u, o = some u := by
  cases h with
  | own h => exact h.ne
  | obj h => exact ⟨_, rfl⟩
/-- a cell that is seen, as a datum -/
theorem CellAt.rp {K : Frag} {Hh : Hp} {l : Addr} {d : D} (h : CellAt K Hh (Hh l) d) : Rp K Hh (.ref l) d := by
  generalize e : Hh l = o at h
  cases h with
  | own h =>
    cases d with
    | list ds => obtain ⟨vs, a, b⟩ := h; exact .lst (.inl (.inl (e.trans a))) b
    | dict ds => obtain ⟨vs, a, b⟩ := h; exact .dct (.inl (e.trans a)) b
    | _ => exact h.elim
  | obj h => exact .obj e h
theorem CellAt.rs {K : Frag} {B : Addr → Bool} {H : Hp} {l : Addr} {d : D} (h : CellAt K (hide B H) (H l) d) : Rs K B H (.ref l) d := by
  generalize e : H l = o at h
  cases h with
  | own h =>
    cases d with
    | list ds => obtain ⟨vs, a, b⟩ := h; exact .lst (.inl (.inl (e.trans a))) b
    | dict ds => obtain ⟨vs, a, b⟩ := h; exact .dct (.inl (e.trans a)) b
    | _ => exact h.elim
  | obj h => exact .obj e h
abbrev En := List (Option D)
/-- what stands in the cells -/
abbrev AH := Addr → Option D
def aset (α : AH) (a : Addr) (c : D) : AH := fun b => if b = a then some c else α b
def adel (α : AH) (a : Addr) : AH := fun b => if b = a then none else α b
/-- the cells of α' that α has -/
def arst (α α' : AH) : AH := fun b => if (α b).isSome = true then α' b else none
theorem aset_same {α : AH} {a : Addr} {c : D} : aset α a c a = some c := if_pos rfl
theorem aset_ne {α : AH} {a b : Addr} {c : D} (h : b ≠ a) : aset α a c b = α b := if_neg h
theorem adel_same {α : AH} {a : Addr} : adel α a a = none := if_pos rfl
theorem adel_ne {α : AH} {a b : Addr} (h : b ≠ a) : adel α a b = α b := if_neg h
theorem adel_aset {α : AH} {a : Addr} {c : D} (h : α a = none) : adel (aset α a c) a = α := by
  funext b
  by_cases e : b = a
  · rw [e, adel_same, h]
  · rw [adel_ne e, aset_ne e]
theorem aset_aset {α : AH} {a : Addr} {c d : D} : aset (aset α a c) a d = aset α a d := by
  funext b
  by_cases e : b = a
  · rw [e, aset_same, aset_same]
  · rw [aset_ne e, aset_ne e, aset_ne e]
theorem aset_id {α : AH} {a : Addr} {c : D} (h : α a = some c) : aset α a c = α := by
  funext b
  by_cases e : b = a
  · rw [e, aset_same, h]
  · rw [aset_ne e]
theorem arst_self {α : AH} : arst α α = α := by
  funext b
  unfold arst
  split
  · rfl
  · rename_i h
    cases q : α b with
    | none => rfl
    | some c => rw [q] at h; exact absurd rfl h
theorem arst_new {α α' : AH} {a : Addr} {c : D} (h : α a = none) : arst α (aset α' a c) = arst α α' := by
  funext b
  unfold arst
  split
  · rename_i e
    rw [aset_ne (fun z => by rw [z, h] at e; cases e)]
  · rfl
theorem arst_old {α α' : AH} {a : Addr} {c : D} (h : ∃ d, α a = some d) : arst α (aset α' a c) = aset (arst α α') a c := by
  obtain ⟨d, h⟩ := h
  funext b
  by_cases e : b = a
  · rw [e, aset_same]
    unfold arst
    rw [h, aset_same]
    rfl
  · rw [aset_ne e]
    unfold arst
    rw [aset_ne e]
def dref (a : Addr) : D := .dict [(.bool false, .int (Int.ofNat a))]
/-- a datum as it may be read: a cell by its content -/
def vw (α : AH) : D → Option D
  | .dict ((.bool false, .int n) :: _) => α n.toNat
  | d => some d
/-- the heap bears the cells; B hides all that may change -/
structure Bs (K : Frag) (B : Addr → Bool) (H : Hp) (α : AH) : Prop where
  cel : ∀ a c, α a = some c → B a = true ∧ CellAt K (hide B H) (H a) c
  bk : ∀ a, B a = true → ∃ o, H a = some o
structure SR (K : Frag) (B : Addr → Bool) (σ : St) (H : Hp) (ρ : En) (α : AH) : Prop where
  len : σ.length = ρ.length
  val : ∀ (i : Nat) d, ρ[i]? = some (some d) → ∃ v, σ[i]? = some (some v) ∧ Rp K (hide B H) v d
  bs : Bs K B H α
/-- from a state to a later one -/
structure Af (K : Frag) (B : Addr → Bool) (H : Hp) (α : AH) (B' : Addr → Bool) (H' : Hp) (α' : AH) : Prop where
  sub : Sub (hide B H) (hide B' H')
  bs : Bs K B' H' α'
  keep : ∀ b, B b = true → α b = none → B' b = true ∧ H' b = H b
  fr : ∀ b, α b = none → H b ≠ none → α' b = none
  grow : ∀ b o, H b = some o → ∃ o', H' b = some o'
def ins (l : Addr) (B : Addr → Bool) : Addr → Bool := fun a => decide (a = l) || B a
def del (l : Addr) (B : Addr → Bool) : Addr → Bool := fun a => !decide (a = l) && B a
theorem ins_self {l : Addr} {B : Addr → Bool} : ins l B l = true := by unfold ins; simp
theorem ins_or {l a : Addr} {B : Addr → Bool} (h : ins l B a = true) : a = l ∨ B a = true := by
  unfold ins at h
  simpa using h
theorem ins_of {l a : Addr} {B : Addr → Bool} (h : B a = true) : ins l B a = true := by unfold ins; simp [h]
theorem ins_ne {l a : Addr} {B : Addr → Bool} (h : a ≠ l) : ins l B a = B a := by unfold ins; simp [h]
theorem del_self {l : Addr} {B : Addr → Bool} : del l B l = false := by unfold del; simp
theorem del_ne {l a : Addr} {B : Addr → Bool} (h : a ≠ l) : del l B a = B a := by unfold del; simp [h]
theorem hide_mono {B B' : Addr → Bool} {H : Hp} (h : ∀ a, B' a = true → B a = true) : Sub (hide B H) (hide B' H) := fun a o e => by
  obtain ⟨e1, e2⟩ := hide_some e
  refine hide_of ?_ e2
  cases q : B' a with
  | false => rfl
  | true => rw [h a q] at e1; cases e1
theorem hsub {B : Addr → Bool} {H H' : Hp} (e : Sub H H') : Sub (hide B H) (hide B H') := fun b o q => hide_of (hide_some q).1 (e _ _ (hide_some q).2)
theorem sub_ins {l : Addr} {B : Addr → Bool} {H H' : Hp} (h : H l = none) (e : Sub (hide B H) (hide B H')) : Sub (hide B H) (hide (ins l B) H') := fun a o q => by
  obtain ⟨e1, e2⟩ := hide_some q
  refine hide_of ?_ (hide_some (e _ _ q)).2
  rw [ins_ne (fun z => by rw [z, h] at e2; cases e2)]
  exact e1
section
variable {K : Frag} {B B' B1 B2 : Addr → Bool} {σ σ' : St} {H H' H1 H2 : Hp} {ρ ρ' : En} {α α' α1 α2 : AH} {l : Addr} {c d : D} {v : V}
theorem Bs.fresh (S : Bs K B H α) (h : H l = none) : B l = false := by
  cases q : B l with
  | false => rfl
  | true =>
    obtain ⟨o, e⟩ := S.bk l q
    rw [h] at e
    cases e
theorem Bs.none (S : Bs K B H α) (h : B l = false) : α l = none := by
  cases q : α l with
  | none => rfl
  | some c => rw [(S.cel l c q).1] at h; cases h
theorem Bs.new (S : Bs K B H α) (h : H l = Option.none) : α l = Option.none := S.none (S.fresh h)
theorem Bs.at_ (S : Bs K B H α) (h : α l = some c) : ∃ o, H l = some o := S.bk l (S.cel l c h).1
theorem Af.refl (S : Bs K B H α) : Af K B H α B H α := ⟨Sub.refl _, S, fun _ h _ => ⟨h, rfl⟩, fun _ h _ => h, fun _ o e => ⟨o, e⟩⟩
theorem Af.trans (S : Bs K B H α) (a : Af K B H α B1 H1 α1) (b : Af K B1 H1 α1 B2 H2 α2) : Af K B H α B2 H2 α2 := by
  refine ⟨a.sub.trans b.sub, b.bs, fun c h n => ?_, fun c n h => ?_, fun c o e => ?_⟩
  · obtain ⟨h1, h2⟩ := a.keep c h n
    obtain ⟨o, e⟩ := S.bk c h
    obtain ⟨h3, h4⟩ := b.keep c h1 (a.fr c n (by rw [e]; exact fun z => nomatch z))
    exact ⟨h3, h4.trans h2⟩
  · cases q : H c with
    | none => exact absurd q h
    | some o =>
      obtain ⟨o', e'⟩ := a.grow c o q
      exact b.fr c (a.fr c n h) (by rw [e']; exact fun z => nomatch z)
  · obtain ⟨o', e'⟩ := a.grow c o e
    exact b.grow c o' e'
theorem SR.step (S : SR K B σ H ρ α) (a : Af K B H α B' H' α') : SR K B' σ H' ρ α' := ⟨S.len, fun i d e => by
  obtain ⟨v, g1, g2⟩ := S.val i d e
  exact ⟨v, g1, g2.mono a.sub⟩, a.bs⟩
/-- the heap only grew -/
theorem Bs.grow (S : Bs K B H α) (e : Sub H H') : Bs K B H' α := ⟨fun a c h => by
  obtain ⟨h1, h2⟩ := S.cel a c h
  obtain ⟨u, g⟩ := h2.ne
  refine ⟨h1, ?_⟩
  rw [g] at h2
  rw [e _ _ g]
  exact h2.mono (hsub e), fun a h => by
  obtain ⟨o, g⟩ := S.bk a h
  exact ⟨o, e _ _ g⟩⟩
theorem Af.of_sub (S : Bs K B H α) (e : Sub H H') : Af K B H α B H' α := ⟨hsub e, S.grow e, fun b h _ => ⟨h, by
  obtain ⟨o, g⟩ := S.bk b h
  rw [g, e _ _ g]⟩, fun _ h _ => h, fun b o g => ⟨o, e _ _ g⟩⟩
/-- a new cell -/
theorem Af.cell (S : Bs K B H α) (e : Sub H H') (h : H l = none) (o : CellAt K (hide (ins l B) H') (H' l) c) : Af K B H α (ins l B) H' (aset α l c) := by
  have hs : Sub (hide B H) (hide (ins l B) H') := sub_ins h (hsub e)
  refine ⟨hs, ⟨fun a d q => ?_, fun a q => ?_⟩, fun b hb n => ⟨ins_of hb, ?_⟩, fun b n hb => ?_, fun b o g => ⟨o, e _ _ g⟩⟩
  · by_cases z : a = l
    · subst z
      rw [aset_same] at q
      cases q
      exact ⟨ins_self, o⟩
    · rw [aset_ne z] at q
      obtain ⟨h1, h2⟩ := S.cel a d q
      obtain ⟨u, g⟩ := h2.ne
      refine ⟨ins_of h1, ?_⟩
      rw [g] at h2
      rw [e _ _ g]
      exact h2.mono hs
  · rcases ins_or q with z | z
    · subst z
      exact o.ne
    · obtain ⟨o', g⟩ := S.bk a z
      exact ⟨o', e _ _ g⟩
  · obtain ⟨o', g⟩ := S.bk b hb
    rw [g, e _ _ g]
  · by_cases z : b = l
    · subst z
      exact absurd h hb
    · rw [aset_ne z]
      exact n
/-- another content of a cell -/
theorem Af.write {o : HO} (S : Bs K B H α) (h : α l = some d) (hc : CellAt K (hide B H) (some o) c) : Af K B H α B (upd H l o) (aset α l c) := by
  have bl : B l = true := (S.cel l d h).1
  have hh : hide B (upd H l o) = hide B H := by
    funext a
    unfold hide
    by_cases q : a = l
    · rw [q, bl]
      rfl
    · rw [upd_ne q]
  have hs : Sub (hide B H) (hide B (upd H l o)) := by rw [hh]; exact Sub.refl _
  refine ⟨hs, ⟨fun a e q => ?_, fun a q => ?_⟩, fun b hb n => ⟨hb, ?_⟩, fun b n hb => ?_, fun b u g => ?_⟩
  · by_cases z : a = l
    · subst z
      rw [aset_same] at q
      cases q
      rw [upd_same, hh]
      exact ⟨bl, hc⟩
    · rw [aset_ne z] at q
      obtain ⟨h1, h2⟩ := S.cel a e q
      rw [upd_ne z, hh]
      exact ⟨h1, h2⟩
  · by_cases z : a = l
    · exact ⟨o, by rw [z, upd_same]⟩
    · rw [upd_ne z]
      exact S.bk a q
  · rw [upd_ne (fun z => by rw [z, h] at n; cases n)]
  · rw [aset_ne (fun z => by rw [z, h] at n; cases n)]
    exact n
  · by_cases z : b = l
    · exact ⟨o, by rw [z, upd_same]⟩
    · exact ⟨u, by rw [upd_ne z]; exact g⟩
/-- a cell becomes a datum -/
theorem Af.frz (S : Bs K B H α) (a : Af K B H α B' H' α') (h : α' l = some c) : Af K B H α (del l B') H' (adel α' l) ∧ Rp K (hide (del l B') H') (.ref l) c := by
  have hs : Sub (hide B' H') (hide (del l B') H') := hide_mono fun b hb => by
    by_cases z : b = l
    · subst z; rw [del_self] at hb; cases hb
    · rw [del_ne z] at hb; exact hb
  obtain ⟨bl, hc⟩ := a.bs.cel l c h
  refine ⟨⟨a.sub.trans hs, ⟨fun b e q => ?_, fun b q => ?_⟩, fun b hb n => ?_, fun b n hb => ?_, a.grow⟩, ?_⟩
  · have z : b ≠ l := fun z => by rw [z, adel_same] at q; cases q
    rw [adel_ne z] at q
    obtain ⟨h1, h2⟩ := a.bs.cel b e q
    exact ⟨by rw [del_ne z]; exact h1, h2.mono hs⟩
  · have z : b ≠ l := fun z => by rw [z, del_self] at q; cases q
    rw [del_ne z] at q
    exact a.bs.bk b q
  · obtain ⟨h1, h2⟩ := a.keep b hb n
    have z : b ≠ l := fun z => by
      subst z
      obtain ⟨o, g⟩ := S.bk b hb
      rw [a.fr b n (by rw [g]; exact fun z => nomatch z)] at h
      cases h
    exact ⟨by rw [del_ne z]; exact h1, h2⟩
  · by_cases z : b = l
    · rw [z, adel_same]
    · rw [adel_ne z]
      exact a.fr b n hb
  · refine CellAt.rp ?_
    obtain ⟨o, g⟩ := hc.ne
    rw [g] at hc
    rw [hide_of del_self g]
    exact hc.mono hs
/-- the new cells are forgotten -/
theorem Af.rst (S : Bs K B H α) (a : Af K B H α B' H' α') : ∃ B2, Af K B H α B2 H' (arst α α') ∧ Sub (hide B' H') (hide B2 H') := by
  have hs : Sub (hide B' H') (hide (fun b => B' b && ((α b).isSome || !(α' b).isSome)) H') := hide_mono fun b hb => by simp at hb; exact hb.1
  refine ⟨_, ⟨a.sub.trans hs, ⟨fun b e q => ?_, fun b q => a.bs.bk b (by simp at q; exact q.1)⟩, fun b hb n => ?_, fun b n hb => ?_, a.grow⟩, hs⟩
  · unfold arst at q
    split at q
    · rename_i z
      obtain ⟨h1, h2⟩ := a.bs.cel b e q
      exact ⟨by simp [h1, z], h2.mono hs⟩
    · cases q
  · obtain ⟨h1, h2⟩ := a.keep b hb n
    obtain ⟨o, g⟩ := S.bk b hb
    have z := a.fr b n (by rw [g]; exact fun z => nomatch z)
    exact ⟨by simp [h1, z], h2⟩
  · unfold arst
    rw [n]
    rfl
theorem vw_rs (S : Bs K B H α) (h : Rp K (hide B H) v c) (e : vw α c = some d) : Rs K B H v d := by
  have go : vw α c = some c → Rs K B H v d := fun z => by
    rw [z] at e
    cases e
    exact .vis h
  cases h with
  | ref => exact (S.cel _ _ e).2.rs
  | dct a r =>
    cases r with
    | nil => exact go rfl
    | @cons k _ _ _ _ r1 r2 => cases k <;> exact go rfl
  | _ => exact go rfl
theorem Rp.cell {a : Addr} {H : Hp} (h : Rp K H v (dref a)) : v = .ref a := by
  generalize e : dref a = z at h
  cases h with
  | ref =>
    have e1 := List.cons.inj (PyData.dict.inj e)
    have e2 : PyData.int (Int.ofNat a) = PyData.int (Int.ofNat _) := congrArg Prod.snd e1.1
    rw [Int.ofNat.inj (PyData.int.inj e2)]
  | dct _ r =>
    cases r with
    | nil => cases e
    | @cons k _ _ _ _ r1 r2 =>
      have e1 := (List.cons.inj (PyData.dict.inj e)).1
      have e2 : PyData.bool false = kD k := congrArg Prod.fst e1
      cases k <;> cases e2
  | _ => cases e
end
structure C0 where
  P : Program
  w : World
  K : Frag
  mg : Str → Option Value
  base : Heap
  k : Nat
  top : Bool
  cm : Bool := true
  xc : Option (Addr × Addr × Nat) := none
  oc : List Str := []
abbrev C0.at_ (c : C0) (k : Nat) : C0 := { c with k := k, top := true, cm := true, xc := none, oc := [] }
/-- the contexts of a block of a def: its names, its scope -/
structure In (c : C0) (N : List Str) (sc : Scope) (X : Cx) : Prop where
  P : X.prog = c.P
  w : X.w = c.w
  K : X.K = c.K
  mg : X.mg = c.mg
  base : X.base = c.base
  rm : c.cm = true → Room c.k X.A
  un : X.A.units + 200 < cLine
  N : X.N = N
  sc : X.env.scope = sc
  calm : c.cm = true → X.calm = true
  fn : c.top = true → X.fn = fun _ => true
  po : PassesOwn (model X.prog X.w) X.A X.env X.xe
  fs : c.top = true → X.stack = X.env :: X.outer ∧ X.env.frame = some X.env.locals
  xi : ∀ a dx C, c.xc = some (a, dx, C) → ∃ (Y : Cx) (oe : Obj) (pn : List (Addr × Obj)), X = Y.suite a ((a, oe) :: pn) ∧ Zc (.ref C) (some dx) oe ∧ ∃ vs, oe.data = .fields vs
  oc : ∀ x, c.oc.contains x = true → X.fn x = true
section
variable {c : C0} {N : List Str} {sc : Scope} {X : Cx}
theorem In.u64 (I : In c N sc X) : X.A.units + 64 < cLine := by have := I.un; omega
theorem In.u65 (I : In c N sc X) : X.A.units + 65 < cLine := by have := I.un; omega
theorem In.gl {x : Str} (I : In c N sc X) (h : sc.names.lookup x = some .globalImplicit) : Gl X x := by
  show X.env.scope.names.lookup x = _
  rw [I.sc]
  exact h
theorem In.vis {x : Str} (I : In c N sc X) (h : Vis sc x) : Vis X.env.scope x := by
  rw [I.sc]
  exact h
end
/-- an exception: its class, its attributes -/
structure Ex where
  C : Nat
  fs : List (D × D)
abbrev QD := D → AH → Prop
abbrev QX := Ex → AH → Prop
abbrev ME := En → AH → QD → QX → Prop
abbrev MT := En → AH → (Bool → AH → Prop) → QX → Prop
abbrev ML := En → AH → (List D → AH → Prop) → QX → Prop
def XR (K : Frag) (Hh : Hp) (cls : Value) (d : Option Addr) (x : Ex) : Prop := cls = .ref x.C ∧ ∃ dx fs, d = some dx ∧ Hh dx = some (.xd fs) ∧ RpF K Hh fs x.fs
theorem XR.mono {K : Frag} {H H' : Hp} {cls : Value} {d : Option Addr} {x : Ex} (e : Sub H H') (h : XR K H cls d x) : XR K H' cls d x := by
  obtain ⟨h1, dx, fs, h2, h3, h4⟩ := h
  exact ⟨h1, dx, fs, h2, e _ _ h3, h4.mono e⟩
/-- what the wish W grants: the exceptions that E takes -/
def SX (K : Frag) (W : WX) (B : Addr → Bool) (σ : St) (H : Hp) (α : AH) (E : QX) : Prop := ∀ x B' α' cls d H', Af K B H α B' H' α' → XR K (hide B' H') cls d x → E x α' → W cls d σ H'
theorem SX.after {K : Frag} {W : WX} {B B1 : Addr → Bool} {σ : St} {H H1 : Hp} {α α1 : AH} {E : QX} (S : Bs K B H α) (h : SX K W B σ H α E) (a : Af K B H α B1 H1 α1) : SX K W B1 σ H1 α1 E := fun x B' α' cls d H' b => h x B' α' cls d H' (a.trans S b)
theorem SX.never {K : Frag} {W : WX} {B : Addr → Bool} {σ : St} {H : Hp} {α : AH} : SX K W B σ H α (fun _ _ => False) := fun _ _ _ _ _ _ _ _ z => z.elim
/-- the reading of an expression grants what m wishes: a datum | a new list or dict, as a cell -/
def Sd (K : Frag) (W : WX) (t : TE) (m : ME) : Prop :=
  ∀ B σ H ρ α, SR K B σ H ρ α → ∀ Qm Em, m ρ α Qm Em → ∀ Q : VK, (∀ v d B' H' α', Af K B H α B' H' α' → Rp K (hide B' H') v d → Qm d α' → Q v H') → SX K W B σ H α Em → t σ H Q
def Sf (K : Frag) (W : WX) (t : TE) (m : ME) : Prop :=
  ∀ B σ H ρ α, SR K B σ H ρ α → ∀ Qm Em, m ρ α Qm Em → ∀ Q : VK, (∀ l c B' H' α', Af K B H α B' H' (aset α' l c) → α' l = none → Qm c α' → Q (.ref l) H') → SX K W B σ H α Em → t σ H Q
def Stt (K : Frag) (W : WX) (t : TT) (m : MT) : Prop :=
  ∀ B σ H ρ α, SR K B σ H ρ α → ∀ Qm Em, m ρ α Qm Em → ∀ Q : Bool → Hp → Prop, (∀ b B' H' α', Af K B H α B' H' α' → Qm b α' → Q b H') → SX K W B σ H α Em → t σ H Q
def SA (K : Frag) (W : WX) (t : TA) (m : ML) : Prop :=
  ∀ B σ H ρ α, SR K B σ H ρ α → ∀ Qm Em, m ρ α Qm Em → ∀ Q : List V → Hp → Prop, (∀ vs ds B' H' α', Af K B H α B' H' α' → RpL K (hide B' H') vs ds → Qm ds α' → Q vs H') → SX K W B σ H α Em → t σ H Q
def JE (c : C0) (N : List Str) (sc : Scope) (e : Expr) (m : ME) : Prop := ∃ t : WX → TE, (∀ X W, In c N sc X → Takes X W → PE X e (t W)) ∧ ∀ W, Sd c.K W (t W) m
def JF (c : C0) (N : List Str) (sc : Scope) (e : Expr) (m : ME) : Prop := ∃ t : WX → TE, (∀ X W, In c N sc X → Takes X W → PE X e (t W)) ∧ ∀ W, Sf c.K W (t W) m
def JT (c : C0) (N : List Str) (sc : Scope) (e : Expr) (m : MT) : Prop := ∃ t : WX → TT, (∀ X W, In c N sc X → Takes X W → PT X e (t W)) ∧ ∀ W, Stt c.K W (t W) m
def JW (c : C0) (N : List Str) (sc : Scope) (e : Expr) (m : MT) : Prop := ∃ t : WX → TT, (∀ X W, In c N sc X → Takes X W → PW X e (t W)) ∧ ∀ W, Stt c.K W (t W) m
def JL (c : C0) (N : List Str) (sc : Scope) (es : List Expr) (m : ML) : Prop := ∃ t : WX → TA, (∀ X W, In c N sc X → Takes X W → PA X es (t W)) ∧ ∀ W, SA c.K W (t W) m
end Hz
namespace Hz
open PySem L2
def oq {α : Type} (o : Option α) (Q : α → Prop) : Prop := ∃ z, o = some z ∧ Q z
def kC (d : D) : ME := fun ρ α Q E => Q d α
def kV (i : Nat) : ME := fun ρ α Q E => ∃ d, ρ[i]? = some (some d) ∧ Q d α
section
variable {c : C0} {N : List Str} {sc : Scope} {K : Frag} {W : WX}
theorem sd_c {v : V} {d : D} (h : ∀ H, Rp K H v d) : Sd K W (tC v) (kC d) := fun B σ H ρ α S Qm Em m Q q x => q v d B H α (Af.refl S.bs) (h _) m
theorem ce_int {i j pos} : JE c N sc (.Constant (.int i) j pos) (kC (.int i)) := ⟨_, fun _ _ _ _ => pe_int, fun _ => sd_c fun _ => .int i⟩
theorem ce_bl {i j pos} : JE c N sc (.Constant (.bool i) j pos) (kC (.bool i)) := ⟨_, fun _ _ _ _ => pe_bl, fun _ => sd_c fun _ => .bl i⟩
theorem ce_non {j pos} : JE c N sc (.Constant .none j pos) (kC .none) := ⟨_, fun _ _ _ _ => pe_non, fun _ => sd_c fun _ => .non⟩
theorem ce_str {i j pos} : JE c N sc (.Constant (.str i) j pos) (kC (.str i)) := ⟨_, fun _ _ _ _ => pe_str, fun _ => sd_c fun _ => .str i⟩
theorem sd_var {i : Nat} : Sd K W (tVar i) (kV i) := fun B σ H ρ α S Qm Em m Q q x => by
  obtain ⟨d, h, m⟩ := m
  obtain ⟨v, h1, h2⟩ := S.val i _ h
  exact ⟨v, h1, q v d B H α (Af.refl S.bs) h2 m⟩
theorem ce_var {i : Nat} {x : Str} {pos : Pos} (hN : N[i]? = some x) (hv : Vis sc x) (hd : (x == ("__debug__" : Str)) = false := by decide) (hcd : (x == ("__classdict__" : Str)) = false := by decide) : JE c N sc (.Name x pos) (kV i) :=
  ⟨fun _ => tVar i, fun X _ I _ => pe_var (by rw [I.N]; exact hN) (I.vis hv) hd hcd, fun _ => sd_var⟩
/-- a name of the module: a constant -/
theorem ce_glob {x : Str} {v : V} {u : Value} {d : D} {pos : Pos} (hg : sc.names.lookup x = some .globalImplicit) (hm : c.mg x = some u) (r : RelV v u) (h : ∀ H, Rp c.K H v d) (hd : (x == ("__debug__" : Str)) = false := by decide) : JE c N sc (.Name x pos) (kC d) :=
  ⟨fun _ => tC v, fun X _ I _ => pe_glob (I.gl hg) (by rw [I.mg]; exact hm) r hd, fun _ => sd_c h⟩
end
def newK (m : ME) : ME := fun ρ α Q E => m ρ α (fun c α1 => ∀ p, α1 p = none → Q (dref p) (aset α1 p c)) E
def frzK (m : ME) : ME := fun ρ α Q E => m ρ α (fun d α1 => ∃ p c, d = dref p ∧ α1 p = some c ∧ Q c (adel α1 p)) E
section
variable {c : C0} {N : List Str} {sc : Scope} {e : Expr} {m : ME}
theorem JF.je (h : JF c N sc e m) : JE c N sc e m := by
  obtain ⟨t, h1, h2⟩ := h
  refine ⟨t, h1, fun W B σ H ρ α S Qm Em mm Q q x => h2 W B σ H ρ α S Qm Em mm Q (fun l c' B' H' α' A hl qm => ?_) x⟩
  obtain ⟨A2, r⟩ := A.frz S.bs aset_same
  rw [adel_aset hl] at A2
  exact q _ c' _ H' α' A2 r qm
theorem JF.new (h : JF c N sc e m) : JE c N sc e (newK m) := by
  obtain ⟨t, h1, h2⟩ := h
  refine ⟨t, h1, fun W B σ H ρ α S Qm Em mm Q q x => h2 W B σ H ρ α S _ Em mm Q (fun l c' B' H' α' A hl qm => ?_) x⟩
  exact q _ _ _ H' _ A .ref (qm l hl)
theorem JE.frz (h : JE c N sc e m) : JE c N sc e (frzK m) := by
  obtain ⟨t, h1, h2⟩ := h
  refine ⟨t, h1, fun W B σ H ρ α S Qm Em mm Q q x => h2 W B σ H ρ α S _ Em mm Q (fun v d B' H' α' A r qm => ?_) x⟩
  obtain ⟨p, c', rfl, hp, qm⟩ := qm
  obtain ⟨A2, r2⟩ := A.frz S.bs hp
  rw [r.cell]
  exact q _ c' _ H' _ A2 r2 qm
end
/-- a two-place operation, by data -/
structure OpD (K : Frag) (XS : Cx → Prop) (f : Value → Value → Sem Value) (g : D → D → Option D) : Prop where
  ex : ∃ r : R2, (∀ X, XS X → OpR X f r) ∧ ∀ (B : Addr → Bool) (H : Hp) (x y : V) (d e z : D), (∀ a, B a = true → ∃ o, H a = some o) → Rs K B H x d → Rs K B H y e → g d e = some z →
    ∀ Q : VK, (∀ v H', Sub H H' → Rp K (hide B H') v z → Q v H') → r x y H Q
def bop (g : D → D → Option D) (ma mb : ME) : ME := fun ρ α Q E => ma ρ α (fun d α1 => mb ρ α1 (fun e α2 => oq (vw α2 d) fun d' => oq (vw α2 e) fun e' => oq (g d' e') fun z => Q z α2) E) E
section
variable {K : Frag} {W : WX} {r : R2} {ta tb : TE} {ma mb : ME} {g : D → D → Option D}
theorem sd_bop (ha : Sd K W ta ma) (hb : Sd K W tb mb) (hr : ∀ (B : Addr → Bool) (H : Hp) (x y : V) (d e z : D), (∀ a, B a = true → ∃ o, H a = some o) → Rs K B H x d → Rs K B H y e → g d e = some z →
    ∀ Q : VK, (∀ v H', Sub H H' → Rp K (hide B H') v z → Q v H') → r x y H Q) : Sd K W (tOp r ta tb) (bop g ma mb) := fun B σ H ρ α S Qm Em m Q q x => by
  refine ha B σ H ρ α S _ Em m _ (fun v d B1 H1 α1 A1 r1 m => ?_) x
  refine hb B1 σ H1 ρ α1 (S.step A1) _ Em m _ (fun u e B2 H2 α2 A2 r2 m => ?_) (x.after S.bs A1)
  obtain ⟨d', hd, e', he, z, hz, m⟩ := m
  refine hr B2 H2 v u d' e' z A2.bs.bk (vw_rs A2.bs (r1.mono A2.sub) hd) (vw_rs A2.bs r2 he) hz _ fun w H3 s3 r3 => ?_
  exact q w z B2 H3 α2 ((A1.trans S.bs A2).trans S.bs (Af.of_sub A2.bs s3)) r3 m
end
section
variable {c : C0} {N : List Str} {sc : Scope} {a b d : Expr} {ma mb md : ME} {g g' : D → D → Option D} {pos : Pos}
theorem ce_op {op : Operator} (ho : OpD c.K (In c N sc) (binaryOp op) g) (ha : JE c N sc a ma) (hb : JE c N sc b mb) : JE c N sc (.BinOp a op b pos) (bop g ma mb) := by
  obtain ⟨r, h1, h2⟩ := ho.ex
  obtain ⟨ta, p1, s1⟩ := ha
  obtain ⟨tb, p2, s2⟩ := hb
  exact ⟨_, fun X W I T => pe_op (h1 X I) (p1 X W I T) (p2 X W I T), fun W => sd_bop (s1 W) (s2 W) h2⟩
theorem ce_cmp {op : CmpOp} (ho : OpD c.K (In c N sc) (compareOp op) g) (ha : JE c N sc a ma) (hb : JE c N sc b mb) (hm : behindInMarks op b = false := by rfl) : JE c N sc (.Compare a [op] [b] pos) (bop g ma mb) := by
  obtain ⟨r, h1, h2⟩ := ho.ex
  obtain ⟨ta, p1, s1⟩ := ha
  obtain ⟨tb, p2, s2⟩ := hb
  exact ⟨_, fun X W I T => pe_cmpR (h1 X I) (p1 X W I T) (p2 X W I T) hm, fun W => sd_bop (s1 W) (s2 W) h2⟩
end
def tst (m : ME) : MT := fun ρ α Q E => m ρ α (fun d α1 => ∃ b, d = .bool b ∧ Q b α1) E
def valK (m : MT) : ME := fun ρ α Q E => m ρ α (fun b α1 => Q (.bool b) α1) E
def andK (ma mb : MT) : MT := fun ρ α Q E => ma ρ α (fun b α1 => if b = true then mb ρ α1 Q E else Q false α1) E
def orK (ma mb : MT) : MT := fun ρ α Q E => ma ρ α (fun b α1 => if b = true then Q true α1 else mb ρ α1 Q E) E
def notK (ma : MT) : MT := fun ρ α Q E => ma ρ α (fun b α1 => Q (!b) α1) E
/-- and, or as values: all but the last bools -/
def andV (ma : MT) (mb : ME) : ME := fun ρ α Q E => ma ρ α (fun b α1 => if b = true then mb ρ α1 Q E else Q (.bool false) α1) E
def orV (ma : MT) (mb : ME) : ME := fun ρ α Q E => ma ρ α (fun b α1 => if b = true then Q (.bool true) α1 else mb ρ α1 Q E) E
/-- a < b < c -/
def chainK (g g' : D → D → Option D) (ma mb md : ME) : ME := fun ρ α Q E => ma ρ α (fun d α1 => mb ρ α1 (fun e α2 => oq (g d e) fun z => ∃ b, z = .bool b ∧ if b = true then md ρ α2 (fun f α3 => oq (g' e f) fun z' => Q z' α3) E else Q (.bool false) α2) E) E
def ifK (mt : MT) (ma mb : ME) : ME := fun ρ α Q E => mt ρ α (fun b α1 => if b = true then ma ρ α1 Q E else mb ρ α1 Q E) E
section
variable {c : C0} {N : List Str} {sc : Scope} {e a b d : Expr} {ma mb md : ME} {ta tb : MT} {g g' : D → D → Option D} {pos : Pos} {rest : List Expr} {K : Frag} {W : WX}
theorem st_tst {te : TE} (h : Sd K W te ma) : Stt K W (tB te) (tst ma) := fun B σ H ρ α S Qm Em m Q q x => h B σ H ρ α S _ Em m _ (fun v d B' H' α' A r m => by
  obtain ⟨k, rfl, m⟩ := m
  exact ⟨k, r.booli, q k B' H' α' A m⟩) x
theorem st_tst2 {te : TE} (h : Sd K W te ma) : Stt K W (tTest te) (tst ma) := fun B σ H ρ α S Qm Em m Q q x => h B σ H ρ α S _ Em m _ (fun v d B' H' α' A r m => by
  obtain ⟨k, rfl, m⟩ := m
  exact ⟨k, r.booli, q k B' H' α' A m⟩) x
theorem jt_val (h : JE c N sc e ma) (he : ∀ (env : PySem.Env) (whole : Sem Value), isTrue e env whole = (do let v ← whole; standAt e.pos; holding [v] (truthy v)) := by intros; rfl) : JT c N sc e (tst ma) := by
  obtain ⟨t, h1, h2⟩ := h
  exact ⟨_, fun X W I T => pt_val (h1 X W I T) (fun w => he _ w), fun W => st_tst (h2 W)⟩
theorem jt_cmp {op : CmpOp} (ho : OpD c.K (In c N sc) (compareOp op) g) (ha : JE c N sc a ma) (hb : JE c N sc b mb) (hm : behindInMarks op b = false := by rfl) : JT c N sc (.Compare a [op] [b] pos) (tst (bop g ma mb)) := by
  obtain ⟨r, h1, h2⟩ := ho.ex
  obtain ⟨ta, p1, s1⟩ := ha
  obtain ⟨tb, p2, s2⟩ := hb
  exact ⟨_, fun X W I T => pt_cmpR (h1 X I) (p1 X W I T) (p2 X W I T) hm, fun W => st_tst2 (sd_bop (s1 W) (s2 W) h2)⟩
theorem st_and {t u : TT} (h1 : Stt K W t ta) (h2 : Stt K W u tb) : Stt K W (tAnd t u) (andK ta tb) := fun B σ H ρ α S Qm Em m Q q x =>
  h1 B σ H ρ α S _ Em m _ (fun b B1 H1 α1 A1 m => by
    cases b with
    | true => exact h2 B1 σ H1 ρ α1 (S.step A1) _ Em m Q (fun b B2 H2 α2 A2 m => q b B2 H2 α2 (A1.trans S.bs A2) m) (x.after S.bs A1)
    | false => exact q false B1 H1 α1 A1 m) x
theorem st_or {t u : TT} (h1 : Stt K W t ta) (h2 : Stt K W u tb) : Stt K W (tOr t u) (orK ta tb) := fun B σ H ρ α S Qm Em m Q q x =>
  h1 B σ H ρ α S _ Em m _ (fun b B1 H1 α1 A1 m => by
    cases b with
    | false => exact h2 B1 σ H1 ρ α1 (S.step A1) _ Em m Q (fun b B2 H2 α2 A2 m => q b B2 H2 α2 (A1.trans S.bs A2) m) (x.after S.bs A1)
    | true => exact q true B1 H1 α1 A1 m) x
theorem st_not {t : TT} (h1 : Stt K W t ta) : Stt K W (tNot t) (notK ta) := fun B σ H ρ α S Qm Em m Q q x => h1 B σ H ρ α S _ Em m _ (fun b B1 H1 α1 A1 m => q _ B1 H1 α1 A1 m) x
theorem jw_and1 (h : JT c N sc a ta) : JW c N sc (.BoolOp .And [a] pos) ta := by
  obtain ⟨t, h1, h2⟩ := h
  exact ⟨t, fun X W I T => pw_and1 (h1 X W I T), h2⟩
theorem jw_or1 (h : JT c N sc a ta) : JW c N sc (.BoolOp .Or [a] pos) ta := by
  obtain ⟨t, h1, h2⟩ := h
  exact ⟨t, fun X W I T => pw_or1 (h1 X W I T), h2⟩
theorem jw_and (h : JT c N sc a ta) (k : JW c N sc (.BoolOp .And (b :: rest) pos) tb) : JW c N sc (.BoolOp .And (a :: b :: rest) pos) (andK ta tb) := by
  obtain ⟨t, h1, h2⟩ := h
  obtain ⟨u, k1, k2⟩ := k
  exact ⟨_, fun X W I T => pw_and (h1 X W I T) (k1 X W I T), fun W => st_and (h2 W) (k2 W)⟩
theorem jw_or (h : JT c N sc a ta) (k : JW c N sc (.BoolOp .Or (b :: rest) pos) tb) : JW c N sc (.BoolOp .Or (a :: b :: rest) pos) (orK ta tb) := by
  obtain ⟨t, h1, h2⟩ := h
  obtain ⟨u, k1, k2⟩ := k
  exact ⟨_, fun X W I T => pw_or (h1 X W I T) (k1 X W I T), fun W => st_or (h2 W) (k2 W)⟩
theorem jt_w (h : JW c N sc a ta) : JT c N sc a ta := by
  obtain ⟨t, h1, h2⟩ := h
  exact ⟨t, fun X W I T => (h1 X W I T).pt, h2⟩
theorem jt_not (h : JT c N sc a ta) : JT c N sc (.UnaryOp .Not a pos) (notK ta) := by
  obtain ⟨t, h1, h2⟩ := h
  exact ⟨_, fun X W I T => pt_not (h1 X W I T), fun W => st_not (h2 W)⟩
theorem sd_chain {r r' : R2} {ta tb tc : TE} (ha : Sd K W ta ma) (hb : Sd K W tb mb) (hc : Sd K W tc md)
    (hr : ∀ (B : Addr → Bool) (H : Hp) (x y : V) (d e z : D), (∀ a, B a = true → ∃ o, H a = some o) → Rs K B H x d → Rs K B H y e → g d e = some z → ∀ Q : VK, (∀ v H', Sub H H' → Rp K (hide B H') v z → Q v H') → r x y H Q)
    (hr' : ∀ (B : Addr → Bool) (H : Hp) (x y : V) (d e z : D), (∀ a, B a = true → ∃ o, H a = some o) → Rs K B H x d → Rs K B H y e → g' d e = some z → ∀ Q : VK, (∀ v H', Sub H H' → Rp K (hide B H') v z → Q v H') → r' x y H Q) :
    Sd K W (tChain r r' ta tb tc) (chainK g g' ma mb md) := fun B σ H ρ α S Qm Em m Q q x => by
  refine ha B σ H ρ α S _ Em m _ (fun v d B1 H1 α1 A1 r1 m => ?_) x
  refine hb B1 σ H1 ρ α1 (S.step A1) _ Em m _ (fun u e B2 H2 α2 A2 r2 m => ?_) (x.after S.bs A1)
  obtain ⟨z, hz, k, rfl, m⟩ := m
  refine hr B2 H2 v u d e _ A2.bs.bk (.vis (r1.mono A2.sub)) (.vis r2) hz _ fun w H3 s3 r3 => ?_
  have A3 := (A1.trans S.bs A2).trans S.bs (Af.of_sub A2.bs s3)
  refine ⟨k, r3.booli, ?_⟩
  cases k with
  | true =>
    refine hc B2 σ H3 ρ α2 (S.step A3) _ Em m _ (fun y f B4 H4 α4 A4 r4 m => ?_) (x.after S.bs A3)
    obtain ⟨z', hz', m⟩ := m
    refine hr' B4 H4 u y e f z' A4.bs.bk (.vis ((r2.mono (hsub s3)).mono A4.sub)) (.vis r4) hz' _ fun v5 H5 s5 r5 => ?_
    exact q v5 z' B4 H5 α4 ((A3.trans S.bs A4).trans S.bs (Af.of_sub A4.bs s5)) r5 m
  | false => exact q _ _ B2 H3 α2 A3 (.bl false) m
theorem jt_chain {op op' : CmpOp} (ho : OpD c.K (In c N sc) (compareOp op) g) (ho' : OpD c.K (In c N sc) (compareOp op') g') (ha : JE c N sc a ma) (hb : JE c N sc b mb) (hc : JE c N sc d md)
    (hm : lastMarks [op, op'] [b, d] = false := by with_unfolding_all rfl) : JT c N sc (.Compare a [op, op'] [b, d] pos) (tst (chainK g g' ma mb md)) := by
  obtain ⟨r, h1, h2⟩ := ho.ex
  obtain ⟨r', h1', h2'⟩ := ho'.ex
  obtain ⟨ta, p1, s1⟩ := ha
  obtain ⟨tb, p2, s2⟩ := hb
  obtain ⟨tc, p3, s3⟩ := hc
  exact ⟨_, fun X W I T => pt_chain (h1 X I) (h1' X I) (p1 X W I T) (p2 X W I T) (p3 X W I T) hm, fun W => st_tst2 (sd_chain (s1 W) (s2 W) (s3 W) h2 h2')⟩
theorem je_one {op} (h : JE c N sc a ma) : JE c N sc (.BoolOp op [a] pos) ma := by
  obtain ⟨t, h1, h2⟩ := h
  exact ⟨t, fun X W I T => pe_one (h1 X W I T), h2⟩
theorem je_and (h : JE c N sc a ma) (k : JE c N sc (.BoolOp .And (b :: rest) pos) mb) : JE c N sc (.BoolOp .And (a :: b :: rest) pos) (andV (tst ma) mb) := by
  obtain ⟨t, h1, h2⟩ := h
  obtain ⟨u, k1, k2⟩ := k
  refine ⟨_, fun X W I T => pe_and (h1 X W I T) (k1 X W I T), fun W B σ H ρ α S Qm Em m Q q x => ?_⟩
  refine h2 W B σ H ρ α S _ Em m _ (fun v d B1 H1 α1 A1 r m => ?_) x
  obtain ⟨k, rfl, m⟩ := m
  refine ⟨k, r.booli, ?_⟩
  cases k with
  | true => exact k2 W B1 σ H1 ρ α1 (S.step A1) _ Em m Q (fun v d B2 H2 α2 A2 r2 m => q v d B2 H2 α2 (A1.trans S.bs A2) r2 m) (x.after S.bs A1)
  | false => exact q _ _ B1 H1 α1 A1 (.bl false) m
theorem je_not (h : JE c N sc a ma) : JE c N sc (.UnaryOp .Not a pos) (valK (notK (tst ma))) := by
  obtain ⟨t, h1, h2⟩ := h
  refine ⟨_, fun X W I T => pe_not (h1 X W I T), fun W B σ H ρ α S Qm Em m Q q x => ?_⟩
  refine h2 W B σ H ρ α S _ Em m _ (fun v d B1 H1 α1 A1 r m => ?_) x
  obtain ⟨k, rfl, m⟩ := m
  exact ⟨k, r.booli, q _ _ B1 H1 α1 A1 (.bl _) m⟩
theorem je_if (ht : JT c N sc d ta) (ha : JE c N sc a ma) (hb : JE c N sc b mb) : JE c N sc (.IfExp d a b pos) (ifK ta ma mb) := by
  obtain ⟨t, h1, h2⟩ := ht
  obtain ⟨u, k1, k2⟩ := ha
  obtain ⟨w, l1, l2⟩ := hb
  refine ⟨_, fun X W I T => pe_ifExp (h1 X W I T) (k1 X W I T) (l1 X W I T), fun W B σ H ρ α S Qm Em m Q q x => ?_⟩
  refine h2 W B σ H ρ α S _ Em m _ (fun k B1 H1 α1 A1 m => ?_) x
  cases k with
  | true => exact k2 W B1 σ H1 ρ α1 (S.step A1) _ Em m Q (fun v d B2 H2 α2 A2 r2 m => q v d B2 H2 α2 (A1.trans S.bs A2) r2 m) (x.after S.bs A1)
  | false => exact l2 W B1 σ H1 ρ α1 (S.step A1) _ Em m Q (fun v d B2 H2 α2 A2 r2 m => q v d B2 H2 α2 (A1.trans S.bs A2) r2 m) (x.after S.bs A1)
end
def nilK : ML := fun ρ α Q E => Q [] α
def consK (ma : ME) (mr : ML) : ML := fun ρ α Q E => ma ρ α (fun d α1 => mr ρ α1 (fun ds α2 => Q (d :: ds) α2) E) E
def tupK (m : ML) : ME := fun ρ α Q E => m ρ α (fun ds α1 => ds.length ≤ 100000 ∧ Q (.tuple ds) α1) E
def lstK (m : ML) : ME := fun ρ α Q E => m ρ α (fun ds α1 => ds.length ≤ 100000 ∧ Q (.list ds) α1) E
section
variable {c : C0} {N : List Str} {sc : Scope} {e : Expr} {es : List Expr} {ma : ME} {mr : ML} {pos : Pos} {K : Frag} {W : WX}
theorem sa_nil : SA K W tNil nilK := fun B σ H ρ α S Qm Em m Q q x => q [] [] B H α (Af.refl S.bs) .nil m
theorem jl_nil : JL c N sc [] nilK := ⟨_, fun _ _ _ _ => pa_nil, fun _ => sa_nil⟩
theorem sa_cons {te : TE} {t : TA} (h : Sd K W te ma) (k : SA K W t mr) : SA K W (tCons te t) (consK ma mr) := fun B σ H ρ α S Qm Em m Q q x =>
  h B σ H ρ α S _ Em m _ (fun v d B1 H1 α1 A1 r1 m => k B1 σ H1 ρ α1 (S.step A1) _ Em m _ (fun vs ds B2 H2 α2 A2 r2 m => q (v :: vs) (d :: ds) B2 H2 α2 (A1.trans S.bs A2) (.cons (r1.mono A2.sub) r2) m) (x.after S.bs A1)) x
theorem jl_cons (h : JE c N sc e ma) (k : JL c N sc es mr) (hs : ∀ env, starEach (e :: es) env = (false, eval e env) :: starEach es env := by intros; rfl) : JL c N sc (e :: es) (consK ma mr) := by
  obtain ⟨t, h1, h2⟩ := h
  obtain ⟨u, k1, k2⟩ := k
  exact ⟨_, fun X W I T => pa_cons (h1 X W I T) (k1 X W I T) (hs _), fun W => sa_cons (h2 W) (k2 W)⟩
theorem own_new {H : Hp} {B : Addr → Bool} {p : Addr} {vs : List V} {ds : List D} (h : H p = none) (r : RpL K (hide B H) vs ds) : OwnAt K (hide (ins p B) (upd H p (.lst vs))) (upd H p (.lst vs) p) (.list ds) :=
  ⟨vs, upd_same, r.mono (sub_ins h (hsub (Sub.new h)))⟩
theorem sz5 {n : Nat} (h : n ≤ 100000) : n ≤ sizeLine := Nat.le_trans h (by decide)
/-- a new tuple, its object known -/
theorem tnew {X : Cx} {pins : List (Addr × Obj)} {σ : L2.St} {H : Hp} {s : Shared} {xs : List V} {us : List Value} (I : Inv X pins σ H s) (r : Vals xs us) (z : xs.length ≤ sizeLine) :
    Inv X pins σ (upd H s.heap.objs.size (.frz { cls := .type "tuple", data := .seq us.toArray } (.tup xs))) { s with heap := s.heap.push { cls := .type "tuple", data := .seq us.toArray } } :=
  I.laid (t' := s.toks) (fun b u e => Heap.get?_push_of_some _ e) (Nat.le_refl _) ⟨Heap.get?_push_size _ rfl, z, us, r, ⟨_, Heap.get?_push_size _ rfl, rfl, _, rfl⟩⟩
def tTupX (t : TA) : TE := fun σ H Q => t σ H fun xs H1 => xs.length ≤ sizeLine ∧ ∀ p o, ExT o → H1 p = none → Q (.ref p) (upd H1 p (.frz o (.tup xs)))
theorem pe_tupX {X : Cx} {es : List Expr} {t : TA} {x1} {pos : Pos} (h : PA X es t) : PE X (.Tuple es x1 pos) (tTupX t) := by
  refine ⟨fun pins s σ H Q I hq => ?_⟩
  refine wpAny_Tuple_spliced (thn (h.run pos pins s σ H _ I hq) fun us s1 ⟨xs, H1, I1, r, z, q⟩ => ⟨by rw [← r.length]; exact z, ?_⟩)
  exact ⟨.ref s1.heap.objs.size, _, tnew I1 r z, rfl, q _ _ ⟨rfl, rfl⟩ (I1.hok.fresh (Nat.le_refl _))⟩
theorem tup_new {K : Frag} {B : Addr → Bool} {H : Hp} {p : Addr} {o : Obj} {vs : List V} {ds : List D} (bk : ∀ a, B a = true → ∃ o, H a = some o) (x : ExT o) (h : H p = none) (r : RpL K (hide B H) vs ds) : Sub H (upd H p (.frz o (.tup vs))) ∧ Rp K (hide B (upd H p (.frz o (.tup vs)))) (.ref p) (.tuple ds) := by
  have bp : B p = false := by
    cases q : B p with
    | false => rfl
    | true => obtain ⟨o, e⟩ := bk p q; rw [h] at e; cases e
  exact ⟨Sub.new h, .tup (.inl (.inr ⟨o, hide_of bp upd_same⟩)) (r.mono (hsub (Sub.new h))) fun _ => ⟨o, _, hide_of bp upd_same, x⟩⟩
theorem je_tup {x1} (h : JL c N sc es mr) : JE c N sc (.Tuple es x1 pos) (tupK mr) := by
  obtain ⟨t, h1, h2⟩ := h
  refine ⟨_, fun X W I T => pe_tupX (h1 X W I T), fun W B σ H ρ α S Qm Em m Q q x => ?_⟩
  refine h2 W B σ H ρ α S _ Em m _ (fun vs ds B1 H1 α1 A1 r1 m => ⟨by rw [r1.length]; exact sz5 m.1, fun p o ho hp => ?_⟩) x
  obtain ⟨s1, r2⟩ := tup_new A1.bs.bk ho hp r1
  exact q _ _ _ _ _ (A1.trans S.bs (Af.of_sub A1.bs s1)) r2 m.2
theorem jf_lst (h : JL c N sc es mr) : JF c N sc (.List es pos) (lstK mr) := by
  obtain ⟨t, h1, h2⟩ := h
  refine ⟨_, fun X W I T => pe_lst (h1 X W I T), fun W B σ H ρ α S Qm Em m Q q x => ?_⟩
  refine h2 W B σ H ρ α S _ Em m _ (fun vs ds B1 H1 α1 A1 r1 m => ⟨by rw [r1.length]; exact sz5 m.1, fun p hp => ?_⟩) x
  exact q p _ _ _ α1 (A1.trans S.bs (Af.cell A1.bs (Sub.new hp) hp (.own (own_new hp r1)))) (A1.bs.new hp) m.2
end
abbrev Fm := List D → AH → QD → QX → Prop
/-- what a def promises -/
def spD (K : Frag) (fm : Fm) : Sp := fun vs H Q E => ∃ (B : Addr → Bool) (α : AH) (ds : List D) (Qm : QD) (Em : QX), Bs K B H α ∧ RpL K (hide B H) vs ds ∧ fm ds α Qm Em ∧
  (∀ v d B' H' α', Af K B H α B' H' α' → Rp K (hide B' H') v d → Qm d α' → Q v H') ∧ ∀ x B' α' cls d H', Af K B H α B' H' α' → XR K (hide B' H') cls d x → Em x α' → E cls d H'
/-- a def of the text as its data say -/
abbrev FnD (c : C0) (k : Nat) (x : Str) (np : Nat) (ds : List D) (fm : Fm) : Prop := ∃ (f : Addr) (fd : FuncData) (ps : List Str) (dV : List Value) (dvs : List V), FnOk c.P c.w c.K c.mg c.base (L2.CX c.P c.w) k f fd ps (fun vs H Q E => vs.length = ps.length ∧ spD c.K fm vs H Q E) ∧ c.mg x = some (.ref f) ∧ PySem.W.keepIn c.K (.ref f) = true ∧ Binds c.K fd ps dV ∧ Vals dvs dV ∧ (∀ H, RpL c.K H dvs ds) ∧ ps.length = np + ds.length
theorem FnD.ex {c : C0} {k : Nat} {x : Str} {np : Nat} {ds : List D} {fm : Fm} (h : FnD c k x np ds fm) : ∃ (f : Addr) (fd : FuncData) (ps : List Str) (dV : List Value) (dvs : List V), FnOk c.P c.w c.K c.mg c.base (L2.CX c.P c.w) k f fd ps (fun vs H Q E => vs.length = ps.length ∧ spD c.K fm vs H Q E) ∧ c.mg x = some (.ref f) ∧ PySem.W.keepIn c.K (.ref f) = true ∧ Binds c.K fd ps dV ∧ Vals dvs dV ∧ (∀ H, RpL c.K H dvs ds) ∧ ps.length = np + ds.length := h
section
variable {c : C0} {N : List Str} {sc : Scope} {e : Expr} {es : List Expr} {mr : ML} {pos p : Pos} {K : Frag} {W : WX} {x : Str}
/-- the number of arguments is asked -/
def callN (np : Nat) (fm : Fm) (ds : List D) (m : ML) : ME := fun ρ α Q E => m ρ α (fun as α1 => as.length = np ∧ fm (as ++ ds) α1 Q E) E
theorem sd_call {ta : TA} {fm : Fm} {np n : Nat} {ds : List D} {dvs : List V} (hd : ∀ H, RpL K H dvs ds) (hn : n = np + ds.length) (h : SA K W ta mr) : Sd K W (tCallSD (fun vs H Q E => vs.length = n ∧ spD K fm vs H Q E) dvs (WE W) ta) (callN np fm ds mr) := fun B σ H ρ α S Qm Em m Q q x => by
  refine h B σ H ρ α S _ Em m _ (fun vs as B1 H1 α1 A1 ra m => ?_) x
  refine ⟨by rw [List.length_append, ra.length, m.1, hn, (hd H1).length], B1, α1, as ++ ds, Qm, Em, A1.bs, ra.append (hd _), m.2, fun v d B2 H2 α2 A2 r2 m => q v d B2 H2 α2 (A1.trans S.bs A2) r2 m, fun y B2 α2 cls d H2 A2 r2 m => x y B2 α2 cls d H2 (A1.trans S.bs A2) r2 m⟩
theorem je_call {fm : Fm} {np k : Nat} {ds : List D} (F : FnD c k x np ds fm) (hk : k ≤ c.k) (hg : sc.names.lookup x = some .globalImplicit) (ha : JL c N sc (e :: es) mr) (hc : c.cm = true := by rfl)
    (hdb : (x == ("__debug__" : Str)) = false := by decide) (he : ∀ env, starEach (e :: es) env = (false, eval e env) :: starEach es env := by intros; rfl) (hpl : ∀ env, (backTo pos (starEach es env)).any (·.1) = false := by intros; rfl) :
    JE c N sc (.Call (.Name x p) (e :: es) [] pos) (callN np fm ds mr) := by
  obtain ⟨f, fd, ps, dV, dvs, F, h1, h2, h3, h4, h5, h6⟩ := F.ex
  obtain ⟨t, p1, s1⟩ := ha
  refine ⟨fun W => tCallSD (fun vs H Q E => vs.length = ps.length ∧ spD c.K fm vs H Q E) dvs (WE W) (t W), fun X W I T => ?_, fun W => sd_call h5 h6 (s1 W)⟩
  have F' : FnOk X.prog X.w X.K X.mg X.base (L2.CX X.prog X.w) k f fd ps (fun vs H Q E => vs.length = ps.length ∧ spD c.K fm vs H Q E) := by
    rw [I.P, I.w, I.K, I.mg, I.base]
    exact F
  exact pe_callSD F' ((I.rm hc).mono hk) (I.gl hg) (by rw [I.mg]; exact h1) (by rw [I.K]; exact h2) (by rw [I.K]; exact h3) h4 (fun σ => passAt T σ) (p1 X W I T) hdb (he _) (hpl _)
theorem pe_callSD0 {X : Cx} {CX : CXT} {k : Nat} {f : Addr} {fd : FuncData} {ps : List Str} {sp : Sp} {dvs : List V} {ds : List Value} {E : L2.St → XK} (F : FnOk X.prog X.w X.K X.mg X.base CX k f fd ps sp) (hr : Room k X.A) (hg : Gl X x) (hm : X.mg x = some (.ref f)) (hk : PySem.W.keepIn X.K (.ref f) = true) (hb : Binds X.K fd ps ds) (hd : Vals dvs ds) (hx : ∀ σ, PassesAt CX X σ (E σ))
    (hdb : (x == ("__debug__" : Str)) = false := by decide) : PE X (.Call (.Name x p) [] [] pos) (tCallSD sp dvs E tNil) := by
  refine ⟨fun pins s σ H Q I h => ?_⟩
  refine wpAny_Call_Name_kw (ld_glob I hg hm ?_ hdb)
  exact PySem.W.callWith_K0 I.kIn hk (run_fnSD (us := []) F hr hb hd (hx σ) I .nil h)
theorem je_call0 {fm : Fm} {k : Nat} {ds : List D} (F : FnD c k x 0 ds fm) (hk : k ≤ c.k) (hg : sc.names.lookup x = some .globalImplicit) (hc : c.cm = true := by rfl)
    (hdb : (x == ("__debug__" : Str)) = false := by decide) : JE c N sc (.Call (.Name x p) [] [] pos) (callN 0 fm ds nilK) := by
  obtain ⟨f, fd, ps, dV, dvs, F, h1, h2, h3, h4, h5, h6⟩ := F.ex
  refine ⟨fun W => tCallSD (fun vs H Q E => vs.length = ps.length ∧ spD c.K fm vs H Q E) dvs (WE W) tNil, fun X W I T => ?_, fun W => sd_call h5 h6 sa_nil⟩
  have F' : FnOk X.prog X.w X.K X.mg X.base (L2.CX X.prog X.w) k f fd ps (fun vs H Q E => vs.length = ps.length ∧ spD c.K fm vs H Q E) := by
    rw [I.P, I.w, I.K, I.mg, I.base]
    exact F
  exact pe_callSD0 F' ((I.rm hc).mono hk) (I.gl hg) (by rw [I.mg]; exact h1) (by rw [I.K]; exact h2) (by rw [I.K]; exact h3) h4 (fun σ => passAt T σ) hdb
end
end Hz
namespace Hz
open PySem L2
/-- what is wished behind a statement -/
structure Md where
  nx : En → AH → Prop
  rt : D → AH → Prop
  bk : En → AH → Prop
  ct : En → AH → Prop
  ex : Ex → En → AH → Prop
abbrev MS := En → AH → Md → Prop
structure Fi (K : Frag) (B : Addr → Bool) (H : Hp) (α : AH) (D : Md) (Dn : Ends) : Prop where
  nx : ∀ B' σ' H' ρ' α', Af K B H α B' H' α' → SR K B' σ' H' ρ' α' → D.nx ρ' α' → Dn.nx σ' H'
  rt : ∀ v d B' H' α', Af K B H α B' H' α' → Rp K (hide B' H') v d → D.rt d α' → Dn.rt v H'
  bk : ∀ B' σ' H' ρ' α', Af K B H α B' H' α' → SR K B' σ' H' ρ' α' → D.bk ρ' α' → Dn.bk σ' H'
  ct : ∀ B' σ' H' ρ' α', Af K B H α B' H' α' → SR K B' σ' H' ρ' α' → D.ct ρ' α' → Dn.ct σ' H'
def FX (K : Frag) (W : WX) (B : Addr → Bool) (H : Hp) (α : AH) (D : Md) : Prop := ∀ x B' σ' ρ' α' cls d H', Af K B H α B' H' α' → SR K B' σ' H' ρ' α' → XR K (hide B' H') cls d x → D.ex x ρ' α' → W cls d σ' H'
def SS (K : Frag) (W : WX) (t : TS) (m : MS) : Prop := ∀ B σ H ρ α, SR K B σ H ρ α → ∀ D, m ρ α D → ∀ Dn : Ends, Fi K B H α D Dn → FX K W B H α D → t Dn σ H
def JS (c : C0) (N : List Str) (sc : Scope) (s : Stmt) (m : MS) : Prop := ∃ t : WX → TS, (∀ X W, In c N sc X → Takes X W → PS X s (t W)) ∧ ∀ W, SS c.K W (t W) m
def JB (c : C0) (N : List Str) (sc : Scope) (s : List Stmt) (m : MS) : Prop := ∃ t : WX → TS, (∀ X W, In c N sc X → Takes X W → PSs X s (t W)) ∧ ∀ W, SS c.K W (t W) m
section
variable {K : Frag} {W : WX} {B B1 : Addr → Bool} {σ : St} {H H1 : Hp} {ρ : En} {α α1 : AH} {D : Md} {Dn : Ends}
theorem Fi.after (S : Bs K B H α) (h : Fi K B H α D Dn) (a : Af K B H α B1 H1 α1) : Fi K B1 H1 α1 D Dn :=
  ⟨fun B' σ' H' ρ' α' b => h.nx B' σ' H' ρ' α' (a.trans S b), fun v d B' H' α' b => h.rt v d B' H' α' (a.trans S b), fun B' σ' H' ρ' α' b => h.bk B' σ' H' ρ' α' (a.trans S b), fun B' σ' H' ρ' α' b => h.ct B' σ' H' ρ' α' (a.trans S b)⟩
theorem FX.after (S : Bs K B H α) (h : FX K W B H α D) (a : Af K B H α B1 H1 α1) : FX K W B1 H1 α1 D := fun x B' σ' ρ' α' cls d H' b => h x B' σ' ρ' α' cls d H' (a.trans S b)
/-- an expression of a statement raises at the statement's slots -/
theorem FX.sx (S : SR K B σ H ρ α) (h : FX K W B H α D) : SX K W B σ H α (fun x α' => D.ex x ρ α') := fun x B' α' cls d H' a r e => h x B' σ ρ α' cls d H' a (S.step a) r e
end
def nextS : MS := fun ρ α D => D.nx ρ α
def seqS (m1 m2 : MS) : MS := fun ρ α D => m1 ρ α { D with nx := fun ρ1 α1 => m2 ρ1 α1 D }
def breakS : MS := fun ρ α D => D.bk ρ α
def contS : MS := fun ρ α D => D.ct ρ α
def dropS (m : ME) : MS := fun ρ α D => m ρ α (fun _ α1 => D.nx ρ α1) (fun x α1 => D.ex x ρ α1)
def retS (m : ME) : MS := fun ρ α D => m ρ α (fun d α1 => D.rt d α1) (fun x α1 => D.ex x ρ α1)
def retN : MS := fun ρ α D => D.rt .none α
def ifS (mt : MT) (m1 m2 : MS) : MS := fun ρ α D => mt ρ α (fun b α1 => if b = true then m1 ρ α1 D else m2 ρ α1 D) (fun x α1 => D.ex x ρ α1)
def setv (i : Nat) (d : D) (ρ : En) : Option En := some (ρ.set i (some d))
def asgS (m : ME) (g : D → En → Option En) : MS := fun ρ α D => m ρ α (fun d α1 => oq (g d ρ) fun ρ1 => D.nx ρ1 α1) (fun x α1 => D.ex x ρ α1)
/-- the cell in a slot becomes a datum -/
def frzS (i : Nat) (m : MS) : MS := fun ρ α D => ∃ p c, ρ[i]? = some (some (dref p)) ∧ α p = some c ∧ m (ρ.set i (some c)) (adel α p) D
section
variable {c : C0} {N : List Str} {sc : Scope} {K : Frag} {W : WX} {t u : TS} {m m1 m2 : MS} {s : Stmt} {rest b1 b2 : List Stmt} {me : ME} {mt : MT} {e : Expr} {pos p1 : Pos} {i : Nat} {x : Str}
theorem ss_next : SS K W tNext nextS := fun B σ H ρ α S D m Dn h x => h.nx B σ H ρ α (Af.refl S.bs) S m
theorem ss_seq (h1 : SS K W t m1) (h2 : SS K W u m2) : SS K W (tSeq t u) (seqS m1 m2) := fun B σ H ρ α S D m Dn h x =>
  h1 B σ H ρ α S _ m _ ⟨fun B' σ' H' ρ' α' a S' m' => h2 B' σ' H' ρ' α' S' D m' Dn (h.after S.bs a) (x.after S.bs a), h.rt, h.bk, h.ct⟩ x
theorem jb_nil : JB c N sc [] nextS := ⟨_, fun _ _ _ _ => pss_nil, fun _ => ss_next⟩
theorem jb_cons (h : JS c N sc s m1) (k : JB c N sc rest m2) : JB c N sc (s :: rest) (seqS m1 m2) := by
  obtain ⟨t, h1, h2⟩ := h
  obtain ⟨u, k1, k2⟩ := k
  exact ⟨_, fun X W I T => pss_cons (h1 X W I T) (k1 X W I T), fun W => ss_seq (h2 W) (k2 W)⟩
theorem jb_one (h : JS c N sc s m1) : JB c N sc [s] m1 := by
  obtain ⟨t, h1, h2⟩ := h
  exact ⟨_, fun X W I T => pss_one (h1 X W I T), h2⟩
theorem js_expr (h : JE c N sc e me) (hs : ∀ env, swapsWith e none pos.line env = pure false := by intros; rfl) : JS c N sc (.Expr e pos) (dropS me) := by
  obtain ⟨t, h1, h2⟩ := h
  exact ⟨_, fun X W I T => ps_expr (h1 X W I T) (hs _), fun W B σ H ρ α S D m Dn h x => h2 W B σ H ρ α S _ _ m _ (fun v d B' H' α' A r q => h.nx B' σ H' ρ α' A (S.step A) q) (x.sx S)⟩
theorem js_ret (h : JE c N sc e me) : JS c N sc (.Return (some e) pos) (retS me) := by
  obtain ⟨t, h1, h2⟩ := h
  exact ⟨_, fun X W I T => ps_ret (h1 X W I T), fun W B σ H ρ α S D m Dn h x => h2 W B σ H ρ α S _ _ m _ (fun v d B' H' α' A r q => h.rt v d B' H' α' A r q) (x.sx S)⟩
theorem js_if (ht : JT c N sc e mt) (h1 : JB c N sc b1 m1) (h2 : JB c N sc b2 m2) : JS c N sc (.If e b1 b2 pos) (ifS mt m1 m2) := by
  obtain ⟨t, p1, s1⟩ := ht
  obtain ⟨u, p2, s2⟩ := h1
  obtain ⟨w, p3, s3⟩ := h2
  refine ⟨_, fun X W I T => ps_if (p1 X W I T) (p2 X W I T) (p3 X W I T), fun W B σ H ρ α S D m Dn h x => s1 W B σ H ρ α S _ _ m _ (fun b B' H' α' A q => ?_) (x.sx S)⟩
  cases b with
  | true => exact s2 W B' σ H' ρ α' (S.step A) D q Dn (h.after S.bs A) (x.after S.bs A)
  | false => exact s3 W B' σ H' ρ α' (S.step A) D q Dn (h.after S.bs A) (x.after S.bs A)
theorem ss_frz (h : SS K W t m) : SS K W t (frzS i m) := fun B σ H ρ α S D mm Dn h' x => by
  obtain ⟨p, d, e, hp, mm⟩ := mm
  obtain ⟨v, g1, g2⟩ := S.val i _ e
  have hv := g2.cell
  subst hv
  obtain ⟨A, r⟩ := (Af.refl S.bs).frz S.bs hp
  refine h _ σ H _ _ ⟨by simpa using S.len, fun j d' z => ?_, A.bs⟩ D mm Dn (h'.after S.bs A) (x.after S.bs A)
  by_cases q : i = j
  · subst q
    rw [List.getElem?_set_self (List.getElem?_eq_some_iff.mp e).1] at z
    cases z
    exact ⟨_, g1, r⟩
  · rw [List.getElem?_set_ne q] at z
    obtain ⟨w, a, b⟩ := S.val j d' z
    exact ⟨w, a, b.mono A.sub⟩
theorem jb_frz (h : JB c N sc rest m) : JB c N sc rest (frzS i m) := by
  obtain ⟨t, h1, h2⟩ := h
  exact ⟨t, h1, fun W => ss_frz (h2 W)⟩
end
/-- a target at the slots js -/
def SgT (K : Frag) (js : List Nat) (g : TG) (mg : D → En → Option En) : Prop :=
  ∀ B σ H ρ α v d ρ', SR K B σ H ρ α → Rp K (hide B H) v d → mg d ρ = some ρ' → ∀ Q : St → Hp → Prop, (∀ σ', SR K B σ' H ρ' α → (∀ j, j ∉ js → σ'[j]? = σ[j]? ∧ ρ'[j]? = ρ[j]?) → σ'.length = σ.length → Q σ' H) → g v σ H Q
def SgTs (K : Frag) (js : List Nat) (g : TGs) (mg : List D → En → Option En) : Prop :=
  ∀ B σ H ρ α vs ds ρ', SR K B σ H ρ α → RpL K (hide B H) vs ds → mg ds ρ = some ρ' → ∀ Q : St → Hp → Prop, (∀ σ', SR K B σ' H ρ' α → (∀ j, j ∉ js → σ'[j]? = σ[j]? ∧ ρ'[j]? = ρ[j]?) → σ'.length = σ.length → Q σ' H) → g vs σ H Q
theorem SR.set {K : Frag} {B : Addr → Bool} {σ : St} {H : Hp} {ρ : En} {α : AH} {i : Nat} {v : V} {d : D} (S : SR K B σ H ρ α) (r : Rp K (hide B H) v d) : SR K B (σ.set i (some v)) H (ρ.set i (some d)) α := by
  refine ⟨by simpa using S.len, fun j d' e => ?_, S.bs⟩
  by_cases q : i = j
  · subst q
    have hl : i < ρ.length := by simpa using (List.getElem?_eq_some_iff.mp e).1
    rw [List.getElem?_set_self hl] at e
    cases e
    exact ⟨v, List.getElem?_set_self (by rw [S.len]; exact hl), r⟩
  · rw [List.getElem?_set_ne q] at e
    obtain ⟨w, a, b⟩ := S.val j d' e
    exact ⟨w, by rw [List.getElem?_set_ne q]; exact a, b⟩
theorem sgt_name {K : Frag} {i : Nat} : SgT K [i] (gName i) (setv i) := fun B σ H ρ α v d ρ' S r e Q q => by
  cases e
  refine q _ (S.set r) (fun j hj => ?_) (by simp)
  have z : i ≠ j := fun z => hj (by simp [z])
  exact ⟨List.getElem?_set_ne z, List.getElem?_set_ne z⟩
def tgNil : List D → En → Option En := fun ds ρ => match ds with
  | [] => some ρ
  | _ => none
def tgCons (mg : D → En → Option En) (mr : List D → En → Option En) : List D → En → Option En := fun ds ρ => match ds with
  | d :: r => (mg d ρ).bind (mr r)
  | [] => none
def tgTup (n : Nat) (mr : List D → En → Option En) : D → En → Option En := fun d ρ => match d with
  | .tuple ds => if ds.length = n then mr ds ρ else none
  | _ => none
def JTg (c : C0) (N : List Str) (sc : Scope) (e : Expr) (js : List Nat) (mg : D → En → Option En) : Prop := ∃ g, (∀ X, In c N sc X → PG X e g) ∧ SgT c.K js g mg
def JTgs (c : C0) (N : List Str) (sc : Scope) (es : List Expr) (js : List Nat) (mg : List D → En → Option En) : Prop := ∃ g, (∀ X, In c N sc X → PGs X es g) ∧ SgTs c.K js g mg
section
variable {K : Frag} {mg : D → En → Option En} {mr : List D → En → Option En} {js ks : List Nat} {n : Nat}
theorem sgts_nil : SgTs K [] gNil tgNil := fun B σ H ρ α vs ds ρ' S r e Q q => by
  cases r with
  | nil =>
    cases e
    exact ⟨rfl, q σ S (fun _ _ => ⟨rfl, rfl⟩) rfl⟩
  | cons _ _ => cases e
theorem sgts_cons {g : TG} {u : TGs} (h : SgT K js g mg) (k : SgTs K ks u mr) : SgTs K (js ++ ks) (gCons g u) (tgCons mg mr) := fun B σ H ρ α vs ds ρ' S r e Q q => by
  cases r with
  | nil => cases e
  | cons r1 r2 =>
    rename_i v vs d ds
    unfold tgCons at e
    cases z : mg d ρ with
    | none => simp [z] at e
    | some ρ1 =>
      simp only [z, Option.bind_some] at e
      refine ⟨v, vs, rfl, h B σ H ρ α v d ρ1 S r1 z _ fun σ1 b1 l1 n1 => ?_⟩
      refine k B σ1 H ρ1 α vs ds ρ' b1 r2 e _ fun σ2 b2 l2 n2 => q σ2 b2 (fun j hj => ?_) (n2.trans n1)
      rw [List.mem_append, not_or] at hj
      obtain ⟨a1, a2⟩ := l1 j hj.1
      obtain ⟨a3, a4⟩ := l2 j hj.2
      exact ⟨a3.trans a1, a4.trans a2⟩
theorem sgt_tup {u : TGs} (k : SgTs K ks u mr) : SgT K ks (gTup K n u) (tgTup n mr) := fun B σ H ρ α v d ρ' S r e Q q => by
  unfold tgTup at e
  split at e
  · rename_i ds
    split at e
    · rename_i hn
      cases r with
      | tup ht rr _ =>
        refine ⟨_, _, rfl, sub_t (hide_sub B H) ht, ?_, ?_⟩
        · rw [rr.length]; exact hn
        · exact k B σ H ρ α _ ds ρ' S rr e Q q
    · cases e
  · cases e
end
/-- a name that may be stored -/
def Sto (c : C0) (sc : Scope) (x : Str) : Prop := sc.names.lookup x = some .local ∨ ((c.top || c.oc.contains x) = true ∧ sc.names.lookup x = some .cell)
section
variable {c : C0} {N : List Str} {sc : Scope} {e value : Expr} {es : List Expr} {js ks : List Nat} {mg : D → En → Option En} {mr : List D → En → Option En} {pos p1 p2 : Pos} {i j n k : Nat} {x : Str} {me mi : ME} {K : Frag} {W : WX}
theorem Sto.loc {X : Cx} (h : Sto c sc x) (I : In c N sc X) : Loc X.env.scope x := by
  rw [I.sc]
  rcases h with h | ⟨_, h⟩
  · exact .inl h
  · exact .inr h
theorem Sto.vis (h : Sto c sc x) : Vis sc x := by
  rcases h with h | ⟨_, h⟩
  · exact .inl h
  · exact .inr (.inl h)
theorem Sto.fn {X : Cx} (h : Sto c sc x) (I : In c N sc X) : X.fn x = true ∨ X.env.scope.names.lookup x = some .local := by
  rw [I.sc]
  rcases h with h | ⟨h, _⟩
  · exact .inr h
  · rcases Bool.or_eq_true _ _ ▸ h with h | h
    · rw [I.fn h]; exact .inl rfl
    · exact .inl (I.oc _ h)
theorem jtg_name (nd : N.Nodup) (hN : N[i]? = some x) (hs : Sto c sc x) : JTg c N sc (.Name x pos) [i] (setv i) :=
  ⟨_, fun X I => pg_name (by rw [I.N]; exact nd) (by rw [I.N]; exact hN) (hs.loc I) (hs.fn I), sgt_name⟩
theorem jtgs_nil : JTgs c N sc [] [] tgNil := ⟨_, fun _ _ => pgs_nil, sgts_nil⟩
theorem jtgs_cons (h : JTg c N sc e js mg) (k : JTgs c N sc es ks mr) (hs : ∀ env, (assignEach (e :: es) env).map (·.2) = assign e env :: (assignEach es env).map (·.2) := by intros; rfl) : JTgs c N sc (e :: es) (js ++ ks) (tgCons mg mr) := by
  obtain ⟨g, h1, h2⟩ := h
  obtain ⟨u, k1, k2⟩ := k
  exact ⟨_, fun X I => pgs_cons (h1 X I) (k1 X I) (hs _), sgts_cons h2 k2⟩
theorem jtg_tup (h : JTgs c N sc es js mr) (hc : c.cm = true := by rfl) (hn : ∀ env, (assignEach es env).length = n := by intros; rfl) (hst : ∀ env, (assignEach es env).findIdx? (·.1) = none := by intros; rfl) : JTg c N sc (.Tuple es k pos) js (tgTup n mr) := by
  obtain ⟨u, k1, k2⟩ := h
  refine ⟨gTup c.K n u, fun X I => ?_, sgt_tup k2⟩
  have q := pg_tup (k := k) (pos := pos) (I.calm hc) (k1 X I) (hn _) (hst _)
  rw [I.K] at q
  exact q
theorem ss_asg {te : TE} {g : TG} (h : Sd K W te me) (k : SgT K js g mg) : SS K W (tAsg te g) (asgS me mg) := fun B σ H ρ α S D m Dn h' x =>
  h B σ H ρ α S _ _ m _ (fun v d B' H' α' A r q => by
    obtain ⟨ρ', e, q⟩ := q
    exact k B' σ H' ρ α' v d ρ' (S.step A) r e _ fun σ' S' _ _ => h'.nx B' σ' H' ρ' α' A S' q) (x.sx S)
theorem js_set (nd : N.Nodup) (hN : N[i]? = some x) (hs : Sto c sc x) (h : JE c N sc e me) (hw : ∀ env, swapsWith e (some (.Name x p1)) pos.line env = pure false := by intros; rfl) : JS c N sc (.Assign [.Name x p1] e pos) (asgS me (setv i)) := by
  obtain ⟨t, h1, h2⟩ := h
  exact ⟨_, fun X W I T => ps_set (by rw [I.N]; exact nd) (by rw [I.N]; exact hN) (hs.loc I) (h1 X W I T) (hw _) (hs.fn I), fun W => ss_asg (h2 W) sgt_name⟩
theorem js_asg (h : JE c N sc value me) (g : JTg c N sc e js mg) (hs : ∀ env, swapsWithSole [e] value pos.line env = pure false := by intros; rfl) (hw : ∀ env, swappedStores [e] value env = pure none := by intros; rfl)
    (h1 : ∀ env, (assignEach [e] env).map (·.2) = [assign e env] := by intros; rfl) : JS c N sc (.Assign [e] value pos) (asgS me mg) := by
  obtain ⟨t, a1, a2⟩ := h
  obtain ⟨u, b1, b2⟩ := g
  exact ⟨_, fun X W I T => ps_asg (a1 X W I T) (b1 X I) (hs _) (hw _) (h1 _), fun W => ss_asg (a2 W) b2⟩
end
def augS (g : D → D → Option D) (i : Nat) (me : ME) : MS := fun ρ α D => ∃ d, ρ[i]? = some (some d) ∧ me ρ α (fun e α1 => oq (g d e) fun z => D.nx (ρ.set i (some z)) α1) (fun x α1 => D.ex x ρ α1)
section
variable {c : C0} {N : List Str} {sc : Scope} {e : Expr} {pos p1 : Pos} {x : Str} {me : ME} {g : D → D → Option D}
/-- a, b = x, y -/
def parS (i j : Nat) (ml : ML) : MS := fun ρ α D => ml ρ α (fun ds α1 => ∃ d e, ds = [d, e] ∧ D.nx ((ρ.set i (some d)).set j (some e)) α1) (fun x α1 => D.ex x ρ α1)
theorem js_aug {op : Operator} {i : Nat} (nd : N.Nodup) (ho : OpD c.K (In c N sc) (inplaceOp op) g) (h : JE c N sc e me) (hN : N[i]? = some x := by rfl) (hs : Sto c sc x := by first | exact Or.inl rfl | exact Or.inr ⟨rfl, rfl⟩) : JS c N sc (.AugAssign (.Name x p1) op e pos) (augS g i me) := by
  obtain ⟨r, h1, h2⟩ := ho.ex
  obtain ⟨t, a1, a2⟩ := h
  refine ⟨_, fun X W I T => ps_aug (by rw [I.N]; exact nd) (by rw [I.N]; exact hN) (hs.loc I) (a1 X W I T) (h1 X I) (hs.fn I), fun W B σ H ρ α S D m Dn h' x => ?_⟩
  obtain ⟨d, e0, m⟩ := m
  obtain ⟨v, g1, g2⟩ := S.val i d e0
  refine ⟨v, g1, a2 W B σ H ρ α S _ _ m _ (fun w d1 B1 H1 α1 A1 r1 m => ?_) (x.sx S)⟩
  obtain ⟨z, hz, m⟩ := m
  refine h2 B1 H1 v w d d1 z A1.bs.bk (.vis (g2.mono A1.sub)) (.vis r1) hz _ fun y H2 s2 r2 => ?_
  have A2 := A1.trans S.bs (Af.of_sub A1.bs s2)
  exact h'.nx _ _ _ _ _ A2 ((S.step A2).set r2) m
end
structure MuD (K : Frag) (XS : Cx → Prop) (id : String) (f : List D → List D → Option (D × List D)) : Prop where
  ex : ∃ r : V → List V → Hp → VK → Prop, (∀ X, XS X → MtR X id r) ∧ ∀ (B : Addr → Bool) (H : Hp) (l : Addr) (vs : List V) (ds : List D) (us : List V) (as : List D) (z : D) (ds' : List D),
    (∀ a, B a = true → ∃ o, H a = some o) → B l = true → H l = some (.lst vs) → RpL K (hide B H) vs ds → RpL K (hide B H) us as → f ds as = some (z, ds') →
    ∀ Q : VK, (∀ y vs', RpL K (hide B H) vs' ds' → Rp K (hide B H) y z → Q y (upd H l (.lst vs'))) → r (.ref l) us H Q
/-- a cell that holds a list -/
def cellL (α : AH) (o : D) (Q : Addr → List D → Prop) : Prop := ∃ a ds, o = dref a ∧ α a = some (.list ds) ∧ Q a ds
/-- vs: are the arguments read through their cells? -/
def mapV (α : AH) : List D → Option (List D)
  | [] => some []
  | d :: ds => (vw α d).bind fun z => (mapV α ds).map fun r => z :: r
def mutK (f : List D → List D → Option (D × List D)) (mo : ME) (ma : ML) : ME := fun ρ α Q E => mo ρ α (fun o α1 => cellL α1 o fun _ _ => ma ρ α1 (fun as α2 => cellL α2 o fun a ds => oq (f ds as) fun z => Q z.1 (aset α2 a (.list z.2))) E) E
section
variable {c : C0} {N : List Str} {sc : Scope} {e e2 o : Expr} {es : List Expr} {pos p1 p2 p3 : Pos} {i : Nat} {x m : Str} {me mi mo : ME} {ma : ML} {K : Frag} {W : WX} {id : String} {f : List D → List D → Option (D × List D)} {r : V → List V → Hp → VK → Prop}
theorem Bs.list {B : Addr → Bool} {H : Hp} {α : AH} {l : Addr} {ds : List D} (S : Bs K B H α) (h : α l = some (.list ds)) : B l = true ∧ ∃ vs, H l = some (.lst vs) ∧ RpL K (hide B H) vs ds := by
  obtain ⟨h1, h2⟩ := S.cel l _ h
  refine ⟨h1, ?_⟩
  generalize ez : PyData.list ds = z at h2
  generalize eo : H l = o at h2
  cases h2 with
  | own h =>
    subst ez
    exact h
  | obj h => cases ez
theorem dref_inj {a b : Addr} (h : dref a = dref b) : a = b := by
  have e1 := List.cons.inj (PyData.dict.inj h)
  have e2 : PyData.int (Int.ofNat a) = PyData.int (Int.ofNat b) := congrArg Prod.snd e1.1
  exact Int.ofNat.inj (PyData.int.inj e2)
theorem sd_mut {to : TE} {ta : TA} (ho : Sd K W to mo) (h : SA K W ta ma) (hr : ∀ (B : Addr → Bool) (H : Hp) (l : Addr) (vs : List V) (ds : List D) (us : List V) (as : List D) (z : D) (ds' : List D),
    (∀ a, B a = true → ∃ o, H a = some o) → B l = true → H l = some (.lst vs) → RpL K (hide B H) vs ds → RpL K (hide B H) us as → f ds as = some (z, ds') →
    ∀ Q : VK, (∀ y vs', RpL K (hide B H) vs' ds' → Rp K (hide B H) y z → Q y (upd H l (.lst vs'))) → r (.ref l) us H Q) : Sd K W (tBM K "list" r to ta) (mutK f mo ma) := fun B σ H ρ α S Qm Em m Q q x => by
  refine ho B σ H ρ α S _ Em m _ (fun v o B1 H1 α1 A1 r1 m => ?_) x
  obtain ⟨a, ds, rfl, e1, m⟩ := m
  obtain ⟨b1, vs, g1, g2⟩ := A1.bs.list e1
  have hv := r1.cell
  subst hv
  refine ⟨.inl ⟨rfl, vs, .inl (.inl g1)⟩, ?_⟩
  refine h B1 σ H1 ρ α1 (S.step A1) _ Em m _ (fun us as B2 H2 α2 A2 ra m => ?_) (x.after S.bs A1)
  obtain ⟨a', ds', ea, e2, z, hz, m⟩ := m
  have ea' := dref_inj ea
  subst ea'
  obtain ⟨b2, vs', g3, g4⟩ := A2.bs.list e2
  obtain ⟨z1, z2⟩ := z
  refine hr B2 H2 a vs' ds' us as z1 z2 A2.bs.bk b2 g3 g4 ra hz _ fun y ws k1 k2 => ?_
  have w := Af.write (o := .lst ws) (c := .list z2) A2.bs e2 (.own ⟨_, rfl, k1⟩)
  exact q y z1 B2 _ _ ((A1.trans S.bs A2).trans S.bs w) (k2.mono w.sub) m
theorem je_mut (ho : MuD c.K (In c N sc) id f) (slot : Slot "list" m id) (hty : typeOf (.builtin id) = pure (.type "method_descriptor")) (h1 : JE c N sc o mo) (h : JL c N sc (e :: es) ma)
    (hbase : ∀ env, attributeBase o m env (eval o env) = eval o env := by intros; rfl)
    (hfew : ∀ env, ((backTo p3 (starEach (e :: es) env)).all (fun x => !x.1) && (backToKw p3 (keywordEach [] env)).all (fun x => x.1.isSome) && decide ((e :: es).length + ([] : List Keyword).length + (if ([] : List Keyword).isEmpty then 0 else 1) < 30)) = true := by intros; rfl)
    (hline : (p2.endLine == p3.line) = true := by rfl) (hs : ∀ env, starEach (e :: es) env = (false, eval e env) :: starEach es env := by intros; rfl) (hplain : ∀ env, (backTo p3 (starEach es env)).any (·.1) = false := by intros; rfl) :
    JE c N sc (.Call (.Attribute o m p2) (e :: es) [] p3) (mutK f mo ma) := by
  obtain ⟨t, a1, a2⟩ := h
  obtain ⟨u, b1, b2⟩ := h1
  obtain ⟨r, hr1, hr2⟩ := ho.ex
  refine ⟨fun W => tBM c.K "list" r (u W) (t W), fun X W I T => ?_, fun W => sd_mut (b2 W) (a2 W) hr2⟩
  have q := pe_bm (cpos := p3) (apos := p2) PySem.F.plainAttrs_list slot hty (hr1 X I) (b1 X W I T) (a1 X W I T) (hbase _) (hfew _) hline (hs _) (hplain _)
  rw [I.K] at q
  exact q
def muAppend (ds as : List D) : Option (D × List D) := match as with
  | [d] => if ds.length < 100000 then some (.none, ds ++ [d]) else none
  | _ => none
theorem mu_append {XS : Cx → Prop} : MuD K XS "list.append" muAppend := ⟨_, fun X _ => mt_append, fun B H l vs ds us as z ds' bk bl hl r ra e Q q => by
  unfold muAppend at e
  split at e
  · rename_i d
    split at e
    · rename_i hn
      cases e
      cases ra with
      | cons r1 r2 =>
        cases r2
        exact ⟨l, vs, _, rfl, rfl, hl, Nat.lt_of_lt_of_le (by rw [r.length]; exact hn) (by decide), q _ _ (r.append (.cons r1 .nil)) .non⟩
    · cases e
  · cases e⟩
/-- o[k] = e, o a list that changes -/
def setiS (me mo mi : ME) : MS := fun ρ α D => me ρ α (fun d α1 => mo ρ α1 (fun o α2 => mi ρ α2 (fun k α3 => cellL α3 o fun a ds => ∃ i, k = .int i ∧ oq (ixN ds.length i) fun j => D.nx ρ (aset α3 a (.list (ds.set j d)))) (fun x α1 => D.ex x ρ α1)) (fun x α1 => D.ex x ρ α1)) (fun x α1 => D.ex x ρ α1)
theorem ss_seti {te to ti : TE} (h : Sd K W te me) (ho : Sd K W to mo) (hi : Sd K W ti mi) : SS K W (tAsg te (gSub to ti rSetL)) (setiS me mo mi) := fun B σ H ρ α S D m Dn h' x => by
  refine h B σ H ρ α S _ _ m _ (fun v d B1 H1 α1 A1 r1 m => ?_) (x.sx S)
  have S1 := S.step A1
  refine ho B1 σ H1 ρ α1 S1 _ _ m _ (fun w o B2 H2 α2 A2 r2 m => ?_) ((x.sx S).after S.bs A1)
  have A12 := A1.trans S.bs A2
  refine hi B2 σ H2 ρ α2 (S.step A12) _ _ m _ (fun y k B3 H3 α3 A3 r3 m => ?_) ((x.sx S).after S.bs A12)
  obtain ⟨a, ds, rfl, e, i, rfl, j, hj, m⟩ := m
  obtain ⟨b1, vs, g1, g2⟩ := A3.bs.list e
  have hw := r2.cell
  subst hw
  refine ⟨a, vs, i, j, rfl, r3.inti, g1, by rw [g2.length]; exact hj, ?_⟩
  have w := Af.write (o := .lst (vs.set j v)) (c := .list (ds.set j d)) A3.bs e (.own ⟨_, rfl, g2.set (r1.mono (A2.sub.trans A3.sub)) j⟩)
  have A := (A12.trans S.bs A3).trans S.bs w
  exact h'.nx _ _ _ _ _ A (S.step A) m
theorem js_seti (h : JE c N sc e me) (ho : JE c N sc o mo) (hi : JE c N sc e2 mi)
    (ha : ∀ env v, assign (.Subscript o e2 p2) env v = (do
      let ov ← holding [v] (eval o env)
      let iv ← holding [v, ov] (eval e2 env)
      standAt p2
      holding [v, ov, iv] (setItem ov iv v)
      release [v, ov, iv] []) := by intros; rfl)
    (hs : ∀ env, swapsWithSole [.Subscript o e2 p2] e pos.line env = pure false := by intros; rfl) (hw : ∀ env, swappedStores [.Subscript o e2 p2] e env = pure none := by intros; rfl)
    (h1 : ∀ env, (assignEach [.Subscript o e2 p2] env).map (·.2) = [assign (.Subscript o e2 p2) env] := by intros; rfl) :
    JS c N sc (.Assign [.Subscript o e2 p2] e pos) (setiS me mo mi) := by
  obtain ⟨t, a1, a2⟩ := h
  obtain ⟨w, d1, d2⟩ := ho
  obtain ⟨u, b1, b2⟩ := hi
  exact ⟨_, fun X W I T => ps_asg (a1 X W I T) (pg_sub (d1 X W I T) (b1 X W I T) set_list (ha _)) (hs _) (hw _) (h1 _), fun W => ss_seti (a2 W) (d2 W) (b2 W)⟩
end
end Hz
namespace Hz
open PySem L2
/-- what is walked: its data, what must stay so while it is walked -/
abbrev MI := En → AH → (List D → (AH → Prop) → AH → Prop) → QX → Prop
def ItOk (K : Frag) (J : It) (G : AH → Prop) (B : Addr → Bool) (H : Hp) (ds : List D) : Prop := ∀ B' H' α', Sub (hide B H) (hide B' H') → Bs K B' H' α' → G α' →
  (∀ (i : Nat) d, ds[i]? = some d → J.go i H' ∧ ∀ x H'', J.yld i H' x H'' → Sub H' H'' ∧ Rp K (hide B' H'') x d) ∧ J.stop ds.length H'
def SI (K : Frag) (W : WX) (wi : TI) (m : MI) : Prop :=
  ∀ B σ H ρ α, SR K B σ H ρ α → ∀ Qm Em, m ρ α Qm Em → ∀ R : It → Hp → Prop, (∀ J ds G B' H' α', Af K B H α B' H' α' → ItOk K J G B' H' ds → Qm ds G α' → R J H') → SX K W B σ H α Em → wi σ H R
def JI (c : C0) (N : List Str) (sc : Scope) (tg iter : Expr) (m : MI) : Prop := ∃ wi : WX → TI, (∀ X W, In c N sc X → Takes X W → PI X tg iter (wi W)) ∧ ∀ W, SI c.K W (wi W) m
def listK (m : ME) : MI := fun ρ α Q E => m ρ α (fun d α1 => ∃ ds, vw α1 d = some (.list ds) ∧ Q ds (fun α' => vw α' d = some (.list ds)) α1) E
def tupleK (m : ME) : MI := fun ρ α Q E => m ρ α (fun d α1 => ∃ ds, d = .tuple ds ∧ Q ds (fun _ => True) α1) E
/-- lo, lo + 1, .., n of them -/
def nums (lo : Int) : Nat → List D
  | 0 => []
  | n + 1 => .int lo :: nums (lo + 1) n
theorem nums_length : ∀ (n : Nat) (lo : Int), (nums lo n).length = n
  | 0, _ => rfl
  | n + 1, lo => by
    show (nums (lo + 1) n).length + 1 = n + 1
    rw [nums_length n]
theorem nums_get : ∀ (n : Nat) (lo : Int) (i : Nat) (d : D), (nums lo n)[i]? = some d → i < n ∧ d = .int (lo + i)
  | 0, _, i, d, h => by simp [nums] at h
  | n + 1, lo, 0, d, h => by
    simp [nums] at h
    exact ⟨by omega, by rw [← h]; simp⟩
  | n + 1, lo, i + 1, d, h => by
    have h' : (nums (lo + 1) n)[i]? = some d := h
    obtain ⟨a, b⟩ := nums_get n (lo + 1) i d h'
    refine ⟨by omega, ?_⟩
    rw [b]
    congr 1
    omega
def rangeK1 (m : ML) : MI := fun ρ α Q E => m ρ α (fun ds α1 => ∃ n : Int, ds = [.int n] ∧ (-(2 ^ 62) ≤ n ∧ n < 2 ^ 62) ∧ Q (nums 0 n.toNat) (fun _ => True) α1) E
def rangeK2 (m : ML) : MI := fun ρ α Q E => m ρ α (fun ds α1 => ∃ a b : Int, ds = [.int a, .int b] ∧ (-(2 ^ 62) ≤ a ∧ a < 2 ^ 62 ∧ -(2 ^ 62) ≤ b ∧ b < 2 ^ 62) ∧ Q (nums a (b - a).toNat) (fun _ => True) α1) E
section
variable {c : C0} {N : List Str} {sc : Scope} {e a b tg : Expr} {pos p : Pos} {me : ME} {ma : ML} {K : Frag} {W : WX}
theorem si_list {te : TE} (h : Sd K W te me) : SI K W (iList K te) (listK me) := fun B σ H ρ α S Qm Em m R q x => by
  refine h B σ H ρ α S _ Em m _ (fun v d B1 H1 α1 A r m => ?_) x
  obtain ⟨ds, hd, m⟩ := m
  cases r with
  | lst hs rr =>
    cases hd
    refine ⟨_, rfl, ⟨_, sub_l (hide_sub B1 H1) hs⟩, q _ ds _ B1 H1 α1 A (fun B' H' α' sb bs g => ⟨fun i d hi => ?_, ?_⟩) m⟩
    · obtain ⟨v, g1, g2⟩ := rr.get' hi
      refine ⟨⟨_, v, sub_l ((sb.trans (hide_sub B' H'))) hs, g1⟩, fun x H'' y => ?_⟩
      obtain ⟨rfl, y⟩ := y
      refine ⟨Sub.refl _, ?_⟩
      have := y _ (sub_l (sb.trans (hide_sub B' _)) hs)
      rw [g1] at this
      cases this
      exact g2.mono sb
    · exact ⟨_, sub_l ((sb.trans (hide_sub B' H'))) hs, by rw [rr.length]; exact Nat.le_refl _⟩
  | @ref a =>
    obtain ⟨b1, vs, g1, g2⟩ := A.bs.list (show α1 a = some (.list ds) from hd)
    refine ⟨a, rfl, ⟨vs, .inl (.inl g1)⟩, q _ ds _ B1 H1 α1 A (fun B' H' α' sb bs g => ?_) m⟩
    obtain ⟨b2, us, k1, k2⟩ := bs.list (show α' a = some (.list ds) from g)
    refine ⟨fun i d hi => ?_, ⟨us, .inl (.inl k1), by rw [k2.length]; exact Nat.le_refl _⟩⟩
    obtain ⟨v, l1, l2⟩ := k2.get' hi
    refine ⟨⟨us, v, .inl (.inl k1), l1⟩, fun x H'' y => ?_⟩
    obtain ⟨rfl, y⟩ := y
    refine ⟨Sub.refl _, ?_⟩
    have := y _ (.inl (.inl k1))
    rw [l1] at this
    cases this
    exact l2
  | dct _ r =>
    cases r with
    | nil => cases hd
    | @cons k _ _ _ _ r1 r2 => cases k <;> cases hd
  | _ => cases hd
theorem si_tup {te : TE} (h : Sd K W te me) : SI K W (iTup K te) (tupleK me) := fun B σ H ρ α S Qm Em m R q x => by
  refine h B σ H ρ α S _ Em m _ (fun v d B1 H1 α1 A r m => ?_) x
  obtain ⟨ds, rfl, m⟩ := m
  cases r with
  | tup hs rr _ =>
    refine ⟨_, rfl, ⟨_, sub_t (hide_sub B1 H1) hs⟩, q _ ds _ B1 H1 α1 A (fun B' H' α' sb bs g => ⟨fun i d hi => ?_, ?_⟩) m⟩
    · obtain ⟨v, g1, g2⟩ := rr.get' hi
      refine ⟨⟨_, v, sub_t ((sb.trans (hide_sub B' H'))) hs, g1⟩, fun x H'' y => ?_⟩
      obtain ⟨rfl, y⟩ := y
      refine ⟨Sub.refl _, ?_⟩
      have := y _ (sub_t (sb.trans (hide_sub B' _)) hs)
      rw [g1] at this
      cases this
      exact g2.mono sb
    · exact ⟨_, sub_t ((sb.trans (hide_sub B' H'))) hs, by rw [rr.length]; exact Nat.le_refl _⟩
theorem ji_list (h : JE c N sc e me) : JI c N sc tg e (listK me) := by
  obtain ⟨t, h1, h2⟩ := h
  refine ⟨fun W => iList c.K (t W), fun X W I T => ?_, fun W => si_list (h2 W)⟩
  have q := pi_list (tg := tg) (h1 X W I T)
  rw [I.K] at q
  exact q
theorem ji_tup (h : JE c N sc e me) : JI c N sc tg e (tupleK me) := by
  obtain ⟨t, h1, h2⟩ := h
  refine ⟨fun W => iTup c.K (t W), fun X W I T => ?_, fun W => si_tup (h2 W)⟩
  have q := pi_tup (tg := tg) (h1 X W I T)
  rw [I.K] at q
  exact q
theorem it_range {B : Addr → Bool} {H : Hp} {G : AH → Prop} {lo : Int} {n : Nat} : ItOk K (Itr lo n) G B H (nums lo n) := fun B' H' α' sb bk g => ⟨fun i d hi => by
  obtain ⟨a, b⟩ := nums_get n lo i d hi
  refine ⟨a, fun x H'' y => ?_⟩
  obtain ⟨rfl, rfl⟩ := y
  refine ⟨Sub.refl _, ?_⟩
  rw [b]
  exact .int _, by rw [nums_length]; exact Nat.le_refl n⟩
theorem ji_range1 (hg : sc.names.lookup ("range" : Str) = some .globalImplicit) (hm : c.mg ("range" : Str) = none) (h : JL c N sc [a] ma) (hs : ∀ env, starEach [a] env = [(false, eval a env)] := by intros; rfl) : JI c N sc tg (.Call (.Name "range" p) [a] [] pos) (rangeK1 ma) := by
  obtain ⟨t, h1, h2⟩ := h
  refine ⟨fun W => iRng1 (t W), fun X W I T => pi_range1 (I.gl hg) (by rw [I.mg]; exact hm) (h1 X W I T) (hs _), fun W B σ H ρ α S Qm Em m R q x => ?_⟩
  refine h2 W B σ H ρ α S _ Em m _ (fun vs ds B1 H1 α1 A r m => ?_) x
  obtain ⟨n, rfl, hb, m⟩ := m
  cases r with
  | cons r1 r2 =>
    cases r2
    cases r1
    exact ⟨n, rfl, hb.1, hb.2, q _ _ _ B1 H1 α1 A it_range m⟩
end
def forD (mg : D → En → Option En) (mb : MS) (G : AH → Prop) (D0 : Md) : List D → En → AH → Prop
  | [], ρ, α => G α ∧ D0.nx ρ α
  | d :: ds, ρ, α => G α ∧ oq (mg d ρ) fun ρ1 => mb ρ1 α { D0 with nx := fun ρ2 α2 => forD mg mb G D0 ds ρ2 α2, ct := fun ρ2 α2 => forD mg mb G D0 ds ρ2 α2, bk := D0.nx }
def forS (mi : MI) (mg : D → En → Option En) (mb : MS) : MS := fun ρ α D => mi ρ α (fun ds G α1 => forD mg mb G D ds ρ α1) (fun x α1 => D.ex x ρ α1)
def whileS (mt : MT) (mb : MS) : MS := fun ρ α D => ∃ V : Nat → En → AH → Prop, (∃ m, V m ρ α) ∧ ∀ m ρ α, V m ρ α → mt ρ α (fun b α1 => if b = true then mb ρ α1 { D with nx := fun ρ2 α2 => ∃ m', m' < m ∧ V m' ρ2 α2, ct := fun ρ2 α2 => ∃ m', m' < m ∧ V m' ρ2 α2, bk := D.nx } else D.nx ρ α1) (fun x α1 => D.ex x ρ α1)
section
variable {c : C0} {N : List Str} {sc : Scope} {e a b tg iter : Expr} {body : List Stmt} {pos p : Pos} {mi : MI} {mg : D → En → Option En} {mb : MS} {mt : MT} {K : Frag} {W : WX} {js : List Nat} {tb : TS} {wi : TI} {g : TG} {tt : TT}
theorem ss_for (hi : SI K W wi mi) (hg : SgT K js g mg) (hb : SS K W tb mb) : SS K W (tFor wi g tb) (forS mi mg mb) := fun B σ H ρ α S D0 m Dn h' x => by
  refine hi B σ H ρ α S _ _ m _ (fun J ds G B1 H1 α1 A ok m => ?_) (x.sx S)
  have S1 := S.step A
  have h1 := h'.after S.bs A
  have x1 := x.after S.bs A
  refine ⟨fun i n σ' H' => ∃ B' ρ' α', Af K B1 H1 α1 B' H' α' ∧ SR K B' σ' H' ρ' α' ∧ n = ds.length - i ∧ i ≤ ds.length ∧ forD mg mb G D0 (ds.drop i) ρ' α', ⟨ds.length, B1, ρ, α1, Af.refl S1.bs, S1, by simp, Nat.zero_le _, by simpa using m⟩, ?_⟩
  rintro i n σ' H' ⟨B', ρ', α', A', S', rfl, hle, hf⟩
  have hG : G α' := by
    cases q : ds.drop i with
    | nil => rw [q] at hf; exact hf.1
    | cons _ _ => rw [q] at hf; exact hf.1
  obtain ⟨go, stop⟩ := ok B' H' α' A'.sub S'.bs hG
  by_cases hlt : i < ds.length
  · obtain ⟨d, hd⟩ : ∃ d, ds[i]? = some d := ⟨_, List.getElem?_eq_getElem hlt⟩
    have dr : ds.drop i = d :: ds.drop (i + 1) := by
      rw [List.drop_eq_getElem_cons hlt]
      rw [List.getElem?_eq_getElem hlt] at hd
      cases hd
      rfl
    rw [dr] at hf
    obtain ⟨_, ρ2, e2, hf⟩ := hf
    obtain ⟨g1, g2⟩ := go i d hd
    refine .inr ⟨g1, fun σ2 H2 => ∃ B2 ρ2 α2, Af K B1 H1 α1 B2 H2 α2 ∧ SR K B2 σ2 H2 ρ2 α2 ∧ forD mg mb G D0 (ds.drop (i + 1)) ρ2 α2, fun σ2 H2 ⟨B2, ρ2, α2, k1, k2, k3⟩ => ⟨ds.length - (i + 1), by omega, B2, ρ2, α2, k1, k2, rfl, hlt, k3⟩, fun x H2 y => ?_⟩
    obtain ⟨sb, rx⟩ := g2 x H2 y
    have A2 := A'.trans S1.bs (Af.of_sub S'.bs sb)
    refine hg B' σ' H2 ρ' α' x d ρ2 (S'.step (Af.of_sub S'.bs sb)) rx e2 _ fun σ3 S3 _ _ => ?_
    have nx : ∀ B4 σ4 H4 ρ4 α4, Af K B' H2 α' B4 H4 α4 → SR K B4 σ4 H4 ρ4 α4 → forD mg mb G D0 (ds.drop (i + 1)) ρ4 α4 → ∃ B2 ρ2 α2, Af K B1 H1 α1 B2 H4 α2 ∧ SR K B2 σ4 H4 ρ2 α2 ∧ forD mg mb G D0 (ds.drop (i + 1)) ρ2 α2 := fun B4 σ4 H4 ρ4 α4 a s f => ⟨B4, ρ4, α4, A2.trans S1.bs a, s, f⟩
    refine hb B' σ3 H2 ρ2 α' S3 _ hf _ ⟨nx, fun v d B4 H4 α4 a r z => h1.rt v d B4 H4 α4 (A2.trans S1.bs a) r z, fun B4 σ4 H4 ρ4 α4 a s z => h1.nx B4 σ4 H4 ρ4 α4 (A2.trans S1.bs a) s z, nx⟩ (x1.after S1.bs A2)
  · have ei : i = ds.length := by omega
    subst ei
    rw [List.drop_length] at hf
    exact .inl ⟨stop, h1.nx B' σ' H' ρ' α' A' S' hf.2⟩
theorem js_for (hi : JI c N sc tg iter mi) (hg : JTg c N sc tg js mg) (hb : JB c N sc body mb) (hc : c.cm = true := by rfl) (hs : ∀ env x, foldedSetIterable iter env x = pure x := by intros; rfl) : JS c N sc (.For tg iter body [] pos) (forS mi mg mb) := by
  obtain ⟨wi, a1, a2⟩ := hi
  obtain ⟨g, b1, b2⟩ := hg
  obtain ⟨t, c1, c2⟩ := hb
  exact ⟨_, fun X W I T => ps_for I.po (I.calm hc) (a1 X W I T) (b1 X I) (c1 X W I T) (hs _), fun W => ss_for (a2 W) b2 (c2 W)⟩
theorem ss_while (ht : Stt K W tt mt) (hb : SS K W tb mb) : SS K W (tWhile tt tb) (whileS mt mb) := fun B σ H ρ α S D0 m Dn h' x => by
  obtain ⟨V, ⟨n, hn⟩, step⟩ := m
  refine ⟨fun n σ' H' => ∃ B' ρ' α', Af K B H α B' H' α' ∧ SR K B' σ' H' ρ' α' ∧ V n ρ' α', ⟨n, B, ρ, α, Af.refl S.bs, S, hn⟩, ?_⟩
  rintro n σ' H' ⟨B', ρ', α', A', S', hv⟩
  refine ht B' σ' H' ρ' α' S' _ _ (step n ρ' α' hv) _ (fun b B2 H2 α2 A2 m => ?_) ((x.after S.bs A').sx S')
  have A3 := A'.trans S.bs A2
  have S2 := S'.step A2
  cases b with
  | false => exact h'.nx B2 σ' H2 ρ' α2 A3 S2 m
  | true =>
    show ∃ N : L2.St → Hp → Prop, _
    refine ⟨fun σ2 H2 => ∃ m', m' < n ∧ ∃ B2 ρ2 α2, Af K B H α B2 H2 α2 ∧ SR K B2 σ2 H2 ρ2 α2 ∧ V m' ρ2 α2, fun σ2 H2 z => z, ?_⟩
    have nx : ∀ B4 σ4 H4 ρ4 α4, Af K B2 H2 α2 B4 H4 α4 → SR K B4 σ4 H4 ρ4 α4 → (∃ m', m' < n ∧ V m' ρ4 α4) → ∃ m', m' < n ∧ ∃ B2 ρ2 α2, Af K B H α B2 H4 α2 ∧ SR K B2 σ4 H4 ρ2 α2 ∧ V m' ρ2 α2 := fun B4 σ4 H4 ρ4 α4 a s ⟨m', hm, f⟩ => ⟨m', hm, B4, ρ4, α4, A3.trans S.bs a, s, f⟩
    exact hb B2 σ' H2 ρ' α2 S2 _ m _ ⟨nx, fun v d B4 H4 α4 a r z => h'.rt v d B4 H4 α4 (A3.trans S.bs a) r z, fun B4 σ4 H4 ρ4 α4 a s z => h'.nx B4 σ4 H4 ρ4 α4 (A3.trans S.bs a) s z, nx⟩ (x.after S.bs A3)
theorem js_while (ht : JT c N sc e mt) (hb : JB c N sc body mb) : JS c N sc (.While e body [] pos) (whileS mt mb) := by
  obtain ⟨t, a1, a2⟩ := ht
  obtain ⟨u, b1, b2⟩ := hb
  exact ⟨_, fun X W I T => ps_while I.po (a1 X W I T) (b1 X W I T), fun W => ss_while (a2 W) (b2 W)⟩
end
def wipeA {α : Type} (l : List (Option α)) : List Nat → List (Option α)
  | [] => l
  | v :: vs => (wipeA l vs).set v none
theorem wipe_eq (σ : L2.St) : ∀ vs, wipe σ vs = wipeA σ vs
  | [] => rfl
  | v :: vs => by
    show (wipe σ vs).set v none = _
    rw [wipe_eq σ vs]
    rfl
theorem wipeA_length {α : Type} (l : List (Option α)) : ∀ vs, (wipeA l vs).length = l.length
  | [] => rfl
  | v :: vs => by
    show ((wipeA l vs).set v none).length = _
    rw [List.length_set, wipeA_length l vs]
theorem wipeA_out {α : Type} {l : List (Option α)} {j : Nat} : ∀ {vs : List Nat}, j ∉ vs → (wipeA l vs)[j]? = l[j]?
  | [], _ => rfl
  | v :: vs, h => by
    rw [List.mem_cons, not_or] at h
    show ((wipeA l vs).set v none)[j]? = _
    rw [List.getElem?_set_ne (Ne.symm h.1), wipeA_out h.2]
theorem wipeA_in {α : Type} {l : List (Option α)} {j : Nat} : ∀ {vs : List Nat}, j ∈ vs → j < l.length → (wipeA l vs)[j]? = some none
  | v :: vs, h, hl => by
    show ((wipeA l vs).set v none)[j]? = _
    by_cases e : v = j
    · subst e
      rw [List.getElem?_set_self (by rw [wipeA_length]; exact hl)]
    · rw [List.getElem?_set_ne e]
      rcases List.mem_cons.mp h with z | z
      · exact absurd z.symm e
      · exact wipeA_in z hl
theorem wipeA_some {α : Type} {l : List (Option α)} {j : Nat} {x : α} {vs : List Nat} (h : (wipeA l vs)[j]? = some (some x)) : j ∉ vs ∧ l[j]? = some (some x) := by
  by_cases q : j ∈ vs
  · have hl : j < l.length := by
      have := (List.getElem?_eq_some_iff.mp h).1
      rwa [wipeA_length] at this
    rw [wipeA_in q hl] at h
    cases h
  · rw [wipeA_out q] at h
    exact ⟨q, h⟩
theorem SR.wipe {K : Frag} {B : Addr → Bool} {σ : L2.St} {H : Hp} {ρ : En} {α : AH} {vs : List Nat} (S : SR K B σ H ρ α) : SR K B (wipe σ vs) H (wipeA ρ vs) α := by
  refine ⟨by rw [wipe_eq, wipeA_length, wipeA_length]; exact S.len, fun i d e => ?_, S.bs⟩
  obtain ⟨a, b⟩ := wipeA_some e
  obtain ⟨v, c, d⟩ := S.val i d b
  exact ⟨v, by rw [wipe_eq, wipeA_out a]; exact c, d⟩
theorem wipe_back {σ σ2 : L2.St} {vs js : List Nat} (loc : ∀ j, j ∉ js → σ2[j]? = (wipe σ vs)[j]?) (hj : ∀ j, j ∈ js → j ∈ vs) (hl : σ2.length = (wipe σ vs).length) : wipe σ2 vs = wipe σ vs := by
  rw [wipe_eq, wipe_eq]
  rw [wipe_eq] at loc hl
  refine List.ext_getElem? fun j => ?_
  by_cases q : j ∈ vs
  · by_cases l : j < σ.length
    · rw [wipeA_in q l, wipeA_in q (by rw [hl, wipeA_length]; exact l)]
    · exact (List.getElem?_eq_none (by rw [wipeA_length, hl, wipeA_length]; omega)).trans (List.getElem?_eq_none (by rw [wipeA_length]; omega)).symm
  · rw [wipeA_out q, loc j fun z => q (hj j z)]
/-- a new thing that is hidden, no cell -/
theorem Af.hid {K : Frag} {B : Addr → Bool} {H : Hp} {α : AH} {l : Addr} {o : HO} (S : Bs K B H α) (h : H l = none) : Af K B H α (ins l B) (upd H l o) α := by
  have hs : Sub (hide B H) (hide (ins l B) (upd H l o)) := sub_ins h (hsub (Sub.new h))
  refine ⟨hs, ⟨fun a d q => ?_, fun a q => ?_⟩, fun b hb n => ⟨ins_of hb, ?_⟩, fun b n _ => n, fun b u g => ⟨u, Sub.new h _ _ g⟩⟩
  · obtain ⟨h1, h2⟩ := S.cel a d q
    obtain ⟨u, g⟩ := h2.ne
    refine ⟨ins_of h1, ?_⟩
    rw [g] at h2
    rw [Sub.new h _ _ g]
    exact h2.mono hs
  · rcases ins_or q with z | z
    · exact ⟨o, by rw [z, upd_same]⟩
    · obtain ⟨o', g⟩ := S.bk a z
      exact ⟨o', Sub.new h _ _ g⟩
  · rw [upd_ne (fun z => by
      obtain ⟨o', g⟩ := S.bk b hb
      rw [z, h] at g
      cases g)]
theorem Af.hidW {K : Frag} {B B' : Addr → Bool} {H H' : Hp} {α α' : AH} {l : Addr} {o : HO} (S : Bs K B H α) (a : Af K B H α B' H' α') (h : H l = none) (b : B' l = true) (n : α' l = none) : Af K B H α B' (upd H' l o) α' ∧ Sub (hide B' H') (hide B' (upd H' l o)) := by
  have hh : hide B' (upd H' l o) = hide B' H' := by
    funext x
    unfold hide
    by_cases q : x = l
    · rw [q, b]
      rfl
    · rw [upd_ne q]
  refine ⟨⟨by rw [hh]; exact a.sub, ⟨fun x d q => ?_, fun x q => ?_⟩, fun x hx nx => ?_, a.fr, fun x u g => ?_⟩, by rw [hh]; exact Sub.refl _⟩
  · rw [hh, upd_ne (fun z => by rw [z, n] at q; cases q)]
    exact a.bs.cel x d q
  · by_cases z : x = l
    · exact ⟨o, by rw [z, upd_same]⟩
    · rw [upd_ne z]
      exact a.bs.bk x q
  · have z : x ≠ l := fun z => by
      obtain ⟨o', g⟩ := S.bk x hx
      rw [z, h] at g
      cases g
    rw [upd_ne z]
    exact a.keep x hx nx
  · by_cases z : x = l
    · exact ⟨o, by rw [z, upd_same]⟩
    · rw [upd_ne z]
      exact a.grow x u g
/-- the hidden thing becomes a cell -/
theorem Af.hidC {K : Frag} {B B' : Addr → Bool} {H H' : Hp} {α α' : AH} {l : Addr} {d : D} (a : Af K B H α B' H' α') (h : H l = none) (b : B' l = true) (c : CellAt K (hide B' H') (H' l) d) : Af K B H α B' H' (aset α' l d) := by
  refine ⟨a.sub, ⟨fun x e q => ?_, a.bs.bk⟩, a.keep, fun x n hx => ?_, a.grow⟩
  · by_cases z : x = l
    · subst z
      rw [aset_same] at q
      cases q
      exact ⟨b, c⟩
    · rw [aset_ne z] at q
      exact a.bs.cel x e q
  · rw [aset_ne (fun z => by rw [z] at hx; exact hx h)]
    exact a.fr x n hx
abbrev NX : QX := fun _ _ => False
def yesK : MT := fun _ α Q _ => Q true α
def lcD (vs : List Nat) (mg : D → En → Option En) (mt : MT) (me : ME) (G : AH → Prop) (ρ : En) (Q : D → AH → Prop) : List D → List D → AH → Prop
  | [], acc, α => G α ∧ Q (.list acc) α
  | d :: ds, acc, α => G α ∧ oq (mg d (wipeA ρ vs)) fun ρ1 => mt ρ1 α (fun b α1 => if b = true then me ρ1 α1 (fun y α2 => acc.length < 100000 ∧ lcD vs mg mt me G ρ Q ds (acc ++ [y]) α2) NX else lcD vs mg mt me G ρ Q ds acc α1) NX
def lcK (vs : List Nat) (mi : MI) (mg : D → En → Option En) (mt : MT) (me : ME) : ME := fun ρ α Q E => mi ρ α (fun ds G α1 => lcD vs mg mt me G ρ Q ds [] α1) E
section
variable {K : Frag} {W : WX} {vs js : List Nat} {mi : MI} {mg : D → En → Option En} {mt : MT} {me : ME} {wi : TI} {g : TG} {tt : TT} {te : TE}
theorem sf_lc (hi : SI K W wi mi) (hg : SgT K js g mg) (hj : ∀ j, j ∈ js → j ∈ vs) (ht : Stt K (fun _ _ _ _ => False) tt mt) (he : Sd K (fun _ _ _ _ => False) te me) : Sf K W (tLc wi g tt te vs) (lcK vs mi mg mt me) := fun B σ H ρ α S Qm Em m Q q x => by
  refine hi B σ H ρ α S _ Em m _ (fun J ds G B1 H1 α1 A ok m => ?_) x
  have S1 := S.step A
  intro l hl
  refine ⟨fun i n H' => ∃ B' α' vacc acc, Af K B1 H1 α1 B' H' α' ∧ B' l = true ∧ α' l = none ∧ H' l = some (.lst vacc) ∧ RpL K (hide B' H') vacc acc ∧ n = ds.length - i ∧ i ≤ ds.length ∧ lcD vs mg mt me G ρ Qm (ds.drop i) acc α',
    ⟨ds.length, ins l B1, α1, [], [], Af.hid S1.bs hl, ins_self, S1.bs.new hl, upd_same, .nil, by simp, Nat.zero_le _, by simpa using m⟩, ?_⟩
  rintro i n H' ⟨B', α', vacc, acc, A', bl, nl, el, rl, rfl, hle, hf⟩
  have hG : G α' := by
    cases q : ds.drop i with
    | nil => rw [q] at hf; exact hf.1
    | cons _ _ => rw [q] at hf; exact hf.1
  obtain ⟨go, stop⟩ := ok B' H' α' A'.sub A'.bs hG
  by_cases hlt : i < ds.length
  · obtain ⟨d, hd⟩ : ∃ d, ds[i]? = some d := ⟨_, List.getElem?_eq_getElem hlt⟩
    have dr : ds.drop i = d :: ds.drop (i + 1) := by
      rw [List.drop_eq_getElem_cons hlt]
      rw [List.getElem?_eq_getElem hlt] at hd
      cases hd
      rfl
    rw [dr] at hf
    obtain ⟨_, ρ2, e2, hf⟩ := hf
    obtain ⟨g1, g2⟩ := go i d hd
    refine .inr ⟨g1, fun H2 => ∃ B2 α2 vacc acc, Af K B1 H1 α1 B2 H2 α2 ∧ B2 l = true ∧ α2 l = none ∧ H2 l = some (.lst vacc) ∧ RpL K (hide B2 H2) vacc acc ∧ lcD vs mg mt me G ρ Qm (ds.drop (i + 1)) acc α2,
      fun H2 ⟨B2, α2, va, ac, k1, k2, k3, k4, k5, k6⟩ => ⟨ds.length - (i + 1), by omega, B2, α2, va, ac, k1, k2, k3, k4, k5, rfl, hlt, k6⟩, fun x H2 y => ?_⟩
    obtain ⟨sb, rx⟩ := g2 x H2 y
    have Ab := Af.of_sub A'.bs sb
    have A2 := A'.trans S1.bs Ab
    have Sw : SR K B' (wipe σ vs) H2 (wipeA ρ vs) α' := (S1.step A2).wipe
    refine hg B' _ H2 _ α' x d ρ2 Sw rx e2 _ fun σ3 S3 loc len => ⟨wipe_back (fun j h => (loc j h).1) hj len, ?_⟩
    have el2 : H2 l = some (.lst vacc) := sb _ _ el
    refine ht B' σ3 H2 ρ2 α' S3 _ NX hf _ (fun b B3 H3 α3 A3 m => ?_) SX.never
    obtain ⟨b3, h3⟩ := A3.keep l bl nl
    have n3 : α3 l = none := A3.fr l nl (by rw [el2]; exact fun z => nomatch z)
    have r3 := rl.mono (hsub sb |>.trans A3.sub)
    have A13 := A2.trans S1.bs A3
    cases b with
    | false => exact ⟨B3, α3, vacc, acc, A13, b3, n3, h3.trans el2, r3, m⟩
    | true =>
      refine he B3 σ3 H3 ρ2 α3 (S3.step A3) _ NX m _ (fun v d4 B4 H4 α4 A4 r4 m => ?_) SX.never
      obtain ⟨b4, h4⟩ := A4.keep l b3 n3
      have e4 : H4 l = some (.lst vacc) := h4.trans (h3.trans el2)
      have n4 : α4 l = none := A4.fr l n3 (by rw [h3, el2]; exact fun z => nomatch z)
      have A14 := A13.trans S1.bs A4
      have ra := r3.mono A4.sub
      obtain ⟨w1, w2⟩ := Af.hidW (o := .lst (vacc ++ [v])) S1.bs A14 hl b4 n4
      exact ⟨vacc, e4, by rw [ra.length]; exact Nat.lt_of_lt_of_le m.1 (by decide), B4, α4, vacc ++ [v], acc ++ [d4], w1, b4, n4, upd_same, (ra.append (.cons r4 .nil)).mono w2, m.2⟩
  · have ei : i = ds.length := by omega
    subst ei
    rw [List.drop_length] at hf
    refine .inl ⟨stop, ?_⟩
    exact q l (.list acc) B' H' α' (A.trans S.bs (A'.hidC hl bl (.own ⟨vacc, el, rl⟩))) nl hf.2
theorem Sf.new {m : ME} (h : Sf K W te m) : Sd K W te (newK m) := fun B σ H ρ α S Qm Em mm Q q x => h B σ H ρ α S _ Em mm Q (fun l c' B' H' α' A hl qm => q _ _ _ H' _ A .ref (qm l hl)) x
end
/-- the contexts of a block within -/
abbrev C0.inO (c : C0) (oc : List Str) : C0 := { c with top := false, xc := none, oc := oc }
def JTs (c : C0) (N : List Str) (sc : Scope) (es : List Expr) (m : MT) : Prop := ∃ t : WX → TT, (∀ X W, In c N sc X → Takes X W → PTs X es (t W)) ∧ ∀ W, Stt c.K W (t W) m
section
variable {c : C0} {N : List Str} {sc scope : Scope} {elt tg iter : Expr} {ifs : List Expr} {pos p1 spos : Pos} {own : List (Str × Nat)} {js : List Nat} {mi : MI} {mg : D → En → Option En} {mt : MT} {me : ME} {i : Nat} {x : Str}
theorem In.blk {oc : List Str} (ho : (oc.all fun x => scope.names.lookup x == some .cell) = true) {X : Cx} (I : In c N sc X) (s : Shared) (H : Hp) (C : Addr) (cl : List (Str × Addr)) (fp : List Addr) : In (c.inO oc) N (relS scope sc) (X.blk s H scope (compEnvC scope cl C X.env) fp) :=
  ⟨I.P, I.w, I.K, I.mg, I.base, I.rm, I.un, I.N, by
    show relS scope X.env.scope = _
    rw [I.sc], I.calm, fun h => (by cases h), PassesOwn.never, fun h => (by cases h), fun _ _ _ h => (by cases h), fun x h => by
      have h' := List.all_eq_true.mp ho x (List.contains_iff_mem.mp h)
      exact h'⟩
theorem jts_nil : JTs c N sc [] yesK := ⟨_, fun _ _ _ _ => pts_nil, fun _ B σ H ρ α S Qm Em m Q q x => q true B H α (Af.refl S.bs) m⟩
theorem jts_one {e : Expr} (h : JT c N sc e mt) : JTs c N sc [e] mt := by
  obtain ⟨t, h1, h2⟩ := h
  exact ⟨t, fun X W I T => pts_one (h1 X W I T), h2⟩
theorem jf_lc {oc : List Str} (nd : N.Nodup) (hi : JI c N sc tg iter mi) (ok : BlkOk N sc scope own) (hg : JTg (c.inO oc) N (relS scope sc) tg js mg) (ht : JTs (c.inO oc) N (relS scope sc) ifs mt) (he : JE (c.inO oc) N (relS scope sc) elt me)
    (hj : (js.all fun j => (own.map (·.2)).contains j) = true := by rfl) (hc : c.cm = true := by rfl) (ho : (oc.all fun x => scope.names.lookup x == some .cell) = true := by rfl) (hs : ∀ env x, foldedSetIterable iter env x = pure x := by intros; rfl) : JF c N sc (.ListComp elt [⟨tg, iter, ifs, 0⟩] scope pos) (lcK (own.map (·.2)) mi mg mt me) := by
  obtain ⟨wi, a1, a2⟩ := hi
  obtain ⟨g, b1, b2⟩ := hg
  obtain ⟨tt, c1, c2⟩ := ht
  obtain ⟨te, d1, d2⟩ := he
  refine ⟨fun W => tLc (wi W) g (tt fun _ _ _ _ => False) (te fun _ _ _ _ => False) (own.map (·.2)), fun X W I T => pe_lc (I.calm hc) (by rw [I.N]; exact nd) (a1 X W I T) (by rw [I.N, I.sc]; exact ok) (fun s H C cl fp => b1 _ (I.blk ho s H C cl fp)) (fun s H C cl fp => c1 _ _ (I.blk ho s H C cl fp) takes0) (fun s H C cl fp => d1 _ _ (I.blk ho s H C cl fp) takes0) (hs _), fun W => sf_lc (a2 W) b2 (fun j h => ?_) (c2 _) (d2 _)⟩
  have := (List.all_eq_true.mp hj) j h
  simpa using this
end
/-- p parameters, n slots -/
def runF (p n : Nat) (m : MS) : Fm := fun ds α Q E => ds.length = p ∧ m (ds.map some ++ List.replicate (n - p) none) α { nx := fun _ α' => Q .none α', rt := Q, bk := fun _ _ => False, ct := fun _ _ => False, ex := fun x _ α' => E x α' }
/-- .. that leaves no cell behind but those that were there -/
def runP (p n : Nat) (m : MS) : Fm := fun ds α Q E => runF p n m ds α (fun d α' => Q d (arst α α')) (fun x α' => E x (arst α α'))
section
variable {K : Frag} {B : Addr → Bool} {H : Hp} {α : AH} {vs : List V} {ds : List D} {n : Nat}
theorem entry_sr (S : Bs K B H α) (r : RpL K (hide B H) vs ds) : SR K B (vs.map some ++ List.replicate n none) H (ds.map some ++ List.replicate n none) α := by
  refine ⟨by simp [r.length], fun i d e => ?_, S⟩
  rcases Nat.lt_or_ge i ds.length with hi | hi
  · rw [List.getElem?_append_left (by simpa using hi), List.getElem?_map] at e
    cases q : ds[i]? with
    | none => rw [q] at e; cases e
    | some d' =>
      rw [q] at e
      cases e
      obtain ⟨v, h1, h2⟩ := r.get' q
      refine ⟨v, ?_, h2⟩
      rw [List.getElem?_append_left (by rw [List.length_map, r.length]; exact hi), List.getElem?_map, h1]
      rfl
  · rw [List.getElem?_append_right (by simpa using hi), List.getElem?_replicate] at e
    split at e <;> cases e
theorem Fi.none_ {D : Md} {Q : VK} (h1 : ∀ B' H' ρ' α', Af K B H α B' H' α' → D.nx ρ' α' → Q .non H') (h2 : ∀ v d B' H' α', Af K B H α B' H' α' → Rp K (hide B' H') v d → D.rt d α' → Q v H') (h3 : ∀ ρ' α', ¬ D.bk ρ' α') (h4 : ∀ ρ' α', ¬ D.ct ρ' α') : Fi K B H α D { nx := fun _ H' => Q .non H', rt := Q } :=
  ⟨fun B' σ' H' ρ' α' a _ z => h1 B' H' ρ' α' a z, h2, fun _ _ _ ρ' α' _ _ z => (h3 ρ' α' z).elim, fun _ _ _ ρ' α' _ _ z => (h4 ρ' α' z).elim⟩
end
theorem spD_pure {K : Frag} {p n : Nat} {m : MS} {vs : List V} {H : Hp} {Q : VK} {E : XK} (h : spD K (runP p n m) vs H Q E) : spD K (runF p n m) vs H Q E := by
  obtain ⟨B, α, ds, Qm, Em, S0, r, mm, q, y⟩ := h
  refine ⟨B, α, ds, _, _, S0, r, mm, fun v d B' H' α' a r z => ?_, fun x B' α' cls d H' a xr z => ?_⟩
  · obtain ⟨B2, a2, s2⟩ := a.rst S0
    exact q v d B2 H' _ a2 (r.mono s2) z
  · obtain ⟨B2, a2, s2⟩ := a.rst S0
    exact y x B2 _ cls d H' a2 (xr.mono s2) z
end Hz
namespace Hz
open PySem L2
variable {c : C0} {N : List Str} {sc : Scope}
def okD : Nat → D → Bool
  | _, .none => true
  | _, .bool _ => true
  | _, .int _ => true
  | _, .str x => PyData.strOk x
  | k + 1, .list ds => ds.all (okD k)
  | k + 1, .tuple ds => ds.all (okD k)
  | _, _ => false
theorem okD_all {k : Nat} (h : ∀ d, okD k d = true → d.canLay0 = true ∧ d.depth ≤ k ∧ plain d = true) : ∀ ds : List D, ds.all (okD k) = true → PyData.canLayAll0 ds = true ∧ PyData.depthAll ds ≤ k ∧ plains ds = true
  | [], _ => ⟨rfl, Nat.zero_le _, rfl⟩
  | d :: ds, q => by
    have q' : okD k d = true ∧ ds.all (okD k) = true := by simpa using q
    obtain ⟨a1, a2, a3⟩ := h d q'.1
    obtain ⟨b1, b2, b3⟩ := okD_all h ds q'.2
    refine ⟨by simp [PyData.canLayAll0, a1, b1], ?_, by simp [plains, a3, b3]⟩
    show max d.depth (PyData.depthAll ds) ≤ k
    omega
theorem okD_ok : ∀ (k : Nat) (d : D), okD k d = true → d.canLay0 = true ∧ d.depth ≤ k ∧ plain d = true
  | k, .none, _ => ⟨rfl, by cases k <;> exact Nat.zero_le _, rfl⟩
  | k, .bool _, _ => ⟨rfl, by cases k <;> exact Nat.zero_le _, rfl⟩
  | k, .int _, _ => ⟨rfl, by cases k <;> exact Nat.zero_le _, rfl⟩
  | k, .str x, h => ⟨by cases k <;> exact h, by cases k <;> exact Nat.zero_le _, rfl⟩
  | 0, .list ds, h => by cases h
  | 0, .tuple ds, h => by cases h
  | k + 1, .list ds, h => by
    obtain ⟨a, b, c⟩ := okD_all (okD_ok k) ds h
    exact ⟨a, Nat.succ_le_succ b, c⟩
  | k + 1, .tuple ds, h => by
    obtain ⟨a, b, c⟩ := okD_all (okD_ok k) ds h
    exact ⟨a, Nat.succ_le_succ b, c⟩
  | 0, .dict _, h => by cases h
  | k + 1, .dict _, h => by cases h
theorem okD_shaped {k : Nat} {d : D} (h : okD k d = true) (hk : k ≤ 64) : SeqAt.shaped d = true ∧ plain d = true := by
  obtain ⟨a, b, e⟩ := okD_ok k d h
  exact ⟨by unfold SeqAt.shaped; simp [a]; omega, e⟩
theorem lst_new {K : Frag} {B : Addr → Bool} {H : Hp} {p : Addr} {vs : List V} {ds : List D} (bk : ∀ a, B a = true → ∃ o, H a = some o) (h : H p = none) (r : RpL K (hide B H) vs ds) : Sub H (upd H p (.lst vs)) ∧ Rp K (hide B (upd H p (.lst vs))) (.ref p) (.list ds) := by
  have bp : B p = false := by
    cases q : B p with
    | false => rfl
    | true => obtain ⟨o, e⟩ := bk p q; rw [h] at e; cases e
  exact ⟨Sub.new h, .lst (.inl (.inl (hide_of bp upd_same))) (r.mono (hsub (Sub.new h)))⟩
/-- t + u, its object known -/
def rCatX (K : Frag) : R2 := fun x y H Q => ∃ a b xs ys, x = .ref a ∧ y = .ref b ∧ SqT K H a xs ∧ SqT K H b ys ∧ xs.length + ys.length ≤ sizeLine ∧
  (xs = [] → Q (.ref b) H) ∧ (xs ≠ [] → ys = [] → Q (.ref a) H) ∧ (xs ≠ [] → ys ≠ [] → ∀ p o, ExT o → H p = none → Q (.ref p) (upd H p (.frz o (.tup (xs ++ ys)))))
theorem op_catX {X : Cx} : OpR X (binaryOp .Add) (rCatX X.K) := by
  intro pins s σ H x y v u Q I rx ry h
  obtain ⟨a, b, xs, ys, rfl, rfl, ha, hb, hz, q0, q1, q2⟩ := h
  cases rx
  cases ry
  obtain ⟨its, r1, p1, _⟩ := I.tuple ha
  obtain ⟨its2, r2, p2, _⟩ := I.tuple hb
  by_cases hx : xs = []
  · subst hx
    cases r1
    exact cat_tup0 p1 p2 ⟨.ref b, H, I, rfl, q0 rfl⟩
  · refine HT.cat_tup p1 p2 (fun z => hx (r1.nil_iff.mp z)) (fun z => ⟨.ref a, H, I, rfl, q1 hx (r2.nil_iff.mp z)⟩) (fun z => ?_) (by rw [← r1.length, ← r2.length]; exact hz)
    exact ⟨.ref s.heap.objs.size, _, tnew I (r1.append r2) (by rw [List.length_append]; exact hz), rfl, q2 hx (fun w => z (r2.nil_iff.mpr w)) _ _ ⟨rfl, rfl⟩ (I.hok.fresh (Nat.le_refl _))⟩
/-- list + list, whatever the lists are -/
def rCatL (K : Frag) : R2 := fun x y H Q => ∃ a b xs ys, x = .ref a ∧ y = .ref b ∧ SqL K H a xs ∧ SqL K H b ys ∧ xs.length + ys.length ≤ sizeLine ∧ ∀ p, H p = none → Q (.ref p) (upd H p (.lst (xs ++ ys)))
theorem op_catL {X : Cx} : OpR X (binaryOp .Add) (rCatL X.K) := by
  intro pins s σ H x y v u Q I rx ry h
  obtain ⟨l, b, xs, zs, rfl, rfl, hH, hB, hz, q⟩ := h
  cases rx
  cases ry
  obtain ⟨its, r, pl, z1⟩ := I.list hH
  obtain ⟨its2, r2, pl2, z2⟩ := I.list hB
  have l1 := r.length
  have l2 := r2.length
  obtain ⟨⟨cls, dd, data, sl⟩, ho, hc, n, hd⟩ := pl.isList
  obtain ⟨⟨cls2, dd2, data2, sl2⟩, ho2, hc2, n2, hd2⟩ := pl2.isList
  simp only at hc hd hc2 hd2
  subst hc hd hc2 hd2
  have e : its.toArray ++ its2.toArray = (its ++ its2).toArray := by simp
  refine concat_meets ⟨_, ho, rfl⟩ ⟨_, ho2, rfl⟩ noFill_list_add seq_list_add PySem.F.slot_list_add PySem.F.entry_list_add (PySem.F.args_list_add_2 _ _) (PyProof.Rows.list_addW l b its.toArray its2.toArray n n2 dd dd2 sl sl2 (by rw [List.size_toArray, List.size_toArray]; omega)) ⟨ho, ho2, ?_⟩
  rw [e]
  exact ⟨.ref _, _, I.lnew (t' := s.toks) (r.append r2) (by rw [List.length_append]; omega), rfl, q _ I.fresh⟩
def dAdd : D → D → Option D
  | .int a, .int b => some (.int (a + b))
  | .str a, .str b => if a.length + b.length ≤ 100000 then some (.str (a ++ b)) else none
  | .list a, .list b => if a.length + b.length ≤ 100000 then some (.list (a ++ b)) else none
  | .tuple a, .tuple b => if a.length + b.length ≤ 100000 then some (.tuple (a ++ b)) else none
  | _, _ => none
theorem o_add : OpD c.K (In c N sc) (binaryOp .Add) dAdd := by
  refine ⟨_, fun X I => by
    have h := OpR.or (X := X) op_add (OpR.or op_add_str (OpR.or op_catL op_catX))
    rw [I.K] at h
    exact h, fun B H x y d e z bk hx hy hz Q q => ?_⟩
  unfold dAdd at hz
  split at hz
  · cases hz
    exact .inl ⟨_, _, hx.int, hy.int, q _ H (Sub.refl H) (.int _)⟩
  · split at hz
    · rename_i hl
      cases hz
      exact .inr (.inl ⟨_, _, hx.str, hy.str, sz5 hl, q _ H (Sub.refl H) (.str _)⟩)
    · cases hz
  · split at hz
    · rename_i hl
      cases hz
      obtain ⟨a, xs, rfl, h1, r1⟩ := hx.list
      obtain ⟨b, ys, rfl, h2, r2⟩ := hy.list
      refine .inr (.inr (.inl ⟨a, b, xs, ys, rfl, rfl, h1, h2, by rw [r1.length, r2.length]; exact sz5 hl, fun p hp => ?_⟩))
      obtain ⟨s1, r3⟩ := lst_new bk hp (r1.append r2)
      exact q _ _ s1 r3
    · cases hz
  · split at hz
    · rename_i a b hl
      cases hz
      obtain ⟨a, xs, rfl, h1, r1⟩ := hx.tuple
      obtain ⟨b, ys, rfl, h2, r2⟩ := hy.tuple
      have sub : ∀ {w : Addr} {us : List V} {ds : List D}, Rs c.K B H (.ref w) (.tuple ds) → Rp c.K (hide B H) (.ref w) (.tuple ds) := fun h => by
        cases h with
        | vis h => exact h
      refine .inr (.inr (.inr ⟨a, b, xs, ys, rfl, rfl, h1, h2, by rw [r1.length, r2.length]; exact sz5 hl, fun e => ?_, fun _ e => ?_, fun _ _ p o ho hp => ?_⟩))
      · subst e
        cases r1
        exact q _ H (Sub.refl H) (sub (us := ys) hy)
      · subst e
        cases r2
        rw [List.append_nil] at q
        exact q _ H (Sub.refl H) (sub (us := xs) hx)
      · obtain ⟨s1, r3⟩ := tup_new bk ho hp (r1.append r2)
        exact q _ _ s1 r3
    · cases hz
  · cases hz
/-- list + list, a new list of the def's own -/
def dCat : D → D → Option D
  | .list a, .list b => if a.length + b.length ≤ 100000 then some (.list (a ++ b)) else none
  | _, _ => none
def dSub : D → D → Option D
  | .int a, .int b => some (.int (a - b))
  | _, _ => none
theorem o_sub : OpD c.K (In c N sc) (binaryOp .Sub) dSub := by
  refine ⟨_, fun X I => op_sub, fun B H x y d e z bk hx hy hz Q q => ?_⟩
  unfold dSub at hz
  split at hz
  · cases hz
    exact ⟨_, _, hx.int, hy.int, q _ H (Sub.refl H) (.int _)⟩
  · cases hz
/-- one factor below 2^64 -/
def dMul : D → D → Option D
  | .int a, .int b => if (-(2 ^ 64) < a ∧ a < 2 ^ 64) ∨ (-(2 ^ 64) < b ∧ b < 2 ^ 64) then some (.int (a * b)) else none
  | _, _ => none
theorem o_mul : OpD c.K (In c N sc) (binaryOp .Mult) dMul := by
  refine ⟨_, fun X I => op_mul, fun B H x y d e z bk hx hy hz Q q => ?_⟩
  unfold dMul at hz
  split at hz
  · split at hz
    · rename_i hc
      cases hz
      exact ⟨_, _, hx.int, hy.int, hc, q _ H (Sub.refl H) (.int _)⟩
    · cases hz
  · cases hz
def dMod : D → D → Option D
  | .int a, .int b => if 0 < b then some (.int (a % b)) else none
  | _, _ => none
theorem o_mod : OpD c.K (In c N sc) (binaryOp .Mod) dMod := by
  refine ⟨_, fun X I => op_mod, fun B H x y d e z bk hx hy hz Q q => ?_⟩
  unfold dMod at hz
  split at hz
  · split at hz
    · rename_i hc
      cases hz
      exact ⟨_, _, hx.int, hy.int, hc, q _ H (Sub.refl H) (.int _)⟩
    · cases hz
  · cases hz
/-- a divisor below 2^9000 -/
def dDiv : D → D → Option D
  | .int a, .int b => if 0 < b ∧ b < 2 ^ 80 then some (.int (a / b)) else none
  | _, _ => none
theorem o_div : OpD c.K (In c N sc) (binaryOp .FloorDiv) dDiv := by
  refine ⟨_, fun X I => op_fdivW, fun B H x y d e z bk hx hy hz Q q => ?_⟩
  unfold dDiv at hz
  split at hz
  · split at hz
    · rename_i hc
      cases hz
      exact ⟨_, _, hx.int, hy.int, wide_div (b := 80) hc.1 (by omega) (by decide) (by decide), q _ H (Sub.refl H) (.int _)⟩
    · cases hz
  · cases hz
def dPow : D → D → Option D
  | .int a, .int b => if 0 ≤ b ∧ b ≤ 1000000 ∧ a.natAbs < 2 ^ 64 then some (.int (a ^ b.toNat)) else none
  | _, _ => none
theorem o_pow : OpD c.K (In c N sc) (binaryOp .Pow) dPow := by
  refine ⟨_, fun X I => op_pow, fun B H x y d e z bk hx hy hz Q q => ?_⟩
  unfold dPow at hz
  split at hz
  · split at hz
    · rename_i hc
      cases hz
      exact ⟨_, _, hx.int, hy.int, hc, q _ H (Sub.refl H) (.int _)⟩
    · cases hz
  · cases hz
def dShl : D → D → Option D
  | .int a, .int b => if 0 ≤ b ∧ b ≤ 1000000 ∧ a.natAbs < 2 ^ 64 then some (.int (a * 2 ^ b.toNat)) else none
  | _, _ => none
def dShr : D → D → Option D
  | .int a, .int b => if 0 ≤ b then some (.int (a / 2 ^ b.toNat)) else none
  | _, _ => none
/-- data that are alike, in order -/
def okC (d e : D) : Bool := okD 60 d && okD 60 e && PySem.W.alike d e && (match d with
  | .none => false
  | _ => true)
theorem okC_all {d e : D} (h : okC d e = true) : okD 60 d = true ∧ okD 60 e = true ∧ PySem.W.alike d e = true ∧ d ≠ .none := by
  unfold okC at h
  simp only [Bool.and_eq_true] at h
  refine ⟨h.1.1.1, h.1.1.2, h.1.2, fun z => ?_⟩
  rw [z] at h
  cases h.2
def rCmpLt (K : Frag) : R2 := fun x y H Q => ∃ d e, Dp K H x d ∧ Dp K H y e ∧ okC d e = true ∧ Q (.bl (PySem.W.dataLt d e)) H
theorem op_cmpLt {X : Cx} (hu : X.A.units + 64 < cLine) : OpR X (compareOp .Lt) (rCmpLt X.K) := by
  intro pins s σ H x y v u Q I rx ry h
  obtain ⟨d, e, hd, he, ok, q⟩ := h
  obtain ⟨k1, k2, k3, k4⟩ := okC_all ok
  obtain ⟨as, r1⟩ := Dp.reads I d x v hd rx
  obtain ⟨bs, r2⟩ := Dp.reads I e y u he ry
  have z := (okD_ok 60 d k1).2.1
  exact PySem.W.lt_data r1 r2 k3 k4 (by omega) ⟨.bl _, H, I, rfl, q⟩
def dLt (d e : D) : Option D := match d, e with
  | .int a, .int b => some (.bool (decide (a < b)))
  | .str a, .str b => some (.bool (decide (a.cps.toList < b.cps.toList)))
  | d, e => if okC d e = true then some (.bool (PySem.W.dataLt d e)) else none
theorem o_lt : OpD c.K (In c N sc) (compareOp .Lt) dLt := by
  refine ⟨_, fun X I => by
    have h := OpR.or (X := X) op_lt (OpR.or op_lt_str (op_cmpLt I.u64))
    rw [I.K] at h
    exact h, fun B H x y d e z bk hx hy hz Q q => ?_⟩
  unfold dLt at hz
  split at hz
  · cases hz
    exact .inl ⟨_, _, hx.int, hy.int, q _ H (Sub.refl H) (.bl _)⟩
  · cases hz
    exact .inr (.inl ⟨_, _, hx.str, hy.str, q _ H (Sub.refl H) (.bl _)⟩)
  · split at hz
    · rename_i ok
      cases hz
      obtain ⟨k1, k2, k3, k4⟩ := okC_all ok
      exact .inr (.inr ⟨_, _, hx.rp.dp (okD_ok 60 _ k1).2.2, hy.rp.dp (okD_ok 60 _ k2).2.2, ok, q _ H (Sub.refl H) (.bl _)⟩)
    · cases hz
def rCmpGt (K : Frag) : R2 := fun x y H Q => ∃ d e, Dp K H x d ∧ Dp K H y e ∧ okC d e = true ∧ Q (.bl (PySem.W.dataLt e d)) H
theorem op_cmpGt {X : Cx} (hu : X.A.units + 64 < cLine) : OpR X (compareOp .Gt) (rCmpGt X.K) := by
  intro pins s σ H x y v u Q I rx ry h
  obtain ⟨d, e, hd, he, ok, q⟩ := h
  obtain ⟨k1, k2, k3, k4⟩ := okC_all ok
  obtain ⟨as, r1⟩ := Dp.reads I d x v hd rx
  obtain ⟨bs, r2⟩ := Dp.reads I e y u he ry
  have z := (okD_ok 60 d k1).2.1
  exact PySem.W.gt_data r1 r2 k3 k4 (by omega) ⟨.bl _, H, I, rfl, q⟩
def dGt (d e : D) : Option D := match d, e with
  | .int a, .int b => some (.bool (decide (b < a)))
  | .str a, .str b => some (.bool (decide (b.cps.toList < a.cps.toList)))
  | d, e => if okC d e = true then some (.bool (PySem.W.dataLt e d)) else none
theorem o_gt : OpD c.K (In c N sc) (compareOp .Gt) dGt := by
  refine ⟨_, fun X I => by
    have h := OpR.or (X := X) op_gt (OpR.or op_gt_str (op_cmpGt I.u64))
    rw [I.K] at h
    exact h, fun B H x y d e z bk hx hy hz Q q => ?_⟩
  unfold dGt at hz
  split at hz
  · cases hz
    exact .inl ⟨_, _, hx.int, hy.int, q _ H (Sub.refl H) (.bl _)⟩
  · cases hz
    exact .inr (.inl ⟨_, _, hx.str, hy.str, q _ H (Sub.refl H) (.bl _)⟩)
  · split at hz
    · rename_i ok
      cases hz
      obtain ⟨k1, k2, k3, k4⟩ := okC_all ok
      exact .inr (.inr ⟨_, _, hx.rp.dp (okD_ok 60 _ k1).2.2, hy.rp.dp (okD_ok 60 _ k2).2.2, ok, q _ H (Sub.refl H) (.bl _)⟩)
    · cases hz
def rCmpLtE (K : Frag) : R2 := fun x y H Q => ∃ d e, Dp K H x d ∧ Dp K H y e ∧ okC d e = true ∧ Q (.bl (!PySem.W.dataLt e d)) H
theorem op_cmpLtE {X : Cx} (hu : X.A.units + 64 < cLine) : OpR X (compareOp .LtE) (rCmpLtE X.K) := by
  intro pins s σ H x y v u Q I rx ry h
  obtain ⟨d, e, hd, he, ok, q⟩ := h
  obtain ⟨k1, k2, k3, k4⟩ := okC_all ok
  obtain ⟨as, r1⟩ := Dp.reads I d x v hd rx
  obtain ⟨bs, r2⟩ := Dp.reads I e y u he ry
  have z := (okD_ok 60 d k1).2.1
  exact PySem.W.le_data r1 r2 k3 k4 (by omega) ⟨.bl _, H, I, rfl, q⟩
def dLe (d e : D) : Option D := match d, e with
  | .int a, .int b => some (.bool (decide (a ≤ b)))
  | d, e => if okC d e = true then some (.bool (!PySem.W.dataLt e d)) else none
theorem o_le : OpD c.K (In c N sc) (compareOp .LtE) dLe := by
  refine ⟨_, fun X I => by
    have h := OpR.or (X := X) op_le (op_cmpLtE I.u64)
    rw [I.K] at h
    exact h, fun B H x y d e z bk hx hy hz Q q => ?_⟩
  unfold dLe at hz
  split at hz
  · cases hz
    exact .inl ⟨_, _, hx.int, hy.int, q _ H (Sub.refl H) (.bl _)⟩
  · split at hz
    · rename_i ok
      cases hz
      obtain ⟨k1, k2, k3, k4⟩ := okC_all ok
      exact .inr (⟨_, _, hx.rp.dp (okD_ok 60 _ k1).2.2, hy.rp.dp (okD_ok 60 _ k2).2.2, ok, q _ H (Sub.refl H) (.bl _)⟩)
    · cases hz
def rCmpGtE (K : Frag) : R2 := fun x y H Q => ∃ d e, Dp K H x d ∧ Dp K H y e ∧ okC d e = true ∧ Q (.bl (!PySem.W.dataLt d e)) H
theorem op_cmpGtE {X : Cx} (hu : X.A.units + 64 < cLine) : OpR X (compareOp .GtE) (rCmpGtE X.K) := by
  intro pins s σ H x y v u Q I rx ry h
  obtain ⟨d, e, hd, he, ok, q⟩ := h
  obtain ⟨k1, k2, k3, k4⟩ := okC_all ok
  obtain ⟨as, r1⟩ := Dp.reads I d x v hd rx
  obtain ⟨bs, r2⟩ := Dp.reads I e y u he ry
  have z := (okD_ok 60 d k1).2.1
  exact PySem.W.ge_data r1 r2 k3 k4 (by omega) ⟨.bl _, H, I, rfl, q⟩
def dGe (d e : D) : Option D := match d, e with
  | .int a, .int b => some (.bool (decide (b ≤ a)))
  | d, e => if okC d e = true then some (.bool (!PySem.W.dataLt d e)) else none
theorem o_ge : OpD c.K (In c N sc) (compareOp .GtE) dGe := by
  refine ⟨_, fun X I => by
    have h := OpR.or (X := X) op_ge (op_cmpGtE I.u64)
    rw [I.K] at h
    exact h, fun B H x y d e z bk hx hy hz Q q => ?_⟩
  unfold dGe at hz
  split at hz
  · cases hz
    exact .inl ⟨_, _, hx.int, hy.int, q _ H (Sub.refl H) (.bl _)⟩
  · split at hz
    · rename_i ok
      cases hz
      obtain ⟨k1, k2, k3, k4⟩ := okC_all ok
      exact .inr (⟨_, _, hx.rp.dp (okD_ok 60 _ k1).2.2, hy.rp.dp (okD_ok 60 _ k2).2.2, ok, q _ H (Sub.refl H) (.bl _)⟩)
    · cases hz
def dEqB (d e : D) : Option Bool := match d, e with
  | .str a, .str b => some (a == b)
  | _, _ => if okD 60 d = true ∧ okD 60 e = true then some (PyData.eqv d e) else none
def dEq (d e : D) : Option D := (dEqB d e).map .bool
def dNe (d e : D) : Option D := (dEqB d e).map fun b => .bool (!b)
theorem o_eq : OpD c.K (In c N sc) (compareOp .Eq) dEq := by
  refine ⟨_, fun X I => by
    have h := OpR.or (X := X) op_eq (op_eqD I.u64)
    rw [I.K] at h
    exact h, fun B H x y d e z bk hx hy hz Q q => ?_⟩
  unfold dEq dEqB at hz
  split at hz
  · simp at hz
    subst hz
    refine .inl ⟨?_, ?_⟩
    · rw [hx.str, hy.str]; rfl
    · rw [hx.str, hy.str, dec_str]
      exact q _ H (Sub.refl H) (.bl _)
  · split at hz
    · rename_i ho
      simp at hz
      subst hz
      obtain ⟨a1, a2⟩ := okD_shaped ho.1 (by decide)
      obtain ⟨b1, b2⟩ := okD_shaped ho.2 (by decide)
      exact .inr ⟨d, e, hx.rp.dp a2, hy.rp.dp b2, a1, b1, q _ H (Sub.refl H) (.bl _)⟩
    · simp at hz
theorem o_ne : OpD c.K (In c N sc) (compareOp .NotEq) dNe := by
  refine ⟨_, fun X I => by
    have h := OpR.or (X := X) op_ne (op_neD I.u64)
    rw [I.K] at h
    exact h, fun B H x y d e z bk hx hy hz Q q => ?_⟩
  unfold dNe dEqB at hz
  split at hz
  · simp at hz
    subst hz
    refine .inl ⟨?_, ?_⟩
    · rw [hx.str, hy.str]; rfl
    · rw [hx.str, hy.str, dec_str]
      exact q _ H (Sub.refl H) (.bl _)
  · split at hz
    · rename_i ho
      simp at hz
      subst hz
      obtain ⟨a1, a2⟩ := okD_shaped ho.1 (by decide)
      obtain ⟨b1, b2⟩ := okD_shaped ho.2 (by decide)
      exact .inr ⟨d, e, hx.rp.dp a2, hy.rp.dp b2, a1, b1, q _ H (Sub.refl H) (.bl _)⟩
    · simp at hz
def isNoneD : D → Bool
  | .none => true
  | _ => false
def dIs : D → D → Option D := fun d e => if isNoneD e then some (.bool (isNoneD d)) else none
def dIsNot : D → D → Option D := fun d e => if isNoneD e then some (.bool (!isNoneD d)) else none
/-- x in a text (one sign) | a list of any data | a tuple of flat data -/
def flatD : D → Bool
  | .none => true
  | .bool _ => true
  | .int _ => true
  | .str _ => true
  | _ => false
theorem flatD_v {K : Frag} {H : Hp} {v : V} {d : D} (h : Rp K H v d) (f : flatD d = true) : flatV v = true := by
  cases h <;> first | rfl | cases f
theorem flatD_all {K : Frag} {H : Hp} : ∀ {vs : List V} {ds : List D}, RpL K H vs ds → ds.all flatD = true → vs.all flatV = true
  | _, _, .nil, _ => rfl
  | _, _, .cons h r, f => by
    simp at f ⊢
    exact ⟨flatD_v h f.1, by simpa using flatD_all r (by simpa using f.2)⟩
theorem eqV_eqv {K : Frag} {H H' : Hp} {v u : V} {d e : D} (h : Rp K H v d) (k : Rp K H' u e) (f : flatD d = true) (g : flatD e = true) : eqV v u = PyData.eqv d e := by
  cases h <;> first | (cases f; done) | (cases k <;> first | (cases g; done) | rfl)
theorem inV_any {K : Frag} {H H' : Hp} {x : V} {d : D} (h : Rp K H' x d) (f : flatD d = true) : ∀ {vs : List V} {ds : List D}, RpL K H vs ds → ds.all flatD = true → inV x vs = ds.any fun z => PyData.eqv z d
  | _, _, .nil, _ => rfl
  | _, _, .cons r rr, g => by
    simp at g
    have ih := inV_any h f rr (by simpa using g.2)
    unfold inV at ih ⊢
    rw [List.any_cons, List.any_cons, ih, eqV_eqv r h g.1 f]
def dInB (d e : D) : Option Bool := match d, e with
  | .str ⟨⟨[c]⟩⟩, .str z => some (decide (c ∈ z.cps.toList))
  | d, .list ds => if okD 60 d = true ∧ okD 60 (.list ds) = true then some (ds.any fun z => PyData.eqv z d) else none
  | d, .tuple ds => if flatD d = true ∧ ds.all flatD = true then some (ds.any fun z => PyData.eqv z d) else none
  | _, _ => none
def dIn (d e : D) : Option D := (dInB d e).map .bool
def dNotIn (d e : D) : Option D := (dInB d e).map fun b => .bool (!b)
theorem o_in : OpD c.K (In c N sc) (compareOp .In) dIn := by
  refine ⟨_, fun X I => by
    have h := OpR.or (X := X) op_in_sign (OpR.or (op_inD (I.u65)) op_in_seq)
    rw [I.K] at h
    exact h, fun B H x y d e z bk hx hy hz Q q => ?_⟩
  unfold dIn dInB at hz
  split at hz
  · simp at hz
    subst hz
    exact .inl ⟨_, _, hx.str, hy.str, by simpa using q _ H (Sub.refl H) (.bl _)⟩
  · split at hz
    · rename_i ho
      simp at hz
      subst hz
      obtain ⟨a1, a2⟩ := okD_shaped ho.1 (by decide)
      obtain ⟨b1, b2⟩ := okD_shaped ho.2 (by decide)
      exact .inr (.inl ⟨_, _, hx.rp.dp a2, hy.rp.dp b2, a1, b1, q _ H (Sub.refl H) (.bl _)⟩)
    · simp at hz
  · split at hz
    · rename_i ho
      simp at hz
      subst hz
      obtain ⟨a, xs, rfl, h1, r1⟩ := hy.tuple
      refine .inr (.inr ⟨a, xs, rfl, .inr h1, flatD_v hx.rp ho.1, flatD_all r1 ho.2, ?_⟩)
      rw [if_neg Bool.false_ne_true, inV_any hx.rp ho.1 r1 ho.2]
      exact q _ H (Sub.refl H) (.bl _)
    · simp at hz
  · simp at hz
theorem o_notIn : OpD c.K (In c N sc) (compareOp .NotIn) dNotIn := by
  refine ⟨_, fun X I => by
    have h := OpR.or (X := X) op_notIn_sign (OpR.or (op_notInD (I.u65)) op_notIn_seq)
    rw [I.K] at h
    exact h, fun B H x y d e z bk hx hy hz Q q => ?_⟩
  unfold dNotIn dInB at hz
  split at hz
  · simp at hz
    subst hz
    exact .inl ⟨_, _, hx.str, hy.str, by simpa using q _ H (Sub.refl H) (.bl _)⟩
  · split at hz
    · rename_i ho
      simp at hz
      subst hz
      obtain ⟨a1, a2⟩ := okD_shaped ho.1 (by decide)
      obtain ⟨b1, b2⟩ := okD_shaped ho.2 (by decide)
      exact .inr (.inl ⟨_, _, hx.rp.dp a2, hy.rp.dp b2, a1, b1, q _ H (Sub.refl H) (.bl _)⟩)
    · simp at hz
  · split at hz
    · rename_i ho
      simp at hz
      subst hz
      obtain ⟨a, xs, rfl, h1, r1⟩ := hy.tuple
      refine .inr (.inr ⟨a, xs, rfl, .inr h1, flatD_v hx.rp ho.1, flatD_all r1 ho.2, ?_⟩)
      rw [if_pos rfl, inV_any hx.rp ho.1 r1 ho.2]
      exact q _ H (Sub.refl H) (.bl _)
    · simp at hz
  · simp at hz
end Hz
namespace Hz
open PySem L2
def negK (m : ME) : ME := fun ρ α Q E => m ρ α (fun d α1 => ∃ i : Int, d = .int i ∧ Q (.int (-i)) α1) E
section
variable {c : C0} {N : List Str} {sc : Scope} {a b : Expr} {ma mb : ME} {g : D → D → Option D} {i : Nat} {pos p1 : Pos} {x : Str}
theorem je_neg (h : JE c N sc a ma) : JE c N sc (.UnaryOp .USub a pos) (negK ma) := by
  obtain ⟨t, h1, h2⟩ := h
  refine ⟨_, fun X W I T => pe_un un_neg (h1 X W I T), fun W B σ H ρ α S Qm Em m Q q x => h2 W B σ H ρ α S _ Em m _ (fun v d B1 H1 α1 A r m => ?_) x⟩
  obtain ⟨z, rfl, m⟩ := m
  exact ⟨z, r.inti, q _ _ B1 H1 α1 A (.int _) m⟩
structure IxD (K : Frag) (XS : Cx → Prop) (g : D → D → Option D) : Prop where
  ex : ∃ r : R2, (∀ X, XS X → IxR X r) ∧ ∀ (B : Addr → Bool) (H : Hp) (x y : V) (d e z : D), (∀ a, B a = true → ∃ o, H a = some o) → Rs K B H x d → Rs K B H y e → g d e = some z →
    ∀ Q : VK, (∀ v H', Sub H H' → Rp K (hide B H') v z → Q v H') → r x y H Q
def dIx : D → D → Option D
  | .list ds, .int i => (ixN ds.length i).bind fun j => ds[j]?
  | .tuple ds, .int i => (ixN ds.length i).bind fun j => ds[j]?
  | .str z, .int i => if z.length ≤ 100000 then (ixN z.cps.toList.length i).bind fun j => (z.cps.toList[j]?).map fun k => .str ⟨#[k]⟩ else none
  | _, _ => none
theorem o_ix : IxD c.K (In c N sc) dIx := by
  refine ⟨_, fun X I => by
    have h := IxR.or (X := X) ix_list (IxR.or ix_tup ix_str)
    rw [I.K] at h
    exact h, fun B H x y d e z bk hx hy hz Q q => ?_⟩
  unfold dIx at hz
  split at hz
  · rename_i ds k
    obtain ⟨a, xs, rfl, h1, r1⟩ := hx.list
    cases hj : ixN ds.length k with
    | none => simp [hj] at hz
    | some j =>
      simp [hj] at hz
      obtain ⟨v, g1, g2⟩ := r1.get' hz
      refine .inl ⟨a, xs, k, v, rfl, hy.int, h1, ?_, q v H (Sub.refl H) g2⟩
      unfold atI
      rw [r1.length, hj]
      exact g1
  · rename_i ds k
    obtain ⟨a, xs, rfl, h1, r1⟩ := hx.tuple
    cases hj : ixN ds.length k with
    | none => simp [hj] at hz
    | some j =>
      simp [hj] at hz
      obtain ⟨v, g1, g2⟩ := r1.get' hz
      refine .inr (.inl ⟨a, xs, k, v, rfl, hy.int, h1, ?_, q v H (Sub.refl H) g2⟩)
      unfold atI
      rw [r1.length, hj]
      exact g1
  · rename_i s k
    split at hz
    · rename_i hl
      cases hj : ixN s.cps.toList.length k with
      | none => rw [hj] at hz; cases hz
      | some j =>
        rw [hj, Option.bind_some] at hz
        cases hk : s.cps.toList[j]? with
        | none => rw [hk] at hz; cases hz
        | some w =>
          rw [hk] at hz
          cases hz
          refine .inr (.inr ⟨s, k, w, hx.str, hy.int, sz5 hl, ?_, q _ H (Sub.refl H) (.str _)⟩)
          unfold atI
          rw [hj]
          exact hk
    · cases hz
  · cases hz
theorem je_ix (ho : IxD c.K (In c N sc) g) (ha : JE c N sc a ma) (hb : JE c N sc b mb) (hs : PlainIx b := by intro _ _; rfl) : JE c N sc (.Subscript a b pos) (bop g ma mb) := by
  obtain ⟨r, h1, h2⟩ := ho.ex
  obtain ⟨ta, p1, s1⟩ := ha
  obtain ⟨tb, p2, s2⟩ := hb
  exact ⟨_, fun X W I T => pe_ix (h1 X I) (p1 X W I T) (p2 X W I T) hs, fun W => sd_bop (s1 W) (s2 W) h2⟩
end
abbrev MP := En → AH → (Option Int → AH → Prop) → QX → Prop
def SP_ (K : Frag) (W : WX) (t : TO) (m : MP) : Prop :=
  ∀ B σ H ρ α, SR K B σ H ρ α → ∀ Qm Em, m ρ α Qm Em → ∀ Q : Option Int → Hp → Prop, (∀ o B' H' α', Af K B H α B' H' α' → Qm o α' → Q o H') → SX K W B σ H α Em → t σ H Q
def JP (c : C0) (N : List Str) (sc : Scope) (e : Option Expr) (m : MP) : Prop := ∃ t : WX → TO, (∀ X W, In c N sc X → Takes X W → PO X e (t W)) ∧ ∀ W, SP_ c.K W (t W) m
def pnone : MP := fun _ α Q _ => Q none α
def psome (m : ME) : MP := fun ρ α Q E => m ρ α (fun d α1 => ∃ i : Int, d = .int i ∧ Q (some i) α1) E
def cutD (xs : List D) (lo hi : Option Int) : List D := (xs.drop (HT.sIx xs.length 0 lo)).take (HT.sIx xs.length xs.length hi - HT.sIx xs.length 0 lo)
def dCut : D → Option Int → Option Int → Option D
  | .list ds, lo, hi => some (.list (cutD ds lo hi))
  | .tuple ds, lo, hi => some (.tuple (cutD ds lo hi))
  | .str z, lo, hi => if z.length ≤ 100000 then some (.str (cutS z lo hi)) else none
  | _, _, _ => none
def cutK (ma : ME) (ml mh : MP) : ME := fun ρ α Q E => ma ρ α (fun d α1 => ml ρ α1 (fun l α2 => mh ρ α2 (fun h α3 => oq (vw α3 d) fun d' => oq (dCut d' l h) fun z => Q z α3) E) E) E
theorem RpL.cut {K : Frag} {H : Hp} {vs : List V} {ds : List D} (r : RpL K H vs ds) (lo hi : Option Int) : RpL K H (cutV vs lo hi) (cutD ds lo hi) := by
  unfold cutV cutD
  rw [r.length]
  exact (r.drop _).take _
section
variable {c : C0} {N : List Str} {sc : Scope} {a : Expr} {lo hi : Option Expr} {ma : ME} {ml mh : MP} {i : Nat} {pos p1 p2 : Pos} {x : Str} {K : Frag} {W : WX}
theorem jp_none : JP c N sc none pnone := ⟨_, fun _ _ _ _ => po_none, fun W B σ H ρ α S Qm Em m Q q x => q _ B H α (Af.refl S.bs) m⟩
theorem jp_some (h : JE c N sc a ma) : JP c N sc (some a) (psome ma) := by
  obtain ⟨t, h1, h2⟩ := h
  refine ⟨_, fun X W I T => po_some (h1 X W I T), fun W B σ H ρ α S Qm Em m Q q x => h2 W B σ H ρ α S _ Em m _ (fun v d B1 H1 α1 A r m => ?_) x⟩
  obtain ⟨z, rfl, m⟩ := m
  exact ⟨z, r.inti, q _ B1 H1 α1 A m⟩
/-- t[lo:hi], its object known -/
def rSlX (K : Frag) : V → Option Int → Option Int → Hp → VK → Prop := fun x lo hi H Q => ∃ a xs, x = .ref a ∧ SqT K H a xs ∧
  (HT.sIx xs.length 0 lo = 0 ∧ HT.sIx xs.length xs.length hi = xs.length → Q (.ref a) H) ∧ (¬ (HT.sIx xs.length 0 lo = 0 ∧ HT.sIx xs.length xs.length hi = xs.length) → ∀ p o, ExT o → H p = none → Q (.ref p) (upd H p (.frz o (.tup (cutV xs lo hi)))))
theorem sl_tupX {X : Cx} : SlR X (rSlX X.K) := by
  intro pins s σ H x v vl vu lo hi sl Q I rx hs pl pu h
  obtain ⟨a, xs, rfl, hx, q1, q2⟩ := h
  cases rx
  obtain ⟨its, r, ht, hz⟩ := I.tuple hx
  have hlen : its.toArray.size = xs.length := by rw [List.size_toArray]; exact r.length.symm
  refine ⟨"tuple", _, PyProof.Rows.slot_tuple_getitem.lookup, ht.typeIs, ?_⟩
  by_cases hw : HT.sIx xs.length 0 lo = 0 ∧ HT.sIx xs.length xs.length hi = xs.length
  · exact getItem_tuple_whole ht hs pl pu (by rw [hlen]; exact hw) ⟨.ref a, H, I, rfl, q1 hw⟩
  · refine HT.getItem_tuple_cut ht hs pl pu (by rw [hlen]; exact hw) ?_ (by rw [hlen]; exact hz)
    rw [hlen]
    exact ⟨.ref s.heap.objs.size, _, tnew I ((r.drop (HT.sIx xs.length 0 lo)).take (HT.sIx xs.length xs.length hi - HT.sIx xs.length 0 lo)) (Nat.le_trans (cutV_length xs lo hi) hz), rfl, q2 hw _ _ ⟨rfl, rfl⟩ (I.hok.fresh (Nat.le_refl _))⟩
def rCutR (K : Frag) : V → Option Int → Option Int → Hp → VK → Prop := fun x lo hi H Q => rSlL K x lo hi H Q ∨ (rSlX K x lo hi H Q ∨ rSlS x lo hi H Q)
theorem cut_read {B : Addr → Bool} {H : Hp} {x : V} {d z : D} {l h : Option Int} (bk : ∀ a, B a = true → ∃ o, H a = some o) (hx : Rs K B H x d) (hz : dCut d l h = some z) : ∀ Q : VK, (∀ v H', Sub H H' → Rp K (hide B H') v z → Q v H') → rCutR K x l h H Q := fun Q q => by
  unfold dCut at hz
  split at hz
  · cases hz
    obtain ⟨a, xs, rfl, h1, r1⟩ := hx.list
    refine .inl ⟨a, xs, rfl, h1, fun p hp => ?_⟩
    obtain ⟨s1, r2⟩ := lst_new bk hp (r1.cut l h)
    exact q _ _ s1 r2
  · rename_i ds
    cases hz
    obtain ⟨a, xs, rfl, h1, r1⟩ := hx.tuple
    refine .inr (.inl ⟨a, xs, rfl, h1, fun w => ?_, fun _ p o ho hp => ?_⟩)
    · have e : cutD ds l h = ds := by
        unfold cutD
        rw [← r1.length, w.1, w.2, List.drop_zero, Nat.sub_zero, r1.length, List.take_length]
      rw [e] at q
      refine q _ H (Sub.refl H) ?_
      cases hx with
      | vis h => exact h
    · obtain ⟨s1, r2⟩ := tup_new bk ho hp (r1.cut l h)
      exact q _ _ s1 r2
  · split at hz
    · rename_i hl
      cases hz
      exact .inr (.inr ⟨_, hx.str, sz5 hl, q _ H (Sub.refl H) (.str _)⟩)
    · cases hz
  · cases hz
theorem sl_cut {X : Cx} : SlR X (rCutR X.K) := SlR.or sl_list (SlR.or sl_tupX sl_str)
theorem sd_cut {t : TE} {u w : TO} (a2 : Sd K W t ma) (b2 : SP_ K W u ml) (c2 : SP_ K W w mh) : Sd K W (tSl (rCutR K) t u w) (cutK ma ml mh) := fun B σ H ρ α S Qm Em m Q q x => by
  refine a2 B σ H ρ α S _ Em m _ (fun v d B1 H1 α1 A1 r1 m => ?_) x
  refine b2 B1 σ H1 ρ α1 (S.step A1) _ Em m _ (fun l B2 H2 α2 A2 m => ?_) (x.after S.bs A1)
  have A12 := A1.trans S.bs A2
  refine c2 B2 σ H2 ρ α2 (S.step A12) _ Em m _ (fun h B3 H3 α3 A3 m => ?_) (x.after S.bs A12)
  obtain ⟨d', hd, z, hz, m⟩ := m
  refine cut_read A3.bs.bk (vw_rs A3.bs (r1.mono (A2.sub.trans A3.sub)) hd) hz _ fun y H4 s4 r4 => ?_
  exact q y z B3 H4 α3 ((A12.trans S.bs A3).trans S.bs (Af.of_sub A3.bs s4)) r4 m
theorem je_cut (ha : JE c N sc a ma) (hl : JP c N sc lo ml) (hh : JP c N sc hi mh) : JE c N sc (.Subscript a (.Slice lo hi none p2) pos) (cutK ma ml mh) := by
  obtain ⟨t, a1, a2⟩ := ha
  obtain ⟨u, b1, b2⟩ := hl
  obtain ⟨w, c1, c2⟩ := hh
  refine ⟨fun W => tSl (rCutR c.K) (t W) (u W) (w W), fun X W I T => ?_, fun W => sd_cut (a2 W) (b2 W) (c2 W)⟩
  have h := pe_slice (p2 := p2) (pos := pos) (sl_cut (X := X)) (a1 X W I T) (b1 X W I T) (c1 X W I T)
  rw [I.K] at h
  exact h
end
inductive RsL (K : Frag) (B : Addr → Bool) (H : Hp) : List V → List D → Prop
  | nil : RsL K B H [] []
  | cons {v : V} {vs : List V} {d : D} {ds : List D} : Rs K B H v d → RsL K B H vs ds → RsL K B H (v :: vs) (d :: ds)
theorem RpL.rs {K : Frag} {B : Addr → Bool} {H : Hp} : ∀ {vs : List V} {ds : List D}, RpL K (hide B H) vs ds → RsL K B H vs ds
  | _, _, .nil => .nil
  | _, _, .cons h r => .cons (.vis h) (RpL.rs r)
theorem RsL.one {K : Frag} {B : Addr → Bool} {H : Hp} {vs : List V} {d : D} (h : RsL K B H vs [d]) : ∃ v, vs = [v] ∧ Rs K B H v d := by
  cases h with
  | cons a b => cases b; exact ⟨_, rfl, a⟩
structure CaD (K : Frag) (XS : Cx → Prop) (fv : Value) (f : List D → Option D) : Prop where
  ex : ∃ r : List V → Hp → VK → Prop, (∀ X, XS X → CallR X fv r) ∧ ∀ (B : Addr → Bool) (H : Hp) (vs : List V) (ds : List D) (z : D), (∀ a, B a = true → ∃ o, H a = some o) → RsL K B H vs ds → f ds = some z →
    ∀ Q : VK, (∀ v H', Sub H H' → Rp K (hide B H') v z → Q v H') → r vs H Q
theorem mapV_rs {K : Frag} {B : Addr → Bool} {H : Hp} {α : AH} (S : Bs K B H α) : ∀ {vs : List V} {ds es : List D}, RpL K (hide B H) vs ds → mapV α ds = some es → RsL K B H vs es
  | _, _, es, .nil, e => by cases e; exact .nil
  | _, _, es, .cons (d := d) (ds := ds) h r, e => by
    unfold mapV at e
    cases q : vw α d with
    | none => simp [q] at e
    | some z =>
      cases q2 : mapV α ds with
      | none => simp [q, q2] at e
      | some zs =>
        simp [q, q2] at e
        subst e
        exact .cons (vw_rs S h q) (mapV_rs S r q2)
def b1K (f : List D → Option D) (m : ME) : ME := fun ρ α Q E => m ρ α (fun d α1 => oq (vw α1 d) fun d' => oq (f [d']) fun z => Q z α1) E
def bnK (f : List D → Option D) (m : ML) : ME := fun ρ α Q E => m ρ α (fun ds α1 => oq (mapV α1 ds) fun es => oq (f es) fun z => Q z α1) E
section
variable {c : C0} {N : List Str} {sc : Scope} {e : Expr} {es : List Expr} {me : ME} {ml : ML} {f : List D → Option D} {pos p : Pos} {x : Str} {id T : String} {K : Frag} {W : WX} {r : List V → Hp → VK → Prop}
theorem sd_b1 {te : TE} (h : Sd K W te me) (hr : ∀ (B : Addr → Bool) (H : Hp) (vs : List V) (ds : List D) (z : D), (∀ a, B a = true → ∃ o, H a = some o) → RsL K B H vs ds → f ds = some z → ∀ Q : VK, (∀ v H', Sub H H' → Rp K (hide B H') v z → Q v H') → r vs H Q) :
    Sd K W (tCB r (tCons te tNil)) (b1K f me) := fun B σ H ρ α S Qm Em m Q q x => h B σ H ρ α S _ Em m _ (fun v d B1 H1 α1 A1 r1 m => by
  obtain ⟨d', hd, z, hz, m⟩ := m
  exact hr B1 H1 [v] [d'] _ A1.bs.bk (.cons (vw_rs A1.bs r1 hd) .nil) hz _ fun w H2 s2 r2 => q w z B1 H2 α1 (A1.trans S.bs (Af.of_sub A1.bs s2)) r2 m) x
theorem je_b1 (ho : CaD c.K (In c N sc) (.builtin id) f) (hg : sc.names.lookup x = some .globalImplicit) (hm : c.mg x = none) (hv : bootBuiltins x = some (.builtin id)) (ha : JE c N sc e me) (hn : x ≠ "__name__" := by decide) (hdb : (x == ("__debug__" : Str)) = false := by decide)
    (he : ∀ env, starEach [e] env = (false, eval e env) :: starEach [] env := by intros; rfl) (hpl : ∀ env, (backTo pos (starEach [] env)).any (·.1) = false := by intros; rfl) : JE c N sc (.Call (.Name x p) [e] [] pos) (b1K f me) := by
  obtain ⟨r, h1, h2⟩ := ho.ex
  obtain ⟨t, a1, a2⟩ := ha
  exact ⟨_, fun X W I T => pe_callB (h1 X I) (I.gl hg) (by rw [I.mg]; exact hm) hv (pa_cons (a1 X W I T) pa_nil (he _)) hn hdb (he _) (hpl _), fun W => sd_b1 (a2 W) h2⟩
theorem je_t1 (ho : CaD c.K (In c N sc) (.type T) f) (hg : sc.names.lookup x = some .globalImplicit) (hm : c.mg x = none) (hv : bootBuiltins x = some (.type T)) (ha : JE c N sc e me) (hn : x ≠ "__name__" := by decide) (hdb : (x == ("__debug__" : Str)) = false := by decide)
    (he : ∀ env, starEach [e] env = (false, eval e env) :: starEach [] env := by intros; rfl) (hpl : ∀ env, (backTo pos (starEach [] env)).any (·.1) = false := by intros; rfl) : JE c N sc (.Call (.Name x p) [e] [] pos) (b1K f me) := by
  obtain ⟨r, h1, h2⟩ := ho.ex
  obtain ⟨t, a1, a2⟩ := ha
  exact ⟨_, fun X W I T => pe_callTy (h1 X I) (I.gl hg) (by rw [I.mg]; exact hm) hv (pa_cons (a1 X W I T) pa_nil (he _)) hn hdb (he _) (hpl _), fun W => sd_b1 (a2 W) h2⟩
/-- isinstance(e, T), T a built-in class -/
def isiB (T : String) : D → Option Bool
  | .none => kitB "NoneType" T
  | .bool _ => kitB "bool" T
  | .int _ => kitB "int" T
  | .str _ => kitB "str" T
  | .list _ => kitB "list" T
  | .tuple _ => kitB "tuple" T
  | _ => none
def isiK (T : String) (m : ME) : ME := fun ρ α Q E => m ρ α (fun d α1 => oq (vw α1 d) fun d' => oq (isiB T d') fun b => Q (.bool b) α1) E
theorem tag_of {K : Frag} {H : Hp} {v : V} {d : D} {b : Bool} (h : Rp K H v d) (e : isiB T d = some b) : ∃ t, TyX K H v (.type t) ∧ kitB t T = some b := by
  cases h with
  | non => exact ⟨_, .base .non, e⟩
  | bl k => exact ⟨_, .base (.bl k), e⟩
  | int k => exact ⟨_, .base (.int k), e⟩
  | str k => exact ⟨_, .base (.str k), e⟩
  | lst hs _ =>
    refine ⟨"list", ?_, e⟩
    rcases hs with (h | ⟨o, h⟩) | ⟨o, its, n, h1, h2, _⟩
    · exact .base (.lst h)
    · exact .base (.frz h)
    · exact .kList h1 h2
  | tup hs _ _ =>
    refine ⟨"tuple", ?_, e⟩
    rcases hs with (h | ⟨o, h⟩) | ⟨o, its, n, h1, h2, _⟩
    · exact .base (.tup h)
    · exact .fTuple h
    · exact .kTuple h1 h2
  | dct _ _ => cases e
  | obj _ _ => cases e
  | fnc => cases e
  | ref => cases e
  | exc _ _ => cases e
theorem je_isi {y : Str} {p2 : Pos} (hg : sc.names.lookup ("isinstance" : Str) = some .globalImplicit) (hm : c.mg ("isinstance" : Str) = none) (hgy : sc.names.lookup y = some .globalImplicit) (hmy : c.mg y = none) (hv : bootBuiltins y = some (.type T)) (ha : JE c N sc e me)
    (hn : y ≠ "__name__" := by decide) (hdb : (y == ("__debug__" : Str)) = false := by decide)
    (he : ∀ env, starEach [e, .Name y p2] env = (false, eval e env) :: starEach [.Name y p2] env := by intros; rfl) (hpl : ∀ env, (backTo pos (starEach [.Name y p2] env)).any (·.1) = false := by intros; rfl) :
    JE c N sc (.Call (.Name "isinstance" p) [e, .Name y p2] [] pos) (isiK T me) := by
  obtain ⟨t, a1, a2⟩ := ha
  refine ⟨fun W => tCB (rIsi c.K) (tCons (t W) (tCons (tC (.ty T)) tNil)), fun X W I TT => ?_, fun W B σ H ρ α S Qm Em m Q q x => ?_⟩
  · have h := pe_callB (x := "isinstance") (p := p) (pos := pos) (call_isi (X := X)) (I.gl hg) (by rw [I.mg]; exact hm) (by decide +kernel) (pa_cons (a1 X W I TT) (pa_cons (pe_bltn (pos := p2) (v := .ty T) (I.gl hgy) (by rw [I.mg]; exact hmy) hv rfl hn hdb) pa_nil) (he _)) (by decide) (by decide) (he _) (hpl _)
    rw [I.K] at h
    exact h
  · refine a2 W B σ H ρ α S _ Em m _ (fun v d B1 H1 α1 A1 r1 m => ?_) x
    obtain ⟨d', hd, z, hz, m⟩ := m
    obtain ⟨t, h1, h2⟩ := tag_of (vw_rs A1.bs r1 hd).rp hz
    exact ⟨v, .ty T, .type t, .type T, z, rfl, .ty T, h1, kit_ty h2, q _ _ B1 H1 α1 A1 (.bl z) m⟩
end
section
variable {c : C0} {N : List Str} {sc : Scope}
def dLen : List D → Option D
  | [.list ds] => some (.int ds.length)
  | [.tuple ds] => some (.int ds.length)
  | [.str z] => if z.length ≤ 100000 then some (.int z.length) else none
  | _ => none
theorem c_len : CaD c.K (In c N sc) (.builtin "len") dLen := by
  refine ⟨_, fun X I => by
    have h := call_len (X := X)
    rw [I.K] at h
    exact h, fun B H vs ds z bk hv hz Q q => ?_⟩
  unfold dLen at hz
  split at hz
  · cases hz
    obtain ⟨v, rfl, h⟩ := hv.one
    obtain ⟨a, xs, rfl, h1, r1⟩ := h.list
    exact ⟨_, _, rfl, .inl ⟨xs, h1, r1.length.symm⟩, q _ H (Sub.refl H) (.int _)⟩
  · cases hz
    obtain ⟨v, rfl, h⟩ := hv.one
    obtain ⟨a, xs, rfl, h1, r1⟩ := h.tuple
    exact ⟨_, _, rfl, .inr ⟨xs, h1, r1.length.symm⟩, q _ H (Sub.refl H) (.int _)⟩
  · split at hz
    · rename_i hl
      cases hz
      obtain ⟨v, rfl, h⟩ := hv.one
      rw [h.str]
      exact ⟨_, _, rfl, ⟨sz5 hl, rfl⟩, q _ H (Sub.refl H) (.int _)⟩
    · cases hz
  · cases hz
def dInt : List D → Option D
  | [.int i] => some (.int i)
  | [.bool b] => some (.int (if b then 1 else 0))
  | _ => none
theorem c_int : CaD c.K (In c N sc) (.type "int") dInt := by
  refine ⟨_, fun X I => call_int1, fun B H vs ds z bk hv hz Q q => ?_⟩
  unfold dInt at hz
  split at hz
  · cases hz
    obtain ⟨v, rfl, h⟩ := hv.one
    exact .inl ⟨_, by rw [h.int], q _ H (Sub.refl H) (.int _)⟩
  · cases hz
    obtain ⟨v, rfl, h⟩ := hv.one
    exact .inr ⟨_, by rw [h.bool], q _ H (Sub.refl H) (.int _)⟩
  · cases hz
def dAbs : List D → Option D
  | [.int i] => some (.int (if i < 0 then -i else i))
  | _ => none
def dOrd : List D → Option D
  | [.str x] => if x.length = 1 then some (.int ((x.cps.getD 0 0 : Nat) : Int)) else none
  | _ => none
def dMax2 : List D → Option D
  | [.int i, .int j] => some (.int (if j > i then j else i))
  | _ => none
def dMin2 : List D → Option D
  | [.int i, .int j] => some (.int (if j < i then j else i))
  | _ => none
def toStrs : List D → Option (List Str)
  | [] => some []
  | .str i :: r => (toStrs r).map fun q => i :: q
  | _ => none
theorem toStrs_of : ∀ {ds : List D} {ns : List Str}, toStrs ds = some ns → ds = ns.map PyData.str
  | [], ns, h => by cases h; rfl
  | .str i :: r, ns, h => by
    cases q : toStrs r with
    | none => simp [toStrs, q] at h
    | some l =>
      simp [toStrs, q] at h
      subst h
      rw [toStrs_of q]
      rfl
  | .none :: _, _, h => by cases h
  | .int _ :: _, _, h => by cases h
  | .bool _ :: _, _, h => by cases h
  | .list _ :: _, _, h => by cases h
  | .tuple _ :: _, _, h => by cases h
  | .dict _ :: _, _, h => by cases h
def dList : List D → Option D
  | [.list ds] => some (.list ds)
  | [.tuple ds] => some (.list ds)
  | _ => none
def dTuple : List D → Option D
  | [.list ds] => some (.tuple ds)
  | [.tuple ds] => some (.tuple ds)
  | _ => none
def rTupX (K : Frag) : List V → Hp → VK → Prop := fun xs H Q => ∃ p ys, xs = [.ref p] ∧ ((SqL K H p ys ∧ ∀ l o, ExT o → H l = none → Q (.ref l) (upd H l (.frz o (.tup ys)))) ∨ (SqT K H p ys ∧ Q (.ref p) H))
theorem call_tupX {X : Cx} : CallR X (.type "tuple") (rTupX X.K) := by
  intro pins s σ H xs us Q I r h
  obtain ⟨p, ys, rfl, h⟩ := h
  obtain ⟨u, rfl, rx⟩ := vals1 r
  cases rx
  rcases h with ⟨hq, q⟩ | ⟨hq, q⟩
  · obtain ⟨its, r', pl, hz⟩ := I.list hq
    have hlen := r'.length
    refine call_tuple_list pl.isList (fun h' kp => ?_) (by simp only [List.size_toArray] <;> omega)
    have I1 : Inv X pins σ H { s with heap := h' } := I.kept (t' := s.toks) kp
    exact ⟨.ref h'.objs.size, _, tnew I1 r' hz, rfl, q _ _ ⟨rfl, rfl⟩ (I1.hok.fresh (Nat.le_refl _))⟩
  · obtain ⟨its, r', pl, hz⟩ := I.tuple hq
    exact call_tuple_same pl ⟨.ref p, H, I, rfl, q⟩
theorem c_tuple : CaD c.K (In c N sc) (.type "tuple") dTuple := by
  refine ⟨_, fun X I => by
    have h := call_tupX (X := X)
    rw [I.K] at h
    exact h, fun B H vs ds z bk hv hz Q q => ?_⟩
  unfold dTuple at hz
  split at hz
  · cases hz
    obtain ⟨v, rfl, h⟩ := hv.one
    obtain ⟨a, xs, rfl, h1, r1⟩ := h.list
    refine ⟨a, xs, rfl, .inl ⟨h1, fun l o ho hl => ?_⟩⟩
    obtain ⟨s1, r2⟩ := tup_new bk ho hl r1
    exact q _ _ s1 r2
  · cases hz
    obtain ⟨v, rfl, h⟩ := hv.one
    obtain ⟨a, xs, rfl, h1, r1⟩ := h.tuple
    refine ⟨a, xs, rfl, .inr ⟨h1, q _ H (Sub.refl H) ?_⟩⟩
    cases h with
    | vis h => exact h
  · cases hz
end
structure MeD (K : Frag) (XS : Cx → Prop) (id : String) (f : Str → List D → Option D) : Prop where
  ex : ∃ r : V → List V → Hp → VK → Prop, (∀ X, XS X → MtR X id r) ∧ ∀ (B : Addr → Bool) (H : Hp) (x : Str) (vs : List V) (ds : List D) (z : D), (∀ a, B a = true → ∃ o, H a = some o) → RsL K B H vs ds → f x ds = some z →
    ∀ Q : VK, (∀ v H', Sub H H' → Rp K (hide B H') v z → Q v H') → r (.str x) vs H Q
def metK (f : Str → List D → Option D) (mo : ME) (ma : ML) : ME := fun ρ α Q E => mo ρ α (fun o α1 => ∃ x : Str, o = .str x ∧ ma ρ α1 (fun ds α2 => oq (mapV α2 ds) fun es => oq (f x es) fun z => Q z α2) E) E
section
variable {c : C0} {N : List Str} {sc : Scope} {o e : Expr} {es : List Expr} {mo : ME} {ma : ML} {f : Str → List D → Option D} {p2 p3 : Pos} {m : Str} {id : String} {K : Frag}
theorem je_met (ho : MeD c.K (In c N sc) id f) (slot : Slot "str" m id) (hty : typeOf (.builtin id) = pure (.type "method_descriptor")) (h : JE c N sc o mo) (ha : JL c N sc (e :: es) ma)
    (hbase : ∀ env, attributeBase o m env (eval o env) = eval o env := by intros; rfl)
    (hfew : ∀ env, ((backTo p3 (starEach (e :: es) env)).all (fun x => !x.1) && (backToKw p3 (keywordEach [] env)).all (fun x => x.1.isSome) && decide ((e :: es).length + ([] : List Keyword).length + (if ([] : List Keyword).isEmpty then 0 else 1) < 30)) = true := by intros; rfl)
    (hline : (p2.endLine == p3.line) = true := by rfl) (hs : ∀ env, starEach (e :: es) env = (false, eval e env) :: starEach es env := by intros; rfl) (hplain : ∀ env, (backTo p3 (starEach es env)).any (·.1) = false := by intros; rfl) :
    JE c N sc (.Call (.Attribute o m p2) (e :: es) [] p3) (metK f mo ma) := by
  obtain ⟨t, h1, h2⟩ := h
  obtain ⟨u, k1, k2⟩ := ha
  obtain ⟨r, hr1, hr2⟩ := ho.ex
  refine ⟨fun W => tBM c.K "str" r (t W) (u W), fun X W I T => ?_, fun W B σ H ρ α S Qm Em m Q q x => ?_⟩
  · have q := pe_bm (cpos := p3) (apos := p2) PySem.F.plainAttrs_str slot hty (hr1 X I) (h1 X W I T) (k1 X W I T) (hbase _) (hfew _) hline (hs _) (hplain _)
    rw [I.K] at q
    exact q
  · refine h2 W B σ H ρ α S _ Em m _ (fun v d B1 H1 α1 A1 r1 m => ?_) x
    obtain ⟨y, rfl, m⟩ := m
    rw [r1.stri]
    refine ⟨rfl, ?_⟩
    refine k2 W B1 σ H1 ρ α1 (S.step A1) _ Em m _ (fun vs ds B2 H2 α2 A2 r2 m => ?_) (x.after S.bs A1)
    obtain ⟨es, hd, z, hz, m⟩ := m
    exact hr2 B2 H2 y vs es _ A2.bs.bk (mapV_rs A2.bs r2 hd) hz _ fun w H3 s3 r3 => q w z B2 H3 α2 ((A1.trans S.bs A2).trans S.bs (Af.of_sub A2.bs s3)) r3 m
def dJoin (x : Str) : List D → Option D
  | [.list ds] => (toStrs ds).bind fun ys => if (ys.map (·.length)).sum + ys.length * x.length ≤ 100000 then some (.str (Txt.join x ys)) else none
  | _ => none
theorem m_join : MeD c.K (In c N sc) "str.join" dJoin := by
  refine ⟨_, fun X I => by
    have h := mt_join (X := X)
    rw [I.K] at h
    exact h, fun B H x vs ds z bk hv hz Q q => ?_⟩
  unfold dJoin at hz
  split at hz
  · rename_i ds
    cases q1 : toStrs ds with
    | none => simp [q1] at hz
    | some ys =>
      simp only [q1, Option.bind_some] at hz
      split at hz
      · rename_i hl
        cases hz
        obtain ⟨v, rfl, h⟩ := hv.one
        obtain ⟨a, xs, rfl, h1, r1⟩ := h.list
        rw [toStrs_of q1] at r1
        rw [r1.of_strs] at h1
        exact ⟨x, a, ys, rfl, rfl, .inl h1, by omega, q _ H (Sub.refl H) (.str _)⟩
      · cases hz
  · cases hz
def dSplit (x : Str) : List D → Option D
  | [.str b] => if (b.length == 0) = false ∧ x.length + 2 ≤ 100000 then some (.list ((Txt.split x b).map PyData.str)) else none
  | _ => none
end
def strK (m : ME) : MI := fun ρ α Q E => m ρ α (fun d α1 => ∃ x : Str, d = .str x ∧ Q (x.cps.toList.map fun k => .str ⟨#[k]⟩) (fun _ => True) α1) E
section
variable {c : C0} {N : List Str} {sc : Scope} {e e2 tg : Expr} {elts : List Expr} {kk : Nat} {pos p tpos : Pos} {me : ME} {ma : ML} {K : Frag}
theorem ji_str (h : JE c N sc e me) : JI c N sc tg e (strK me) := by
  obtain ⟨t, h1, h2⟩ := h
  refine ⟨fun W => iStr (t W), fun X W I T => pi_str (h1 X W I T), fun W B σ H ρ α S Qm Em m R q x => h2 W B σ H ρ α S _ Em m _ (fun v d B1 H1 α1 A r m => ?_) x⟩
  obtain ⟨x, rfl, m⟩ := m
  refine ⟨x, r.stri, q _ _ _ B1 H1 α1 A (fun B' H' α' sb bk g => ⟨fun i d hi => ?_, ?_⟩) m⟩
  · rw [List.getElem?_map] at hi
    cases hk : x.cps.toList[i]? with
    | none => rw [hk] at hi; cases hi
    | some w =>
      rw [hk] at hi
      cases hi
      have hk' : x.cps[i]? = some w := by simpa using hk
      refine ⟨(Array.getElem?_eq_some_iff.mp hk').1, fun y H'' z => ?_⟩
      obtain ⟨rfl, w', hw, rfl⟩ := z
      rw [hk'] at hw
      cases hw
      exact ⟨Sub.refl _, .str _⟩
  · show x.cps.size ≤ _
    simp
end
end Hz
namespace Hz
open PySem L2
variable {c : C0} {N : List Str} {sc : Scope}
/-- a def as it stands behind the top; js: how many arguments are written somewhere, less than all -/
structure AtF (c : C0) (x qual : Str) (st : Stmt) (ps : List Str) (dvs : List V) (js : List Nat) (f : Addr) : Prop where
  ex : ∃ fd, FunD c.K x qual (defArgs st) (defBody st) (defScope st) dvs [] f fd ∧ Binds c.K fd ps [] ∧ ∀ j ∈ js, ∃ ds, Vals (dvs.drop j) ds ∧ Binds c.K fd ps ds
/-- a def's promise -/
structure Pro (c : C0) (k : Nat) (f : Addr) (ps : List Str) (dvs : List V) (js : List Nat) (fm : Fm) : Prop where
  ex : ∃ fd, FnOk c.P c.w c.K c.mg c.base (L2.CX c.P c.w) k f fd ps (fun vs H Q E => vs.length = ps.length ∧ spD c.K fm vs H Q E) ∧ PySem.W.keepIn c.K (.ref f) = true ∧ Binds c.K fd ps [] ∧ ∀ j ∈ js, ∃ ds, Vals (dvs.drop j) ds ∧ Binds c.K fd ps ds
theorem fn_okD {x qual : Str} {st : Stmt} {dvs : List V} {f : Addr} {fd : FuncData} {ps : List Str} {k : Nat} {m : MS} (F : FunD c.K x qual (defArgs st) (defBody st) (defScope st) dvs [] f fd) (S : FnScope N ps (defScope st)) (h : JB (c.at_ k) N (defScope st) (defBody st) m) (hn : ps.length ≤ N.length := by decide) :
    FnOk c.P c.w c.K c.mg c.base (L2.CX c.P c.w) (k + 1) f fd ps (fun vs H Q E => vs.length = ps.length ∧ spD c.K (runF ps.length N.length m) vs H Q E) := by
  refine F.ok S (fun vs H Q E h => h.1) (fun cdv A outer s H vs Q E hr h' => ?_)
  obtain ⟨hl, B, α, ds, Qm, Em, S0, r, ⟨_, mm⟩, q, y⟩ := h'
  obtain ⟨t, t1, t2⟩ := h
  have tk : Takes (cxOf (L2.CX c.P c.w) c.P c.w c.K c.mg c.base N qual (defScope st) f cdv A outer s H E) (fun cls d _ H => E cls d H) := takes_of rfl rfl rfl rfl
  refine ⟨t _, t1 _ _ ⟨rfl, rfl, rfl, rfl, rfl, fun _ => hr, (Nat.lt_of_le_of_lt (Nat.add_le_add_right (Nat.le_add_right _ _) 200) hr.un : _), rfl, rfl, fun _ => rfl, fun _ => rfl, passes_of rfl, fun _ => ⟨rfl, rfl⟩, fun _ _ _ h => (by cases h), fun _ _ => rfl⟩ tk, ?_⟩
  have es : L2.start N vs = vs.map some ++ List.replicate (N.length - ps.length) none := by
    unfold L2.start
    rw [hl]
  rw [es]
  refine t2 _ B _ H _ α (entry_sr (n := N.length - ps.length) S0 r) _ mm _ (Fi.none_ (fun B' H' ρ' α' a z => q .non .none B' H' α' a .non z) (fun v d B' H' α' a r z => q v d B' H' α' a r z) (fun _ _ z => z) fun _ _ z => z) fun x B' σ' ρ' α' cls d H' a _ xr z => y x B' α' cls d H' a xr z
section
variable {x qual : Str} {st : Stmt} {dvs : List V} {js : List Nat} {f : Addr} {ps : List Str} {k np : Nat} {m : MS} {fm : Fm}
theorem AtF.run (A : AtF c x qual st ps dvs js f) (S : FnScope N ps (defScope st)) (h : JB (c.at_ k) N (defScope st) (defBody st) m) (hn : ps.length ≤ N.length := by decide) : Pro c (k + 1) f ps dvs js (runF ps.length N.length m) := by
  obtain ⟨fd, F, b⟩ := A.ex
  exact ⟨fd, fn_okD F S h hn, F.kp, b⟩
theorem AtF.runP (A : AtF c x qual st ps dvs js f) (S : FnScope N ps (defScope st)) (h : JB (c.at_ k) N (defScope st) (defBody st) m) (hn : ps.length ≤ N.length := by decide) : Pro c (k + 1) f ps dvs js (runP ps.length N.length m) := by
  obtain ⟨fd, F, b⟩ := A.ex
  exact ⟨fd, (fn_okD F S h hn).imp fun vs H Q E z => ⟨z.1, spD_pure z.2⟩, F.kp, b⟩
theorem Pro.mono {j : Nat} (P : Pro c j f ps dvs js fm) (h : j ≤ k) : Pro c k f ps dvs js fm := by
  obtain ⟨fd, F, r⟩ := P.ex
  exact ⟨fd, F.mono h, r⟩
/-- all arguments are written -/
theorem Pro.fn (P : Pro c k f ps dvs js fm) (hm : c.mg x = some (.ref f)) : FnD c k x ps.length [] fm := by
  obtain ⟨fd, F, kp, b, _⟩ := P.ex
  exact ⟨f, fd, ps, [], [], F, hm, kp, b, .nil, fun _ => .nil, rfl⟩
end
def oD (C : Nat) (fs : List (D × D)) : D := .dict ((.none, .int (Int.ofNat C)) :: fs)
def lookF (f : Str) : List (D × D) → Option D
  | [] => none
  | (.str g, d) :: r => if f = g then some d else lookF f r
  | _ => none
def putD (f : Str) (d : D) : List (D × D) → List (D × D)
  | [] => [(.str f, d)]
  | (.str g, x) :: r => if g = f then (.str g, d) :: r else (.str g, x) :: putD f d r
  | q :: r => q :: putD f d r
theorem RpF.look {K : Frag} {H : Hp} {f : Str} {d : D} : ∀ {gs : List (Str × V)} {ds : List (D × D)}, RpF K H gs ds → lookF f ds = some d → ∃ v, gs.lookup f = some v ∧ Rp K H v d
  | _, _, .nil, e => by cases e
  | _, _, .cons (f := g) (v := v) (vs := vs) (d := d') (ds := ds) h r, e => by
    by_cases q : f = g
    · subst q
      have e' : some d' = some d := by
        have : lookF f ((PyData.str f, d') :: ds) = some d' := if_pos rfl
        rw [this] at e
        exact e
      cases e'
      exact ⟨v, by simp [List.lookup], h⟩
    · have e' : lookF f ds = some d := by
        have : lookF f ((PyData.str g, d') :: ds) = lookF f ds := if_neg q
        rw [this] at e
        exact e
      obtain ⟨w, h1, h2⟩ := RpF.look r e'
      refine ⟨w, ?_, h2⟩
      have : (f == g) = false := by simpa using q
      simp [List.lookup, this, h1]
theorem RpF.length {K : Frag} {H : Hp} : ∀ {gs : List (Str × V)} {ds : List (D × D)}, RpF K H gs ds → gs.length = ds.length
  | _, _, .nil => rfl
  | _, _, .cons h r => by rw [List.length_cons, List.length_cons, RpF.length r]
theorem RpF.put {K : Frag} {H : Hp} {f : Str} {v : V} {d : D} (h : Rp K H v d) : ∀ {gs : List (Str × V)} {ds : List (D × D)}, RpF K H gs ds → RpF K H (putF f v gs) (putD f d ds)
  | _, _, .nil => .cons h .nil
  | _, _, .cons (f := g) (v := u) (vs := vs) (d := e) (ds := ds) a r => by
    show RpF K H (if g = f then (g, v) :: vs else (g, u) :: putF f v vs) (if g = f then (.str g, d) :: ds else (.str g, e) :: putD f d ds)
    by_cases q : g = f
    · rw [if_pos q, if_pos q]
      exact .cons h r
    · rw [if_neg q, if_neg q]
      exact .cons a (RpF.put h r)
theorem RpK.noNone {K : Frag} {H : Hp} : ∀ {kvs : List (Key × V)} {es : List (D × D)}, RpK K H kvs es → ∀ x ds, es = (PyData.none, x) :: ds → False
  | _, _, .nil, x, ds, e => by cases e
  | _, _, .cons (k := k) h r, x, ds, e => by
    have e1 := (List.cons.inj e).1
    have e2 : kD k = .none := congrArg Prod.fst e1
    cases k <;> cases e2
theorem obj_inj {C C' : Nat} {ds ds' : List (D × D)} (h : oD C ds = oD C' ds') : C = C' ∧ ds = ds' := by
  have e1 := List.cons.inj (PyData.dict.inj h)
  have e2 : PyData.int (Int.ofNat C) = PyData.int (Int.ofNat C') := congrArg Prod.snd e1.1
  exact ⟨Int.ofNat.inj (PyData.int.inj e2), e1.2⟩
theorem Rp.oD {K : Frag} {H : Hp} {v : V} {C : Nat} {ds : List (D × D)} (h : Rp K H v (oD C ds)) : ∃ a dx gs, v = .ref a ∧ H a = some (.ins C dx gs) ∧ RpF K H gs ds := by
  generalize e : Hz.oD C ds = z at h
  cases h with
  | dct h r => exact (r.noNone _ _ (PyData.dict.inj e).symm).elim
  | @obj a C' dx fs ds' h r =>
    obtain ⟨rfl, rfl⟩ := obj_inj (show Hz.oD C ds = Hz.oD C' ds' from e)
    exact ⟨_, _, _, rfl, h, r⟩
  | _ => cases e
theorem Rs.oD {K : Frag} {B : Addr → Bool} {H : Hp} {v : V} {C : Nat} {ds : List (D × D)} (h : Rs K B H v (oD C ds)) : ∃ a dx gs, v = .ref a ∧ H a = some (.ins C dx gs) ∧ RpF K (hide B H) gs ds := by
  generalize e : Hz.oD C ds = z at h
  cases h with
  | vis h =>
    subst e
    obtain ⟨a, dx, gs, rfl, h1, h2⟩ := h.oD
    exact ⟨a, dx, gs, rfl, (hide_some h1).2, h2⟩
  | dct h r => exact (r.noNone _ _ (PyData.dict.inj e).symm).elim
  | @obj a C' dx fs ds' h r =>
    obtain ⟨rfl, rfl⟩ := obj_inj (show Hz.oD C ds = Hz.oD C' ds' from e)
    exact ⟨_, _, _, rfl, h, r⟩
  | lst _ _ => cases e
theorem Bs.obj {K : Frag} {B : Addr → Bool} {H : Hp} {α : AH} {l : Addr} {C : Nat} {fs : List (D × D)} (S : Bs K B H α) (h : α l = some (oD C fs)) : B l = true ∧ ∃ dx gs, H l = some (.ins C dx gs) ∧ RpF K (hide B H) gs fs := by
  obtain ⟨h1, h2⟩ := S.cel l _ h
  obtain ⟨a, dx, gs, e, k1, k2⟩ := h2.rs.oD
  cases e
  exact ⟨h1, dx, gs, k1, k2⟩
/-- o.f, o of the class at C -/
def fldD (C : Nat) (f : Str) : D → Option D
  | .dict ((.none, .int k) :: fs) => if k = Int.ofNat C then lookF f fs else none
  | _ => none
def fldK (C : Nat) (f : Str) (m : ME) : ME := fun ρ α Q E => m ρ α (fun d α1 => oq (vw α1 d) fun o => oq (fldD C f o) fun z => Q z α1) E
theorem fldD_of {C : Nat} {f : Str} {o z : D} (h : fldD C f o = some z) : ∃ fs, o = oD C fs ∧ lookF f fs = some z := by
  unfold fldD at h
  split at h
  · split at h
    · rename_i hk
      subst hk
      exact ⟨_, rfl, h⟩
    · cases h
  · cases h
theorem je_fld {C : Nat} {f : Str} {e : Expr} {pos : Pos} {m : ME} (h : JE c N sc e m) (cl : Cls c.K C) (na : NoAttr c.K C f) (hb : ∀ env, attributeBase e f env (eval e env) = eval e env := by intros; rfl) : JE c N sc (.Attribute e f pos) (fldK C f m) := by
  obtain ⟨t, h1, h2⟩ := h
  refine ⟨fun W => tFld c.K (t W) f, fun X W I T => ?_, fun W B σ H ρ α S Qm Em m Q q x => h2 W B σ H ρ α S _ Em m _ (fun v d B1 H1 α1 A r m => ?_) x⟩
  · have q := pe_fld (f := f) (pos := pos) (h1 X W I T) (hb _)
    rw [I.K] at q
    exact q
  · obtain ⟨o, ho, z, hz, m⟩ := m
    obtain ⟨fs, rfl, l⟩ := fldD_of hz
    obtain ⟨a, dx, gs, rfl, k1, k2⟩ := (vw_rs A.bs r ho).oD
    obtain ⟨w, l1, rw_⟩ := k2.look l
    exact ⟨a, C, dx, gs, w, rfl, k1, cl, na, l1, q w z B1 H1 α1 A rw_ m⟩
/-- a cell that holds an instance -/
def cellO (C : Nat) (α : AH) (o : D) (Q : Addr → List (D × D) → Prop) : Prop := ∃ a fs, o = dref a ∧ α a = some (oD C fs) ∧ Q a fs
def setaS (C : Nat) (f : Str) (me mo : ME) : MS := fun ρ α D => me ρ α (fun d α1 => mo ρ α1 (fun o α2 => cellO C α2 o fun a fs => fs.length < 900 ∧ D.nx ρ (aset α2 a (oD C (putD f d fs)))) (fun x α1 => D.ex x ρ α1)) (fun x α1 => D.ex x ρ α1)
theorem js_seta {C : Nat} {f : Str} {o e : Expr} {p2 pos : Pos} {me mo : ME} (cl : Cls c.K C) (na : NoAttr c.K C f) (h : JE c N sc e me) (ho : JE c N sc o mo)
    (hs : ∀ env, swapsWith e (some (.Attribute o f p2)) pos.line env = pure false := by intros; rfl) : JS c N sc (.Assign [.Attribute o f p2] e pos) (setaS C f me mo) := by
  obtain ⟨t, h1, h2⟩ := h
  obtain ⟨u, k1, k2⟩ := ho
  refine ⟨fun W => sFld c.K (u W) (t W) f, fun X W I T => ?_, fun W B σ H ρ α S D m Dn h' x => ?_⟩
  · have q := ps_fld (f := f) (pos := pos) (pos' := p2) (k1 X W I T) (h1 X W I T) (hs _)
    rw [I.K] at q
    exact q
  · refine h2 W B σ H ρ α S _ _ m _ (fun v d B1 H1 α1 A1 r1 m => ?_) (x.sx S)
    refine k2 W B1 σ H1 ρ α1 (S.step A1) _ _ m _ (fun w o B2 H2 α2 A2 r2 m => ?_) ((x.sx S).after S.bs A1)
    obtain ⟨a, fs, rfl, e, hl, m⟩ := m
    obtain ⟨b2, dx, gs, g1, g2⟩ := A2.bs.obj e
    have hw := r2.cell
    subst hw
    refine ⟨a, C, dx, gs, rfl, g1, cl, na, by rw [g2.length]; omega, ?_⟩
    have w := Af.write (o := .ins C dx (putF f v gs)) (c := oD C (putD f d fs)) A2.bs e (.obj (g2.put (r1.mono A2.sub)))
    have A := (A1.trans S.bs A2).trans S.bs w
    exact h'.nx _ _ _ _ _ A (S.step A) m
/-- o.f op= e -/
def augaS (C : Nat) (f : Str) (g : D → D → Option D) (mo me : ME) : MS := fun ρ α D => mo ρ α (fun o α1 => cellO C α1 o fun _ fs0 => oq (lookF f fs0) fun d => me ρ α1 (fun e α2 => oq (g d e) fun z => cellO C α2 o fun a fs => fs.length < 900 ∧ D.nx ρ (aset α2 a (oD C (putD f z fs)))) (fun x α1 => D.ex x ρ α1)) (fun x α1 => D.ex x ρ α1)
abbrev MtD (c : C0) (k C : Nat) (m : Str) (np : Nat) (ds : List D) (fm : Fm) : Prop := ∃ (f : Addr) (fd : FuncData) (ps : List Str) (dV : List Value) (dvs : List V), FnOk c.P c.w c.K c.mg c.base (L2.CX c.P c.w) k f fd ps (fun vs H Q E => vs.length = ps.length ∧ spD c.K fm vs H Q E) ∧ Meth c.K C m f ∧ Binds c.K fd ps dV ∧ Vals dvs dV ∧ (∀ H, RpL c.K H dvs ds) ∧ ps.length = np + 1 + ds.length
theorem MtD.ex {c : C0} {k C : Nat} {m : Str} {np : Nat} {ds : List D} {fm : Fm} (h : MtD c k C m np ds fm) : ∃ (f : Addr) (fd : FuncData) (ps : List Str) (dV : List Value) (dvs : List V), FnOk c.P c.w c.K c.mg c.base (L2.CX c.P c.w) k f fd ps (fun vs H Q E => vs.length = ps.length ∧ spD c.K fm vs H Q E) ∧ Meth c.K C m f ∧ Binds c.K fd ps dV ∧ Vals dvs dV ∧ (∀ H, RpL c.K H dvs ds) ∧ ps.length = np + 1 + ds.length := h
abbrev MkD (c : C0) (k : Nat) (x : Str) (C np : Nat) (ds : List D) (fm : Fm) : Prop := ∃ (f : Addr) (fd : FuncData) (ps : List Str) (dV : List Value) (dvs : List V), Mk c.K C f ∧ FnOk c.P c.w c.K c.mg c.base (L2.CX c.P c.w) k f fd ps (fun vs H Q E => vs.length = ps.length ∧ spD c.K fm vs H Q E) ∧ c.mg x = some (.ref C) ∧ Binds c.K fd ps dV ∧ Vals dvs dV ∧ (∀ H, RpL c.K H dvs ds) ∧ ps.length = np + 1 + ds.length
theorem MkD.ex {c : C0} {k : Nat} {x : Str} {C np : Nat} {ds : List D} {fm : Fm} (h : MkD c k x C np ds fm) : ∃ (f : Addr) (fd : FuncData) (ps : List Str) (dV : List Value) (dvs : List V), Mk c.K C f ∧ FnOk c.P c.w c.K c.mg c.base (L2.CX c.P c.w) k f fd ps (fun vs H Q E => vs.length = ps.length ∧ spD c.K fm vs H Q E) ∧ c.mg x = some (.ref C) ∧ Binds c.K fd ps dV ∧ Vals dvs dV ∧ (∀ H, RpL c.K H dvs ds) ∧ ps.length = np + 1 + ds.length := h
theorem Pro.mk_ {f : Addr} {ps : List Str} {k np C : Nat} {x : Str} {dvs : List V} {js : List Nat} {fm : Fm} (P : Pro c k f ps dvs js fm) (M : Mk c.K C f) (hm : c.mg x = some (.ref C)) (hp : ps.length = np + 1 := by rfl) : MkD c k x C np [] fm := by
  obtain ⟨fd, F, kp, b, _⟩ := P.ex
  exact ⟨f, fd, ps, [], [], M, F, hm, b, .nil, fun _ => .nil, hp⟩
def mkK (C np : Nat) (fm : Fm) (ds : List D) (ma : ML) : ME := fun ρ α Q E => ma ρ α (fun as α1 => as.length = np ∧ ∀ p, α1 p = none → fm (dref p :: (as ++ ds)) (aset α1 p (oD C [])) (fun v α2 => v = .none ∧ Q (dref p) α2) E) E
def tMakeSD (C : Addr) (sp : Sp) (dvs : List V) (E : L2.St → XK) (t : TA) : TE := fun σ H Q => t σ H fun vs H1 => ∀ x dx, H1 x = none → H1 dx = none → dx ≠ x →
  sp (.ref x :: (vs ++ dvs)) (upd (upd H1 dx (.own x)) x (.ins C dx [])) (fun v H2 => v = .non ∧ Q (.ref x) H2) (E σ)
theorem run_makeSD {X : Cx} {CX : CXT} {k : Nat} {f C : Addr} {fd : FuncData} {ps : List Str} {sp : Sp} {dvs : List V} {ds : List Value} {E : L2.St → XK} {pins : List (Addr × Obj)} {σ : L2.St} {H : Hp} {s : Shared} {Q : VK} {us : List Value} {vs : List V} (M : Mk X.K C f) (F : FnOk X.prog X.w X.K X.mg X.base CX k f fd ps sp) (hr : Room (k + 1) X.A) (hb : Binds X.K fd ps ds) (hd : Vals dvs ds)
    (hx : PassesAt CX X σ (E σ)) (I : Inv X pins σ H s) (r : Vals vs us)
    (h : ∀ x dx, H x = none → H dx = none → dx ≠ x → sp (.ref x :: (vs ++ dvs)) (upd (upd H dx (.own x)) x (.ins C dx [])) (fun v H2 => v = .non ∧ Q (.ref x) H2) (E σ)) :
    wpAny (model X.prog X.w) X.A (call (.ref C) us) (EP X pins σ Q) X.xe s := by
  have hq := h (s.heap.objs.size + 1) s.heap.objs.size (I.hok.fresh (Nat.le_succ _)) (I.hok.fresh (Nat.le_refl _)) (Nat.ne_of_lt (Nat.lt_succ_self _))
  have I2 := Inv.made (C := C) I
  have r2 : Vals (V.ref (s.heap.objs.size + 1) :: (vs ++ dvs)) (Value.ref (s.heap.objs.size + 1) :: (us ++ ds)) := .cons rfl (r.append hd)
  have hl : (Value.ref (s.heap.objs.size + 1) :: us ++ ds).length = ps.length := by
    have e := r2.length
    rw [F.len _ _ _ _ hq] at e
    exact e.symm
  refine wpAny_call (make_map (f := f) I.kIn M.makes M.init (beq_iff_eq.mp M.fn) (codeAny_mono (F.run _ X.stack _ _ ⟨Value.ref (s.heap.objs.size + 1) :: us, []⟩ (Value.ref (s.heap.objs.size + 1) :: (us ++ ds)) _ _ (E σ) (hr.make C us [])
    (I2.env0.make C us []) (hb _ (Value.ref (s.heap.objs.size + 1) :: us) I2.kIn hl) r2 hq) fun r s' hq' => ?_))
  cases r with
  | error e => exact hx pins _ _ e s' I2 hq'
  | ok fl =>
    cases fl with
    | ret u =>
      obtain ⟨v, H', I3, rv, ev, q3⟩ := I2.after hq'
      subst ev
      exact ⟨rv, ⟨V.ref (s.heap.objs.size + 1), H', I3, rfl, q3⟩⟩
    | next => exact False.elim hq'
    | brk => exact False.elim hq'
    | cont => exact False.elim hq'
theorem pe_makeSD {X : Cx} {CX : CXT} {k : Nat} {f C : Addr} {fd : FuncData} {ps : List Str} {sp : Sp} {dvs : List V} {ds : List Value} {E : L2.St → XK} {x : Str} {p pos : Pos} {e : Expr} {es : List Expr} {t : TA} (M : Mk X.K C f) (F : FnOk X.prog X.w X.K X.mg X.base CX k f fd ps sp) (hr : Room (k + 1) X.A) (hg : Gl X x) (hm : X.mg x = some (.ref C)) (hb : Binds X.K fd ps ds) (hd : Vals dvs ds) (hx : ∀ σ, PassesAt CX X σ (E σ))
    (ha : PA X (e :: es) t) (hdb : (x == ("__debug__" : Str)) = false := by decide) (he : starEach (e :: es) X.env = (false, eval e X.env) :: starEach es X.env := by rfl) (hpl : (backTo pos (starEach es X.env)).any (·.1) = false := by rfl) :
    PE X (.Call (.Name x p) (e :: es) [] pos) (tMakeSD C sp dvs E t) := by
  refine ⟨fun pins s σ H Q I h => ?_⟩
  refine wpAny_Call_Name_kw (ld_glob I hg hm ?_ hdb)
  refine PySem.W.callWith_K (h₀ := X.base) I.ok.mod.kin M.kp (thn (ha.run pos pins s σ H _ I h) fun us s1 ⟨vs, H1, I1, r, q⟩ => ⟨I1.kIn, ?_⟩) he hpl
  exact run_makeSD M F hr hb hd (hx σ) I1 r q
theorem sd_mk {K : Frag} {W : WX} {C np n : Nat} {fm : Fm} {ma : ML} {t : TA} {dvs : List V} {ds : List D} (hd : ∀ H, RpL K H dvs ds) (hn : n = np + 1 + ds.length) (hr : SA K W t ma) :
    Sd K W (tMakeSD C (fun vs H Q E => vs.length = n ∧ spD K fm vs H Q E) dvs (WE W) t) (mkK C np fm ds ma) := fun B σ H ρ α S Qm Em mm Q q x => by
  refine hr B σ H ρ α S _ Em mm _ (fun vs as B1 H1 α1 A1 ra mm => ?_) x
  intro l dx nl ndx ne
  have sb : Sub H1 (upd (upd H1 dx (.own l)) l (.ins C dx [])) := fun b o e => by
    rw [upd_ne (ne_of_none e nl), upd_ne (ne_of_none e ndx)]
    exact e
  have A2 := Af.cell (c := oD C []) A1.bs sb nl (by rw [upd_same]; exact .obj .nil)
  have A12 := A1.trans S.bs A2
  have el : (vs ++ dvs).length = as.length + ds.length := by rw [List.length_append, ra.length, (hd H).length]
  refine ⟨by rw [List.length_cons, el, mm.1, hn]; omega, _, _, dref l :: (as ++ ds), _, Em, A2.bs, .cons .ref ((ra.mono A2.sub).append (hd _)), mm.2 l (A1.bs.new nl), fun v d B3 H3 α3 A3 r3 m => ?_, fun y B3 α3 cls d H3 A3 r3 m => x y B3 α3 cls d H3 (A12.trans S.bs A3) r3 m⟩
  obtain ⟨rfl, m⟩ := m
  exact ⟨r3.nonei, q _ _ B3 H3 α3 (A12.trans S.bs A3) .ref m⟩
theorem je_mk {C j np : Nat} {x : Str} {fm : Fm} {e : Expr} {es : List Expr} {p pos : Pos} {ma : ML} {ds : List D} (M : MkD c j x C np ds fm) (hk : j + 1 ≤ c.k) (hg : sc.names.lookup x = some .globalImplicit) (ha : JL c N sc (e :: es) ma) (hc : c.cm = true := by rfl)
    (hdb : (x == ("__debug__" : Str)) = false := by decide) (he : ∀ env, starEach (e :: es) env = (false, eval e env) :: starEach es env := by intros; rfl) (hpl : ∀ env, (backTo pos (starEach es env)).any (·.1) = false := by intros; rfl) :
    JE c N sc (.Call (.Name x p) (e :: es) [] pos) (mkK C np fm ds ma) := by
  obtain ⟨f, fd, ps, dV, dvs, M, F, h1, h2, h3, h4, h5⟩ := M.ex
  obtain ⟨u, q1, q2⟩ := ha
  refine ⟨fun W => tMakeSD C (fun vs H Q E => vs.length = ps.length ∧ spD c.K fm vs H Q E) dvs (WE W) (u W), fun X W I T => ?_, fun W => sd_mk h4 h5 (q2 W)⟩
  have F' : FnOk X.prog X.w X.K X.mg X.base (L2.CX X.prog X.w) j f fd ps (fun vs H Q E => vs.length = ps.length ∧ spD c.K fm vs H Q E) := by
    rw [I.P, I.w, I.K, I.mg, I.base]
    exact F
  exact pe_makeSD (by rw [I.K]; exact M) F' ((I.rm hc).mono hk) (I.gl hg) (by rw [I.mg]; exact h1) (by rw [I.K]; exact h2) h3 (fun σ => passAt T σ) (q1 X W I T) hdb (he _) (hpl _)
def scriptD (ns : List Int) : D := .list (ns.map PyData.int)
/-- the law's end: its mirror gives True at every script -/
theorem law_fn {f : Addr} {fd : FuncData} {k : Nat} {m : Fm} {x : Str} (F : FnOk c.P c.w c.K c.mg c.base (L2.CX c.P c.w) k f fd [x] (fun vs H Q E => vs.length = [x].length ∧ spD c.K m vs H Q E)) (hm : ∀ ns : List Int, ns.length ≤ 63 → m [scriptD ns] (fun _ => none) (fun d _ => d = .bool true) (fun _ _ => False)) :
    FnOk c.P c.w c.K c.mg c.base (L2.CX c.P c.w) k f fd [x] (fun vs H Q _ => ∃ (a : Addr) (ns : List Int), vs = [.ref a] ∧ SqL c.K H a (ns.map V.int) ∧ ns.length ≤ 63 ∧ ∀ H', Q (.bl true) H') :=
  F.imp fun vs H Q E h => by
    obtain ⟨a, ns, rfl, hS, hl, q⟩ := h
    have hh : hide (fun _ => false) H = H := by
      funext b
      rfl
    refine ⟨rfl, fun _ => false, fun _ => none, [scriptD ns], _, _, ⟨fun a c h => (by cases h), fun a h => (by cases h)⟩, ?_, hm ns hl, fun v d B' H' α' A r m => ?_, fun x B' α' cls d H' A r m => m.elim⟩
    · rw [hh]
      exact .cons (.lst hS (RpL.ints ns)) .nil
    · subst m
      rw [r.booli]
      exact q H'
theorem walk_law {l : PySem.W.OpenLaw} {q : Program} {loose : List Str} {XP : (Str → Option Value) → Heap → Prop} {YP : World → Heap → Prop} {d : DefRec} {K : Params → PySem.W.Frag} {k : Nat} {x : Str} (hn : l.most = some 63) (hdf : d.params.defaults = [])
    (hr : Room k callerA) (hY : ∀ (w : World) (h : Heap), YP w h → (K w.params).In h)
    (F : ∀ (w : World) (mg : Str → Option Value) (fa : Addr) (h : Heap), (K w.params).In h → h.Ns mainGlobals mg → mg d.name = some (.ref fa) →
      ∃ fd : FuncData, (∀ (s : Shared) (u : Value), BindsTo s fd ⟨[u], []⟩ [(x, u)]) ∧ ∀ base : Heap, (K w.params).In base → base.Ns mainGlobals mg → FnOk l.prog w (K w.params) mg base (L2.CX l.prog w) k fa fd [x]
        (fun vs H Q _ => ∃ (a : Addr) (ns : List Int), vs = [.ref a] ∧ SqL (K w.params) H a (ns.map V.int) ∧ ns.length ≤ 63 ∧ ∀ H', Q (.bl true) H')) :
    PySem.W.WalkO q loose XP YP l.row.toRowW d [] (fun f vs => PySem.call f vs) :=
  L2.walk_of (n := 63) (k := k) (x := x) (CX := fun w => L2.CX l.prog w) (sp := fun w vs H Q _ => ∃ (a : Addr) (ns : List Int), vs = [.ref a] ∧ SqL (K w.params) H a (ns.map V.int) ∧ ns.length ≤ 63 ∧ ∀ H', Q (.bl true) H') hn (by decide) hdf hr hY F (fun _ _ a ns hl _ hS => ⟨a, ns, rfl, hS, hl, fun _ => rfl⟩) fun w H s e s' h => by
    obtain ⟨_, _, _, _, _, _, _, _, _, _, _, _, z⟩ := h
    exact z
end Hz
namespace Hz
open PySem L2
section
open PySem.W PySem.Calls PyProof.Rows
variable {prog : Program} {w : World} {A : Around} {E : Value → Shared → Prop} {h : Heap} {g : Array GenState} {d : Drawn} {t : Nat} {os : OsState}
variable {nm q : Str} {C N : Addr} {bs bm : List Value} {hdct : Bool} {sn : List Str} {sub : List Value} {ab : Bool} {col : Option Bool} {dd : Option Addr} {k0 k1 k2 k3 k5 : Option Value}
theorem call_mwVE {u e t0 : Addr} {rest : List Value} {Q : Value → Shared → Prop}
    (hC : h.get? C = some (excClassObj nm q C N bs bm hdct sn sub ab col dd k0 k1 k2 k3 k5 "ValueError.__new__")) (he : h.get? e = some (HandSPX.excO C t0)) (hu : h.get? u = some (kxs_mw "ValueError.__init__" e)) (hrest : rest.length ≤ sizeLine)
    (hq : ∀ h' t1, (∀ b o, b ≠ e → h.get? b = some o → h'.get? b = some o) → h'.get? e = some (HandSPX.excO C t1) → Q .none ⟨h', g, d, t, os⟩) :
    wpAny (model prog w) A (call (.ref u) rest) Q E ⟨h, g, d, t, os⟩ := by
  refine wpAny_call (codeAny_of_tree ?_)
  show wpAny _ A.in1 (callAny (.ref u) ⟨rest, []⟩) _ _ _
  simp only [callAny]
  refine wpAny_bind (wpAny_load hu ?_)
  simp only [kxs_mw, show (Value.type "method-wrapper" == Value.type "method" || Value.type "method-wrapper" == Value.type "builtin_function_or_method" || Value.type "method-wrapper" == Value.type "method-wrapper") = true by decide, if_true]
  refine W.KFB.if_so (by decide) ?_
  refine wpAny_bind (ESX.check_bound F.excBase_ValueError hC he rfl ?_)
  refine wpAny_bind (wpAny_pure (wpAny_pure ?_))
  refine ⟨Code.quiet_builtin _ (by decide +kernel), codeAny_builtin F.excBase_ValueError.initEntry ?_⟩
  rw [Around.under_plainId F.excBase_ValueError.init.plain _]
  wp_walk
  refine hq _ h.objs.size (fun b o hb ho => ?_) ?_
  · rw [Heap.get?_update_other _ _ (Ne.symm hb)]
    exact Heap.get?_push_of_some _ ho
  · rw [Heap.get?_update_self _ (Heap.get?_push_of_some _ he) rfl]
    rfl
end
/-- what the written part says of an exception class whose __init__ is cF's, at fI -/
structure ExC (K : Frag) (cF fI C : Addr) : Prop where
  o : OexC K C
  cl : ∃ cd, PySem.W.clsIn K C = some cd
  sb : PySem.W.mroIn K C (.ref cF) = some true
  su : PySem.W.ks_superIn K C cF "__init__" = some (some (.builtin "ValueError.__init__"))
  ve : PySem.W.subIn K (.ref C) (.type "ValueError") = some true
  np : PySem.W.findIn K (.ref C) "place" = some none
  ini : PySem.W.findIn K (.ref C) "__init__" = some (some (.ref fI))
  hd : PySem.W.hasDictIn K C = true
  ga : PySem.W.findIn K (.ref C) "__getattribute__" = some (some (.builtin "BaseException.__getattribute__"))
  gg : PySem.W.findIn K (.ref C) "__getattr__" = some none
  ca : PySem.W.findIn K (.ref C) "__class__" = some (some (.builtin "object.__class__"))
  cn : PySem.W.specialIn K (.builtin "object.__class__") "__get__" = some (some (.builtin "getset_descriptor.__get__"))
  ct : PySem.W.takesIn K (.builtin "object.__class__") = some true
  cm : PySem.W.mroIn K C (.type "object") = some true
/-- the base class's __init__: its statement st: super().__init__(place); self.place = place -/
structure ExI (P : Program) (K : Frag) (cF fI : Addr) (qual : Str) (st : Stmt) : Prop where
  ex : ∃ (oc doc pm ct : Value) (od an : Option Addr) (kV : Value) (osl : Array (Option Value)) (cda cc : Addr) (ccl cl : Value) (cdd cld : Option Addr) (vs : Array Value) (ccs csl : Array (Option Value)) (file : Str) (tf : Tok) (cdD : ClassData),
    K.lookup fI = some ⟨oc, od, .func (PySem.W.ksFn "__init__" qual (defArgs st) (defBody st) (defScope st) .none kV doc pm an (.ref cda) ct cc), osl⟩ ∧ PySem.W.codeIn K (.ref cda) qual = true ∧
    K.lookup cda = some ⟨ccl, cdd, .fields vs, ccs⟩ ∧ vs[2]? = some (.str file tf) ∧ ((P.main.file : Str) == file) = true ∧ K.lookup cc = some ⟨cl, cld, .cell (some (.ref cF)), csl⟩ ∧ PySem.W.clsIn K cF = some cdD
  kp : PySem.W.keepIn K (.ref fI) = true
  ty : PySem.W.typeIn K (.ref fI) = some (.type "function")
  tp : PySem.W.nsIn K cStatics "thirdparty.any" = some none
  top : (P.main.scope.names.lookup ("super" : Str)).isSome = false
/-- what it promises -/
def spX (K : Frag) (cF fI : Addr) : Sp := fun vs H Q _ => ∃ (a C : Addr) (y : V), vs = [.ref a, y] ∧ ExC K cF fI C ∧ H a = some (exo a C none) ∧ ∀ dx, H dx = none → dx ≠ a → Q .non (upd (upd H dx (exd dx [("place", y)])) a (exo a C (some dx)))
/-- the written form of that def -/
structure InitForm (st : Stmt) : Prop where
  ex : ∃ (p0 p1 p2 p3 p4 p5 q0 q1 q2 q3 : Pos) (pl : Env → Sem Bool), defBody st = [.Expr (.Call (.Attribute (.Call (.Name "super" p0) [] [] p1) "__init__" p2) [.Name "place" p3] [] p4) p5, .Assign [.Attribute (.Name "self" q0) "place" q1] (.Name "place" q2) q3] ∧
    (∀ env, eval (.Call (.Attribute (.Call (.Name "super" p0) [] [] p1) "__init__" p2) [.Name "place" p3] [] p4) env = (do
      let ov ← attributeBase (.Call (.Name "super" p0) [] [] p1) "__init__" env (eval (.Call (.Name "super" p0) [] [] p1) env)
      standAt p2.atName
      let (f, first) ← holding [ov] (getMethod ov "__init__" (pl env))
      callWith p4 f first (backTo p4 (starEach [.Name "place" p3] env)) [])) ∧
    (∀ env, swapsWith (.Call (.Attribute (.Call (.Name "super" p0) [] [] p1) "__init__" p2) [.Name "place" p3] [] p4) none p5.line env = pure false) ∧
    ∀ env, swapsWith (.Name "place" q2) (some (.Attribute (.Name "self" q0) "place" q1)) q3.line env = pure false
  sc : (defScope st).names.lookup ("super" : Str) = some .globalImplicit ∧ (defScope st).names.lookup ("__class__" : Str) = some .free ∧ (defScope st).names.lookup ("self" : Str) = some .local ∧ (defScope st).names.lookup ("place" : Str) = some .local
  kind : (defScope st).kind = .function
  co : (defScope st).isCoroutine = false
  gen : (defScope st).isGenerator = false
  cells : ∀ x ∈ (defScope st).names, x.2 ≠ .cell
  free : ∀ p ∈ (defScope st).names, p.2 = .free → p.1 = ("__class__" : Str)
  hp : ((defArgs st).posonlyargs ++ (defArgs st).args).head?.map (·.arg) = some "self"
  bd : ∀ (kV doc pm : Value) (an : Option Addr) (cda cc : Addr) (ct : Value) (qual : Str) (us : List Value), us.length = 2 → bindArgs (PySem.W.ksFn "__init__" qual (defArgs st) (defBody st) (defScope st) .none kV doc pm an (.ref cda) ct cc) ⟨us, []⟩ = pure ((["self", "place"] : List Str).zip us)
section
open PySem.W PySem.Calls PyProof.Rows
variable {P : Program} {w : World} {K : Frag} {mg : Str → Option Value} {base : Heap}
/-- the context of that def's body -/
def cxI (P : Program) (w : World) (K : Frag) (mg : Str → Option Value) (base : Heap) (env : Env) (A : Around) (outer : List Env) (s : Shared) (H : Hp) (xe : Value → Shared → Prop) : Cx where
  prog := P
  w := w
  K := K
  mg := mg
  base := base
  A := A.deeper env
  N := ["self", "place"]
  s_0 := s
  H_0 := H
  env := env
  outer := outer
  stack := env :: outer
  ex := []
  calm := true
  fn := fun _ => false
  pn := []
  xe := xe
set_option maxRecDepth 200000 in
theorem exi_ok {cF fI : Addr} {qual : Str} {st : Stmt} (T : ExI P K cF fI qual st) (S : InitForm st) (hsup : mg "super" = none) :
    ∃ fd, FnOk P w K mg base (L2.CX P w) 1 fI fd ["self", "place"] (spX K cF fI) ∧ Binds K fd ["self", "place"] [] := by
  obtain ⟨oc, doc, pm, ct, od, an, kV, osl, cda, cc, ccl, cl, cdd, cld, vs, ccs, csl, file, tf, cdD, lk, hcd, hcode, hvs, hfile, hcell, hD⟩ := T.ex
  refine ⟨_, ⟨fun vs H Q E h => ?_, fun A outer s H args us vs' Q E hr e0 hb r hsp => ?_⟩, .all fun us hl => S.bd kV doc pm an cda cc ct qual us hl⟩
  · obtain ⟨a, C, y, rfl, _⟩ := h
    rfl
  obtain ⟨a, C, y, rfl, X, ea, hq⟩ := hsp
  obtain ⟨u1, u2, rfl, ra, ry⟩ : ∃ u1 u2, us = [u1, u2] ∧ RelV (.ref a) u1 ∧ RelV y u2 := by
    cases r with
    | cons r1 r2 =>
      cases r2 with
      | cons r2 r3 =>
        cases r3
        exact ⟨_, _, rfl, r1, r2⟩
  obtain rfl : u1 = Value.ref a := ra
  have KX : K.In s.heap := e0.mod.kin.keeps fun b o e => (e0.bs b o e).1
  have lim : s.heap.NoLimit := e0.mod.nolimit.keeps fun b o e => (e0.bs b o e).1
  obtain ⟨hs, hc, hse, hpl⟩ := S.sc
  refine ks_codeAny_call_defAt (fd := ksFn "__init__" qual (defArgs st) (defBody st) (defScope st) .none kV doc pm an (.ref cda) ct cc) (body := defBody st) hr.depth (KX _ _ lk) rfl lim (codeRec_of KX hcd) rfl hb S.cells (fun x hx => ?_) (fun h₁ hns hk => ?_) S.co S.gen S.kind
  · have hx' : x ∈ [(("self" : Str), Value.ref a), (("place" : Str), u2)] := hx
    rcases List.mem_cons.mp hx' with rfl | hx'
    · exact hse
    · rcases List.mem_cons.mp hx' with rfl | hx'
      · exact hpl
      · cases hx'
  let env : Env := callEnv (ksFn "__init__" qual (defArgs st) (defBody st) (defScope st) .none kV doc pm an (.ref cda) ct cc) s.heap.objs.size fI
  let xe : Value → Shared → Prop := fun e s' => wpAny (model P w) (A.deeper env) (leaving env e) (fun _ s'' => CR (L2.CX P w) outer P w H s Q E (.error e) s'') (fun e' s'' => CR (L2.CX P w) outer P w H s Q E (.error e') s'') s'
  have hcc : base.get? cc = some ⟨cl, cld, .cell (some (.ref cF)), csl⟩ := e0.mod.kin _ _ hcell
  have I0 : L2.Inv (cxI P w K mg base env A outer s H xe) [] [some (.ref a), some y] H { s with heap := h₁, toks := s.toks + (([("self" : Str), "place"] : List Str).zip [Value.ref a, u2]).length } := by
    have one : ∀ x c, env.cells.lookup x = some c → x = "__class__" ∧ c = cc := fun x c e => by
      have e : List.lookup x [(("__class__" : Str), cc)] = some c := e
      by_cases z : x = "__class__"
      · subst z
        simp [List.lookup] at e
        exact ⟨rfl, e.symm⟩
      · have : (x == ("__class__" : Str)) = false := by simpa using z
        simp [List.lookup, this] at e
    have noA : ∀ b : Addr, b ∉ (cxI P w K mg base env A outer s H xe).ex := fun b z => absurd (show b ∈ ([] : List Addr) from z) (by simp)
    refine ⟨⟨e0.mod, S.kind, rfl, rfl, Nat.le_refl _, fun y z c h1 h2 => ?_, fun y hy => ?_, fun y c hf h => (by cases hf), fun _ => hr.hd, Around.frames_deeper e0.frames, .inr ⟨rfl, rfl⟩, fun b z => absurd z (noA b), e0.bs, e0.bsz, fun b _ _ => noA b, fun b z => absurd z (noA b), e0.funs, e0.frf⟩,
      rfl, e0.bare, Un.kept hk, ⟨_, hns, fun i x v h1 h2 h3 => ?_⟩, fun y c h => ?_, e0.hok.fresh (Nat.le_refl _), fun y c h => ?_, fun p hp => absurd (show p ∈ ([] : List (Addr × Obj)) from hp) (by simp), e0.hok.kept hk, rfl⟩
    · rw [(one y c h1).1, (one z c h2).1]
    · rcases hy with hy | hy
      · exact absurd rfl (S.cells _ (PySem.mem_of_lookup (show (defScope st).names.lookup y = some .cell from hy)))
      · have ey : y = "__class__" := S.free _ (PySem.mem_of_lookup (show (defScope st).names.lookup y = some .free from hy)) rfl
        rw [ey]
        exact ⟨cc, by show List.lookup ("__class__" : Str) [(("__class__" : Str), cc)] = some cc; simp [List.lookup]⟩
    · rcases i with _ | _ | i
      · cases h1; cases h2
        exact ⟨.ref a, rfl, .inl ⟨hse, by show List.lookup ("self" : Str) [(("place" : Str), u2), (("self" : Str), Value.ref a)] = some (.ref a); rfl⟩⟩
      · cases h1; cases h2
        exact ⟨u2, ry, .inl ⟨hpl, by show List.lookup ("place" : Str) [(("place" : Str), u2), (("self" : Str), Value.ref a)] = some u2; rfl⟩⟩
      · simp [cxI] at h1
    · obtain ⟨rfl, rfl⟩ := one y c h
      exact ⟨_, _, hk _ _ (KX _ _ hcell), rfl⟩
    · obtain ⟨rfl, rfl⟩ := one y c h
      exact (e0.bs _ _ hcc).2
  obtain ⟨p0, p1, p2, p3, p4, p5, q0, q1, q2, q3, pl, hbody, hev, hsw, hsw2⟩ := S.ex
  show _root_.PySem.wpAt (model P w) (A.deeper env) (.func (defBody st) env) (execs (defBody st) env) _ _ _
  have hx : execs (defBody st) env = execs [.Expr (.Call (.Attribute (.Call (.Name "super" p0) [] [] p1) "__init__" p2) [.Name "place" p3] [] p4) p5, .Assign [.Attribute (.Name "self" q0) "place" q1] (.Name "place" q2) q3] env := by rw [hbody]
  rw [hx]
  obtain ⟨ar, har, har2⟩ : ∃ ar, ((defArgs st).posonlyargs ++ (defArgs st).args).head? = some ar ∧ ar.arg = "self" := by
    have := S.hp
    cases z : ((defArgs st).posonlyargs ++ (defArgs st).args).head? with
    | none => rw [z] at this; cases this
    | some ar => rw [z] at this; exact ⟨ar, rfl, Option.some.inj this⟩
  obtain ⟨mb, hb1, hb2⟩ := I0.mod.blt
  have K0 := I0.kIn
  obtain ⟨oD, hD1, hD2⟩ : ∃ oD, h₁.get? cF = some oD ∧ oD.data = .cls cdD := by
    unfold clsIn at hD
    split at hD
    · rename_i c d cd' sl ho
      cases hD
      exact ⟨_, K0 _ _ ho, rfl⟩
    · cases hD
  obtain ⟨t1, hea⟩ := exo_at I0.hok ea
  obtain ⟨cd, hcd'⟩ := X.cl
  have hsu := X.su
  unfold ks_superIn at hsu
  rw [hcd', Option.bind_some] at hsu
  obtain ⟨nm, q, N, bs, bm, sn, sub, ab, col, dd, k0, k1, k2, k3, k5, hC, hbm⟩ := X.o.cls
  have haC : a ≠ C := fun z => by
    have := (e0.bs _ _ (e0.mod.kin _ _ hC)).2
    rw [← z, ea] at this
    cases this
  have hint : interactive env = false := by
    show ((defScope st).kind == .module && _) = false
    rw [S.kind]
    rfl
  refine ks_wpAt_execs_cons (ks_wpAt_Expr_any (ks_wpAt_MethodCall (pl := pl env) ?_ (hev env)) hint (hsw env))
  refine ks_wpAt_super_base (env := env) hs hc (by decide) rfl (hk _ _ (KX _ _ lk)) rfl har rfl (hk _ _ (KX _ _ hcode)) rfl hvs hfile T.top ?_
  refine ks_loadName_global S.kind hs (loadGlobal_builtin (env := env) (I0.mod.glob.keeps I0.bk) hsup (hb1.keeps I0.bk) ((hb2 _ (by decide)).trans PyProof.Rows.Boot.«super») ⟨rfl, ?_⟩)
  refine wpAny_loadName_free S.kind hc (c := cc) (by show List.lookup ("__class__" : Str) [(("__class__" : Str), cc)] = some cc; simp [List.lookup]) ⟨_, hk _ _ (KX _ _ hcell), rfl⟩ ?_
  rw [har2]
  refine wpAny_loadName_local S.kind hse hns (by show List.lookup ("self" : Str) [(("place" : Str), u2), (("self" : Str), Value.ref a)] = some (.ref a); rfl) ?_
  refine ks_wpAny_isType_cls hD1 hD2 ⟨rfl, ?_⟩
  refine ks_wpAny_call_super hD1 hD2 hea rfl (fun c z => by cases z) (looks_mroIn K0 X.sb) (fun h2 e2 kk2 => ?_)
  have I1 := I0.kept (h' := h2) (t' := s.toks + (([("self" : Str), "place"] : List Str).zip [Value.ref a, u2]).length) kk2
  have K1 := I1.kIn
  have LT : PySem.W.Looks (model P w) h2 (typeOf (.ref a)) (.ref C) := fun A Q E s k q => wpAny_typeOf_ref (k _ _ (kk2 _ _ hea)) q
  refine kxs_getMethod kxs_ValueError e2 (looks_opaque K1 T.tp) (l₀ := cd.mro) (fun A Q E s k q => wpAny_bind ((looks_clsIn K1 hcd') A _ E s k (wpAny_pure q))) rfl K1 hsu (LT.andThen (looks_subIn K1 X.ve)) haC (by decide) ?_
  have I2 := I1.kept (h' := h2.push (kxs_mw "ValueError.__init__" a)) (t' := s.toks + (([("self" : Str), "place"] : List Str).zip [Value.ref a, u2]).length + 1) (fun b o e => Heap.get?_push_of_some _ e)
  have hmw : (h2.push (kxs_mw "ValueError.__init__" a)).get? h2.objs.size = some (kxs_mw "ValueError.__init__" a) := Heap.get?_push_size _ rfl
  show wpAny (model P w) (A.deeper env) (callWith p4 (.ref h2.objs.size) [] (backTo p4 (starEach [.Name "place" p3] env)) []) _ _ _
  refine kxs_callWith (i := "ValueError.__init__") (x := a) rfl (evalArgs_plain ?_)
  show wpAny _ _ (spliced ((false, eval (.Name "place" p3) env) :: backTo p4 (starEach [] env))) _ _ _
  have hns2 := hns.keeps (h' := h2.push (kxs_mw "ValueError.__init__" a)) fun b o e => Heap.get?_push_of_some _ (kk2 b o e)
  refine Calls.spliced_cons (wpAny_Name (wpAny_loadName_local S.kind hpl hns2 (by show List.lookup ("place" : Str) [(("place" : Str), u2), (("self" : Str), Value.ref a)] = some u2; rfl) (Calls.spliced_nil ⟨hmw, ?_⟩)) (by decide))
  refine call_mwVE (I2.kIn _ _ hC) (Heap.get?_push_of_some _ (kk2 _ _ hea)) hmw (by show 1 ≤ sizeLine; decide) (fun h3 t3 kk3 he3 => ?_)
  have I3 := I2.write (t' := s.toks + (([("self" : Str), "place"] : List Str).zip [Value.ref a, u2]).length + 1) (x := a) (e := a) (o := exo a C none) (by rw [ea]; exact True.intro) (.inl rfl) kk3 ⟨_, he3⟩ (exo_ok he3)
  have eu : upd H a (exo a C none) = H := by
    funext b
    by_cases hb : b = a
    · rw [hb, upd_same, ea]
    · rw [upd_ne hb]
  rw [eu] at I3
  have ps := pss_one (ps_ost (pe_var (X := cxI P w K mg base env A outer s H xe) (i := 0) (pos := q0) rfl (.inl hse)) (pe_var (i := 1) (pos := q2) rfl (.inl hpl)) (hsw2 env) (f := "place") (p' := q1) (pos := q3))
  refine wpAt_of_wpAny (wpAny_mono (ps.run [] _ [some (.ref a), some y] H { nx := fun _ H' => Q .non H', rt := fun _ _ => False, bk := fun _ _ => False, ct := fun _ _ => False } I3 ⟨y, rfl, .ref a, rfl, a, C, rfl, X.o, X.np, .inl ⟨ea, hq⟩⟩) (fun f s' hs => ?_) fun _ _ z => z)
  cases f with
  | next =>
    obtain ⟨σ', H', J, q⟩ := hs
    exact ⟨.non, H', J.os, J.bare, J.base, J.hok, rfl, q⟩
  | ret u =>
    obtain ⟨_, _, _, _, _, q⟩ := hs
    exact q.elim
  | brk =>
    obtain ⟨_, _, _, q⟩ := hs
    exact q.elim
  | cont =>
    obtain ⟨_, _, _, q⟩ := hs
    exact q.elim
end
end Hz
namespace Hz
open PySem L2
/-- an exception class of the text, by its facts -/
abbrev ExD (c : C0) (cF fI : Addr) (x : Str) (C : Nat) : Prop := (∃ fd, FnOk c.P c.w c.K c.mg c.base (L2.CX c.P c.w) 1 fI fd ["self", "place"] (spX c.K cF fI) ∧ Binds c.K fd ["self", "place"] []) ∧ (PySem.W.typeIn c.K (.ref fI) = some (.type "function")) ∧ (ExC c.K cF fI C) ∧ (c.mg x = some (.ref C))
theorem ExD.fn {c : C0} {cF fI : Addr} {x : Str} {C : Nat} (h : ExD c cF fI x C) : ∃ fd, FnOk c.P c.w c.K c.mg c.base (L2.CX c.P c.w) 1 fI fd ["self", "place"] (spX c.K cF fI) ∧ Binds c.K fd ["self", "place"] [] := h.1
theorem ExD.ty {c : C0} {cF fI : Addr} {x : Str} {C : Nat} (h : ExD c cF fI x C) : PySem.W.typeIn c.K (.ref fI) = some (.type "function") := h.2.1
theorem ExD.e {c : C0} {cF fI : Addr} {x : Str} {C : Nat} (h : ExD c cF fI x C) : ExC c.K cF fI C := h.2.2.1
theorem ExD.mg {c : C0} {cF fI : Addr} {x : Str} {C : Nat} (h : ExD c cF fI x C) : c.mg x = some (.ref C) := h.2.2.2
def raiseS (C : Nat) (me : ME) : MS := fun ρ α D => me ρ α (fun d α1 => D.ex ⟨C, [(.str "place", d)]⟩ ρ α1) (fun x α1 => D.ex x ρ α1)
section
variable {c : C0} {N : List Str} {sc : Scope} {x : Str} {e : Expr} {p q pos : Pos} {me : ME} {cF fI : Addr} {C : Nat}
theorem js_raise (T : ExD c cF fI x C) (hk : 2 ≤ c.k) (hg : sc.names.lookup x = some .globalImplicit) (h : JE c N sc e me) (hc : c.cm = true := by rfl) (hdb : (x == ("__debug__" : Str)) = false := by decide) (he : ∀ env, starEach [e] env = (false, eval e env) :: starEach [] env := by intros; rfl) (hpl : ∀ env, (backTo q (starEach [] env)).any (·.1) = false := by intros; rfl) :
    JS c N sc (.Raise (some (.Call (.Name x p) [e] [] q)) none pos) (raiseS C me) := by
  obtain ⟨fd, F, b⟩ := T.fn
  obtain ⟨t, h1, h2⟩ := h
  refine ⟨fun W => fun _ σ H => tMkO C (spX c.K cF fI) [] (tCons (t W) tNil) σ H fun cls d H' => W cls d σ H', fun X W I TT => ?_, fun W B σ H ρ α S D m Dn h' x' => ?_⟩
  · have F' : FnOk X.prog X.w X.K X.mg X.base (L2.CX X.prog X.w) 1 fI fd ["self", "place"] (spX c.K cF fI) := by
      rw [I.P, I.w, I.K, I.mg, I.base]
      exact F
    exact ps_raise (I.calm hc) TT (pmk_oex (by rw [I.K]; exact T.e.o) (by rw [I.K]; exact T.e.ini) (by rw [I.K]; exact T.ty) F' ((I.rm hc).mono hk) (by rw [I.K]; exact b) .nil passL (I.gl hg) (by rw [I.mg]; exact T.mg) (pa_cons (h1 X W I TT) pa_nil (he _)) hdb (he _) (hpl _))
  · refine h2 W B σ H ρ α S _ _ m _ (fun v d B1 H1 α1 A1 r1 m => ⟨(show 1 ≤ 1000 by decide), fun a na => ?_⟩) (x'.sx S)
    refine ⟨a, C, v, rfl, T.e, upd_same, fun dx nd ne => ⟨rfl, dx, [("place", v)], upd_same, ?_, ?_, ?_⟩⟩
    · rw [upd_ne ne, upd_same]
    · rw [upd_ne ne] at nd
      exact nd
    · have nd' : H1 dx = none := by rw [upd_ne ne] at nd; exact nd
      have eh : upd (L2.del (upd (upd (upd H1 a (exo a C none)) dx (exd dx [("place", v)])) a (exo a C (some dx))) a) dx (.xd [("place", v)]) = upd H1 dx (.xd [("place", v)]) := by
        funext b
        by_cases hb : b = dx
        · rw [hb, upd_same, upd_same]
        · rw [upd_ne hb, upd_ne hb]
          by_cases hb2 : b = a
          · rw [hb2, L2.del_same, na]
          · rw [L2.del_ne hb2, upd_ne hb2, upd_ne hb, upd_ne hb2]
      rw [eh]
      have Ab := Af.of_sub A1.bs (Sub.new (o := .xd [("place", v)]) nd')
      have A := A1.trans S.bs Ab
      have hB : B1 dx = false := A1.bs.fresh nd'
      exact x' _ B1 σ ρ α1 (.ref C) (some dx) _ A (S.step A) ⟨rfl, dx, _, rfl, hide_of hB upd_same, .cons (r1.mono Ab.sub) .nil⟩ m
end
def tryS (exm : Nat → Option Bool) (mb ms : MS) : MS := fun ρ α D => mb ρ α { D with ex := fun x ρ' α' => oq (exm x.C) fun b => if b = true then ms ρ' α' { D with ex := fun _ _ _ => False } else D.ex x ρ' α' }
/-- the datum of a caught exception -/
def excD (a dx C : Nat) (ds : List (D × D)) : D := .dict ((.bool true, .tuple [.int (Int.ofNat a), .int (Int.ofNat dx), .int (Int.ofNat C)]) :: ds)
def tryA (i : Nat) (exm : Nat → Option Bool) (mb : MS) (ms : Nat → Nat → Nat → MS) : MS := fun ρ α D => mb ρ α { D with ex := fun x ρ' α' => oq (exm x.C) fun b => if b = true then ∀ a dx, ms a dx x.C (ρ'.set i (some (excD a dx x.C x.fs))) α' { nx := fun ρ2 α2 => D.nx (ρ2.set i none) α2, rt := D.rt, bk := fun ρ2 α2 => D.bk (ρ2.set i none) α2, ct := fun ρ2 α2 => D.ct (ρ2.set i none) α2, ex := fun _ _ _ => False } else D.ex x ρ' α' }
theorem SR.unset {K : Frag} {B : Addr → Bool} {σ : L2.St} {H : Hp} {ρ : En} {α : AH} {i : Nat} (S : SR K B σ H ρ α) : SR K B (σ.set i none) H (ρ.set i none) α := by
  refine ⟨by simpa using S.len, fun j d e => ?_, S.bs⟩
  by_cases q : i = j
  · subst q
    rw [List.getElem?_set_self (by simpa using (List.getElem?_eq_some_iff.mp e).1)] at e
    cases e
  · rw [List.getElem?_set_ne q] at e
    obtain ⟨w, a, b⟩ := S.val j d e
    exact ⟨w, by rw [List.getElem?_set_ne q]; exact a, b⟩
/-- what an except clause's class asks -/
def ExM (c : C0) (C : Nat) (exm : Nat → Option Bool) : Prop := ∀ C' b, exm C' = some b → PySem.W.exmOne c.K (.ref C') (.ref C) = some b
abbrev C0.su (c : C0) : C0 := { c with cm := false, xc := none }
abbrev C0.sx (c : C0) (a dx : Addr) (C : Nat) : C0 := { c with cm := false, xc := some (a, dx, C) }
section
variable {c : C0} {N : List Str} {sc : Scope} {x n : Str} {p np pos pos' : Pos} {C : Nat} {exm : Nat → Option Bool} {body suite : List Stmt} {b₀ : Stmt} {mb ms : MS} {i : Nat}
theorem In.tr {X : Cx} (I : In c N sc X) (hx : c.xc = none) {pn : List (Addr × Obj)} {xe : Value → Shared → Prop} (po : PassesOwn (model X.prog X.w) X.A X.env xe) : In c N sc (X.tr pn xe) :=
  ⟨I.P, I.w, I.K, I.mg, I.base, I.rm, I.un, I.N, I.sc, I.calm, I.fn, po, I.fs, fun _ _ _ h => (by rw [hx] at h; cases h), I.oc⟩
theorem In.su {X : Cx} (I : In c N sc X) (a : Addr) (pn : List (Addr × Obj)) : In c.su N sc (X.suite a pn) :=
  ⟨I.P, I.w, I.K, I.mg, I.base, fun h => (by cases h), I.un, I.N, I.sc, fun h => (by cases h), I.fn, PassesOwn.never, I.fs, fun _ _ _ h => (by cases h), I.oc⟩
theorem In.sx {X : Cx} (I : In c N sc X) (a dx : Addr) (C : Nat) {oe : Obj} (pn : List (Addr × Obj)) (hz : Zc (.ref C) (some dx) oe) (hf : ∃ vs, oe.data = .fields vs) : In (c.sx a dx C) N sc (X.suite a ((a, oe) :: pn)) :=
  ⟨I.P, I.w, I.K, I.mg, I.base, fun h => (by cases h), I.un, I.N, I.sc, fun h => (by cases h), I.fn, PassesOwn.never, I.fs, fun _ _ _ h => (by
    cases h
    exact ⟨X, oe, pn, rfl, hz, hf⟩), I.oc⟩
theorem js_tryA {ms : Nat → Nat → Nat → MS} (nd : N.Nodup) (hN : N[i]? = some n) (hn : sc.names.lookup n = some .local) (hg : sc.names.lookup x = some .globalImplicit) (hm : c.mg x = some (.ref C)) (hex : ExM c C exm) (hb : JB c N sc body mb) (hs : ∀ a dx C', JB (c.sx a dx C') N sc (b₀ :: suite) (ms a dx C')) (hx : c.xc = none := by rfl) (ht : c.top = true := by rfl) (hdb : (x == ("__debug__" : Str)) = false := by decide) :
    JS c N sc (.Try body [.ExceptHandler (some (.Name x np)) (some n) (b₀ :: suite) pos'] [] [] pos) (tryA i exm mb ms) := by
  obtain ⟨t, h1, h2⟩ := hb
  have hs' : ∀ (a : Addr) (cls : Value) (d : Option Addr), ∃ ts : TS, ∀ (dx : Addr) (C' : Nat), cls = .ref C' → d = some dx → (∀ X, In (c.sx a dx C') N sc X → PSs X (b₀ :: suite) ts) ∧ SS c.K (fun _ _ _ _ => False) ts (ms a dx C') := fun a cls d => by
    by_cases hq : ∃ (dx : Addr) (C' : Nat), cls = .ref C' ∧ d = some dx
    · obtain ⟨dx, C', rfl, rfl⟩ := hq
      obtain ⟨u, k1, k2⟩ := hs a dx C'
      refine ⟨u fun _ _ _ _ => False, fun dx' C2 e1 e2 => ?_⟩
      cases e1
      cases e2
      exact ⟨fun X I => k1 X _ I takes0, k2 _⟩
    · exact ⟨tNever, fun dx C' e1 e2 => absurd ⟨dx, C', e1, e2⟩ hq⟩
  let ts : Addr → Value → Option Addr → TS := fun a cls d => fun Dn σ H => (∃ (dx : Addr) (C' : Nat), cls = .ref C' ∧ d = some dx) ∧ (hs' a cls d).choose Dn σ H
  refine ⟨fun W Dn σ H => t (wAs c.K (.ref C) i ts W Dn) Dn σ H, fun X W I T => ?_, fun W B σ H ρ α S D m Dn h' x' => ?_⟩
  · have q := ps_try_as (pos := pos) (pos' := pos') (np := np) (n := n) (i := i) (b₀ := b₀) (suite := suite) (I.fs ht).1 (I.fs ht).2 (by rw [I.N]; exact nd) (by rw [I.N]; exact hN) (by show X.env.scope.names.lookup n = _; rw [I.sc]; exact hn) ⟨I.gl hg, hdb, .inl (by rw [I.mg]; exact hm)⟩ T (fun W' pn xe tk po => h1 _ W' (I.tr hx po) tk) (ts := ts) (fun a oe cls d pn hz hf => ?_)
    · rw [I.K] at q
      exact q
    · by_cases hq : ∃ (dx : Addr) (C' : Nat), cls = .ref C' ∧ d = some dx
      · obtain ⟨dx, C', e1, e2⟩ := id hq
        have k := ((hs' a cls d).choose_spec dx C' e1 e2).1 _ (by rw [e1, e2] at hz; exact I.sx a dx C' pn hz hf)
        exact ⟨fun pins s σ H D I h => k.run pins s σ H D I h.2⟩
      · exact ⟨fun pins s σ H D I h => absurd h.1 hq⟩
  · refine h2 _ B σ H ρ α S _ m Dn ⟨h'.nx, h'.rt, h'.bk, h'.ct⟩ fun y B' σ' ρ' α' cls d H' A S' r z => ?_
    obtain ⟨b, hb, z⟩ := z
    refine ⟨b, by rw [r.1]; exact hex _ _ hb, fun e a na => ?_, fun e => ?_⟩
    · rw [if_pos e] at z
      obtain ⟨r1, dx, fs, r0, r2, r3⟩ := r
      refine ⟨⟨dx, y.C, r1, r0⟩, ?_⟩
      have k := ((hs' a cls d).choose_spec dx y.C r1 r0).2
      have q := h'.after S.bs A
      exact k B' _ H' _ α' (S'.set (.exc r2 r3)) _ (z a dx) _ ⟨fun B2 σ2 H2 ρ2 α2 a2 s2 z2 => q.nx B2 _ H2 _ α2 a2 s2.unset z2, q.rt, fun B2 σ2 H2 ρ2 α2 a2 s2 z2 => q.bk B2 _ H2 _ α2 a2 s2.unset z2, fun B2 σ2 H2 ρ2 α2 a2 s2 z2 => q.ct B2 _ H2 _ α2 a2 s2.unset z2⟩ fun _ _ _ _ _ _ _ _ _ _ _ z => z.elim
    · rw [if_neg (by rw [e]; decide)] at z
      exact x' y B' σ' ρ' α' cls d H' A S' r z
end
theorem Rp.excD {K : Frag} {H : Hp} {v : V} {a dx C : Nat} {ds : List (D × D)} (h : Rp K H v (excD a dx C ds)) : v = .ref a ∧ ∃ fs, H dx = some (.xd fs) ∧ RpF K H fs ds := by
  generalize e : Hz.excD a dx C ds = z at h
  cases h with
  | @exc a' dx' C' fs ds' h r =>
    have e1 := List.cons.inj (PyData.dict.inj e)
    have e2 := PyData.tuple.inj (congrArg Prod.snd e1.1)
    have e3 := List.cons.inj e2
    have e4 := List.cons.inj e3.2
    rw [Int.ofNat.inj (PyData.int.inj e3.1), Int.ofNat.inj (PyData.int.inj e4.1), e1.2]
    exact ⟨rfl, fs, h, r⟩
  | dct _ r =>
    cases r with
    | nil => cases e
    | @cons k _ _ _ _ r1 r2 =>
      have e1 := (List.cons.inj (PyData.dict.inj e)).1
      have e2 : PyData.bool true = kD k := congrArg Prod.fst e1
      cases k <;> cases e2
  | fnc =>
    have e1 := (List.cons.inj (PyData.dict.inj e)).1
    have e2 := congrArg Prod.snd e1
    cases e2
  | ref =>
    have e1 := (List.cons.inj (PyData.dict.inj e)).1
    have e2 := congrArg Prod.fst e1
    cases e2
  | _ => cases e
def kXf (i : Nat) (f : Str) (isX : Nat → Bool) (a dx C : Nat) : ME := fun ρ α Q E => ∃ ds d, ρ[i]? = some (some (excD a dx C ds)) ∧ isX C = true ∧ lookF f ds = some d ∧ Q d α
theorem je_xf {c : C0} {N : List Str} {sc : Scope} {x f : Str} {pos p : Pos} {i : Nat} {cF fI : Addr} {isX : Nat → Bool} {a dx : Addr} {C : Nat} (hX : ∀ C, isX C = true → ExC c.K cF fI C) (hf0 : ∀ C, isX C = true → PySem.W.findIn c.K (.ref C) f = some none) (hN : N[i]? = some x) (hv : Vis sc x) (hd : (x == ("__debug__" : Str)) = false := by decide) (hcd : (x == ("__classdict__" : Str)) = false := by decide)
    (hb : ∀ env, attributeBase (.Name x p) f env (eval (.Name x p) env) = eval (.Name x p) env := by intros; rfl) : JE (c.sx a dx C) N sc (.Attribute (.Name x p) f pos) (kXf i f isX a dx C) := by
  refine ⟨fun W σ H Q => isX C = true ∧ tXf a (.ref C) (some dx) C f (tVar i) σ H Q, fun X W I T => ?_, fun W B σ H ρ α S Qm Em m Q q x' => ?_⟩
  · obtain ⟨Y, oe, pn, rfl, hz, hf⟩ := I.xi a dx C rfl
    have hK : Y.K = c.K := I.K
    by_cases hC : isX C = true
    · have k := hX C hC
      have z := pe_xf (X := Y) (a := a) (oe := oe) (cls := .ref C) (d := some dx) (pn := pn) (n := f) (pos := pos) (T := ⟨by rw [hK]; exact k.ga, by rw [hK]; exact k.gg, by rw [hK]; exact k.o.exC, by rw [hK]; exact k.hd⟩) (by rw [hK]; exact hf0 C hC) hz hf (pe_var (X := Y.suite a ((a, oe) :: pn)) (i := i) (pos := p) (by rw [I.N]; exact hN) (I.vis hv) hd hcd) (hb _)
      exact ⟨fun pins s σ H Q I' h => z.run pins s σ H Q I' h.2⟩
    · exact ⟨fun pins s σ H Q I' h => absurd h.1 hC⟩
  · obtain ⟨ds, d, e, hC, l, m⟩ := m
    obtain ⟨v, g1, g2⟩ := S.val i _ e
    obtain ⟨rfl, fs, k1, k2⟩ := g2.excD
    obtain ⟨w, l1, rw_⟩ := k2.look l
    exact ⟨hC, .ref a, g1, rfl, rfl, dx, fs, w, rfl, (hide_some k1).2, l1, q w d B H α (Af.refl S.bs) rw_ m⟩
end Hz
namespace PySem.W
open PySem PySem.Spec PySem.Calls PyProof.Rows
section
variable {prog : Program} {w : World} {A : Around} {E : Value → Shared → Prop} {s : Shared} {K : Frag} {x D : Addr} {ox oy : Obj}
theorem hz_findObj {C : Addr} {name : Str} {a g : Value} {od : Option Obj} (hc : (clsIn K C).isSome = true) (ha : findIn K (.ref C) name = some (some a)) (hg : specialIn K a "__get__" = some (some g)) (ht : takesIn K a = some true) : findObj K C od name = some (.bind g a) := by
  obtain ⟨cd, hc⟩ := Option.isSome_iff_exists.mp hc
  unfold findObj
  rw [hc, Option.bind_some, ha, Option.bind_some]
  simp [hg, ht]
theorem hz_classE {Q : Option Value → Shared → Prop} (hga : findIn K (.ref D) "__getattribute__" = some (some (.builtin "BaseException.__getattribute__"))) (hgt : findIn K (.ref D) "__getattr__" = some none) (hsub : subIn K (.ref D) (.type "BaseException") = some true)
    (hdct : hasDictIn K D = true) (ha : findIn K (.ref D) "__class__" = some (some (.builtin "object.__class__")))
    (hn : specialIn K (.builtin "object.__class__") "__get__" = some (some (.builtin "getset_descriptor.__get__"))) (htk : takesIn K (.builtin "object.__class__") = some true) (hm : mroIn K D (.type "object") = some true)
    (X : K.In s.heap) (I : InstAt s.heap x ox D (some oy)) (h : Q (some (.ref D)) { s with toks := s.toks + 1 }) : wpAny (model prog w) A (getAttr? (.ref x) "__class__") Q E s := by
  have hf : findObj K D (some oy) "__class__" = some (.bind (.builtin "getset_descriptor.__get__") (.builtin "object.__class__")) := hz_findObj (by obtain ⟨cd, hc, _⟩ := any_some hdct; rw [hc]; rfl) ha hn htk
  obtain ⟨hp, g, d, t, os⟩ := s
  have L0 := I.type (M := model prog w)
  have L1 := looks_findIn (M := model prog w) X hga
  have L2 := looks_findIn (M := model prog w) X hgt
  have L3 := looks_find (M := model prog w) X I hf
  have sub : Looks (model prog w) hp (isInstance (.ref x) (.type "BaseException")) true := L0.andThen (looks_subIn X hsub)
  have hx0 : (false && onTheHeap (Value.builtin "BaseException.__getattribute__")) = false := rfl
  have hx2 : (Value.builtin "BaseException.__getattribute__" == Value.builtin "object.__getattribute__") = false := by decide +kernel
  have hx1 : (onTheHeap (Value.ref D) && Value.builtin "BaseException.__getattribute__" == Value.builtin "object.__getattribute__") = false := by rw [hx2]; rfl
  unfold getAttr? getAttrBy? getAttrBy
  refine wpAny_bind (wpAny_mkText (wpAny_bind (wpAny_attempt (wpAny_holding (wpAny_bind (L0.at (wpAny_bind (L1.at ?_))))))))
  show wpAny _ _ (if (onTheHeap (Value.ref D) && Value.builtin "BaseException.__getattribute__" == Value.builtin "object.__getattribute__") = true then _ else _) _ _ _
  rw [hx1, if_neg Bool.false_ne_true]
  unfold getAttrByItsOwn hookBefore
  refine wpAny_bind ?_
  rw [if_pos (show onTheHeap (Value.ref D) = true from rfl)]
  refine L2.at ?_
  refine wpAny_bind (wpAny_attempt (wpAny_holding ?_))
  unfold callGetattribute
  rw [hx0, if_neg Bool.false_ne_true]
  unfold boundAndCalled
  rw [PySem.F.excAttr_ValueError.ga.bind (.ref x)]
  refine wpAny_bind (wpAny_pure ?_)
  show wpAny _ _ (call (.builtin "BaseException.__getattribute__") [.ref x, .str "__class__" t]) _ _ _
  refine wpAny_call (codeAny_call_builtin PySem.F.excAttr_ValueError.ga.plain PySem.F.entry_bexc_ga ?_)
  refine @check_slot (model prog w) _ _ ⟨hp, g, d, t + 1, os⟩ "BaseException.__getattribute__" "BaseException" "__getattribute__" (.ref x) [.str "__class__" t] [] _ (by decide +kernel) (by decide +kernel) sub (PySem.F.args_bexc_ga (.ref x) (.str "__class__" t)) ?_
  unfold Builtin.«object.__getattribute__»
  refine wpAny_bind (wpAny_of_eq (a := ((Value.ref x : Value), [Value.str "__class__" t])) (by first | rfl | (simp only [slotArgs]; rfl)) ?_)
  refine wpAny_bind (wpAny_pure (wpAny_bind (L0.at (wpAny_bind (L3.at ?_)))))
  show wpAny _ _ (holding [Value.builtin "object.__class__"] (call (.builtin "getset_descriptor.__get__") [.builtin "object.__class__", .ref x, .ref D]) >>= ret) _ _ _
  refine wpAny_bind (wpAny_holding (wpAny_call (class_get (s := ⟨hp, g, d, t + 1, os⟩) (ox := ox) (od := some oy) X I hm ?_)))
  refine wpAny_pure ?_
  show wpAny _ _ (handedOut (.ref D)) _ _ _
  rw [handedOut_of (v := .ref D) rfl]
  first
    | exact wpAny_pure (wpAny_pure h)
    | exact wpAny_pure h
    | exact wpAny_pure (wpAny_bind (wpAny_pure (wpAny_pure h)))
theorem hz_kitx (hga : findIn K (.ref D) "__getattribute__" = some (some (.builtin "BaseException.__getattribute__"))) (hgt : findIn K (.ref D) "__getattr__" = some none) (hsub : subIn K (.ref D) (.type "BaseException") = some true) (hdct : hasDictIn K D = true) (ha : findIn K (.ref D) "__class__" = some (some (.builtin "object.__class__")))
    (hn : specialIn K (.builtin "object.__class__") "__get__" = some (some (.builtin "getset_descriptor.__get__"))) (htk : takesIn K (.builtin "object.__class__") = some true) (hm : mroIn K D (.type "object") = some true) :
    KitX K (.ref x) (.ref D) (fun h => InstAt h x ox D (some oy)) where
  ty := fun _ _ _ I => I.type
  it := fun _ _ X _ => by
    obtain ⟨cdD, hcD, _⟩ := any_some hdct
    unfold clsIn at hcD
    split at hcD
    · rename_i c' d' cd' sl' ho
      intro A' Q' E' s' k q
      unfold isType loadHead
      exact wpAny_bind (wpAny_loadPart (k _ _ (X _ _ ho)) (wpAny_pure q))
    · cases hcD
  ne := fun h tp dd its n sl X htp => by
    obtain ⟨cdD, hcD, _⟩ := any_some hdct
    refine Bool.eq_false_iff.mpr fun q => ?_
    have e : D = tp := Value.ref.inj (beq_iff_eq.mp q)
    subst e
    unfold clsIn at hcD
    split at hcD
    · rename_i c' d' cd' sl' ho
      have z := (X _ _ ho).symm.trans htp
      cases z
    · cases hcD
  ca := fun X I k => hz_classE hga hgt hsub hdct ha hn htk hm X I k
end
end PySem.W
namespace Hz
open PySem L2
/-- isinstance(e, cv), e the exception that the suite holds, its dict at dd -/
def rIsX (K : Frag) (C a dd : Addr) (isX : Nat → Bool) : List V → Hp → VK → Prop := fun xs H Q => isX C = true ∧ (∃ fs, H dd = some (.xd fs)) ∧ ∃ (c : V) (cv : Value) (b : Bool), xs = [.ref a, c] ∧ (∀ u, RelV c u → u = cv) ∧ PySem.W.kitOne K (.ref C) cv = some b ∧ Q (.bl b) H
theorem call_isX {X : Cx} {a C dd cF fI : Addr} {oe : Obj} {isX : Nat → Bool} {pn : List (Addr × Obj)} (T : ∀ C, isX C = true → ExC X.K cF fI C) (hz : Zc (.ref C) (some dd) oe) (hf : ∃ vs, oe.data = .fields vs) : CallR (X.suite a ((a, oe) :: pn)) (.builtin "isinstance") (rIsX X.K C a dd isX) := by
  intro pins s σ H xs us Q I r h
  obtain ⟨hX, ⟨fs, hx⟩, c, cv, b, rfl, hcv, e, q⟩ := h
  have k := T C hX
  cases r with
  | cons rx rr =>
    cases rr with
    | cons rt rr =>
      cases rr
      cases rx
      have ec := hcv _ rt
      subst ec
      obtain ⟨hget, _⟩ := I.pin (a, oe) (List.mem_append.mpr (.inl List.mem_cons_self))
      obtain ⟨vs, hv⟩ := hf
      have hxo : ObjOk X.prog X.w H s.heap dd (.xd fs) := I.hok dd _ hx
      obtain ⟨mA, ⟨od, es, ep, ho, _⟩, _⟩ := hxo
      have J : PySem.W.InstAt s.heap a oe C (some od) := ⟨hget, hz.1, by unfold PySem.W.notCls; rw [hv] <;> rfl, by rw [hz.2]; exact ho⟩
      exact PySem.W.kia_one (PySem.W.hz_kitx k.ga k.gg k.o.exC k.hd k.ca k.cn k.ct k.cm) I.kIn J e (fun z => nomatch z) fun tk => ⟨.bl b, H, I.kept (t' := tk) fun _ _ z => z, rfl, q⟩
def kXi (i : Nat) (isX : Nat → Bool) (tab : Nat → Option Bool) (a dx C : Nat) : ME := fun ρ α Q E => ∃ ds b, ρ[i]? = some (some (excD a dx C ds)) ∧ isX C = true ∧ tab C = some b ∧ Q (.bool b) α
section
variable {c : C0} {N : List Str} {sc : Scope} {x y : Str} {pos p p1 p2 : Pos} {i : Nat} {cF fI : Addr} {isX : Nat → Bool} {tab : Nat → Option Bool} {a dx : Addr} {C : Nat}
theorem je_xi {te : Expr} {v : V} {cv : Value} (hX : ∀ C, isX C = true → ExC c.K cF fI C) (ht : ∀ C b, tab C = some b → PySem.W.kitOne c.K (.ref C) cv = some b) (hv2 : ∀ u, RelV v u → u = cv) (hte : ∀ X, In (c.sx a dx C) N sc X → PE X te (tC v)) (hgi : sc.names.lookup ("isinstance" : Str) = some .globalImplicit) (hmi : c.mg ("isinstance" : Str) = none) (hN : N[i]? = some x) (hv : Vis sc x) (hd : (x == ("__debug__" : Str)) = false := by decide) (hcd : (x == ("__classdict__" : Str)) = false := by decide)
    (he : ∀ env, starEach [.Name x p1, te] env = (false, eval (.Name x p1) env) :: starEach [te] env := by intros; rfl) (he2 : ∀ env, starEach [te] env = (false, eval te env) :: starEach [] env := by intros; rfl) (hpl : ∀ env, (backTo pos (starEach [te] env)).any (·.1) = false := by intros; rfl) : JE (c.sx a dx C) N sc (.Call (.Name "isinstance" p) [.Name x p1, te] [] pos) (kXi i isX tab a dx C) := by
  refine ⟨fun W => tCB (rIsX c.K C a dx isX) (tCons (tVar i) (tCons (tC v) tNil)), fun X W I T => ?_, fun W B σ H ρ α S Qm Em m Q q x' => ?_⟩
  · have h0 := hte X I
    obtain ⟨Y, oe, pn, rfl, hz, hf⟩ := I.xi a dx C rfl
    have hK : Y.K = c.K := I.K
    have h := pe_callB (x := "isinstance") (p := p) (pos := pos) (call_isX (X := Y) (pn := pn) (isX := isX) (by rw [hK]; exact hX) hz hf) (I.gl hgi) (by rw [I.mg]; exact hmi) (by decide +kernel) (pa_cons (pe_var (X := Y.suite a ((a, oe) :: pn)) (i := i) (pos := p1) (by rw [I.N]; exact hN) (I.vis hv) hd hcd) (pa_cons h0 pa_nil (he2 _)) (he _)) (by decide) (by decide) (he _) (hpl _)
    rw [hK] at h
    exact h
  · obtain ⟨ds, b, e, hC, hb, m⟩ := m
    obtain ⟨w, g1, g2⟩ := S.val i _ e
    obtain ⟨rfl, fs, k1, k2⟩ := g2.excD
    exact ⟨.ref a, g1, hC, ⟨fs, (hide_some k1).2⟩, v, cv, b, rfl, hv2, ht C b hb, q _ _ B H α (Af.refl S.bs) (.bl b) m⟩
/-- isinstance(e, D), D an own class -/
theorem je_xiC {CD : Nat} (hX : ∀ C, isX C = true → ExC c.K cF fI C) (ht : ∀ C b, tab C = some b → PySem.W.kitOne c.K (.ref C) (.ref CD) = some b) (hgi : sc.names.lookup ("isinstance" : Str) = some .globalImplicit) (hmi : c.mg ("isinstance" : Str) = none) (hgy : sc.names.lookup y = some .globalImplicit) (hmy : c.mg y = some (.ref CD)) (hN : N[i]? = some x) (hv : Vis sc x) (hd : (x == ("__debug__" : Str)) = false := by decide) (hcd : (x == ("__classdict__" : Str)) = false := by decide) (hdy : (y == ("__debug__" : Str)) = false := by decide)
    (he : ∀ env, starEach [.Name x p1, .Name y p2] env = (false, eval (.Name x p1) env) :: starEach [.Name y p2] env := by intros; rfl) (he2 : ∀ env, starEach [.Name y p2] env = (false, eval (.Name y p2) env) :: starEach [] env := by intros; rfl) (hpl : ∀ env, (backTo pos (starEach [.Name y p2] env)).any (·.1) = false := by intros; rfl) : JE (c.sx a dx C) N sc (.Call (.Name "isinstance" p) [.Name x p1, .Name y p2] [] pos) (kXi i isX tab a dx C) :=
  je_xi (v := .ref CD) hX ht (fun u r => r) (fun X I => pe_glob (I.gl hgy) (by rw [I.mg]; exact hmy) rfl hdy) hgi hmi hN hv hd hcd he he2 hpl
/-- .. a built-in class -/
theorem je_xiT {T : String} (hX : ∀ C, isX C = true → ExC c.K cF fI C) (ht : ∀ C b, tab C = some b → PySem.W.kitOne c.K (.ref C) (.type T) = some b) (hgi : sc.names.lookup ("isinstance" : Str) = some .globalImplicit) (hmi : c.mg ("isinstance" : Str) = none) (hgy : sc.names.lookup y = some .globalImplicit) (hmy : c.mg y = none) (hby : bootBuiltins y = some (.type T)) (hN : N[i]? = some x) (hv : Vis sc x) (hd : (x == ("__debug__" : Str)) = false := by decide) (hcd : (x == ("__classdict__" : Str)) = false := by decide) (hdy : (y == ("__debug__" : Str)) = false := by decide) (hny : y ≠ "__name__" := by decide)
    (he : ∀ env, starEach [.Name x p1, .Name y p2] env = (false, eval (.Name x p1) env) :: starEach [.Name y p2] env := by intros; rfl) (he2 : ∀ env, starEach [.Name y p2] env = (false, eval (.Name y p2) env) :: starEach [] env := by intros; rfl) (hpl : ∀ env, (backTo pos (starEach [.Name y p2] env)).any (·.1) = false := by intros; rfl) : JE (c.sx a dx C) N sc (.Call (.Name "isinstance" p) [.Name x p1, .Name y p2] [] pos) (kXi i isX tab a dx C) :=
  je_xi (v := .ty T) hX ht (fun u r => r) (fun X I => pe_bltn (I.gl hgy) (by rw [I.mg]; exact hmy) hby rfl hny hdy) hgi hmi hN hv hd hcd he he2 hpl
end
end Hz
namespace Hz
open PySem L2
variable {c : C0} {N : List Str} {sc : Scope}
def dRep : D → D → Option D
  | .list a, .int k => if k < 2 ^ 63 ∧ -(2 ^ 63) ≤ k ∧ a.length * k.toNat ≤ 100000 then some (.list (List.replicate k.toNat a).flatten) else none
  | _, _ => none
/-- the new cell is let go, but stays hidden -/
theorem Af.drop {K : Frag} {B B' : Addr → Bool} {H H' : Hp} {α α' : AH} {l : Addr} {d : D} (a : Af K B H α B' H' (aset α' l d)) (n : α' l = none) : Af K B H α B' H' α' :=
  ⟨a.sub, ⟨fun x e q => a.bs.cel x e (by rw [aset_ne (fun z => by rw [z, n] at q; cases q)]; exact q), a.bs.bk⟩, a.keep, fun x nx hx => by
    by_cases z : x = l
    · rw [z]; exact n
    · have := a.fr x nx hx
      rw [aset_ne z] at this
      exact this, a.grow⟩
def muInsert (ds as : List D) : Option (D × List D) := match as with
  | [.int i, d] => if ds.length < 100000 ∧ 0 ≤ i ∧ i < 2 ^ 63 then some (.none, ds.take i.toNat ++ [d] ++ ds.drop i.toNat) else none
  | _ => none
/-- o.extend(e), e a list -/
def extK (mo me : ME) : ME := fun ρ α Q E => mo ρ α (fun o α1 => cellL α1 o fun _ _ => me ρ α1 (fun e α2 => cellL α2 o fun a ds => ∃ es, vw α2 e = some (.list es) ∧ ds.length + es.length ≤ 100000 ∧ Q .none (aset α2 a (.list (ds ++ es)))) E) E
def numsC (lo st : Int) : Nat → List D
  | 0 => []
  | n + 1 => .int lo :: numsC (lo + st) st n
def rangeK3 (m : ML) : MI := fun ρ α Q E => m ρ α (fun ds α1 => ∃ i j k : Int, ds = [.int i, .int j, .int k] ∧ (k ≠ 0 ∧ k.natAbs < 1073741824 ∧ Builtin.Range.small i j k = true) ∧ Q (numsC i k (Builtin.Range.rangeSize i j k).toNat) (fun _ => True) α1) E
abbrev HeldD (c : C0) (k : Nat) (f : Addr) (np : Nat) (fm : Fm) : Prop := ∃ (fd : FuncData) (ps : List Str), FnOk c.P c.w c.K c.mg c.base (L2.CX c.P c.w) k f fd ps (fun vs H Q E => vs.length = ps.length ∧ spD c.K fm vs H Q E) ∧ PySem.W.keepIn c.K (.ref f) = true ∧ Binds c.K fd ps [] ∧ ps.length = np
theorem HeldD.ex {c : C0} {k : Nat} {f : Addr} {np : Nat} {fm : Fm} (h : HeldD c k f np fm) : ∃ (fd : FuncData) (ps : List Str), FnOk c.P c.w c.K c.mg c.base (L2.CX c.P c.w) k f fd ps (fun vs H Q E => vs.length = ps.length ∧ spD c.K fm vs H Q E) ∧ PySem.W.keepIn c.K (.ref f) = true ∧ Binds c.K fd ps [] ∧ ps.length = np := h
end Hz
namespace Hz
open PySem L2
variable {c : C0} {N : List Str} {sc : Scope}
section
variable {e b : Expr} {es : List Expr} {me mb : ME} {pos p p1 p2 : Pos} {x : Str} {g : D → D → Option D}
theorem v_ (i : Nat) (hN : N[i]? = some x := by rfl) (hv : Vis sc x := by first | exact Or.inl rfl | exact Or.inr (Or.inl rfl) | exact Or.inr (Or.inr rfl)) (hd : (x == ("__debug__" : Str)) = false := by decide) (hcd : (x == ("__classdict__" : Str)) = false := by decide) : JE c N sc (.Name x pos) (kV i) := ce_var hN hv hd hcd
theorem g_int {i : Int} (hg : sc.names.lookup x = some .globalImplicit := by rfl) (hm : ∃ t, c.mg x = some (.int i t)) (hd : (x == ("__debug__" : Str)) = false := by decide) : JE c N sc (.Name x pos) (kC (.int i)) := by
  obtain ⟨t, h⟩ := hm
  exact ce_glob (v := .int i) hg h ⟨t, rfl⟩ (fun _ => .int i) hd
theorem g_str {i : Str} (hg : sc.names.lookup x = some .globalImplicit := by rfl) (hm : ∃ t, c.mg x = some (.str i t)) (hd : (x == ("__debug__" : Str)) = false := by decide) : JE c N sc (.Name x pos) (kC (.str i)) := by
  obtain ⟨t, h⟩ := hm
  exact ce_glob (v := .str i) hg h ⟨t, rfl⟩ (fun _ => .str i) hd
theorem set_ (i : Nat) (nd : N.Nodup) (h : JE c N sc e me) (hN : N[i]? = some x := by rfl) (hs : Sto c sc x := by first | exact Or.inl rfl | exact Or.inr ⟨rfl, rfl⟩) (hw : ∀ env, swapsWith e (some (.Name x p1)) pos.line env = pure false := by intros; rfl) : JS c N sc (.Assign [.Name x p1] e pos) (asgS me (setv i)) := js_set nd hN hs h hw
theorem tg_ (i : Nat) (nd : N.Nodup) (hN : N[i]? = some x := by rfl) (hs : Sto c sc x := by first | exact Or.inl rfl | exact Or.inr ⟨rfl, rfl⟩) : JTg c N sc (.Name x pos) [i] (setv i) := jtg_name nd hN hs
end
def dIAdd : D → D → Option D
  | .int a, .int b => some (.int (a + b))
  | .str a, .str b => if a.length + b.length ≤ 100000 then some (.str (a ++ b)) else none
  | _, _ => none
theorem o_iadd : OpD c.K (In c N sc) (inplaceOp .Add) dIAdd := by
  refine ⟨_, fun X I => OpR.or (X := X) iop_add iop_add_str, fun B H x y d e z bk hx hy hz Q q => ?_⟩
  unfold dIAdd at hz
  split at hz
  · cases hz
    exact .inl ⟨_, _, hx.int, hy.int, q _ H (Sub.refl H) (.int _)⟩
  · split at hz
    · rename_i hl
      cases hz
      exact .inr ⟨_, _, hx.str, hy.str, sz5 hl, q _ H (Sub.refl H) (.str _)⟩
    · cases hz
  · cases hz
def At (c : C0) (x : Str) (st : Stmt) (ps : List Str) (dvs : List V) (js : List Nat) : Prop := ∃ f, AtF c x x st ps dvs js f ∧ c.mg x = some (.ref f)
def MeAt (c : C0) (C : Nat) (m qual : Str) (st : Stmt) (ps : List Str) (dvs : List V) (js : List Nat) : Prop := ∃ f, AtF c m qual st ps dvs js f ∧ Meth c.K C m f
def InAt (c : C0) (C : Nat) (x qual : Str) (st : Stmt) (ps : List Str) (dvs : List V) (js : List Nat) : Prop := ∃ f, AtF c "__init__" qual st ps dvs js f ∧ Mk c.K C f ∧ c.mg x = some (.ref C)
def PrF (c : C0) (k : Nat) (x : Str) (ps : List Str) (dvs : List V) (js : List Nat) (fm : Fm) : Prop := ∃ f, Pro c k f ps dvs js fm ∧ c.mg x = some (.ref f)
def PrM (c : C0) (k C : Nat) (m : Str) (ps : List Str) (dvs : List V) (js : List Nat) (fm : Fm) : Prop := ∃ f, Pro c k f ps dvs js fm ∧ Meth c.K C m f
def PrI (c : C0) (k C : Nat) (x : Str) (ps : List Str) (dvs : List V) (js : List Nat) (fm : Fm) : Prop := ∃ f, Pro c k f ps dvs js fm ∧ Mk c.K C f ∧ c.mg x = some (.ref C)
section
variable {x m qual : Str} {st : Stmt} {ps : List Str} {dvs : List V} {js : List Nat} {k C np : Nat} {mm : MS} {fm : Fm}
theorem At.run (A : At c x st ps dvs js) (S : FnScope N ps (defScope st)) (h : JB (c.at_ k) N (defScope st) (defBody st) mm) (hn : ps.length ≤ N.length := by decide) : PrF c (k + 1) x ps dvs js (runF ps.length N.length mm) :=
  let ⟨f, a, m⟩ := A; ⟨f, a.run S h hn, m⟩
theorem At.runP (A : At c x st ps dvs js) (S : FnScope N ps (defScope st)) (h : JB (c.at_ k) N (defScope st) (defBody st) mm) (hn : ps.length ≤ N.length := by decide) : PrF c (k + 1) x ps dvs js (Hz.runP ps.length N.length mm) :=
  let ⟨f, a, m⟩ := A; ⟨f, a.runP S h hn, m⟩
theorem MeAt.run (A : MeAt c C m qual st ps dvs js) (S : FnScope N ps (defScope st)) (h : JB (c.at_ k) N (defScope st) (defBody st) mm) (hn : ps.length ≤ N.length := by decide) : PrM c (k + 1) C m ps dvs js (runF ps.length N.length mm) :=
  let ⟨f, a, m⟩ := A; ⟨f, a.run S h hn, m⟩
theorem MeAt.runP (A : MeAt c C m qual st ps dvs js) (S : FnScope N ps (defScope st)) (h : JB (c.at_ k) N (defScope st) (defBody st) mm) (hn : ps.length ≤ N.length := by decide) : PrM c (k + 1) C m ps dvs js (Hz.runP ps.length N.length mm) :=
  let ⟨f, a, m⟩ := A; ⟨f, a.runP S h hn, m⟩
theorem InAt.run (A : InAt c C x qual st ps dvs js) (S : FnScope N ps (defScope st)) (h : JB (c.at_ k) N (defScope st) (defBody st) mm) (hn : ps.length ≤ N.length := by decide) : PrI c (k + 1) C x ps dvs js (runF ps.length N.length mm) :=
  let ⟨f, a, m, q⟩ := A; ⟨f, a.run S h hn, m, q⟩
theorem PrF.fn (P : PrF c k x ps dvs js fm) : FnD c k x ps.length [] fm := let ⟨f, p, m⟩ := P; p.fn m
theorem PrI.mk_ (P : PrI c k C x ps dvs js fm) (hp : ps.length = np + 1 := by rfl) : MkD c k x C np [] fm := let ⟨f, p, m, q⟩ := P; p.mk_ m q hp
end
theorem kit_self {K : Frag} {C : Addr} : PySem.W.kitOne K (.ref C) (.ref C) = some true := if_pos (beq_self_eq_true _)
theorem kit_other {K : Frag} {C : Addr} {T : String} (h1 : PySem.W.isClsIn K C = true) (h2 : PySem.W.typeIn K (.ref C) = some (.type "type")) (h3 : PySem.W.notFirst K C (.type T) = true) : PySem.W.kitOne K (.type T) (.ref C) = some false := by
  have ne : (Value.type T == Value.ref C) = false := by
    cases z : (Value.type T == Value.ref C) with
    | false => rfl
    | true => exact nomatch (eq_of_beq z)
  unfold PySem.W.notFirst at h3
  rw [ne, Bool.false_or] at h3
  unfold PySem.W.kitOne
  rw [if_neg (by rw [ne]; exact Bool.false_ne_true)]
  show (if ((PySem.W.clsIn K C).isSome && PySem.W.typeIn K (.ref C) == some (.type "type")) = true then PySem.W.subIn K (.type T) (.ref C) else none) = some false
  rw [if_pos]
  · exact eq_of_beq h3
  · rw [h2, show (PySem.W.clsIn K C).isSome = true from h1]
    rfl
/-- isinstance(an A, D), both own classes, A below D or D itself -/
theorem kit_sub {K : Frag} {A D : Addr} (h1 : PySem.W.isClsIn K D = true) (h2 : PySem.W.typeIn K (.ref D) = some (.type "type")) (h3 : PySem.W.subIn K (.ref A) (.ref D) = some true) : PySem.W.kitOne K (.ref A) (.ref D) = some true := by
  unfold PySem.W.kitOne
  split
  · rfl
  · show (if ((PySem.W.clsIn K D).isSome && PySem.W.typeIn K (.ref D) == some (.type "type")) = true then PySem.W.subIn K (.ref A) (.ref D) else none) = some true
    rw [if_pos]
    · exact h3
    · rw [h2, show (PySem.W.clsIn K D).isSome = true from h1]
      rfl
theorem kit_T {K : Frag} {A : Addr} {T : String} (h0 : PySem.W.kitMeta T = true) (h3 : PySem.W.subIn K (.ref A) (.type T) = some true) : PySem.W.kitOne K (.ref A) (.type T) = some true := by
  unfold PySem.W.kitOne
  rw [if_neg (by simp)]
  show (if PySem.W.kitMeta T = true then PySem.W.subIn K (.ref A) (.type T) else none) = some true
  rw [if_pos h0]
  exact h3
theorem m_split : MeD c.K (In c N sc) "str.split" dSplit := by
  refine ⟨_, fun X I => by
    have h := mt_split (X := X)
    exact h, fun B H x vs ds z bk hv hz Q q => ?_⟩
  unfold dSplit at hz
  split at hz
  · rename_i b
    split at hz
    · rename_i hl
      cases hz
      obtain ⟨v, rfl, h⟩ := hv.one
      rw [h.str]
      refine ⟨x, b, rfl, rfl, hl.1, Nat.le_trans hl.2 (by decide), fun p hp => ?_⟩
      obtain ⟨s1, r2⟩ := lst_new bk hp (RpL.strs (K := c.K) (H := hide B H) (Txt.split x b))
      exact q _ _ s1 r2
    · cases hz
  · cases hz
end Hz
namespace Hz
open PySem L2
variable {c : C0} {N : List Str} {sc : Scope}
/-- an own class, by its facts -/
structure ClsK (K : Frag) (mg : Str → Option Value) (x : Str) (C : Nat) : Prop where
  mg : mg x = some (.ref C)
  cl : Cls K C
  ha : PySem.W.findIn K (.ref C) "__class__" = some (some (.builtin "object.__class__"))
  hn : PySem.W.specialIn K (.builtin "object.__class__") "__get__" = some (some (.builtin "getset_descriptor.__get__"))
  htk : PySem.W.takesIn K (.builtin "object.__class__") = some true
  hm : PySem.W.mroIn K C (.type "object") = some true
  self : PySem.W.kitOne K (.ref C) (.ref C) = some true
  kNone : PySem.W.kitOne K (.type "NoneType") (.ref C) = some false
  kBool : PySem.W.kitOne K (.type "bool") (.ref C) = some false
  kInt : PySem.W.kitOne K (.type "int") (.ref C) = some false
  kStr : PySem.W.kitOne K (.type "str") (.ref C) = some false
  kList : PySem.W.kitOne K (.type "list") (.ref C) = some false
  kTuple : PySem.W.kitOne K (.type "tuple") (.ref C) = some false
  fList : PySem.W.notFirst K C (.type "list") = true
  fTuple : PySem.W.notFirst K C (.type "tuple") = true
abbrev ClsD (c : C0) (x : Str) (C : Nat) : Prop := ClsK c.K c.mg x C
def isOb (C : Nat) : D → Bool
  | .dict ((.none, .int k) :: _) => decide (k = Int.ofNat C)
  | _ => false
theorem isOb_oD {C : Nat} {d : D} (h : isOb C d = true) : ∃ fs, d = oD C fs := by
  unfold isOb at h
  split at h
  · rename_i k fs
    exact ⟨fs, by unfold oD; rw [of_decide_eq_true h]⟩
  · cases h
def isiCB (C : Nat) : D → Option Bool
  | .none => some false
  | .bool _ => some false
  | .int _ => some false
  | .str _ => some false
  | .list _ => some false
  | .tuple _ => some false
  | d => if isOb C d = true then some true else none
theorem isiC_of {C : Nat} {x : Str} (T : ClsD c x C) {B : Addr → Bool} {H : Hp} {v : V} {d : D} {b : Bool} (h : Rs c.K B H v d) (e : isiCB C d = some b) : ∃ t, TyX c.K H v t ∧ PySem.W.kitOne c.K t (.ref C) = some b := by
  by_cases ho : isOb C d = true
  · obtain ⟨fs, rfl⟩ := isOb_oD ho
    obtain ⟨a, dx, gs, rfl, h1, h2⟩ := h.oD
    have eb : b = true := by
      have : isiCB C (oD C fs) = some true := by
        unfold isiCB oD at *
        simp only []
        rw [if_pos ho]
      rw [this] at e
      cases e
      rfl
    subst eb
    exact ⟨.ref C, .base (.ins h1 T.cl T.ha T.hn T.htk T.hm), T.self⟩
  · have h := h.rp
    cases h with
    | non => cases e; exact ⟨_, .base .non, T.kNone⟩
    | bl k => cases e; exact ⟨_, .base (.bl k), T.kBool⟩
    | int k => cases e; exact ⟨_, .base (.int k), T.kInt⟩
    | str k => cases e; exact ⟨_, .base (.str k), T.kStr⟩
    | lst hs _ =>
      cases e
      refine ⟨.type "list", ?_, T.kList⟩
      rcases hs with (h | ⟨o, h⟩) | ⟨o, its, n, h1, h2, _⟩
      · exact .base (.lst h)
      · exact .base (.frz h)
      · exact .kList h1 h2
    | tup hs _ _ =>
      cases e
      refine ⟨.type "tuple", ?_, T.kTuple⟩
      rcases hs with (h | ⟨o, h⟩) | ⟨o, its, n, h1, h2, _⟩
      · exact .base (.tup h)
      · exact .fTuple h
      · exact .kTuple h1 h2
    | _ =>
      simp only [isiCB, if_neg ho] at e
      cases e
def isiCK (C : Nat) (m : ME) : ME := fun ρ α Q E => m ρ α (fun d α1 => oq (vw α1 d) fun d' => oq (isiCB C d') fun b => Q (.bool b) α1) E
theorem je_isiC {C : Nat} {y : Str} {p p2 pos : Pos} {e : Expr} {me : ME} (T : ClsD c y C) (hg : sc.names.lookup ("isinstance" : Str) = some .globalImplicit) (hm : c.mg ("isinstance" : Str) = none) (hgy : sc.names.lookup y = some .globalImplicit) (ha : JE c N sc e me)
    (hdb : (y == ("__debug__" : Str)) = false := by decide)
    (he : ∀ env, starEach [e, .Name y p2] env = (false, eval e env) :: starEach [.Name y p2] env := by intros; rfl) (hpl : ∀ env, (backTo pos (starEach [.Name y p2] env)).any (·.1) = false := by intros; rfl) :
    JE c N sc (.Call (.Name "isinstance" p) [e, .Name y p2] [] pos) (isiCK C me) := by
  obtain ⟨t, a1, a2⟩ := ha
  refine ⟨fun W => tCB (rIsi c.K) (tCons (t W) (tCons (tC (.ref C)) tNil)), fun X W I TT => ?_, fun W B σ H ρ α S Qm Em m Q q x => ?_⟩
  · have h := pe_callB (x := "isinstance") (p := p) (pos := pos) (call_isi (X := X)) (I.gl hg) (by rw [I.mg]; exact hm) (by decide +kernel) (pa_cons (a1 X W I TT) (pa_cons (pe_glob (pos := p2) (v := .ref C) (I.gl hgy) (by rw [I.mg]; exact T.mg) rfl hdb) pa_nil) (he _)) (by decide) (by decide) (he _) (hpl _)
    rw [I.K] at h
    exact h
  · refine a2 W B σ H ρ α S _ Em m _ (fun v d B1 H1 α1 A1 r1 m => ?_) x
    obtain ⟨d', hd, z, hz, m⟩ := m
    obtain ⟨t, h1, h2⟩ := isiC_of T (vw_rs A1.bs r1 hd) hz
    exact ⟨v, .ref C, t, .ref C, z, rfl, .own C, h1, h2, q _ _ B1 H1 α1 A1 (.bl z) m⟩
end Hz
namespace Hz
open PySem L2
section
variable {c : C0} {N : List Str} {sc : Scope}
def dIsT : D → D → Option D
  | .bool a, .bool b => some (.bool (decide (a = b)))
  | _, _ => none
def dIsNotT : D → D → Option D
  | .bool a, .bool b => some (.bool (!decide (a = b)))
  | _, _ => none
end
section
variable {c : C0} {N : List Str} {sc : Scope}
def dFind1 (x : Str) : List D → Option D
  | [.str b] => some (.int (Txt.find x b))
  | _ => none
theorem m_find1 : MeD c.K (In c N sc) "str.find" dFind1 := by
  refine ⟨_, fun X I => mt_find, fun B H x vs ds z bk hv hz Q q => ?_⟩
  unfold dFind1 at hz
  split at hz
  · cases hz
    obtain ⟨v, rfl, h⟩ := hv.one
    rw [h.str]
    exact ⟨x, _, rfl, rfl, q _ H (Sub.refl H) (.int _)⟩
  · cases hz
def dFind2 (x : Str) : List D → Option D
  | [.str b, .int i] => some (.int (Txt.find3 x b i))
  | _ => none
theorem m_find2 : MeD c.K (In c N sc) "str.find" dFind2 := by
  refine ⟨_, fun X I => mt_find3, fun B H x vs ds z bk hv hz Q q => ?_⟩
  unfold dFind2 at hz
  split at hz
  · cases hz
    cases hv with
    | cons h1 h2 =>
      cases h2 with
      | cons h2 h3 =>
        cases h3
        rw [h1.str, h2.int]
        exact ⟨x, _, _, rfl, rfl, q _ H (Sub.refl H) (.int _)⟩
  · cases hz
def dInT : D → D → Option D
  | .str a, .str b => some (.bool (!(Builtin.Str.occurrences b a 0 b.length 1).isEmpty))
  | _, _ => none
theorem o_inT : OpD c.K (In c N sc) (compareOp .In) dInT := by
  refine ⟨_, fun X I => op_in_str, fun B H x y d e z bk hx hy hz Q q => ?_⟩
  unfold dInT at hz
  split at hz
  · cases hz
    exact ⟨_, _, hx.str, hy.str, q _ H (Sub.refl H) (.bl _)⟩
  · cases hz
end
end Hz
namespace Hz
open PySem L2
def it2 (b : Bool) (A B : Prop) : Prop := (b = true → A) ∧ (b = false → B)
def tb (d : D) (R : Bool → Prop) : Prop := ∃ b, d = .bool b ∧ R b
def ti (d : D) (R : Int → Prop) : Prop := ∃ b, d = .int b ∧ R b
def ts (d : D) (R : Str → Prop) : Prop := ∃ b, d = .str b ∧ R b
def cal (np : Nat) (fm : Fm) (as : List D) (ds : List D) (α : AH) (Q : QD) (E : QX) : Prop := as.length = np ∧ fm (as ++ ds) α Q E
def pr2 (ds : List D) (R : D → D → Prop) : Prop := ∃ d e, ds = [d, e] ∧ R d e
theorem pr2_of {d e : D} {R : D → D → Prop} (h : R d e) : pr2 [d, e] R := ⟨d, e, rfl, h⟩
def lenOk (ds : List D) (P : Prop) : Prop := ds.length ≤ 100000 ∧ P
theorem lok {ds : List D} {P : Prop} (e : decide (ds.length ≤ 100000) = true) (h : P) : lenOk ds P := ⟨of_decide_eq_true e, h⟩
section
variable {A B : Prop} {b : Bool} {p : Prop} {RB : Bool → Prop}
theorem tb_b (h : RB b) : tb (.bool b) RB := ⟨b, rfl, h⟩
theorem ti_b {R : Int → Prop} {b} (h : R b) : ti (.int b) R := ⟨b, rfl, h⟩
theorem ts_b {R : Str → Prop} {b} (h : R b) : ts (.str b) R := ⟨b, rfl, h⟩
theorem it2_dec [Decidable p] (h : p → A) (k : ¬ p → B) : it2 (decide p) A B := ⟨fun e => h (of_decide_eq_true e), fun e => k (of_decide_eq_false e)⟩
theorem it2_t (h : A) : it2 true A B := ⟨fun _ => h, fun e => (nomatch e)⟩
theorem it2_f (h : B) : it2 false A B := ⟨fun e => (nomatch e), fun _ => h⟩
theorem it2_not (h : it2 b B A) : it2 (!b) A B := by
  cases b with
  | false => exact it2_t (h.2 rfl)
  | true => exact it2_f (h.1 rfl)
theorem oq_some {α : Type} {z : α} {Q : α → Prop} (h : Q z) : oq (some z) Q := ⟨z, rfl, h⟩
theorem oq_of {α : Type} {o : Option α} {z : α} {Q : α → Prop} (e : o = some z) (h : Q z) : oq o Q := ⟨z, e, h⟩
end
section
variable {ρ ρ' : En} {α α' : AH} {Q : QD} {QB : Bool → AH → Prop} {QL : List D → AH → Prop} {QO : Option Int → AH → Prop} {E : QX} {D' : Md} {d e : D} {i j : Nat} {ma mb md : ME} {mt mt2 : MT} {ml : ML} {m1 m2 : MS} {g g' : D → D → Option D} {f : List D → Option D} {fm : Fm} {tg : D → En → Option En} {G : AH → Prop}
def we (Q : QD) (E : QX) : Md := { nx := fun _ α' => Q .none α', rt := Q, bk := fun _ _ => False, ct := fun _ _ => False, ex := fun x _ α' => E x α' }
theorem we_nx (h : Q .none α) : (we Q E).nx ρ α := h
theorem we_rt (h : Q d α) : (we Q E).rt d α := h
theorem we_ex {y : Ex} (h : E y α) : (we Q E).ex y ρ α := h
def wn (D : Md) (n : En → AH → Prop) : Md := { D with nx := n }
def wl (D : Md) (n : En → AH → Prop) : Md := { D with nx := n, ct := n, bk := D.nx }
def wx (D : Md) (x : Ex → En → AH → Prop) : Md := { D with ex := x }
def wh (D : Md) (i : Nat) : Md := { nx := fun ρ2 α2 => D.nx (ρ2.set i none) α2, rt := D.rt, bk := fun ρ2 α2 => D.bk (ρ2.set i none) α2, ct := fun ρ2 α2 => D.ct (ρ2.set i none) α2, ex := fun _ _ _ => False }
section
variable {n : En → AH → Prop} {x : Ex → En → AH → Prop} {y : Ex}
theorem wn_nx (h : n ρ α) : (wn D' n).nx ρ α := h
theorem wn_rt (h : D'.rt d α) : (wn D' n).rt d α := h
theorem wn_bk (h : D'.bk ρ α) : (wn D' n).bk ρ α := h
theorem wn_ct (h : D'.ct ρ α) : (wn D' n).ct ρ α := h
theorem wn_ex (h : D'.ex y ρ α) : (wn D' n).ex y ρ α := h
theorem wl_nx (h : n ρ α) : (wl D' n).nx ρ α := h
theorem wl_rt (h : D'.rt d α) : (wl D' n).rt d α := h
theorem wl_bk (h : D'.nx ρ α) : (wl D' n).bk ρ α := h
theorem wl_ct (h : n ρ α) : (wl D' n).ct ρ α := h
theorem wl_ex (h : D'.ex y ρ α) : (wl D' n).ex y ρ α := h
theorem wx_nx (h : D'.nx ρ α) : (wx D' x).nx ρ α := h
theorem wx_rt (h : D'.rt d α) : (wx D' x).rt d α := h
theorem wx_bk (h : D'.bk ρ α) : (wx D' x).bk ρ α := h
theorem wx_ct (h : D'.ct ρ α) : (wx D' x).ct ρ α := h
theorem wx_ex (h : x y ρ α) : (wx D' x).ex y ρ α := h
theorem wh_nx {i : Nat} (h : D'.nx (ρ.set i none) α) : (wh D' i).nx ρ α := h
theorem wh_rt {i : Nat} (h : D'.rt d α) : (wh D' i).rt d α := h
theorem wh_bk {i : Nat} (h : D'.bk (ρ.set i none) α) : (wh D' i).bk ρ α := h
theorem wh_ct {i : Nat} (h : D'.ct (ρ.set i none) α) : (wh D' i).ct ρ α := h
end
theorem w_kC (h : Q d α) : kC d ρ α Q E := h
theorem w_kV (e : ρ[i]? = some (some d)) (h : Q d α) : kV i ρ α Q E := ⟨d, e, h⟩
theorem w_new (h : ma ρ α (fun c α1 => ∀ p, α1 p = none → Q (dref p) (aset α1 p c)) E) : newK ma ρ α Q E := h
theorem w_frz (h : ma ρ α (fun d α1 => ∃ p c, d = dref p ∧ α1 p = some c ∧ Q c (adel α1 p)) E) : frzK ma ρ α Q E := h
theorem fr_of {p : Addr} {c : D} {α1 : AH} {R : D → AH → Prop} (e : α1 p = some c) (h : R c (adel α1 p)) : ∃ p' c', dref p = dref p' ∧ α1 p' = some c' ∧ R c' (adel α1 p') := ⟨p, c, rfl, e, h⟩
theorem w_bop (h : ma ρ α (fun d α1 => mb ρ α1 (fun e α2 => oq (vw α2 d) fun d' => oq (vw α2 e) fun e' => oq (g d' e') fun z => Q z α2) E) E) : bop g ma mb ρ α Q E := h
theorem w_tst (h : ma ρ α (fun d α1 => tb d fun b => QB b α1) E) : tst ma ρ α QB E := h
theorem w_val (h : mt ρ α (fun b α1 => Q (.bool b) α1) E) : valK mt ρ α Q E := h
theorem w_not (h : mt ρ α (fun b α1 => QB (!b) α1) E) : notK mt ρ α QB E := h
theorem it2_eq {b : Bool} {A B : Prop} : it2 b A B = (if b = true then A else B) := by
  cases b
  · exact propext ⟨fun h => h.2 rfl, fun h => it2_f h⟩
  · exact propext ⟨fun h => h.1 rfl, fun h => it2_t h⟩
theorem w_and (h : mt ρ α (fun b α1 => it2 b (mt2 ρ α1 QB E) (QB false α1)) E) : andK mt mt2 ρ α QB E := by
  simp only [it2_eq] at h
  exact h
theorem w_or (h : mt ρ α (fun b α1 => it2 b (QB true α1) (mt2 ρ α1 QB E)) E) : orK mt mt2 ρ α QB E := by
  simp only [it2_eq] at h
  exact h
theorem w_andV (h : mt ρ α (fun b α1 => it2 b (mb ρ α1 Q E) (Q (.bool false) α1)) E) : andV mt mb ρ α Q E := by
  simp only [it2_eq] at h
  exact h
theorem w_orV (h : mt ρ α (fun b α1 => it2 b (Q (.bool true) α1) (mb ρ α1 Q E)) E) : orV mt mb ρ α Q E := by
  simp only [it2_eq] at h
  exact h
theorem w_ifK (h : mt ρ α (fun b α1 => it2 b (ma ρ α1 Q E) (mb ρ α1 Q E)) E) : ifK mt ma mb ρ α Q E := by
  simp only [it2_eq] at h
  exact h
theorem w_chain (h : ma ρ α (fun d α1 => mb ρ α1 (fun e α2 => oq (g d e) fun z => tb z fun b => it2 b (md ρ α2 (fun f α3 => oq (g' e f) fun z' => Q z' α3) E) (Q (.bool false) α2)) E) E) : chainK g g' ma mb md ρ α Q E := by
  simp only [it2_eq] at h
  exact h
theorem w_nil (h : QL [] α) : nilK ρ α QL E := h
theorem w_cons (h : ma ρ α (fun d α1 => ml ρ α1 (fun ds α2 => QL (d :: ds) α2) E) E) : consK ma ml ρ α QL E := h
theorem w_tup (h : ml ρ α (fun ds α1 => lenOk ds (Q (.tuple ds) α1)) E) : tupK ml ρ α Q E := h
theorem w_lst (h : ml ρ α (fun ds α1 => lenOk ds (Q (.list ds) α1)) E) : lstK ml ρ α Q E := h
theorem w_call {np : Nat} {ds : List D} (h : ml ρ α (fun as α1 => cal np fm as ds α1 Q E) E) : callN np fm ds ml ρ α Q E := h
theorem cal_of {np : Nat} {as ds : List D} (e : as.length = np) (h : fm (as ++ ds) α Q E) : cal np fm as ds α Q E := ⟨e, h⟩
theorem w_neg (h : ma ρ α (fun d α1 => ti d fun i => Q (.int (-i)) α1) E) : negK ma ρ α Q E := h
theorem w_b1 (h : ma ρ α (fun d α1 => oq (vw α1 d) fun d' => oq (f [d']) fun z => Q z α1) E) : b1K f ma ρ α Q E := h
theorem w_bn (h : ml ρ α (fun ds α1 => oq (mapV α1 ds) fun es => oq (f es) fun z => Q z α1) E) : bnK f ml ρ α Q E := h
theorem w_isi {T : String} (h : ma ρ α (fun d α1 => oq (vw α1 d) fun d' => oq (isiB T d') fun b => Q (.bool b) α1) E) : isiK T ma ρ α Q E := h
theorem w_met {f : Str → List D → Option D} (h : ma ρ α (fun o α1 => ts o fun x => ml ρ α1 (fun ds α2 => oq (mapV α2 ds) fun es => oq (f x es) fun z => Q z α2) E) E) : metK f ma ml ρ α Q E := h
theorem w_pnone (h : QO none α) : pnone ρ α QO E := h
theorem w_psome (h : ma ρ α (fun d α1 => ti d fun i => QO (some i) α1) E) : psome ma ρ α QO E := h
theorem w_cut {mlo mhi : MP} (h : ma ρ α (fun d α1 => mlo ρ α1 (fun l α2 => mhi ρ α2 (fun h α3 => oq (vw α3 d) fun d' => oq (dCut d' l h) fun z => Q z α3) E) E) E) : cutK ma mlo mhi ρ α Q E := h
theorem w_yes (h : QB true α) : yesK ρ α QB E := h
def cel (α : AH) (o : D) (Q : Addr → List D → Prop) : Prop := cellL α o Q
theorem cel_of {p : Addr} {ds : List D} {R : Addr → List D → Prop} (e : α p = some (.list ds)) (h : R p ds) : cel α (dref p) R := ⟨p, ds, rfl, e, h⟩
theorem w_mut {fu : List D → List D → Option (D × List D)} (h : ma ρ α (fun o α1 => cel α1 o fun _ _ => ml ρ α1 (fun as α2 => cel α2 o fun a ds => oq (fu ds as) fun z => Q z.1 (aset α2 a (.list z.2))) E) E) : mutK fu ma ml ρ α Q E := h
def exD (P : Option D) (R : List D → Prop) : Prop := ∃ es, P = some (.list es) ∧ R es
theorem w_ext (h : ma ρ α (fun o α1 => cel α1 o fun _ _ => mb ρ α1 (fun e α2 => cel α2 o fun a ds => exD (vw α2 e) fun es => ds.length + es.length ≤ 100000 ∧ Q .none (aset α2 a (.list (ds ++ es)))) E) E) : extK ma mb ρ α Q E := h
theorem w_fld {C : Nat} {f : Str} (h : ma ρ α (fun d α1 => oq (vw α1 d) fun o => oq (fldD C f o) fun z => Q z α1) E) : fldK C f ma ρ α Q E := h
theorem w_mk {C np : Nat} {ds : List D} (h : ml ρ α (fun as α1 => as.length = np ∧ ∀ p, α1 p = none → fm (dref p :: (as ++ ds)) (aset α1 p (oD C [])) (fun v α2 => v = .none ∧ Q (dref p) α2) E) E) : mkK C np fm ds ml ρ α Q E := h
section
variable {QI : List D → (AH → Prop) → AH → Prop}
def tlG (α1 : AH) (d : D) (QI : List D → (AH → Prop) → AH → Prop) : Prop := ∃ ds, vw α1 d = some (.list ds) ∧ QI ds (fun α' => vw α' d = some (.list ds)) α1
theorem tlG_l {ds : List D} (h : QI ds (fun _ => True) α) : tlG α (.list ds) QI := by
  refine ⟨ds, rfl, ?_⟩
  have e : (fun α' : AH => vw α' (.list ds) = some (.list ds)) = fun _ => True := funext fun a => propext ⟨fun _ => trivial, fun _ => rfl⟩
  rw [e]
  exact h
theorem tlG_r {p : Addr} {ds : List D} (e : α p = some (.list ds)) (h : QI ds (fun α' => vw α' (dref p) = some (.list ds)) α) : tlG α (dref p) QI := ⟨ds, e, h⟩
theorem w_list (h : ma ρ α (fun d α1 => tlG α1 d QI) E) : listK ma ρ α QI E := h
def ttG (α1 : AH) (d : D) (QI : List D → (AH → Prop) → AH → Prop) : Prop := ∃ ds, d = .tuple ds ∧ QI ds (fun _ => True) α1
theorem ttG_t {ds : List D} (h : QI ds (fun _ => True) α) : ttG α (.tuple ds) QI := ⟨ds, rfl, h⟩
theorem w_tuple (h : ma ρ α (fun d α1 => ttG α1 d QI) E) : tupleK ma ρ α QI E := h
theorem w_str (h : ma ρ α (fun d α1 => ts d fun x => QI (x.cps.toList.map fun k => .str ⟨#[k]⟩) (fun _ => True) α1) E) : strK ma ρ α QI E := h
def rg1 (ds : List D) (R : List D → Prop) : Prop := ∃ n : Int, ds = [.int n] ∧ (-(2 ^ 62) ≤ n ∧ n < 2 ^ 62) ∧ R (nums 0 n.toNat)
theorem rg1_of {n : Int} {R : List D → Prop} (e : -(2 ^ 62) ≤ n ∧ n < 2 ^ 62) (h : R (nums 0 n.toNat)) : rg1 [.int n] R := ⟨n, rfl, e, h⟩
theorem w_range1 (h : ml ρ α (fun ds α1 => rg1 ds fun xs => QI xs (fun _ => True) α1) E) : rangeK1 ml ρ α QI E := h
def rg2 (ds : List D) (R : List D → Prop) : Prop := ∃ a b : Int, ds = [.int a, .int b] ∧ (-(2 ^ 62) ≤ a ∧ a < 2 ^ 62 ∧ -(2 ^ 62) ≤ b ∧ b < 2 ^ 62) ∧ R (nums a (b - a).toNat)
theorem rg2_of {a b : Int} {R : List D → Prop} (e : -(2 ^ 62) ≤ a ∧ a < 2 ^ 62 ∧ -(2 ^ 62) ≤ b ∧ b < 2 ^ 62) (h : R (nums a (b - a).toNat)) : rg2 [.int a, .int b] R := ⟨a, b, rfl, e, h⟩
theorem w_range2 (h : ml ρ α (fun ds α1 => rg2 ds fun xs => QI xs (fun _ => True) α1) E) : rangeK2 ml ρ α QI E := h
def rg3 (ds : List D) (R : List D → Prop) : Prop := ∃ i j k : Int, ds = [.int i, .int j, .int k] ∧ (k ≠ 0 ∧ k.natAbs < 1073741824 ∧ Builtin.Range.small i j k = true) ∧ R (numsC i k (Builtin.Range.rangeSize i j k).toNat)
theorem w_range3 (h : ml ρ α (fun ds α1 => rg3 ds fun xs => QI xs (fun _ => True) α1) E) : rangeK3 ml ρ α QI E := h
end
theorem oq_isiB {T : String} {b : Bool} {R : Bool → Prop} (e : isiB T d = some b) (h : R b) : oq (isiB T d) R := ⟨b, e, h⟩
theorem w_tryA {exm : Nat → Option Bool} {mb : MS} {ms : Nat → Nat → Nat → MS} (h : mb ρ α (wx D' fun x ρ' α' => oq (exm x.C) fun b => it2 b (∀ a dx, ms a dx x.C (ρ'.set i (some (excD a dx x.C x.fs))) α' (wh D' i)) (D'.ex x ρ' α'))) : tryA i exm mb ms ρ α D' := by
  simp only [it2_eq, wx, wh] at h
  exact h
theorem w_try {exm : Nat → Option Bool} {mb ms : MS} (h : mb ρ α (wx D' fun x ρ' α' => oq (exm x.C) fun b => it2 b (ms ρ' α' (wx D' fun _ _ _ => False)) (D'.ex x ρ' α'))) : tryS exm mb ms ρ α D' := by
  simp only [it2_eq, wx] at h
  exact h
theorem w_xi {isX : Nat → Bool} {tab : Nat → Option Bool} {a dx C : Nat} {b : Bool} {ds : List (D × D)} (e : ρ[i]? = some (some (excD a dx C ds))) (h1 : isX C = true) (h2 : tab C = some b) (h : Q (.bool b) α) : kXi i isX tab a dx C ρ α Q E := ⟨ds, b, e, h1, h2, h⟩
theorem w_xf {isX : Nat → Bool} {f : Str} {a dx C : Nat} {ds : List (D × D)} (e : ρ[i]? = some (some (excD a dx C ds))) (h1 : isX C = true) (h2 : lookF f ds = some d) (h : Q d α) : kXf i f isX a dx C ρ α Q E := ⟨ds, d, e, h1, h2, h⟩
theorem w_seq (h : m1 ρ α (wn D' fun ρ1 α1 => m2 ρ1 α1 D')) : seqS m1 m2 ρ α D' := h
theorem w_seqI (I : En → AH → Prop) (h2 : ∀ ρ α, I ρ α → m2 ρ α D') (h1 : ∀ X : En → AH → Prop, (∀ ρ α, I ρ α → X ρ α) → m1 ρ α (wn D' X)) : seqS m1 m2 ρ α D' := h1 _ h2
def bar (f : En → AH → Prop) : En → AH → Prop := f
theorem bar_of {f : En → AH → Prop} (h : f ρ α) : bar f ρ α := h
theorem w_seqB (h : m1 ρ α (wn D' (bar fun ρ1 α1 => m2 ρ1 α1 D'))) : seqS m1 m2 ρ α D' := h
theorem w_next (h : D'.nx ρ α) : nextS ρ α D' := h
theorem w_break (h : D'.bk ρ α) : breakS ρ α D' := h
theorem w_cont (h : D'.ct ρ α) : contS ρ α D' := h
theorem w_drop (h : ma ρ α (fun _ α1 => D'.nx ρ α1) (fun x α1 => D'.ex x ρ α1)) : dropS ma ρ α D' := h
theorem w_ret (h : ma ρ α (fun d α1 => D'.rt d α1) (fun x α1 => D'.ex x ρ α1)) : retS ma ρ α D' := h
theorem w_retN (h : D'.rt .none α) : retN ρ α D' := h
theorem w_if (h : mt ρ α (fun b α1 => it2 b (m1 ρ α1 D') (m2 ρ α1 D')) (fun x α1 => D'.ex x ρ α1)) : ifS mt m1 m2 ρ α D' := by
  simp only [it2_eq] at h
  exact h
theorem w_asg (h : ma ρ α (fun d α1 => oq (tg d ρ) fun ρ1 => D'.nx ρ1 α1) (fun x α1 => D'.ex x ρ α1)) : asgS ma tg ρ α D' := h
theorem oq_setv {R : En → Prop} (h : R (ρ.set i (some d))) : oq (setv i d ρ) R := ⟨_, rfl, h⟩
theorem oq_setv2 {R : En → Prop} (e : ρ.set i (some d) = ρ') (h : R ρ') : oq (setv i d ρ) R := ⟨_, rfl, by rw [e]; exact h⟩
theorem oq_tgNil {R : En → Prop} (h : R ρ) : oq (tgNil [] ρ) R := ⟨_, rfl, h⟩
theorem oq_tgCons {mh : D → En → Option En} {mr : List D → En → Option En} {ds : List D} {R : En → Prop} (h : oq (mh d ρ) fun ρ1 => oq (mr ds ρ1) R) : oq (tgCons mh mr (d :: ds) ρ) R := by
  obtain ⟨r1, e1, r2, e2, q⟩ := h
  exact ⟨r2, by show (mh d ρ).bind (mr ds) = _; simp [e1, e2], q⟩
theorem oq_tgTup {mr : List D → En → Option En} {n : Nat} {ds : List D} {R : En → Prop} (e : ds.length = n) (h : oq (mr ds ρ) R) : oq (tgTup n mr (.tuple ds) ρ) R := by
  obtain ⟨r1, e1, q⟩ := h
  exact ⟨r1, by show (if ds.length = n then mr ds ρ else none) = _; rw [if_pos e, e1], q⟩
theorem w_frzS {p : Addr} {c : D} (e : ρ[i]? = some (some (dref p))) (e2 : α p = some c) (h : m1 (ρ.set i (some c)) (adel α p) D') : frzS i m1 ρ α D' := ⟨p, c, e, e2, h⟩
theorem w_aug {d0 : D} (e0 : ρ[i]? = some (some d0)) (h : ma ρ α (fun e α1 => oq (g d0 e) fun z => D'.nx (ρ.set i (some z)) α1) (fun x α1 => D'.ex x ρ α1)) : augS g i ma ρ α D' := ⟨d0, e0, h⟩
theorem w_seti (h : ma ρ α (fun d α1 => mb ρ α1 (fun o α2 => md ρ α2 (fun k α3 => cel α3 o fun a ds => ti k fun i => oq (ixN ds.length i) fun j => D'.nx ρ (aset α3 a (.list (ds.set j d)))) (fun x α1 => D'.ex x ρ α1)) (fun x α1 => D'.ex x ρ α1)) (fun x α1 => D'.ex x ρ α1)) : setiS ma mb md ρ α D' := h
def ceo (C : Nat) (α : AH) (o : D) (Q : Addr → List (D × D) → Prop) : Prop := cellO C α o Q
theorem ceo_of {C : Nat} {p : Addr} {fs : List (D × D)} {R : Addr → List (D × D) → Prop} (e : α p = some (oD C fs)) (h : R p fs) : ceo C α (dref p) R := ⟨p, fs, rfl, e, h⟩
theorem w_seta {C : Nat} {f : Str} (h : ma ρ α (fun d α1 => mb ρ α1 (fun o α2 => ceo C α2 o fun a fs => fs.length < 900 ∧ D'.nx ρ (aset α2 a (oD C (putD f d fs)))) (fun x α1 => D'.ex x ρ α1)) (fun x α1 => D'.ex x ρ α1)) : setaS C f ma mb ρ α D' := h
theorem w_auga {C : Nat} {f : Str} (h : ma ρ α (fun o α1 => ceo C α1 o fun _ fs0 => oq (lookF f fs0) fun d => mb ρ α1 (fun e α2 => oq (g d e) fun z => ceo C α2 o fun a fs => fs.length < 900 ∧ D'.nx ρ (aset α2 a (oD C (putD f z fs)))) (fun x α1 => D'.ex x ρ α1)) (fun x α1 => D'.ex x ρ α1)) : augaS C f g ma mb ρ α D' := h
theorem w_raise {C : Nat} (h : ma ρ α (fun d α1 => D'.ex ⟨C, [(.str "place", d)]⟩ ρ α1) (fun x α1 => D'.ex x ρ α1)) : raiseS C ma ρ α D' := h
theorem w_for {mi : MI} {mb : MS} (h : mi ρ α (fun ds G α1 => forD tg mb G D' ds ρ α1) (fun x α1 => D'.ex x ρ α1)) : forS mi tg mb ρ α D' := h
theorem for_inv {mb : MS} {ds : List D} (I : List D → En → AH → Prop) (h0 : I ds ρ α) (hG : ∀ ds ρ α, I ds ρ α → G α) (h2 : ∀ ρ α, I [] ρ α → D'.nx ρ α)
    (h1 : ∀ d ds ρ α, I (d :: ds) ρ α → ∀ X : En → AH → Prop, (∀ ρ α, I ds ρ α → X ρ α) → oq (tg d ρ) fun ρ1 => mb ρ1 α (wl D' X)) : forD tg mb G D' ds ρ α := by
  induction ds generalizing ρ α with
  | nil => exact ⟨hG _ _ _ h0, h2 _ _ h0⟩
  | cons d ds ih => exact ⟨hG _ _ _ h0, h1 d ds ρ α h0 _ fun ρ α q => ih q⟩
theorem for_nums {mb : MS} {n : Nat} {lo : Int} (I : Nat → En → AH → Prop) (h0 : I 0 ρ α) (h2 : ∀ ρ α, I n ρ α → D'.nx ρ α)
    (h1 : ∀ k, k < n → ∀ ρ α, I k ρ α → ∀ X : En → AH → Prop, (∀ ρ α, I (k + 1) ρ α → X ρ α) → oq (tg (.int (lo + (k : Nat))) ρ) fun ρ1 => mb ρ1 α (wl D' X)) : forD tg mb (fun _ => True) D' (nums lo n) ρ α := by
  refine for_inv (fun r ρ α => ∃ m k : Nat, k + m = n ∧ r = nums (lo + (k : Nat)) m ∧ I k ρ α) ⟨n, 0, by omega, by simp, h0⟩ (fun _ _ _ _ => trivial) ?_ ?_
  · rintro ρ α ⟨m, k, e1, e2, i⟩
    cases m with
    | zero =>
      obtain rfl : k = n := by omega
      exact h2 _ _ i
    | succ m => simp [nums] at e2
  · rintro d ds ρ α ⟨m, k, e1, e2, i⟩ X hX
    cases m with
    | zero => simp [nums] at e2
    | succ m =>
      obtain ⟨rfl, rfl⟩ := List.cons.inj e2
      refine h1 k (by omega) _ _ i X fun ρ α i => hX _ _ ⟨m, k + 1, by omega, ?_, i⟩
      congr 1
      omega
theorem w_par {i j : Nat} (h : ml ρ α (fun ds α1 => pr2 ds fun d e => D'.nx ((ρ.set i (some d)).set j (some e)) α1) (fun x α1 => D'.ex x ρ α1)) : parS i j ml ρ α D' := h
theorem fd_nil {mb : MS} (hG : G α) (h : D'.nx ρ α) : forD tg mb G D' [] ρ α := ⟨hG, h⟩
theorem fd_cons {mb : MS} {ds : List D} (hG : G α) (h : oq (tg d ρ) fun ρ1 => mb ρ1 α (wl D' fun ρ2 α2 => forD tg mb G D' ds ρ2 α2)) : forD tg mb G D' (d :: ds) ρ α := ⟨hG, h⟩
theorem w_while {mb : MS} (V : Nat → En → AH → Prop) (n : Nat) (h0 : V n ρ α) (h : ∀ m ρ α, V m ρ α → ∀ X : En → AH → Prop, (∀ m' ρ α, m' < m → V m' ρ α → X ρ α) → mt ρ α (fun b α1 => it2 b (mb ρ α1 (wl D' X)) (D'.nx ρ α1)) (fun x α1 => D'.ex x ρ α1)) : whileS mt mb ρ α D' := by
  refine ⟨V, ⟨n, h0⟩, fun m ρ α v => ?_⟩
  have := h m ρ α v (fun ρ2 α2 => ∃ m', m' < m ∧ V m' ρ2 α2) fun m' ρ α l v => ⟨m', l, v⟩
  simp only [it2_eq] at this
  exact this
theorem w_lc {vs : List Nat} {mi : MI} (h : mi ρ α (fun ds G α1 => lcD vs tg mt ma G ρ Q ds [] α1) E) : lcK vs mi tg mt ma ρ α Q E := h
theorem lc_inv {vs : List Nat} {ds acc : List D} (I : List D → List D → AH → Prop) (h0 : I ds acc α) (hG : ∀ ds acc α, I ds acc α → G α) (h2 : ∀ acc α, I [] acc α → Q (.list acc) α)
    (h1 : ∀ d ds acc α, I (d :: ds) acc α → ∀ X : List D → AH → Prop, (∀ acc α, I ds acc α → X acc α) → oq (tg d (wipeA ρ vs)) fun ρ1 => mt ρ1 α (fun b α1 => it2 b (ma ρ1 α1 (fun y α2 => acc.length < 100000 ∧ X (acc ++ [y]) α2) NX) (X acc α1)) NX) : lcD vs tg mt ma G ρ Q ds acc α := by
  induction ds generalizing acc α with
  | nil => exact ⟨hG _ _ _ h0, h2 _ _ h0⟩
  | cons d ds ih =>
    refine ⟨hG _ _ _ h0, ?_⟩
    have := h1 d ds acc α h0 (fun acc α => lcD vs tg mt ma G ρ Q ds acc α) fun acc α q => ih q
    simp only [it2_eq] at this
    exact this
/-- a comprehension whose test and element leave the cells alone -/
theorem lc_fm {β : Type} {vs : List Nat} (xs : List β) (u : β → D) (p : β → Bool) (g : β → D) {ds : List D} (hds : ds = xs.map u) (hl : xs.length ≤ 100000) (hG : G α)
    (h : ∀ x, x ∈ xs → oq (tg (u x) (wipeA ρ vs)) fun ρ1 => (∀ R : Bool → AH → Prop, R (p x) α → mt ρ1 α R NX) ∧ (p x = true → ∀ R : D → AH → Prop, R (g x) α → ma ρ1 α R NX)) (q : Q (.list ((xs.filter p).map g)) α) : lcD vs tg mt ma G ρ Q ds [] α := by
  refine lc_inv (fun r acc α' => α' = α ∧ ∃ as bs, xs = as ++ bs ∧ acc = (as.filter p).map g ∧ r = bs.map u) ⟨rfl, [], xs, rfl, rfl, hds⟩ (fun _ _ _ e => e.1 ▸ hG) ?_ ?_
  · rintro acc α' ⟨rfl, as, bs, e, rfl, e2⟩
    cases bs with
    | nil =>
      simp at e
      rw [← e]
      exact q
    | cons b bs => simp at e2
  · rintro d r acc α' ⟨rfl, as, bs, e, rfl, e2⟩ X hX
    cases bs with
    | nil => simp at e2
    | cons b bs =>
      simp at e2
      obtain ⟨rfl, rfl⟩ := e2
      obtain ⟨ρ2, e3, g1, g2⟩ := h b (by rw [e]; simp)
      refine ⟨ρ2, e3, g1 _ ⟨fun t => g2 t _ ⟨?_, hX _ _ ⟨rfl, as ++ [b], bs, by simp [e], by simp [t], rfl⟩⟩, fun t => hX _ _ ⟨rfl, as ++ [b], bs, by simp [e], by simp [t], rfl⟩⟩⟩
      have := congrArg List.length e
      have := List.length_filter_le p as
      simp at *
      omega
theorem lc_map {β : Type} {vs : List Nat} (xs : List β) (u : β → D) (g : β → D) {ds : List D} (hds : ds = xs.map u) (hl : xs.length ≤ 100000) (hG : G α)
    (h : ∀ x, x ∈ xs → oq (tg (u x) (wipeA ρ vs)) fun ρ1 => ∀ R : D → AH → Prop, R (g x) α → ma ρ1 α R NX) (q : Q (.list (xs.map g)) α) : lcD vs tg yesK ma G ρ Q ds [] α := by
  refine lc_fm xs u (fun _ => true) g hds hl hG (fun x hx => ?_) (by rw [List.filter_eq_self.mpr (by simp)]; exact q)
  obtain ⟨ρ1, e, k⟩ := h x hx
  exact ⟨ρ1, e, fun R r => r, fun _ R r => k R r⟩
theorem w_runF {p n : Nat} {ds : List D} (hl : ds.length = p) (h : m1 (ds.map some ++ List.replicate (n - p) none) α (we Q E)) : runF p n m1 ds α Q E := ⟨hl, h⟩
theorem w_runP {p n : Nat} {ds : List D} (hl : ds.length = p) (h : m1 (ds.map some ++ List.replicate (n - p) none) α (we (fun d α' => Q d (arst α α')) (fun x α' => E x (arst α α')))) : runP p n m1 ds α Q E := ⟨hl, h⟩
/-- it answers d, leaving the cells -/
def pu (f : Fm) (ds : List D) (d : D) : Prop := ∀ (α : AH) (Q : QD) (E : QX), Q d α → f ds α Q E
/-- it raises x, leaving the cells -/
def px (f : Fm) (ds : List D) (x : Ex) : Prop := ∀ (α : AH) (Q : QD) (E : QX), E x α → f ds α Q E
theorem pu_P {p n : Nat} {ds : List D} (hl : ds.length = p) (h : ∀ (α : AH) (R : QD) (X : QX), R d α → m1 (ds.map some ++ List.replicate (n - p) none) α (we R X)) : pu (runP p n m1) ds d := fun α Q E q =>
  w_runP hl (h α (fun d α' => Q d (arst α α')) (fun x α' => E x (arst α α')) (by rw [arst_self]; exact q))
theorem pu.go {ds : List D} (P : pu fm ds d) (h : Q d α) : fm ds α Q E := P α Q E h
theorem px.go {ds : List D} {x : Ex} (P : px fm ds x) (h : E x α) : fm ds α Q E := P α Q E h
theorem vw_i {R : D → Prop} {i : Int} (h : R (.int i)) : oq (vw α (.int i)) R := ⟨_, rfl, h⟩
theorem vw_s {R : D → Prop} {i : Str} (h : R (.str i)) : oq (vw α (.str i)) R := ⟨_, rfl, h⟩
theorem vw_b {R : D → Prop} {i : Bool} (h : R (.bool i)) : oq (vw α (.bool i)) R := ⟨_, rfl, h⟩
theorem vw_n {R : D → Prop} (h : R .none) : oq (vw α .none) R := ⟨_, rfl, h⟩
theorem vw_l {R : D → Prop} {i : List D} (h : R (.list i)) : oq (vw α (.list i)) R := ⟨_, rfl, h⟩
theorem vw_t {R : D → Prop} {i : List D} (h : R (.tuple i)) : oq (vw α (.tuple i)) R := ⟨_, rfl, h⟩
theorem vw_sc {R : D → Prop} {i : List Int} (h : R (scriptD i)) : oq (vw α (scriptD i)) R := ⟨_, rfl, h⟩
theorem vw_o {R : D → Prop} {C : Nat} {i : List (D × D)} (h : R (oD C i)) : oq (vw α (oD C i)) R := ⟨_, rfl, h⟩
theorem vw_r {R : D → Prop} {p : Addr} {c : D} (e : α p = some c) (h : R c) : oq (vw α (dref p)) R := ⟨_, e, h⟩
theorem mv_nil {R : List D → Prop} (h : R []) : oq (mapV α []) R := ⟨_, rfl, h⟩
theorem mv_cons {R : List D → Prop} {ds : List D} (h : oq (vw α d) fun z => oq (mapV α ds) fun r => R (z :: r)) : oq (mapV α (d :: ds)) R := by
  obtain ⟨z, e, r, e2, q⟩ := h
  exact ⟨_, by unfold mapV; simp [e, e2], q⟩
end
section
variable {Q : D → Prop} {d e : D} {x y z : Int} {s t : Str} {ds es : List D} {i j : Nat} {xs ys : List Int}
theorem oq_add_i {Q : D → Prop} (h : Q (.int (x + y))) : oq (dAdd (.int x) (.int y)) Q := ⟨_, rfl, h⟩
theorem oq_add_s {Q : D → Prop} (l : s.length + t.length ≤ 100000) (h : Q (.str (s ++ t))) : oq (dAdd (.str s) (.str t)) Q := ⟨_, if_pos l, h⟩
theorem oq_cat {Q : D → Prop} (l : ds.length + es.length ≤ 100000) (h : Q (.list (ds ++ es))) : oq (dCat (.list ds) (.list es)) Q := ⟨_, if_pos l, h⟩
theorem oq_sub {Q : D → Prop} (h : Q (.int (x - y))) : oq (dSub (.int x) (.int y)) Q := ⟨_, rfl, h⟩
theorem oq_mul {Q : D → Prop} (l : (-(2 ^ 64) < x ∧ x < 2 ^ 64) ∨ (-(2 ^ 64) < y ∧ y < 2 ^ 64)) (h : Q (.int (x * y))) : oq (dMul (.int x) (.int y)) Q := ⟨_, if_pos l, h⟩
theorem oq_mod {Q : D → Prop} (l : 0 < y) (h : Q (.int (x % y))) : oq (dMod (.int x) (.int y)) Q := ⟨_, if_pos l, h⟩
theorem oq_div {Q : D → Prop} (l : 0 < y ∧ y < 2 ^ 80) (h : Q (.int (x / y))) : oq (dDiv (.int x) (.int y)) Q := ⟨_, if_pos l, h⟩
theorem oq_pow {Q : D → Prop} (l : 0 ≤ y ∧ y ≤ 1000000 ∧ x.natAbs < 2 ^ 64) (h : Q (.int (x ^ y.toNat))) : oq (dPow (.int x) (.int y)) Q := ⟨_, if_pos l, h⟩
theorem oq_shl {Q : D → Prop} (l : 0 ≤ y ∧ y ≤ 1000000 ∧ x.natAbs < 2 ^ 64) (h : Q (.int (x * 2 ^ y.toNat))) : oq (dShl (.int x) (.int y)) Q := ⟨_, if_pos l, h⟩
theorem oq_shr {Q : D → Prop} (l : 0 ≤ y) (h : Q (.int (x / 2 ^ y.toNat))) : oq (dShr (.int x) (.int y)) Q := ⟨_, if_pos l, h⟩
theorem oq_lt {Q : D → Prop} (h : Q (.bool (decide (x < y)))) : oq (dLt (.int x) (.int y)) Q := ⟨_, rfl, h⟩
theorem oq_le {Q : D → Prop} (h : Q (.bool (decide (x ≤ y)))) : oq (dLe (.int x) (.int y)) Q := ⟨_, rfl, h⟩
theorem oq_gt {Q : D → Prop} (h : Q (.bool (decide (y < x)))) : oq (dGt (.int x) (.int y)) Q := ⟨_, rfl, h⟩
theorem oq_ge {Q : D → Prop} (h : Q (.bool (decide (y ≤ x)))) : oq (dGe (.int x) (.int y)) Q := ⟨_, rfl, h⟩
theorem oq_eq_i {Q : D → Prop} (h : Q (.bool (decide (x = y)))) : oq (dEq (.int x) (.int y)) Q := ⟨_, rfl, h⟩
theorem oq_ne_i {Q : D → Prop} (h : Q (.bool (!decide (x = y)))) : oq (dNe (.int x) (.int y)) Q := ⟨_, rfl, h⟩
theorem oq_eq_s {Q : D → Prop} (h : Q (.bool (decide (s = t)))) : oq (dEq (.str s) (.str t)) Q := ⟨_, rfl, h⟩
theorem oq_ne_s {Q : D → Prop} (h : Q (.bool (!decide (s = t)))) : oq (dNe (.str s) (.str t)) Q := ⟨_, rfl, h⟩
theorem oq_eq_b {Q : D → Prop} {a b : Bool} (h : Q (.bool (decide (a = b)))) : oq (dEq (.bool a) (.bool b)) Q := ⟨_, by unfold dEq dEqB; cases a <;> cases b <;> rfl, h⟩
theorem oq_ne_b {Q : D → Prop} {a b : Bool} (h : Q (.bool (!decide (a = b)))) : oq (dNe (.bool a) (.bool b)) Q := ⟨_, by unfold dNe dEqB; cases a <;> cases b <;> rfl, h⟩
theorem oq_eq_d {Q : D → Prop} {b : Bool} (e1 : dEqB d e = some b) (h : Q (.bool b)) : oq (dEq d e) Q := ⟨_, by unfold dEq; rw [e1]; rfl, h⟩
theorem oq_ne_d {Q : D → Prop} {b : Bool} (e1 : dEqB d e = some b) (h : Q (.bool (!b))) : oq (dNe d e) Q := ⟨_, by unfold dNe; rw [e1]; rfl, h⟩
theorem oq_is {Q : D → Prop} (h : Q (.bool (isNoneD d))) : oq (dIs d .none) Q := ⟨_, rfl, h⟩
theorem oq_isNot {Q : D → Prop} (h : Q (.bool (!isNoneD d))) : oq (dIsNot d .none) Q := ⟨_, rfl, h⟩
theorem oq_in_s {Q : D → Prop} {k : Nat} (h : Q (.bool (decide (k ∈ t.cps.toList)))) : oq (dIn (.str ⟨#[k]⟩) (.str t)) Q := ⟨_, rfl, h⟩
theorem oq_notIn_s {Q : D → Prop} {k : Nat} (h : Q (.bool (!decide (k ∈ t.cps.toList)))) : oq (dNotIn (.str ⟨#[k]⟩) (.str t)) Q := ⟨_, rfl, h⟩
theorem ixN_in {n : Nat} {i : Int} (h0 : 0 ≤ i) (h1 : i < n) : ixN n i = some i.toNat := by unfold ixN; rw [if_pos h0, if_pos h1]
theorem ixN_back {n : Nat} {i : Int} (h0 : i < 0) (h1 : -(n : Int) ≤ i) : ixN n i = some (i + n).toNat := by unfold ixN; rw [if_neg (by omega), if_pos h1]
theorem oq_ix_l {Q : D → Prop} {i : Int} (h0 : 0 ≤ i) (h1 : i < ds.length) (h : ∀ z, ds[i.toNat]? = some z → Q z) : oq (dIx (.list ds) (.int i)) Q := by
  have l : i.toNat < ds.length := by omega
  refine ⟨ds[i.toNat], ?_, h _ (List.getElem?_eq_getElem l)⟩
  show (ixN ds.length i).bind _ = _
  rw [ixN_in h0 h1]
  exact List.getElem?_eq_getElem l
theorem oq_ix_s {Q : D → Prop} {i : Int} (hz : s.length ≤ 100000) (h0 : 0 ≤ i) (h1 : i < s.length) (h : ∀ k, s.cps.toList[i.toNat]? = some k → Q (.str ⟨#[k]⟩)) : oq (dIx (.str s) (.int i)) Q := by
  have l : i.toNat < s.cps.toList.length := by
    have : s.cps.toList.length = s.length := rfl
    omega
  refine ⟨_, ?_, h _ (List.getElem?_eq_getElem l)⟩
  show (if s.length ≤ 100000 then _ else _) = _
  rw [if_pos hz, show ixN s.cps.toList.length i = some i.toNat from ixN_in h0 h1]
  show (s.cps.toList[i.toNat]?).map _ = _
  rw [List.getElem?_eq_getElem l]
  rfl
theorem oq_len_l {Q : D → Prop} (h : Q (.int ds.length)) : oq (dLen [.list ds]) Q := ⟨_, rfl, h⟩
theorem oq_len_t {Q : D → Prop} (h : Q (.int ds.length)) : oq (dLen [.tuple ds]) Q := ⟨_, rfl, h⟩
theorem oq_len_s {Q : D → Prop} (l : s.length ≤ 100000) (h : Q (.int s.length)) : oq (dLen [.str s]) Q := ⟨_, if_pos l, h⟩
theorem oq_int {Q : D → Prop} (h : Q (.int x)) : oq (dInt [.int x]) Q := ⟨_, rfl, h⟩
theorem oq_abs {Q : D → Prop} (h : Q (.int (if x < 0 then -x else x))) : oq (dAbs [.int x]) Q := ⟨_, rfl, h⟩
theorem oq_ord {Q : D → Prop} {k : Nat} (h : Q (.int k)) : oq (dOrd [.str ⟨#[k]⟩]) Q := ⟨_, rfl, h⟩
theorem oq_cut_l {Q : D → Prop} {lo hi : Option Int} (h : Q (.list (cutD ds lo hi))) : oq (dCut (.list ds) lo hi) Q := ⟨_, rfl, h⟩
theorem oq_cut_t {Q : D → Prop} {lo hi : Option Int} (h : Q (.tuple (cutD ds lo hi))) : oq (dCut (.tuple ds) lo hi) Q := ⟨_, rfl, h⟩
theorem oq_cut_s {Q : D → Prop} {lo hi : Option Int} (l : s.length ≤ 100000) (h : Q (.str (cutS s lo hi))) : oq (dCut (.str s) lo hi) Q := ⟨_, if_pos l, h⟩
theorem oq_append {Q : D × List D → Prop} (l : ds.length < 100000) (h : Q (.none, ds ++ [d])) : oq (muAppend ds [d]) Q := ⟨_, if_pos l, h⟩
theorem oq_list_l {Q : D → Prop} (h : Q (.list ds)) : oq (dList [.list ds]) Q := ⟨_, rfl, h⟩
theorem oq_list_t {Q : D → Prop} (h : Q (.list ds)) : oq (dList [.tuple ds]) Q := ⟨_, rfl, h⟩
theorem oq_tuple_l {Q : D → Prop} (h : Q (.tuple ds)) : oq (dTuple [.list ds]) Q := ⟨_, rfl, h⟩
theorem oq_tuple_t {Q : D → Prop} (h : Q (.tuple ds)) : oq (dTuple [.tuple ds]) Q := ⟨_, rfl, h⟩
theorem oq_max2 {Q : D → Prop} (h : Q (.int (if y > x then y else x))) : oq (dMax2 [.int x, .int y]) Q := ⟨_, rfl, h⟩
theorem oq_min2 {Q : D → Prop} (h : Q (.int (if y < x then y else x))) : oq (dMin2 [.int x, .int y]) Q := ⟨_, rfl, h⟩
theorem toStrs_map {α : Type} (f : α → Str) : ∀ xs : List α, toStrs (xs.map fun x => PyData.str (f x)) = some (xs.map f)
  | [] => rfl
  | x :: xs => by
    show (toStrs (xs.map fun x => PyData.str (f x))).map _ = _
    rw [toStrs_map f xs]
    rfl
theorem oq_ix_lk {ds : List D} {i : Int} {z : D} {Q : D → Prop} (e : ((ixN ds.length i).bind fun j => ds[j]?) = some z) (h : Q z) : oq (dIx (.list ds) (.int i)) Q := ⟨z, e, h⟩
theorem oq_ix_tk {ds : List D} {i : Int} {z : D} {Q : D → Prop} (e : ((ixN ds.length i).bind fun j => ds[j]?) = some z) (h : Q z) : oq (dIx (.tuple ds) (.int i)) Q := ⟨z, e, h⟩
theorem oq_ixN_k {n : Nat} {i : Int} {j : Nat} {Q : Nat → Prop} (e : ixN n i = some j) (h : Q j) : oq (ixN n i) Q := ⟨j, e, h⟩
theorem oq_len_sc {ns : List Int} {Q : D → Prop} (h : Q (.int ns.length)) : oq (dLen [scriptD ns]) Q := ⟨_, by unfold scriptD dLen; simp, h⟩
theorem oq_ix_sc {ns : List Int} {i : Int} {Q : D → Prop} (h0 : 0 ≤ i) (h1 : i < ns.length) (h : ∀ z, ns[i.toNat]? = some z → Q (.int z)) : oq (dIx (scriptD ns) (.int i)) Q := by
  refine oq_ix_l h0 (by simpa using h1) fun z e => ?_
  have l : i.toNat < ns.length := by omega
  rw [List.getElem?_map, List.getElem?_eq_getElem l] at e
  cases e
  exact h _ (List.getElem?_eq_getElem l)
theorem oq_rep {a : List D} {k : Int} {Q : D → Prop} (l : k < 2 ^ 63 ∧ -(2 ^ 63) ≤ k ∧ a.length * k.toNat ≤ 100000) (h : Q (.list (List.replicate k.toNat a).flatten)) : oq (dRep (.list a) (.int k)) Q := ⟨_, if_pos l, h⟩
theorem oq_insert {ds : List D} {d : D} {i : Int} {Q : D × List D → Prop} (l : ds.length < 100000 ∧ 0 ≤ i ∧ i < 2 ^ 63) (h : Q (.none, ds.take i.toNat ++ [d] ++ ds.drop i.toNat)) : oq (muInsert ds [.int i, d]) Q := ⟨_, if_pos l, h⟩
theorem okD_ints (k : Nat) : ∀ xs : List Int, (xs.map PyData.int).all (okD k) = true
  | [] => rfl
  | x :: xs => by
    rw [List.map_cons, List.all_cons, okD_ints k xs]
    cases k <;> rfl
theorem eqv_ints : ∀ xs ys : List Int, PyData.eqvAll (xs.map PyData.int) (ys.map PyData.int) = decide (xs = ys)
  | [], [] => by simp [PyData.eqvAll]
  | [], y :: ys => by simp [PyData.eqvAll]
  | x :: xs, [] => by simp [PyData.eqvAll]
  | x :: xs, y :: ys => by
    simp only [List.map_cons, PyData.eqvAll, PyData.eqv]
    rw [eqv_ints xs ys]
    by_cases h : x = y <;> simp [h]
theorem dEqB_il (xs ys : List Int) : dEqB (.list (xs.map .int)) (.list (ys.map .int)) = some (decide (xs = ys)) := by
  show (if okD 60 (.list (xs.map .int)) = true ∧ okD 60 (.list (ys.map .int)) = true then _ else _) = _
  rw [if_pos ⟨okD_ints 59 xs, okD_ints 59 ys⟩]
  simp only [PyData.eqv]
  rw [eqv_ints]
theorem dEqB_it (xs ys : List Int) : dEqB (.tuple (xs.map .int)) (.tuple (ys.map .int)) = some (decide (xs = ys)) := by
  show (if okD 60 (.tuple (xs.map .int)) = true ∧ okD 60 (.tuple (ys.map .int)) = true then _ else _) = _
  rw [if_pos ⟨okD_ints 59 xs, okD_ints 59 ys⟩]
  simp only [PyData.eqv]
  rw [eqv_ints]
theorem oq_eq_il (h : Q (.bool (decide (xs = ys)))) : oq (dEq (.list (xs.map .int)) (.list (ys.map .int))) Q := oq_eq_d (dEqB_il xs ys) h
theorem oq_ne_il (h : Q (.bool (!decide (xs = ys)))) : oq (dNe (.list (xs.map .int)) (.list (ys.map .int))) Q := oq_ne_d (dEqB_il xs ys) h
theorem oq_eq_it (h : Q (.bool (decide (xs = ys)))) : oq (dEq (.tuple (xs.map .int)) (.tuple (ys.map .int))) Q := oq_eq_d (dEqB_it xs ys) h
theorem oq_ne_it (h : Q (.bool (!decide (xs = ys)))) : oq (dNe (.tuple (xs.map .int)) (.tuple (ys.map .int))) Q := oq_ne_d (dEqB_it xs ys) h
def lexI : List Int → List Int → Bool
  | [], [] => false
  | [], _ :: _ => true
  | _ :: _, [] => false
  | x :: xs, y :: ys => if x = y then lexI xs ys else decide (x < y)
theorem lexI_eq : ∀ xs ys : List Int, PySem.W.listLt xs ys = lexI xs ys
  | [], [] => rfl
  | [], _ :: _ => rfl
  | _ :: _, [] => rfl
  | x :: xs, y :: ys => by
    show (if x = y then PySem.W.listLt xs ys else _) = (if x = y then lexI xs ys else _)
    rw [lexI_eq xs ys]
    rfl
theorem alike_ints : ∀ xs ys : List Int, PySem.W.alikeAll (xs.map PyData.int) (ys.map PyData.int) = true := fun xs ys => PySem.W.alikeAll_map xs ys
theorem okC_il (xs ys : List Int) : okC (.list (xs.map .int)) (.list (ys.map .int)) = true := by
  unfold okC
  rw [show okD 60 (.list (xs.map .int)) = true from okD_ints 59 xs, show okD 60 (.list (ys.map .int)) = true from okD_ints 59 ys]
  simp only [PySem.W.alike]
  rw [alike_ints]
  rfl
theorem okC_it (xs ys : List Int) : okC (.tuple (xs.map .int)) (.tuple (ys.map .int)) = true := by
  unfold okC
  rw [show okD 60 (.tuple (xs.map .int)) = true from okD_ints 59 xs, show okD 60 (.tuple (ys.map .int)) = true from okD_ints 59 ys]
  simp only [PySem.W.alike]
  rw [alike_ints]
  rfl
theorem lt_il (xs ys : List Int) : PySem.W.dataLt (.list (xs.map .int)) (.list (ys.map .int)) = lexI xs ys := (PySem.W.DatumOrd.lt_eq xs ys).trans (lexI_eq xs ys)
theorem lt_it (xs ys : List Int) : PySem.W.dataLt (.tuple (xs.map .int)) (.tuple (ys.map .int)) = lexI xs ys := (PySem.W.DatumOrd.lt_eq (PySem.W.Tup.mk xs) (PySem.W.Tup.mk ys)).trans (lexI_eq xs ys)
theorem oq_lt_il (h : Q (.bool (lexI xs ys))) : oq (dLt (.list (xs.map .int)) (.list (ys.map .int))) Q := by
  refine ⟨_, ?_, h⟩
  show (if okC _ _ = true then some (PyData.bool (PySem.W.dataLt _ _)) else none) = _
  rw [if_pos (okC_il xs ys), lt_il]
theorem oq_lt_it (h : Q (.bool (lexI xs ys))) : oq (dLt (.tuple (xs.map .int)) (.tuple (ys.map .int))) Q := by
  refine ⟨_, ?_, h⟩
  show (if okC _ _ = true then some (PyData.bool (PySem.W.dataLt _ _)) else none) = _
  rw [if_pos (okC_it xs ys), lt_it]
theorem oq_ix_mf {β : Type} {xs : List β} {u : β → D} {i : Int} {k : Nat} (hi : i = (k : Int)) (h : k < xs.length) (q : Q (u xs[k])) : oq (dIx (.list (xs.map u)) (.int i)) Q := by
  subst hi
  refine oq_ix_l (by omega) (by simpa using h) fun z e => ?_
  rw [Int.toNat_natCast, List.getElem?_map, List.getElem?_eq_getElem h] at e
  cases e
  exact q
theorem oq_iadd_i (h : Q (.int (x + y))) : oq (dIAdd (.int x) (.int y)) Q := ⟨_, rfl, h⟩
theorem oq_iadd_s (l : s.length + t.length ≤ 100000) (h : Q (.str (s ++ t))) : oq (dIAdd (.str s) (.str t)) Q := ⟨_, if_pos l, h⟩
theorem oq_isT {a b : Bool} (q : Q (.bool (decide (a = b)))) : oq (dIsT (.bool a) (.bool b)) Q := ⟨_, rfl, q⟩
theorem oq_isNotT {a b : Bool} (q : Q (.bool (!decide (a = b)))) : oq (dIsNotT (.bool a) (.bool b)) Q := ⟨_, rfl, q⟩
theorem oq_ix_0 (h : Q d) : oq (dIx (.list (d :: ds)) (.int 0)) Q := by
  refine ⟨d, ?_, h⟩
  show (ixN (d :: ds).length 0).bind _ = _
  rw [ixN_in (by decide) (by simp)]
  rfl
end
end Hz
namespace Hz
open PySem L2
def S (l : List Nat) : Str := ⟨l.toArray⟩
theorem S_len (l : List Nat) : (S l).length = l.length := by
  show l.toArray.size = _
  simp
theorem S_cps (l : List Nat) : (S l).cps.toList = l := by
  show l.toArray.toList = _
  simp
theorem S_inj {a b : List Nat} : S a = S b ↔ a = b := by
  constructor
  · intro h
    have := congrArg (fun z : Str => z.cps.toList) h
    simpa [S_cps] using this
  · rintro rfl
    rfl
theorem S_app (a b : List Nat) : S a ++ S b = S (a ++ b) := by
  apply congrArg Str.mk
  apply Array.toList_inj.mp
  simp [S, Str.cps_append]
theorem S_cut (l : List Nat) (i j : Nat) : cutS (S l) (some (i : Int)) (some (j : Int)) = S ((l.drop i).take (j - i)) := by
  unfold cutS
  rw [S_cps, S_len, HT.sIx_nat, HT.sIx_nat]
  show S _ = S _
  rw [S_inj]
  by_cases h : i ≤ l.length
  · rw [Nat.min_eq_left h, List.take_eq_take_iff, List.length_drop]
    omega
  · rw [Nat.min_eq_right (show l.length ≤ i by omega), List.drop_eq_nil_of_le (Nat.le_refl l.length), List.drop_eq_nil_of_le (show l.length ≤ i by omega), List.take_nil, List.take_nil]
theorem S_cutT (l : List Nat) (j : Nat) : cutS (S l) none (some (j : Int)) = S (l.take j) := by
  unfold cutS
  rw [S_cps, S_len, HT.sIx_none, HT.sIx_nat]
  show S _ = S _
  rw [S_inj, List.drop_zero, List.take_eq_take_iff]
  omega
theorem S_cutD (l : List Nat) (i : Nat) : cutS (S l) (some (i : Int)) none = S (l.drop i) := by
  unfold cutS
  rw [S_cps, S_len, HT.sIx_none, HT.sIx_nat]
  show S _ = S _
  rw [S_inj]
  by_cases h : i ≤ l.length
  · rw [Nat.min_eq_left h, List.take_of_length_le (by rw [List.length_drop]; omega)]
  · rw [Nat.min_eq_right (show l.length ≤ i by omega), List.drop_eq_nil_of_le (Nat.le_refl l.length), List.drop_eq_nil_of_le (show l.length ≤ i by omega), List.take_nil]
theorem S_chars (l : List Nat) : ((S l).cps.toList.map fun k => PyData.str ⟨#[k]⟩) = l.map fun k => PyData.str (S [k]) := by
  rw [S_cps]
  rfl
theorem oq_ix_S {l : List Nat} {i : Int} {R : D → Prop} (hz : l.length ≤ 100000) (h0 : 0 ≤ i) (h1 : i < l.length) (h : R (.str (S [l.getD i.toNat 0]))) : oq (dIx (.str (S l)) (.int i)) R := by
  refine oq_ix_s (by rw [S_len]; exact hz) h0 (by rw [S_len]; exact h1) fun k e => ?_
  rw [S_cps] at e
  have : k = l.getD i.toNat 0 := by
    rw [List.getD_eq_getElem?_getD, e]
    rfl
  rw [this]
  exact h
theorem oq_join_S {ks : List Nat} {R : D → Prop} (l : ks.length ≤ 100000) (h : R (.str (S ks))) : oq (dJoin (PySem.Str.ofString "") [.list (ks.map fun k => .str (S [k]))]) R := by
  refine ⟨_, ?_, h⟩
  show (toStrs (ks.map fun k => PyData.str (S [k]))).bind _ = _
  rw [toStrs_map]
  show (if _ then _ else _) = _
  rw [if_pos]
  · congr 2
    show Builtin.Str.glued (PySem.Str.ofString "") _ = _
    rw [StrLaws.glued_eq_join]
    exact PyProof.Rows.join_ones ks
  · have z : (PySem.Str.ofString "").length = 0 := by decide
    have s1 : ∀ ks : List Nat, ((ks.map fun k => S [k]).map (·.length)).sum = ks.length := by
      intro ks
      induction ks with
      | nil => rfl
      | cons k ks ih =>
        simp only [List.map_cons, List.sum_cons, List.length_cons, ih]
        show 1 + _ = _
        omega
    rw [s1, z, List.length_map]
    omega
/-- a join of texts: with a sep between -/
def glue (sep : List Nat) : List (List Nat) → List Nat
  | [] => []
  | [a] => a
  | a :: b :: r => a ++ sep ++ glue sep (b :: r)
theorem join_glue (sep : List Nat) : ∀ ls : List (List Nat), Txt.join (S sep) (ls.map S) = S (glue sep ls) := by
  intro ls
  show Builtin.Str.glued (S sep) (ls.map S) = _
  rw [StrLaws.glued_eq_join]
  induction ls with
  | nil => rfl
  | cons a r ih =>
    cases r with
    | nil => rfl
    | cons b r =>
      show S a ++ S sep ++ Str.join (S sep) ((b :: r).map S) = _
      rw [ih, S_app, S_app]
      rfl
theorem oq_glue {sep : List Nat} {ls : List (List Nat)} {R : D → Prop} (l : (ls.map (·.length)).sum + ls.length * sep.length ≤ 100000) (h : R (.str (S (glue sep ls)))) : oq (dJoin (S sep) [.list (ls.map fun k => .str (S k))]) R := by
  refine ⟨_, ?_, h⟩
  show (toStrs (ls.map fun k => PyData.str (S k))).bind _ = _
  rw [toStrs_map]
  show (if _ then _ else _) = _
  rw [if_pos]
  · rw [show ls.map (fun k => S k) = ls.map S from rfl, join_glue]
  · have s1 : ((ls.map fun k => S k).map (·.length)).sum = (ls.map (·.length)).sum := by
      rw [List.map_map]
      exact congrArg List.sum (List.map_congr_left fun k _ => S_len k)
    rw [s1, S_len, List.length_map]
    exact l
theorem at_one (l : List Nat) (c i : Nat) : StrLaws.At (S l) (⟨#[c]⟩ : Str) l.length i ↔ l[i]? = some c := by
  have h := StrLaws.subAt_one (S l) c i
  rw [S_cps, S_len] at h
  exact h
theorem occ_all (l : List Nat) (c limit : Nat) : ∀ (n a : Nat) (arr : Array Nat) (free : Nat), free ≤ a →
    (forIn (List.range' a n) (arr, free) (StrLaws.occBody (S l) (⟨#[c]⟩ : Str) l.length limit)).run.fst.toList = arr.toList ++ ((List.range' a n).filter fun i => decide (l[i]? = some c)).take (limit - arr.size)
  | 0, a, arr, free, h => by simp
  | n + 1, a, arr, free, h => by
    rw [List.range'_succ, List.forIn_cons]
    by_cases hc : l[a]? = some c
    · have hA := (at_one l c a).mpr hc
      rw [List.filter_cons_of_pos (by simpa using hc)]
      by_cases hl : arr.size < limit
      · have e1 : StrLaws.occBody (S l) (⟨#[c]⟩ : Str) l.length limit a (arr, free) = pure (ForInStep.yield (arr.push a, a + 1)) := by
          unfold StrLaws.occBody
          rw [if_pos ⟨⟨⟨hl, h⟩, hA.1⟩, hA.2⟩]
          rfl
        rw [e1]
        show (forIn (List.range' (a + 1) n) (arr.push a, a + 1) (StrLaws.occBody (S l) (⟨#[c]⟩ : Str) l.length limit)).run.fst.toList = _
        rw [occ_all l c limit n (a + 1) _ _ (Nat.le_refl _)]
        rw [show limit - arr.size = (limit - (arr.push a).size) + 1 by rw [Array.size_push]; omega, List.take_succ_cons]
        simp
      · have e1 : StrLaws.occBody (S l) (⟨#[c]⟩ : Str) l.length limit a (arr, free) = pure (ForInStep.yield (arr, free)) := by
          unfold StrLaws.occBody
          rw [if_neg fun q => hl q.1.1.1]
        rw [e1]
        show (forIn (List.range' (a + 1) n) (arr, free) (StrLaws.occBody (S l) (⟨#[c]⟩ : Str) l.length limit)).run.fst.toList = _
        rw [occ_all l c limit n (a + 1) _ _ (by omega), show limit - arr.size = 0 by omega]
        simp
    · rw [List.filter_cons_of_neg (by simpa using hc)]
      have e1 : StrLaws.occBody (S l) (⟨#[c]⟩ : Str) l.length limit a (arr, free) = pure (ForInStep.yield (arr, free)) := by
        unfold StrLaws.occBody
        rw [if_neg fun q => hc ((at_one l c a).mp ⟨q.1.2, q.2⟩)]
      rw [e1]
      exact occ_all l c limit n (a + 1) _ _ (by omega)
theorem occ_S (l : List Nat) (c lo limit : Nat) : Builtin.Str.occurrences (S l) (S [c]) lo (S l).length limit = ((List.range' lo (l.length + 1 - lo)).filter fun i => decide (l[i]? = some c)).take limit := by
  rw [S_len, StrLaws.occ_eq]
  have := occ_all l c limit (l.length + 1 - lo) lo #[] lo (Nat.le_refl _)
  rw [show S [c] = (⟨#[c]⟩ : Str) from rfl, this]
  simp
def pos (c : Nat) : List Nat → Nat → List Nat
  | [], _ => []
  | x :: l, i => if x = c then i :: pos c l (i + 1) else pos c l (i + 1)
theorem pos_filter (c : Nat) (l : List Nat) : ∀ (n i : Nat), l.length ≤ i + n → ((List.range' i (n + 1)).filter fun i => decide (l[i]? = some c)) = pos c (l.drop i) i
  | 0, i, h => by
    rw [List.drop_eq_nil_of_le (by omega), pos, List.filter_eq_nil_iff]
    intro j hj
    have := (List.mem_range'_1.mp hj).1
    rw [List.getElem?_eq_none (by omega)]
    simp
  | n + 1, i, h => by
    rw [List.range'_succ]
    by_cases hi : i < l.length
    · rw [List.drop_eq_getElem_cons hi, pos]
      by_cases hc : l[i] = c
      · rw [if_pos hc, List.filter_cons_of_pos (by rw [List.getElem?_eq_getElem hi, hc]; simp), pos_filter c l n (i + 1) (by omega)]
      · rw [if_neg hc, List.filter_cons_of_neg (by rw [List.getElem?_eq_getElem hi]; simpa using hc), pos_filter c l n (i + 1) (by omega)]
    · rw [List.drop_eq_nil_of_le (by omega), pos, List.filter_eq_nil_iff]
      intro j hj
      have : i ≤ j := by
        rcases List.mem_cons.mp hj with rfl | hj
        · omega
        · have := (List.mem_range'_1.mp hj).1
          omega
      rw [List.getElem?_eq_none (by omega)]
      simp
theorem pos_len (c : Nat) : ∀ (l : List Nat) (i : Nat), (pos c l i).length ≤ l.length
  | [], _ => Nat.le_refl _
  | x :: l, i => by
    have := pos_len c l (i + 1)
    unfold pos
    split <;> simp <;> omega
theorem occ_pos (l : List Nat) (c lo limit : Nat) (h : lo ≤ l.length) : Builtin.Str.occurrences (S l) (S [c]) lo (S l).length limit = (pos c (l.drop lo) lo).take limit := by
  rw [occ_S, show l.length + 1 - lo = (l.length - lo) + 1 by omega, pos_filter c l _ lo (by omega)]
/-- the pieces between the signs c -/
def lin (c : Nat) : List Nat → List (List Nat)
  | [] => [[]]
  | x :: l => if x = c then [] :: lin c l else match lin c l with
    | h :: t => (x :: h) :: t
    | [] => [[x]]
theorem lin_ne (c : Nat) (l : List Nat) : ∃ h t, lin c l = h :: t := by
  cases l with
  | nil => exact ⟨_, _, rfl⟩
  | cons x l =>
    unfold lin
    split
    · exact ⟨_, _, rfl⟩
    · split <;> exact ⟨_, _, rfl⟩
theorem strSub_S (l : List Nat) (a i : Nat) : Builtin.Str.strSub (S l) a i = S ((l.drop a).take (i - a)) := by
  apply Str.ext'
  apply Array.toList_inj.mp
  show ((S l).cps.extract a i).toList = _
  rw [S_cps]
  simp [S]
theorem parts_lin (c : Nat) (l : List Nat) : ∀ (n i a : Nat), l.length = i + n → a ≤ i → ∃ h t, lin c (l.drop i) = h :: t ∧ StrLaws.partsFrom (S l) 1 a (pos c (l.drop i) i) = S ((l.drop a).take (i - a) ++ h) :: t.map S
  | 0, i, a, e, ha => by
    rw [List.drop_eq_nil_of_le (by omega)]
    refine ⟨[], [], rfl, ?_⟩
    show [Builtin.Str.strSub (S l) a (S l).length] = _
    rw [strSub_S, S_len, e, List.append_nil]
    rfl
  | n + 1, i, a, e, ha => by
    have hi : i < l.length := by omega
    rw [List.drop_eq_getElem_cons hi, pos, lin]
    by_cases hc : l[i] = c
    · rw [if_pos hc, if_pos hc]
      obtain ⟨h, t, e1, e2⟩ := parts_lin c l n (i + 1) (i + 1) (by omega) (Nat.le_refl _)
      refine ⟨[], h :: t, by rw [e1], ?_⟩
      show Builtin.Str.strSub (S l) a i :: StrLaws.partsFrom (S l) 1 (i + 1) (pos c (l.drop (i + 1)) (i + 1)) = _
      rw [e2, strSub_S]
      simp
    · rw [if_neg hc, if_neg hc]
      obtain ⟨h, t, e1, e2⟩ := parts_lin c l n (i + 1) a (by omega) (by omega)
      refine ⟨l[i] :: h, t, by rw [e1], ?_⟩
      rw [e2, show i + 1 - a = (i - a) + 1 by omega, List.take_add_one, List.getElem?_drop, show a + (i - a) = i by omega, List.getElem?_eq_getElem hi]
      simp
theorem kind_one (c : Nat) (h : c < 256) : Builtin.Str.strKind (S [c]) = 1 := by
  unfold Builtin.Str.strKind
  rw [if_pos]
  show (#[c] : Array Nat).all (fun x => decide (x < 256)) = true
  simp [h]
theorem kind_pos (s : Str) : 1 ≤ Builtin.Str.strKind s := by
  unfold Builtin.Str.strKind
  repeat' split
  all_goals omega
theorem split_lin (l : List Nat) (c : Nat) (hc : c < 256) : Txt.split (S l) (S [c]) = (lin c l).map S := by
  obtain ⟨h, t, e1, e2⟩ := parts_lin c l l.length 0 0 (by omega) (Nat.le_refl _)
  simp only [List.drop_zero, Nat.sub_self, List.take_zero, List.nil_append] at e1 e2
  have whole : lin c l = h :: t ∧ StrLaws.partsFrom (S l) 1 0 (pos c l 0) = (lin c l).map S := ⟨e1, by rw [e2, e1]; rfl⟩
  have occ : Builtin.Str.occurrences (S l) (S [c]) 0 (S l).length ((S l).length + 1) = pos c l 0 := by
    rw [occ_pos l c 0 _ (Nat.zero_le _), List.drop_zero, List.take_of_length_le]
    have := pos_len c l 0
    rw [S_len]
    omega
  have emp : pos c l 0 = [] → [S l] = (lin c l).map S := fun e => by
    rw [← whole.2, e]
    show [S l] = [Builtin.Str.strSub (S l) 0 (S l).length]
    rw [StrLaws.sub_whole]
  unfold Txt.split
  split
  · rename_i hh
    have hk := kind_pos (S l)
    simp only [Bool.or_eq_true, decide_eq_true_eq, kind_one c hc] at hh
    have : (S l).length < 1 := by
      rcases hh with hh | hh
      · exact hh
      · omega
    rw [S_len] at this
    have : l = [] := List.eq_nil_of_length_eq_zero (by omega)
    subst this
    rfl
  · rw [occ]
    split
    · rename_i hh
      exact emp (List.isEmpty_iff.mp hh)
    · rw [StrLaws.partsBetween_eq]
      exact whole.2
theorem lin_app {c : Nat} {a r : List Nat} (ha : c ∉ a) : lin c (a ++ c :: r) = a :: lin c r := by
  induction a with
  | nil =>
    show lin c (c :: r) = _
    rw [lin, if_pos rfl]
  | cons x a ih =>
    simp only [List.mem_cons, not_or] at ha
    show lin c (x :: (a ++ c :: r)) = _
    rw [lin, if_neg (Ne.symm ha.1), ih ha.2]
theorem lin_one {c : Nat} {a : List Nat} (ha : c ∉ a) : lin c a = [a] := by
  induction a with
  | nil => rfl
  | cons x a ih =>
    simp only [List.mem_cons, not_or] at ha
    rw [lin, if_neg (Ne.symm ha.1), ih ha.2]
theorem lin_glue {c : Nat} : ∀ {ls : List (List Nat)}, ls ≠ [] → (∀ a ∈ ls, c ∉ a) → lin c (glue [c] ls) = ls
  | [], h, _ => absurd rfl h
  | [a], _, h => lin_one (h a (by simp))
  | a :: b :: r, _, h => by
    show lin c (a ++ [c] ++ glue [c] (b :: r)) = _
    rw [List.append_assoc]
    show lin c (a ++ c :: glue [c] (b :: r)) = _
    rw [lin_app (h a (by simp)), lin_glue (by simp) fun x hx => h x (List.mem_cons_of_mem _ hx)]
theorem oq_split_S {l : List Nat} {c : Nat} {R : D → Prop} (hc : c < 256) (hl : l.length ≤ 90000) (h : R (.list ((lin c l).map fun a => .str (S a)))) : oq (dSplit (S l) [.str (S [c])]) R := by
  refine ⟨_, ?_, h⟩
  show (if ((S [c]).length == 0) = false ∧ (S l).length + 2 ≤ 100000 then some (PyData.list ((Txt.split (S l) (S [c])).map PyData.str)) else none) = _
  rw [if_pos ⟨by rw [S_len]; rfl, by rw [S_len]; omega⟩, split_lin l c hc, List.map_map]
  rfl
def hd1 : List Nat → Int
  | i :: _ => (i : Int)
  | [] => -1
theorem find_S (l : List Nat) (c : Nat) : Txt.find (S l) (S [c]) = hd1 (pos c l 0) := by
  unfold Txt.find
  rw [occ_pos l c 0 1 (Nat.zero_le _), List.drop_zero]
  cases pos c l 0 <;> rfl
theorem oq_find1 {l : List Nat} {c : Nat} {R : D → Prop} (h : R (.int (hd1 (pos c l 0)))) : oq (dFind1 (S l) [.str (S [c])]) R := ⟨_, by show some (PyData.int (Txt.find (S l) (S [c]))) = _; rw [find_S], h⟩
theorem find3_S (l : List Nat) (c i : Nat) (h : i ≤ l.length) : Txt.find3 (S l) (S [c]) (i : Int) = hd1 (pos c (l.drop i) i) := by
  unfold Txt.find3
  have e : fromIndex (S l).length (i : Int) = i := by
    rw [S_len]
    unfold fromIndex
    rw [if_neg (by omega)]
    omega
  rw [e, occ_pos l c i 1 h]
  cases pos c (l.drop i) i <;> rfl
theorem oq_find2 {l : List Nat} {c : Nat} {i : Int} {R : D → Prop} (h0 : 0 ≤ i) (h1 : i ≤ l.length) (h : R (.int (hd1 (pos c (l.drop i.toNat) i.toNat)))) : oq (dFind2 (S l) [.str (S [c]), .int i]) R := by
  refine ⟨_, ?_, h⟩
  show some (PyData.int (Txt.find3 (S l) (S [c]) i)) = _
  have := find3_S l c i.toNat (by omega)
  rw [Int.toNat_of_nonneg h0] at this
  rw [this]
/-- a within b -/
def inf (a b : List Nat) : Bool := decide (∃ i, i < b.length + 1 ∧ i + a.length ≤ b.length ∧ (b.drop i).take a.length = a)
theorem found_S (a b : List Nat) : (!(Builtin.Str.occurrences (S b) (S a) 0 (S b).length 1).isEmpty) = inf a b := by
  rw [Bool.eq_iff_iff, StrLaws.found_iff]
  unfold inf
  rw [decide_eq_true_iff]
  constructor
  · rintro ⟨i, h1, h2⟩
    rw [StrLaws.subAt_eq, S_cps, S_cps, S_len, beq_iff_eq] at h2
    rw [S_len, S_len] at h1
    exact ⟨i, by omega, h1, h2⟩
  · rintro ⟨i, h0, h1, h2⟩
    refine ⟨i, by rw [S_len, S_len]; exact h1, ?_⟩
    rw [StrLaws.subAt_eq, S_cps, S_cps, S_len, beq_iff_eq]
    exact h2
theorem oq_inT_S {a b : List Nat} {R : D → Prop} (h : R (.bool (inf a b))) : oq (dInT (.str (S a)) (.str (S b))) R := ⟨_, by show some (PyData.bool (!(Builtin.Str.occurrences (S b) (S a) 0 (S b).length 1).isEmpty)) = _; rw [found_S], h⟩
theorem oq_in_S {k : Nat} {l : List Nat} {R : D → Prop} (h : R (.bool (decide (k ∈ l)))) : oq (dIn (.str (S [k])) (.str (S l))) R := by
  refine oq_in_s ?_
  rw [S_cps]
  exact h
theorem oq_notIn_S {k : Nat} {l : List Nat} {R : D → Prop} (h : R (.bool (!decide (k ∈ l)))) : oq (dNotIn (.str (S [k])) (.str (S l))) R := by
  refine oq_notIn_s ?_
  rw [S_cps]
  exact h
theorem oq_len_S {l : List Nat} {R : D → Prop} (hl : l.length ≤ 100000) (h : R (.int l.length)) : oq (dLen [.str (S l)]) R := oq_len_s (by rw [S_len]; exact hl) (by rw [S_len]; exact h)
theorem oq_iadd_S {a b : List Nat} {R : D → Prop} (hl : a.length + b.length ≤ 100000) (h : R (.str (S (a ++ b)))) : oq (dIAdd (.str (S a)) (.str (S b))) R := oq_iadd_s (by rw [S_len, S_len]; exact hl) (by rw [S_app]; exact h)
theorem oq_add_S {a b : List Nat} {R : D → Prop} (hl : a.length + b.length ≤ 100000) (h : R (.str (S (a ++ b)))) : oq (dAdd (.str (S a)) (.str (S b))) R := oq_add_s (by rw [S_len, S_len]; exact hl) (by rw [S_app]; exact h)
end Hz
namespace Hz
open PySem L2
def repS (x : Str) (n : Int) : Str := ⟨(List.replicate n.toNat x.cps).foldl (· ++ ·) #[]⟩
theorem foldl_emp : ∀ (n : Nat) (a : Array Nat), (List.replicate n (#[] : Array Nat)).foldl (· ++ ·) a = a
  | 0, _ => rfl
  | n + 1, a => by
    rw [List.replicate_succ, List.foldl_cons, Array.append_empty]
    exact foldl_emp n a
theorem op_repS {X : Cx} : OpR X (binaryOp .Mult) (fun x y H Q => ∃ i n, x = .str i ∧ y = .int n ∧ i.length ≤ 1000 ∧ n ≤ 1000 ∧ -1000 ≤ n ∧ Q (.str (repS i n)) H) := by
  intro pins s σ H x y v u Q I rx ry h
  obtain ⟨i, n, rfl, rfl, hi, hn, hm, q⟩ := h
  obtain ⟨t, rfl⟩ := rx
  obtain ⟨t', rfl⟩ := ry
  refine P.mul_str ?_ ?_ ?_ ?_
  · rw [decide_eq_false (by omega), decide_eq_false (by omega)]
    rfl
  · intro h1 _ h2
    have : (i.length : Int) * n ≤ 1000 * 1000 := Int.mul_le_mul (by omega) hn (by omega) (by decide)
    have : (i.length : Int) ≤ (2 ^ 63 - 1) / n := Int.le_ediv_of_mul_le (by omega) (by omega)
    omega
  · intro h1 _
    unfold Builtin.Str.tooLong
    refine decide_eq_false ?_
    have : i.length * n.toNat ≤ 1000 * 1000 := Nat.mul_le_mul hi (by omega)
    have h2 : 1000 * 1000 ≤ sizeLine := by decide +kernel
    omega
  · have hl : (repS i n).length ≤ i.length * n.toNat := by
      have : ∀ (k : Nat) (a : Array Nat), ((List.replicate k i.cps).foldl (· ++ ·) a).size = a.size + i.length * k := by
        intro k
        induction k with
        | zero => intro a; rfl
        | succ k ih =>
          intro a
          rw [List.replicate_succ, List.foldl_cons, ih, Array.size_append]
          have : i.cps.size = i.length := rfl
          rw [this, Nat.mul_add]
          omega
      have := this n.toNat #[]
      show ((List.replicate n.toNat i.cps).foldl (· ++ ·) #[]).size ≤ _
      rw [this]
      simp
    have hs : (repS i n).length ≤ sizeLine := by
      have : i.length * n.toNat ≤ 1000 * 1000 := Nat.mul_le_mul hi (by omega)
      have h2 : 1000 * 1000 ≤ sizeLine := by decide +kernel
      omega
    split
    · rename_i h1
      have e : repS i n = Str.empty := by
        unfold repS
        rw [show n.toNat = 0 by omega]
        rfl
      rw [← e]
      exact ⟨hs, .str (repS i n), H, I.tok _, ⟨_, rfl⟩, q⟩
    · split
      · rename_i h1 h2
        have e : repS i n = i := by
          simp only [Bool.or_eq_true, beq_iff_eq] at h2
          unfold repS
          rcases h2 with h2 | h2
          · rw [h2]
            show Str.mk (#[] ++ i.cps) = i
            rw [Array.empty_append]
          · have z : i.cps = #[] := Array.eq_empty_of_size_eq_zero h2
            rw [z, foldl_emp]
            show Str.mk #[] = i
            rw [← z]
        rw [e] at q
        exact ⟨.str i, H, I, ⟨_, rfl⟩, q⟩
      · exact ⟨hs, .str (repS i n), H, I.tok _, ⟨_, rfl⟩, q⟩
def dRepS : D → D → Option D
  | .str a, .int n => if a.length ≤ 1000 ∧ n ≤ 1000 ∧ -1000 ≤ n then some (.str (repS a n)) else none
  | _, _ => none
theorem o_repS {c : C0} {N : List Str} {sc : Scope} : OpD c.K (In c N sc) (binaryOp .Mult) dRepS := by
  refine ⟨_, fun X I => op_repS, fun B H x y d e z bk hx hy hz Q q => ?_⟩
  unfold dRepS at hz
  split at hz
  · split at hz
    · rename_i hl
      cases hz
      exact ⟨_, _, hx.str, hy.int, hl.1, hl.2.1, hl.2.2, q _ H (Sub.refl H) (.str _)⟩
    · cases hz
  · cases hz
theorem oq_repS {a : Str} {n : Int} {Q : D → Prop} (l : a.length ≤ 1000 ∧ n ≤ 1000 ∧ -1000 ≤ n) (h : Q (.str (repS a n))) : oq (dRepS (.str a) (.int n)) Q := ⟨_, if_pos l, h⟩
def repL (l : List Nat) : Nat → List Nat
  | 0 => []
  | n + 1 => l ++ repL l n
theorem repL_len (l : List Nat) : ∀ n, (repL l n).length = n * l.length
  | 0 => by simp [repL]
  | n + 1 => by rw [repL, List.length_append, repL_len l n, Nat.add_mul]; omega
theorem repS_S (l : List Nat) (n : Int) : repS (S l) n = S (repL l n.toNat) := by
  unfold repS
  apply congrArg Str.mk
  apply Array.toList_inj.mp
  have : ∀ (k : Nat) (a : Array Nat), ((List.replicate k (S l).cps).foldl (· ++ ·) a).toList = a.toList ++ repL l k := by
    intro k
    induction k with
    | zero => intro a; simp [repL]
    | succ k ih =>
      intro a
      rw [List.replicate_succ, List.foldl_cons, ih, repL, Array.toList_append, S_cps, List.append_assoc]
  rw [this]
  show [] ++ repL l n.toNat = (repL l n.toNat).toArray.toList
  simp
theorem oq_rep_S {l : List Nat} {n : Int} {R : D → Prop} (h1 : l.length ≤ 1000 ∧ n ≤ 1000 ∧ -1000 ≤ n) (h : R (.str (S (repL l n.toNat)))) : oq (dRepS (.str (S l)) (.int n)) R := oq_repS (by rw [S_len]; exact h1) (by rw [repS_S]; exact h)
end Hz
namespace K42
open PySem L2 Hz
def isX (C_Pattern C_FolderkinError C_InvalidPattern gX : Nat) : Nat → Bool := fun C => decide (C = C_InvalidPattern)
def exm_InvalidPattern (C_Pattern C_FolderkinError C_InvalidPattern gX : Nat) : Nat → Option Bool := fun C => if C = C_InvalidPattern then some true else none
def xi_FolderkinError (C_Pattern C_FolderkinError C_InvalidPattern gX : Nat) : Nat → Option Bool := fun C => if C = C_InvalidPattern then some true else none
def xi_ValueError (C_Pattern C_FolderkinError C_InvalidPattern gX : Nat) : Nat → Option Bool := fun C => if C = C_InvalidPattern then some true else none
def m_Pattern_init (C_Pattern C_FolderkinError C_InvalidPattern gX : Nat) : MS := seqS (setaS C_Pattern "atoms" (b1K dTuple (kV 1)) (kV 0))
  (setaS C_Pattern "negated" (kV 2) (kV 0))
def f_Pattern_init (C_Pattern C_FolderkinError C_InvalidPattern gX : Nat) : Fm := runF 3 3 (m_Pattern_init C_Pattern C_FolderkinError C_InvalidPattern gX)
def m_ranges_of (C_Pattern C_FolderkinError C_InvalidPattern gX : Nat) : MS := seqS (asgS (kC (.str "")) (setv 1))
  (seqS (asgS (kC (.int 0)) (setv 2))
  (seqS (whileS (tst (bop dLt (kV 2) (b1K dLen (kV 0)))) (seqS (asgS (kC (.int 1)) (setv 3))
  (seqS (ifS (tst (bop dNe (bop dIx (kV 0) (kV 2)) (kC (.str "-")))) (whileS (andK (tst (bop dLt (bop dAdd (kV 2) (kV 3)) (b1K dLen (kV 0)))) (tst (bop dInT (cutK (kV 0) (psome (kV 2)) (psome (bop dAdd (bop dAdd (kV 2) (kV 3)) (kC (.int 1))))) (kC (.str "-./0123456789ABCDEFGHIJKLMNOPQRSTUVWXYZ_abcdefghijklmnopqrstuvwxyz~"))))) (augS dIAdd 3 (kC (.int 1)))) (nextS))
  (seqS (ifS (tst (bop dLt (kV 3) (kC (.int 3)))) (augS dIAdd 1 (cutK (kV 0) (psome (kV 2)) (psome (bop dAdd (kV 2) (kV 3))))) (augS dIAdd 1 (bop dAdd (bop dAdd (bop dIx (kV 0) (kV 2)) (kC (.str "-"))) (bop dIx (kV 0) (bop dSub (bop dAdd (kV 2) (kV 3)) (kC (.int 1)))))))
  (augS dIAdd 2 (kV 3))))))
  (retS (kV 1))))
def f_ranges_of (C_Pattern C_FolderkinError C_InvalidPattern gX : Nat) : Fm := runP 1 4 (m_ranges_of C_Pattern C_FolderkinError C_InvalidPattern gX)
def m_format_atom (C_Pattern C_FolderkinError C_InvalidPattern gX : Nat) : MS := seqS (asgS (kV 0) (tgTup 2 (tgCons (setv 1) (tgCons (setv 2) (tgNil)))))
  (seqS (ifS (tst (kV 2)) (retS (ifK (tst (bop dEq (kV 1) (kC (.str "-./0123456789ABCDEFGHIJKLMNOPQRSTUVWXYZ_abcdefghijklmnopqrstuvwxyz~")))) (kC (.str "**")) (kC (.str "*")))) (nextS))
  (seqS (ifS (tst (bop dEq (kV 1) (kC (.str "-.0123456789ABCDEFGHIJKLMNOPQRSTUVWXYZ_abcdefghijklmnopqrstuvwxyz~")))) (retS (kC (.str "?"))) (nextS))
  (seqS (ifS (tst (bop dEq (b1K dLen (kV 1)) (kC (.int 1)))) (retS (kV 1)) (nextS))
  (seqS (ifS (orK (tst (bop dIn (kC (.str "/")) (kV 1))) (tst (bop dLe (b1K dLen (kV 1)) (kC (.int 33))))) (retS (bop dAdd (bop dAdd (kC (.str "[")) (callN 1 (f_ranges_of C_Pattern C_FolderkinError C_InvalidPattern gX) [] (consK (kV 1) (nilK)))) (kC (.str "]")))) (nextS))
  (retS (bop dAdd (bop dAdd (kC (.str "[!")) (callN 1 (f_ranges_of C_Pattern C_FolderkinError C_InvalidPattern gX) [] (consK (metK dJoin (kC (.str "")) (consK (lcK [3] (strK (kC (.str "-.0123456789ABCDEFGHIJKLMNOPQRSTUVWXYZ_abcdefghijklmnopqrstuvwxyz~"))) (setv 3) (tst (bop dNotIn (kV 3) (kV 1))) (kV 3)) (nilK))) (nilK)))) (kC (.str "]"))))))))
def f_format_atom (C_Pattern C_FolderkinError C_InvalidPattern gX : Nat) : Fm := runP 1 4 (m_format_atom C_Pattern C_FolderkinError C_InvalidPattern gX)
def m_format_pattern (C_Pattern C_FolderkinError C_InvalidPattern gX : Nat) : MS := seqS (asgS (metK dJoin (kC (.str "")) (consK (lcK [2] (tupleK (fldK C_Pattern "atoms" (kV 0))) (setv 2) (yesK) (callN 1 (f_format_atom C_Pattern C_FolderkinError C_InvalidPattern gX) [] (consK (kV 2) (nilK)))) (nilK))) (setv 1))
  (retS (ifK (tst (fldK C_Pattern "negated" (kV 0))) (bop dAdd (kC (.str "!")) (kV 1)) (kV 1)))
def f_format_pattern (C_Pattern C_FolderkinError C_InvalidPattern gX : Nat) : Fm := runP 1 3 (m_format_pattern C_Pattern C_FolderkinError C_InvalidPattern gX)
def m_format_patterns (C_Pattern C_FolderkinError C_InvalidPattern gX : Nat) : MS := retS (metK dJoin (kC (.str "\n")) (consK (lcK [1] (listK (kV 0)) (setv 1) (yesK) (callN 1 (f_format_pattern C_Pattern C_FolderkinError C_InvalidPattern gX) [] (consK (kV 1) (nilK)))) (nilK)))
def f_format_patterns (C_Pattern C_FolderkinError C_InvalidPattern gX : Nat) : Fm := runP 1 2 (m_format_patterns C_Pattern C_FolderkinError C_InvalidPattern gX)
def m_read_items (C_Pattern C_FolderkinError C_InvalidPattern gX : Nat) : MS := seqS (asgS (kC (.str "")) (setv 4))
  (seqS (ifS (tst (bop dEq (bop dIx (kV 0) (kV 1)) (kC (.str "-")))) (seqS (asgS (kC (.str "-")) (setv 4))
  (augS dIAdd 1 (kC (.int 1)))) (nextS))
  (seqS (whileS (tst (bop dLt (kV 1) (kV 2))) (seqS (asgS (metK dFind1 (kC (.str "-./0123456789ABCDEFGHIJKLMNOPQRSTUVWXYZ_abcdefghijklmnopqrstuvwxyz~")) (consK (bop dIx (kV 0) (kV 1)) (nilK))) (setv 5))
  (seqS (ifS (tst (bop dLt (kV 5) (kC (.int 1)))) (raiseS C_InvalidPattern (bop dAdd (kV 3) (kV 1))) (nextS))
  (seqS (asgS (kV 5) (setv 6))
  (seqS (ifS (tst (bop dEq (bop dIx (kV 0) (bop dAdd (kV 1) (kC (.int 1)))) (kC (.str "-")))) (seqS (augS dIAdd 1 (kC (.int 2)))
  (seqS (asgS (metK dFind1 (kC (.str "-./0123456789ABCDEFGHIJKLMNOPQRSTUVWXYZ_abcdefghijklmnopqrstuvwxyz~")) (consK (bop dIx (kV 0) (kV 1)) (nilK))) (setv 6))
  (ifS (tst (bop dLe (kV 6) (kV 5))) (raiseS C_InvalidPattern (bop dAdd (kV 3) (kV 1))) (nextS)))) (nextS))
  (seqS (augS dIAdd 4 (cutK (kC (.str "-./0123456789ABCDEFGHIJKLMNOPQRSTUVWXYZ_abcdefghijklmnopqrstuvwxyz~")) (psome (kV 5)) (psome (bop dAdd (kV 6) (kC (.int 1))))))
  (augS dIAdd 1 (kC (.int 1)))))))))
  (retS (kV 4))))
def f_read_items (C_Pattern C_FolderkinError C_InvalidPattern gX : Nat) : Fm := runP 4 7 (m_read_items C_Pattern C_FolderkinError C_InvalidPattern gX)
def m_read_set (C_Pattern C_FolderkinError C_InvalidPattern gX : Nat) : MS := seqS (asgS (metK dFind2 (kV 0) (consK (kC (.str "]")) (consK (kV 1) (nilK)))) (setv 3))
  (seqS (ifS (tst (bop dLt (kV 3) (kC (.int 0)))) (raiseS C_InvalidPattern (bop dAdd (kV 2) (kV 1))) (nextS))
  (seqS (asgS (bop dEq (bop dIx (kV 0) (bop dAdd (kV 1) (kC (.int 1)))) (kC (.str "!"))) (setv 4))
  (seqS (asgS (callN 4 (f_read_items C_Pattern C_FolderkinError C_InvalidPattern gX) [] (consK (kV 0) (consK (bop dAdd (bop dAdd (kV 1) (kC (.int 1))) (b1K dInt (kV 4))) (consK (kV 3) (consK (kV 2) (nilK)))))) (setv 5))
  (seqS (ifS (tst (kV 4)) (asgS (metK dJoin (kC (.str "")) (consK (lcK [7] (strK (kC (.str "-.0123456789ABCDEFGHIJKLMNOPQRSTUVWXYZ_abcdefghijklmnopqrstuvwxyz~"))) (setv 7) (tst (bop dNotIn (kV 7) (kV 5))) (kV 7)) (nilK))) (setv 6)) (asgS (metK dJoin (kC (.str "")) (consK (lcK [7] (strK (kC (.str "-./0123456789ABCDEFGHIJKLMNOPQRSTUVWXYZ_abcdefghijklmnopqrstuvwxyz~"))) (setv 7) (tst (bop dIn (kV 7) (kV 5))) (kV 7)) (nilK))) (setv 6)))
  (seqS (ifS (tst (bop dEq (kV 6) (kC (.str "")))) (raiseS C_InvalidPattern (bop dAdd (kV 2) (kV 1))) (nextS))
  (retS (tupK (consK (tupK (consK (kV 6) (consK (kC (.bool false)) (nilK)))) (consK (bop dAdd (kV 3) (kC (.int 1))) (nilK))))))))))
def f_read_set (C_Pattern C_FolderkinError C_InvalidPattern gX : Nat) : Fm := runP 3 8 (m_read_set C_Pattern C_FolderkinError C_InvalidPattern gX)
def m_read_atom (C_Pattern C_FolderkinError C_InvalidPattern gX : Nat) : MS := seqS (ifS (tst (bop dEq (cutK (kV 0) (psome (kV 1)) (psome (bop dAdd (kV 1) (kC (.int 2))))) (kC (.str "**")))) (retS (tupK (consK (tupK (consK (kC (.str "-./0123456789ABCDEFGHIJKLMNOPQRSTUVWXYZ_abcdefghijklmnopqrstuvwxyz~")) (consK (kC (.bool true)) (nilK)))) (consK (bop dAdd (kV 1) (kC (.int 2))) (nilK))))) (nextS))
  (seqS (ifS (tst (bop dEq (bop dIx (kV 0) (kV 1)) (kC (.str "*")))) (retS (tupK (consK (tupK (consK (kC (.str "-.0123456789ABCDEFGHIJKLMNOPQRSTUVWXYZ_abcdefghijklmnopqrstuvwxyz~")) (consK (kC (.bool true)) (nilK)))) (consK (bop dAdd (kV 1) (kC (.int 1))) (nilK))))) (nextS))
  (seqS (ifS (tst (bop dEq (bop dIx (kV 0) (kV 1)) (kC (.str "?")))) (retS (tupK (consK (tupK (consK (kC (.str "-.0123456789ABCDEFGHIJKLMNOPQRSTUVWXYZ_abcdefghijklmnopqrstuvwxyz~")) (consK (kC (.bool false)) (nilK)))) (consK (bop dAdd (kV 1) (kC (.int 1))) (nilK))))) (nextS))
  (seqS (ifS (tst (bop dEq (bop dIx (kV 0) (kV 1)) (kC (.str "[")))) (retS (callN 3 (f_read_set C_Pattern C_FolderkinError C_InvalidPattern gX) [] (consK (kV 0) (consK (kV 1) (consK (kV 2) (nilK)))))) (nextS))
  (seqS (ifS (tst (bop dNotIn (bop dIx (kV 0) (kV 1)) (kC (.str "-./0123456789ABCDEFGHIJKLMNOPQRSTUVWXYZ_abcdefghijklmnopqrstuvwxyz~")))) (raiseS C_InvalidPattern (bop dAdd (kV 2) (kV 1))) (nextS))
  (retS (tupK (consK (tupK (consK (bop dIx (kV 0) (kV 1)) (consK (kC (.bool false)) (nilK)))) (consK (bop dAdd (kV 1) (kC (.int 1))) (nilK)))))))))
def f_read_atom (C_Pattern C_FolderkinError C_InvalidPattern gX : Nat) : Fm := runP 3 3 (m_read_atom C_Pattern C_FolderkinError C_InvalidPattern gX)
def m_parse_line (C_Pattern C_FolderkinError C_InvalidPattern gX : Nat) : MS := seqS (asgS (newK (lstK (nilK))) (setv 2))
  (seqS (asgS (bop dEq (bop dIx (kV 0) (kC (.int 0))) (kC (.str "!"))) (setv 3))
  (seqS (asgS (b1K dInt (kV 3)) (setv 4))
  (seqS (ifS (tst (bop dEq (kV 4) (b1K dLen (kV 0)))) (raiseS C_InvalidPattern (bop dAdd (kV 1) (kV 4))) (nextS))
  (seqS (whileS (tst (bop dLt (kV 4) (b1K dLen (kV 0)))) (seqS (asgS (kV 4) (setv 5))
  (seqS (asgS (callN 3 (f_read_atom C_Pattern C_FolderkinError C_InvalidPattern gX) [] (consK (kV 0) (consK (kV 4) (consK (kV 1) (nilK))))) (tgTup 2 (tgCons (setv 6) (tgCons (setv 4) (tgNil)))))
  (seqS (ifS (orK (tst (bop dEq (b1K dLen (kV 2)) (kC (.int 40)))) (andK (tst (bop dIx (kV 6) (kC (.int 1)))) (andK (tst (bop dGt (b1K dLen (kV 2)) (kC (.int 0)))) (tst (bop dIx (bop dIx (kV 2) (negK (kC (.int 1)))) (kC (.int 1))))))) (raiseS C_InvalidPattern (bop dAdd (kV 1) (kV 5))) (nextS))
  (dropS (mutK muAppend (kV 2) (consK (kV 6) (nilK))))))))
  (frzS 2 (retS (frzK (mkK C_Pattern 2 (f_Pattern_init C_Pattern C_FolderkinError C_InvalidPattern gX) [] (consK (kV 2) (consK (kV 3) (nilK)))))))))))
def f_parse_line (C_Pattern C_FolderkinError C_InvalidPattern gX : Nat) : Fm := runP 2 7 (m_parse_line C_Pattern C_FolderkinError C_InvalidPattern gX)
def m_parse_patterns (C_Pattern C_FolderkinError C_InvalidPattern gX : Nat) : MS := seqS (asgS (newK (lstK (nilK))) (setv 1))
  (seqS (asgS (kC (.int 0)) (setv 2))
  (seqS (forS (listK (metK dSplit (kV 0) (consK (kC (.str "\n")) (nilK)))) (setv 3) (seqS (ifS (andK (tst (bop dNe (kV 3) (kC (.str "")))) (tst (bop dNe (bop dIx (kV 3) (kC (.int 0))) (kC (.str "#"))))) (seqS (ifS (tst (bop dEq (b1K dLen (kV 1)) (kC (.int 20)))) (raiseS C_InvalidPattern (kV 2)) (nextS))
  (dropS (mutK muAppend (kV 1) (consK (callN 2 (f_parse_line C_Pattern C_FolderkinError C_InvalidPattern gX) [] (consK (kV 3) (consK (kV 2) (nilK)))) (nilK))))) (nextS))
  (augS dIAdd 2 (bop dAdd (b1K dLen (kV 3)) (kC (.int 1))))))
  (retS (frzK (kV 1)))))
def f_parse_patterns (C_Pattern C_FolderkinError C_InvalidPattern gX : Nat) : Fm := runP 1 4 (m_parse_patterns C_Pattern C_FolderkinError C_InvalidPattern gX)
def m_law_draw (C_Pattern C_FolderkinError C_InvalidPattern gX : Nat) : MS := seqS (ifS (tst (bop dEq (bop dIx (kV 0) (kC (.int 1))) (kC (.int 0)))) (seqS (asgS (bop dIx (kV 0) (kC (.int 0))) (setv 4))
  (seqS (asgS (kC (.int 0)) (setv 5))
  (seqS (ifS (tst (bop dGt (b1K dLen (kV 1)) (kC (.int 0)))) (asgS (b1K dInt (bop dIx (kV 1) (bop dMod (kV 4) (b1K dLen (kV 1))))) (setv 5)) (nextS))
  (seqS (ifS (tst (bop dLt (kV 5) (kC (.int 0)))) (asgS (bop dSub (kC (.int 1)) (bop dMul (kC (.int 2)) (kV 5))) (setv 5)) (nextS))
  (seqS (ifS (andK (tst (bop dGe (kV 5) (bop dPow (kC (.int 10)) (kC (.int 18))))) (tst (bop dLt (kV 4) (b1K dLen (kV 1))))) (setiS (kV 5) (kV 0) (kC (.int 1))) (seqS (asgS (bop dMod (b1K dInt (bop dAdd (bop dAdd (bop dMul (kV 5) (kC (.int 69069))) (bop dMul (kV 4) (kC (.int 40503)))) (kC (.int 12345)))) (kC (.int 2147483629))) (setv 6))
  (setiS (bop dAdd (kC (.int 1)) (bop dMod (b1K dInt (bop dAdd (bop dMul (kV 6) (kC (.int 6364136223846793005))) (bop dMul (kV 4) (kC (.int 1442695040888963407))))) (kC (.int 2305843009213693951)))) (kV 0) (kC (.int 1)))))
  (setiS (bop dAdd (kV 4) (kC (.int 1))) (kV 0) (kC (.int 0)))))))) (nextS))
  (seqS (asgS (bop dMod (b1K dInt (bop dIx (kV 0) (kC (.int 1)))) (kV 2)) (setv 3))
  (seqS (setiS (bop dDiv (bop dIx (kV 0) (kC (.int 1))) (kV 2)) (kV 0) (kC (.int 1)))
  (retS (kV 3))))
def f_law_draw (C_Pattern C_FolderkinError C_InvalidPattern gX : Nat) : Fm := runP 3 7 (m_law_draw C_Pattern C_FolderkinError C_InvalidPattern gX)
def m_law_all (C_Pattern C_FolderkinError C_InvalidPattern gX : Nat) : MS := retS (kC (.str "-./0123456789ABCDEFGHIJKLMNOPQRSTUVWXYZ_abcdefghijklmnopqrstuvwxyz~"))
def f_law_all (C_Pattern C_FolderkinError C_InvalidPattern gX : Nat) : Fm := runP 0 0 (m_law_all C_Pattern C_FolderkinError C_InvalidPattern gX)
def m_law_told (C_Pattern C_FolderkinError C_InvalidPattern gX : Nat) : MS := retS (andV (tst (isiK "bool" (kV 0))) (bop dEq (kV 0) (kV 1)))
def f_law_told (C_Pattern C_FolderkinError C_InvalidPattern gX : Nat) : Fm := runP 2 2 (m_law_told C_Pattern C_FolderkinError C_InvalidPattern gX)
def m_law_same (C_Pattern C_FolderkinError C_InvalidPattern gX : Nat) : MS := seqS (ifS (orK (notK (tst (isiK "list" (kV 0)))) (tst (bop dNe (b1K dLen (kV 0)) (b1K dLen (kV 1))))) (retS (kC (.bool false))) (nextS))
  (seqS (forS (rangeK1 (consK (b1K dLen (kV 1)) (nilK))) (setv 2) (seqS (asgS (bop dIx (kV 0) (kV 2)) (setv 3))
  (ifS (orK (notK (tst (isiCK C_Pattern (kV 3)))) (orK (tst (bop dNe (fldK C_Pattern "atoms" (kV 3)) (b1K dTuple (bop dIx (bop dIx (kV 1) (kV 2)) (kC (.int 0)))))) (notK (tst (callN 2 (f_law_told C_Pattern C_FolderkinError C_InvalidPattern gX) [] (consK (fldK C_Pattern "negated" (kV 3)) (consK (bop dIx (bop dIx (kV 1) (kV 2)) (kC (.int 1))) (nilK)))))))) (retS (kC (.bool false))) (nextS))))
  (retS (kC (.bool true))))
def f_law_same (C_Pattern C_FolderkinError C_InvalidPattern gX : Nat) : Fm := runP 2 4 (m_law_same C_Pattern C_FolderkinError C_InvalidPattern gX)
def m_law_set (C_Pattern C_FolderkinError C_InvalidPattern gX : Nat) : MS := seqS (asgS (bop dIx (metK dSplit (cutK (kV 0) (psome (bop dAdd (kV 1) (kC (.int 1)))) (pnone)) (consK (kC (.str "]")) (nilK))) (kC (.int 0))) (setv 2))
  (seqS (asgS (bop dAdd (bop dAdd (kV 1) (kC (.int 1))) (b1K dLen (kV 2))) (setv 3))
  (seqS (ifS (tst (bop dEq (kV 3) (b1K dLen (kV 0)))) (retS (kV 1)) (nextS))
  (seqS (asgS (bop dAdd (kV 1) (kC (.int 1))) (setv 4))
  (seqS (asgS (bop dEq (cutK (kV 2) (pnone) (psome (kC (.int 1)))) (kC (.str "!"))) (setv 5))
  (seqS (ifS (tst (kV 5)) (asgS (bop dAdd (kV 4) (kC (.int 1))) (setv 4)) (nextS))
  (seqS (asgS (kC (.str "")) (setv 6))
  (seqS (asgS (kV 4) (setv 7))
  (seqS (ifS (tst (bop dEq (bop dIx (kV 0) (kV 7)) (kC (.str "-")))) (seqS (asgS (kC (.str "-")) (setv 6))
  (asgS (bop dAdd (kV 7) (kC (.int 1))) (setv 7))) (nextS))
  (seqS (forS (rangeK1 (consK (b1K dLen (kV 2)) (nilK))) (setv 8) (ifS (tst (bop dLt (kV 7) (kV 3))) (seqS (asgS (bop dIx (kV 0) (kV 7)) (setv 9))
  (seqS (ifS (orK (tst (bop dEq (kV 9) (kC (.str "-")))) (tst (bop dNotIn (kV 9) (callN 0 (f_law_all C_Pattern C_FolderkinError C_InvalidPattern gX) [] nilK)))) (retS (kV 7)) (nextS))
  (seqS (asgS (kV 9) (setv 10))
  (seqS (ifS (tst (bop dEq (bop dIx (kV 0) (bop dAdd (kV 7) (kC (.int 1)))) (kC (.str "-")))) (seqS (asgS (bop dAdd (kV 7) (kC (.int 2))) (setv 7))
  (seqS (asgS (bop dIx (kV 0) (kV 7)) (setv 10))
  (ifS (orK (tst (bop dNotIn (kV 10) (callN 0 (f_law_all C_Pattern C_FolderkinError C_InvalidPattern gX) [] nilK))) (tst (bop dLe (kV 10) (kV 9)))) (retS (kV 7)) (nextS)))) (nextS))
  (seqS (asgS (bop dAdd (kV 6) (metK dJoin (kC (.str "")) (consK (lcK [11] (strK (callN 0 (f_law_all C_Pattern C_FolderkinError C_InvalidPattern gX) [] nilK)) (setv 11) (tst (chainK dLe dLe (kV 9) (kV 11) (kV 10))) (kV 11)) (nilK)))) (setv 6))
  (asgS (bop dAdd (kV 7) (kC (.int 1))) (setv 7))))))) (nextS)))
  (seqS (ifS (tst (kV 5)) (asgS (metK dJoin (kC (.str "")) (consK (lcK [11] (strK (callN 0 (f_law_all C_Pattern C_FolderkinError C_InvalidPattern gX) [] nilK)) (setv 11) (tst (bop dNotIn (kV 11) (bop dAdd (kV 6) (kC (.str "/"))))) (kV 11)) (nilK))) (setv 6)) (nextS))
  (seqS (ifS (tst (bop dEq (kV 6) (kC (.str "")))) (retS (kV 1)) (nextS))
  (retS (tupK (consK (tupK (consK (metK dJoin (kC (.str "")) (consK (lcK [11] (strK (callN 0 (f_law_all C_Pattern C_FolderkinError C_InvalidPattern gX) [] nilK)) (setv 11) (tst (bop dIn (kV 11) (kV 6))) (kV 11)) (nilK))) (consK (kC (.bool false)) (nilK)))) (consK (bop dAdd (kV 3) (kC (.int 1))) (nilK))))))))))))))))
def f_law_set (C_Pattern C_FolderkinError C_InvalidPattern gX : Nat) : Fm := runP 2 12 (m_law_set C_Pattern C_FolderkinError C_InvalidPattern gX)
def m_law_read (C_Pattern C_FolderkinError C_InvalidPattern gX : Nat) : MS := seqS (asgS (metK dJoin (kC (.str "")) (consK (lcK [3] (strK (callN 0 (f_law_all C_Pattern C_FolderkinError C_InvalidPattern gX) [] nilK)) (setv 3) (tst (bop dNe (kV 3) (kC (.str "/")))) (kV 3)) (nilK))) (setv 2))
  (seqS (ifS (tst (bop dEq (cutK (kV 0) (psome (kV 1)) (psome (bop dAdd (kV 1) (kC (.int 2))))) (kC (.str "**")))) (retS (tupK (consK (tupK (consK (callN 0 (f_law_all C_Pattern C_FolderkinError C_InvalidPattern gX) [] nilK) (consK (kC (.bool true)) (nilK)))) (consK (bop dAdd (kV 1) (kC (.int 2))) (nilK))))) (nextS))
  (seqS (ifS (tst (bop dEq (bop dIx (kV 0) (kV 1)) (kC (.str "[")))) (retS (callN 2 (f_law_set C_Pattern C_FolderkinError C_InvalidPattern gX) [] (consK (kV 0) (consK (kV 1) (nilK))))) (nextS))
  (seqS (ifS (orK (tst (bop dEq (bop dIx (kV 0) (kV 1)) (kC (.str "*")))) (tst (bop dEq (bop dIx (kV 0) (kV 1)) (kC (.str "?"))))) (retS (tupK (consK (tupK (consK (kV 2) (consK (bop dEq (bop dIx (kV 0) (kV 1)) (kC (.str "*"))) (nilK)))) (consK (bop dAdd (kV 1) (kC (.int 1))) (nilK))))) (nextS))
  (seqS (ifS (tst (bop dIn (bop dIx (kV 0) (kV 1)) (callN 0 (f_law_all C_Pattern C_FolderkinError C_InvalidPattern gX) [] nilK))) (retS (tupK (consK (tupK (consK (bop dIx (kV 0) (kV 1)) (consK (kC (.bool false)) (nilK)))) (consK (bop dAdd (kV 1) (kC (.int 1))) (nilK))))) (nextS))
  (retS (kV 1))))))
def f_law_read (C_Pattern C_FolderkinError C_InvalidPattern gX : Nat) : Fm := runP 2 4 (m_law_read C_Pattern C_FolderkinError C_InvalidPattern gX)
def m_law_line (C_Pattern C_FolderkinError C_InvalidPattern gX : Nat) : MS := seqS (asgS (newK (lstK (nilK))) (setv 1))
  (seqS (asgS (bop dEq (bop dIx (kV 0) (kC (.int 0))) (kC (.str "!"))) (setv 2))
  (seqS (asgS (b1K dInt (kV 2)) (setv 3))
  (seqS (ifS (tst (bop dEq (kV 0) (kC (.str "!")))) (retS (kC (.int 1))) (nextS))
  (seqS (forS (rangeK1 (consK (b1K dLen (kV 0)) (nilK))) (setv 4) (ifS (tst (bop dLt (kV 3) (b1K dLen (kV 0)))) (seqS (asgS (callN 2 (f_law_read C_Pattern C_FolderkinError C_InvalidPattern gX) [] (consK (kV 0) (consK (kV 3) (nilK)))) (setv 5))
  (seqS (ifS (tst (isiK "int" (kV 5))) (retS (kV 5)) (nextS))
  (seqS (ifS (orK (tst (bop dEq (b1K dLen (kV 1)) (kC (.int 40)))) (andK (tst (bop dIx (bop dIx (kV 5) (kC (.int 0))) (kC (.int 1)))) (andK (tst (bop dGt (b1K dLen (kV 1)) (kC (.int 0)))) (tst (bop dIx (bop dIx (kV 1) (negK (kC (.int 1)))) (kC (.int 1))))))) (retS (kV 3)) (nextS))
  (seqS (dropS (mutK muAppend (kV 1) (consK (bop dIx (kV 5) (kC (.int 0))) (nilK))))
  (asgS (bop dIx (kV 5) (kC (.int 1))) (setv 3)))))) (nextS)))
  (frzS 1 (retS (tupK (consK (kV 1) (consK (kV 2) (nilK))))))))))
def f_law_line (C_Pattern C_FolderkinError C_InvalidPattern gX : Nat) : Fm := runP 1 6 (m_law_line C_Pattern C_FolderkinError C_InvalidPattern gX)
def m_law_due (C_Pattern C_FolderkinError C_InvalidPattern gX : Nat) : MS := seqS (asgS (newK (lstK (nilK))) (setv 1))
  (seqS (asgS (kC (.int 0)) (setv 2))
  (seqS (forS (listK (metK dSplit (kV 0) (consK (kC (.str "\n")) (nilK)))) (setv 3) (seqS (ifS (andK (tst (bop dNe (kV 3) (kC (.str "")))) (tst (bop dNe (bop dIx (kV 3) (kC (.int 0))) (kC (.str "#"))))) (seqS (ifS (tst (bop dEq (b1K dLen (kV 1)) (kC (.int 20)))) (retS (kV 2)) (nextS))
  (seqS (asgS (callN 1 (f_law_line C_Pattern C_FolderkinError C_InvalidPattern gX) [] (consK (kV 3) (nilK))) (setv 4))
  (seqS (ifS (tst (isiK "int" (kV 4))) (retS (bop dAdd (kV 2) (kV 4))) (nextS))
  (dropS (mutK muAppend (kV 1) (consK (kV 4) (nilK))))))) (nextS))
  (asgS (bop dAdd (bop dAdd (kV 2) (b1K dLen (kV 3))) (kC (.int 1))) (setv 2))))
  (retS (frzK (kV 1)))))
def f_law_due (C_Pattern C_FolderkinError C_InvalidPattern gX : Nat) : Fm := runP 1 5 (m_law_due C_Pattern C_FolderkinError C_InvalidPattern gX)
def m_law_text (C_Pattern C_FolderkinError C_InvalidPattern gX : Nat) : MS := seqS (asgS (lstK (consK (kC (.str "*")) (consK (kC (.str "**")) (consK (kC (.str "?")) (consK (kC (.str "[")) (consK (kC (.str "]")) (consK (kC (.str "!")) (consK (kC (.str "-")) (consK (kC (.str "a")) (consK (kC (.str "b")) (consK (kC (.str "~")) (consK (kC (.str "/")) (consK (kC (.str "A-")) (consK (kC (.str "a-c")) (consK (kC (.str "c-a")) (consK (kC (.str "[a-c]")) (consK (kC (.str "[!-x]")) (consK (kC (.str "[!")) (consK (kC (.str "#")) (consK (kC (.str " ")) (nilK))))))))))))))))))))) (setv 2))
  (seqS (asgS (bop dAdd (kV 2) (lstK (consK (kC (.str "[-")) (consK (kC (.str "\n")) (consK (kC (.str "\n")) (consK (kC (.str "[.-9]")) (consK (kC (.str "[!-.0-~]")) (consK (kC (.str "[]")) (consK (kC (.str "[!]")) (consK (kC (.str "Z")) (consK (kC (.str "7")) (consK (kC (.str "[ab")) (consK (kC (.str "x]")) (consK (kC (.str "^")) (consK (kC (.str "{")) (consK (kC (.str "\n#")) (consK (kC (.str "\n!")) (consK (kC (.str "_")) (nilK))))))))))))))))))) (setv 2))
  (seqS (asgS (kC (.str "")) (setv 3))
  (seqS (forS (rangeK1 (consK (callN 3 (f_law_draw C_Pattern C_FolderkinError C_InvalidPattern gX) [] (consK (kV 0) (consK (kV 1) (consK (kC (.int 25)) (nilK))))) (nilK))) (setv 4) (asgS (bop dAdd (kV 3) (bop dIx (kV 2) (callN 3 (f_law_draw C_Pattern C_FolderkinError C_InvalidPattern gX) [] (consK (kV 0) (consK (kV 1) (consK (b1K dLen (kV 2)) (nilK))))))) (setv 3)))
  (seqS (asgS (callN 3 (f_law_draw C_Pattern C_FolderkinError C_InvalidPattern gX) [] (consK (kV 0) (consK (kV 1) (consK (kC (.int 10)) (nilK))))) (setv 5))
  (seqS (ifS (tst (bop dEq (kV 5) (kC (.int 0)))) (asgS (bop dAdd (bop dAdd (bop dRepS (kC (.str "[ab]")) (callN 3 (f_law_draw C_Pattern C_FolderkinError C_InvalidPattern gX) [] (consK (kV 0) (consK (kV 1) (consK (kC (.int 3)) (nilK)))))) (bop dRepS (kC (.str "a")) (bop dAdd (kC (.int 38)) (callN 3 (f_law_draw C_Pattern C_FolderkinError C_InvalidPattern gX) [] (consK (kV 0) (consK (kV 1) (consK (kC (.int 5)) (nilK)))))))) (kV 3)) (setv 3)) (nextS))
  (seqS (ifS (tst (bop dEq (kV 5) (kC (.int 1)))) (asgS (bop dAdd (bop dRepS (kC (.str "a*\n")) (bop dAdd (kC (.int 18)) (callN 3 (f_law_draw C_Pattern C_FolderkinError C_InvalidPattern gX) [] (consK (kV 0) (consK (kV 1) (consK (kC (.int 5)) (nilK))))))) (kV 3)) (setv 3)) (nextS))
  (retS (kV 3))))))))
def f_law_text (C_Pattern C_FolderkinError C_InvalidPattern gX : Nat) : Fm := runP 2 6 (m_law_text C_Pattern C_FolderkinError C_InvalidPattern gX)
def m_law_told_of (C_Pattern C_FolderkinError C_InvalidPattern gX : Nat) : MS := tryA 1 (exm_InvalidPattern C_Pattern C_FolderkinError C_InvalidPattern gX) (retS (callN 1 (f_parse_patterns C_Pattern C_FolderkinError C_InvalidPattern gX) [] (consK (kV 0) (nilK)))) (fun a dx C => seqS (ifS (orK (notK (tst (kXi 1 (isX C_Pattern C_FolderkinError C_InvalidPattern gX) (xi_FolderkinError C_Pattern C_FolderkinError C_InvalidPattern gX) a dx C))) (notK (tst (kXi 1 (isX C_Pattern C_FolderkinError C_InvalidPattern gX) (xi_ValueError C_Pattern C_FolderkinError C_InvalidPattern gX) a dx C)))) (retS (kC .none)) (nextS))
  (retS (kXf 1 "place" (isX C_Pattern C_FolderkinError C_InvalidPattern gX) a dx C)))
def f_law_told_of (C_Pattern C_FolderkinError C_InvalidPattern gX : Nat) : Fm := runP 1 2 (m_law_told_of C_Pattern C_FolderkinError C_InvalidPattern gX)
def m_law (C_Pattern C_FolderkinError C_InvalidPattern gX : Nat) : MS := seqS (asgS (newK (lstK (consK (kC (.int 0)) (consK (kC (.int 0)) (nilK))))) (setv 1))
  (seqS (asgS (callN 2 (f_law_text C_Pattern C_FolderkinError C_InvalidPattern gX) [] (consK (kV 1) (consK (kV 0) (nilK)))) (setv 2))
  (seqS (asgS (callN 1 (f_law_due C_Pattern C_FolderkinError C_InvalidPattern gX) [] (consK (kV 2) (nilK))) (setv 3))
  (seqS (asgS (callN 1 (f_law_told_of C_Pattern C_FolderkinError C_InvalidPattern gX) [] (consK (kV 2) (nilK))) (setv 4))
  (seqS (ifS (tst (isiK "int" (kV 3))) (retS (andV (tst (isiK "int" (kV 4))) (andV (tst (valK (notK (tst (isiK "bool" (kV 4)))))) (bop dEq (kV 4) (kV 3))))) (nextS))
  (seqS (ifS (notK (tst (callN 2 (f_law_same C_Pattern C_FolderkinError C_InvalidPattern gX) [] (consK (kV 4) (consK (kV 3) (nilK)))))) (retS (kC (.bool false))) (nextS))
  (retS (andV (tst (callN 2 (f_law_same C_Pattern C_FolderkinError C_InvalidPattern gX) [] (consK (callN 1 (f_parse_patterns C_Pattern C_FolderkinError C_InvalidPattern gX) [] (consK (callN 1 (f_format_patterns C_Pattern C_FolderkinError C_InvalidPattern gX) [] (consK (kV 4) (nilK))) (nilK))) (consK (kV 3) (nilK))))) (callN 2 (f_law_same C_Pattern C_FolderkinError C_InvalidPattern gX) [] (consK (callN 1 (f_law_told_of C_Pattern C_FolderkinError C_InvalidPattern gX) [] (consK (kV 2) (nilK))) (consK (kV 3) (nilK)))))))))))
def f_law (C_Pattern C_FolderkinError C_InvalidPattern gX : Nat) : Fm := runF 1 5 (m_law C_Pattern C_FolderkinError C_InvalidPattern gX)
end K42
namespace K42
open PySem L2 Hz
def top (i : Nat) : Stmt := PySem.Challenge.pw_folderkin_k42_any_text_as_patterns.main.body.getD i (.Pass ⟨0, 0, 0, 0⟩)
def inC (s : Stmt) (j : Nat) : Stmt := match s with
  | .ClassDef (body := b) .. => b.getD j (.Pass ⟨0, 0, 0, 0⟩)
  | s => s
abbrev s_Pattern_init : Stmt := inC (top 10) 0
abbrev s_ranges_of : Stmt := top 11
abbrev s_format_atom : Stmt := top 12
abbrev s_format_pattern : Stmt := top 13
abbrev s_format_patterns : Stmt := top 14
abbrev s_read_items : Stmt := top 15
abbrev s_read_set : Stmt := top 16
abbrev s_read_atom : Stmt := top 17
abbrev s_parse_line : Stmt := top 18
abbrev s_parse_patterns : Stmt := top 19
abbrev s_law_draw : Stmt := top 21
abbrev s_law_all : Stmt := top 22
abbrev s_law_told : Stmt := top 23
abbrev s_law_same : Stmt := top 24
abbrev s_law_set : Stmt := top 25
abbrev s_law_read : Stmt := top 26
abbrev s_law_line : Stmt := top 27
abbrev s_law_due : Stmt := top 28
abbrev s_law_text : Stmt := top 29
abbrev s_law_told_of : Stmt := top 30
abbrev s_law : Stmt := top 31
abbrev s_X : Stmt := inC (top 1) 0
theorem form_X : InitForm s_X := ⟨⟨_, _, _, _, _, _, _, _, _, _, _, rfl, by intros; rfl, by intros; rfl, by intros; rfl⟩, ⟨rfl, rfl, rfl, rfl⟩, rfl, rfl, rfl, by decide +kernel, by decide +kernel, rfl, fun _ _ _ _ _ _ _ _ us hl => match us, hl with | [_, _], _ => rfl⟩
theorem sc_Pattern_init : FnScope ["self", "atoms", "negated"] ["self", "atoms", "negated"] (defScope s_Pattern_init) := ⟨rfl, rfl, rfl, by decide +kernel, rfl, by decide +kernel, by decide +kernel⟩
theorem sc_ranges_of : FnScope ["characters", "text", "at", "size"] ["characters"] (defScope s_ranges_of) := ⟨rfl, rfl, rfl, by decide +kernel, rfl, by decide +kernel, by decide +kernel⟩
theorem sc_format_atom : FnScope ["atom", "characters", "repeats", "char"] ["atom"] (defScope s_format_atom) := ⟨rfl, rfl, rfl, by decide +kernel, rfl, by decide +kernel, by decide +kernel⟩
theorem sc_format_pattern : FnScope ["pattern", "text", "atom"] ["pattern"] (defScope s_format_pattern) := ⟨rfl, rfl, rfl, by decide +kernel, rfl, by decide +kernel, by decide +kernel⟩
theorem sc_format_patterns : FnScope ["patterns", "pattern"] ["patterns"] (defScope s_format_patterns) := ⟨rfl, rfl, rfl, by decide +kernel, rfl, by decide +kernel, by decide +kernel⟩
theorem sc_read_items : FnScope ["line", "at", "stop", "start", "chosen", "low", "high"] ["line", "at", "stop", "start"] (defScope s_read_items) := ⟨rfl, rfl, rfl, by decide +kernel, rfl, by decide +kernel, by decide +kernel⟩
theorem sc_read_set : FnScope ["line", "at", "start", "stop", "negated", "chosen", "characters", "char"] ["line", "at", "start"] (defScope s_read_set) := ⟨rfl, rfl, rfl, by decide +kernel, rfl, by decide +kernel, by decide +kernel⟩
theorem sc_read_atom : FnScope ["line", "at", "start"] ["line", "at", "start"] (defScope s_read_atom) := ⟨rfl, rfl, rfl, by decide +kernel, rfl, by decide +kernel, by decide +kernel⟩
theorem sc_parse_line : FnScope ["line", "start", "atoms", "negated", "at", "begin", "atom"] ["line", "start"] (defScope s_parse_line) := ⟨rfl, rfl, rfl, by decide +kernel, rfl, by decide +kernel, by decide +kernel⟩
theorem sc_parse_patterns : FnScope ["text", "patterns", "start", "line"] ["text"] (defScope s_parse_patterns) := ⟨rfl, rfl, rfl, by decide +kernel, rfl, by decide +kernel, by decide +kernel⟩
theorem sc_law_draw : FnScope ["_law_state", "_law_script", "_law_size", "_law_digit", "_law_at", "_law_cell", "_law_first"] ["_law_state", "_law_script", "_law_size"] (defScope s_law_draw) := ⟨rfl, rfl, rfl, by decide +kernel, rfl, by decide +kernel, by decide +kernel⟩
theorem sc_law_all : FnScope [] [] (defScope s_law_all) := ⟨rfl, rfl, rfl, by decide +kernel, rfl, by decide +kernel, by decide +kernel⟩
theorem sc_law_told : FnScope ["_law_actual", "_law_due_here"] ["_law_actual", "_law_due_here"] (defScope s_law_told) := ⟨rfl, rfl, rfl, by decide +kernel, rfl, by decide +kernel, by decide +kernel⟩
theorem sc_law_same : FnScope ["_law_patterns", "_law_rows", "_law_k", "_law_one"] ["_law_patterns", "_law_rows"] (defScope s_law_same) := ⟨rfl, rfl, rfl, by decide +kernel, rfl, by decide +kernel, by decide +kernel⟩
theorem sc_law_set : FnScope ["_law_line_here", "_law_start", "_law_body", "_law_stop", "_law_first", "_law_negated", "_law_chosen", "_law_at", "_law_turn", "_law_low", "_law_high", "_law_char"] ["_law_line_here", "_law_start"] (defScope s_law_set) := ⟨rfl, rfl, rfl, by decide +kernel, rfl, by decide +kernel, by decide +kernel⟩
theorem sc_law_read : FnScope ["_law_line_here", "_law_at", "_law_plain", "_law_char"] ["_law_line_here", "_law_at"] (defScope s_law_read) := ⟨rfl, rfl, rfl, by decide +kernel, rfl, by decide +kernel, by decide +kernel⟩
theorem sc_law_line : FnScope ["_law_line_here", "_law_atoms", "_law_negated", "_law_at", "_law_turn", "_law_told_here"] ["_law_line_here"] (defScope s_law_line) := ⟨rfl, rfl, rfl, by decide +kernel, rfl, by decide +kernel, by decide +kernel⟩
theorem sc_law_due : FnScope ["_law_text_here", "_law_rows", "_law_start", "_law_line_here", "_law_told_here"] ["_law_text_here"] (defScope s_law_due) := ⟨rfl, rfl, rfl, by decide +kernel, rfl, by decide +kernel, by decide +kernel⟩
theorem sc_law_text : FnScope ["_law_state", "_law_script", "_law_pieces", "_law_text_here", "_law_k", "_law_kind"] ["_law_state", "_law_script"] (defScope s_law_text) := ⟨rfl, rfl, rfl, by decide +kernel, rfl, by decide +kernel, by decide +kernel⟩
theorem sc_law_told_of : FnScope ["_law_text_here", "error"] ["_law_text_here"] (defScope s_law_told_of) := ⟨rfl, rfl, rfl, by decide +kernel, rfl, by decide +kernel, by decide +kernel⟩
theorem sc_law : FnScope ["_law_script", "_law_state", "_law_text_here", "_law_due_here", "_law_found"] ["_law_script"] (defScope s_law) := ⟨rfl, rfl, rfl, by decide +kernel, rfl, by decide +kernel, by decide +kernel⟩
structure Facts (c : C0) (C_Pattern C_FolderkinError C_InvalidPattern gX : Nat) : Prop where
  b_ValueError : c.mg "ValueError" = none
  b_bool : c.mg "bool" = none
  b_int : c.mg "int" = none
  b_isinstance : c.mg "isinstance" = none
  b_len : c.mg "len" = none
  b_list : c.mg "list" = none
  b_range : c.mg "range" = none
  b_tuple : c.mg "tuple" = none
  k_PLAIN : ∃ t, c.mg "PLAIN" = some (.str "-.0123456789ABCDEFGHIJKLMNOPQRSTUVWXYZ_abcdefghijklmnopqrstuvwxyz~" t)
  k_LONGEST_SET : ∃ t, c.mg "LONGEST_SET" = some (.int 33 t)
  k_CHARACTERS : ∃ t, c.mg "CHARACTERS" = some (.str "-./0123456789ABCDEFGHIJKLMNOPQRSTUVWXYZ_abcdefghijklmnopqrstuvwxyz~" t)
  k_LEAST_RANGE : ∃ t, c.mg "LEAST_RANGE" = some (.int 3 t)
  k_MOST_PATTERNS : ∃ t, c.mg "MOST_PATTERNS" = some (.int 20 t)
  k_MOST_ATOMS : ∃ t, c.mg "MOST_ATOMS" = some (.int 40 t)
  cl_Pattern : ClsD c "Pattern" C_Pattern
  na_Pattern_atoms : NoAttr c.K C_Pattern "atoms"
  na_Pattern_negated : NoAttr c.K C_Pattern "negated"
  x_FolderkinError : ExD c C_FolderkinError gX "FolderkinError" C_FolderkinError
  x_InvalidPattern : ExD c C_FolderkinError gX "InvalidPattern" C_InvalidPattern
  em_InvalidPattern_InvalidPattern : PySem.W.exmOne c.K (.ref C_InvalidPattern) (.ref C_InvalidPattern) = some true
  ki_InvalidPattern_FolderkinError : PySem.W.kitOne c.K (.ref C_InvalidPattern) (.ref C_FolderkinError) = some true
  ki_InvalidPattern_ValueError : PySem.W.kitOne c.K (.ref C_InvalidPattern) (.type "ValueError") = some true
  a_Pattern_init : InAt c C_Pattern "Pattern" "Pattern.__init__" s_Pattern_init ["self", "atoms", "negated"] [V.bl false] []
  a_ranges_of : At c "ranges_of" s_ranges_of ["characters"] [] []
  a_format_atom : At c "format_atom" s_format_atom ["atom"] [] []
  a_format_pattern : At c "format_pattern" s_format_pattern ["pattern"] [] []
  a_format_patterns : At c "format_patterns" s_format_patterns ["patterns"] [] []
  a_read_items : At c "read_items" s_read_items ["line", "at", "stop", "start"] [] []
  a_read_set : At c "read_set" s_read_set ["line", "at", "start"] [] []
  a_read_atom : At c "read_atom" s_read_atom ["line", "at", "start"] [] []
  a_parse_line : At c "parse_line" s_parse_line ["line", "start"] [] []
  a_parse_patterns : At c "parse_patterns" s_parse_patterns ["text"] [] []
  a_law_draw : At c "_law_draw" s_law_draw ["_law_state", "_law_script", "_law_size"] [] []
  a_law_all : At c "_law_all" s_law_all [] [] []
  a_law_told : At c "_law_told" s_law_told ["_law_actual", "_law_due_here"] [] []
  a_law_same : At c "_law_same" s_law_same ["_law_patterns", "_law_rows"] [] []
  a_law_set : At c "_law_set" s_law_set ["_law_line_here", "_law_start"] [] []
  a_law_read : At c "_law_read" s_law_read ["_law_line_here", "_law_at"] [] []
  a_law_line : At c "_law_line" s_law_line ["_law_line_here"] [] []
  a_law_due : At c "_law_due" s_law_due ["_law_text_here"] [] []
  a_law_text : At c "_law_text" s_law_text ["_law_state", "_law_script"] [] []
  a_law_told_of : At c "_law_told_of" s_law_told_of ["_law_text_here"] [] []
  a_law : At c "law" s_law ["_law_script"] [] []
section
variable {c : C0} {C_Pattern C_FolderkinError C_InvalidPattern gX : Nat}
theorem isX_ok (T : Facts c C_Pattern C_FolderkinError C_InvalidPattern gX) : ∀ C, isX C_Pattern C_FolderkinError C_InvalidPattern gX C = true → ExC c.K C_FolderkinError gX C := fun C h => by
  unfold isX at h
  simp at h
  subst h
  exact T.x_InvalidPattern.e
theorem isX_np (T : Facts c C_Pattern C_FolderkinError C_InvalidPattern gX) : ∀ C, isX C_Pattern C_FolderkinError C_InvalidPattern gX C = true → PySem.W.findIn c.K (.ref C) "place" = some none := fun C h => (isX_ok (c := c) T C h).np
theorem exm_InvalidPattern_ok (T : Facts c C_Pattern C_FolderkinError C_InvalidPattern gX) : ExM c C_InvalidPattern (exm_InvalidPattern C_Pattern C_FolderkinError C_InvalidPattern gX) := fun C b h => by
  unfold exm_InvalidPattern at h
  split at h
  · rename_i e
    subst e
    cases h
    exact T.em_InvalidPattern_InvalidPattern
  cases h
theorem xi_FolderkinError_ok (T : Facts c C_Pattern C_FolderkinError C_InvalidPattern gX) : ∀ C b, xi_FolderkinError C_Pattern C_FolderkinError C_InvalidPattern gX C = some b → PySem.W.kitOne c.K (.ref C) (.ref C_FolderkinError) = some b := fun C b h => by
  unfold xi_FolderkinError at h
  split at h
  · rename_i e
    subst e
    cases h
    exact T.ki_InvalidPattern_FolderkinError
  cases h
theorem xi_ValueError_ok (T : Facts c C_Pattern C_FolderkinError C_InvalidPattern gX) : ∀ C b, xi_ValueError C_Pattern C_FolderkinError C_InvalidPattern gX C = some b → PySem.W.kitOne c.K (.ref C) (.type "ValueError") = some b := fun C b h => by
  unfold xi_ValueError at h
  split at h
  · rename_i e
    subst e
    cases h
    exact T.ki_InvalidPattern_ValueError
  cases h
theorem jb_Pattern_init (T : Facts c C_Pattern C_FolderkinError C_InvalidPattern gX) : JB (c.at_ 0) ["self", "atoms", "negated"] (defScope s_Pattern_init) (defBody s_Pattern_init) (m_Pattern_init C_Pattern C_FolderkinError C_InvalidPattern gX) :=
  jb_cons (js_seta T.cl_Pattern.cl T.na_Pattern_atoms (je_t1 c_tuple rfl T.b_tuple (by decide +kernel) (v_ 1)) (v_ 0))
    (jb_one (js_seta T.cl_Pattern.cl T.na_Pattern_negated (v_ 2) (v_ 0)))
theorem P_Pattern_init (T : Facts c C_Pattern C_FolderkinError C_InvalidPattern gX) : PrI c 1 C_Pattern "Pattern" ["self", "atoms", "negated"] [V.bl false] [] (f_Pattern_init C_Pattern C_FolderkinError C_InvalidPattern gX) := T.a_Pattern_init.run sc_Pattern_init (jb_Pattern_init T)
theorem jb_ranges_of (T : Facts c C_Pattern C_FolderkinError C_InvalidPattern gX) : JB (c.at_ 0) ["characters", "text", "at", "size"] (defScope s_ranges_of) (defBody s_ranges_of) (m_ranges_of C_Pattern C_FolderkinError C_InvalidPattern gX) :=
  jb_cons (set_ 1 sc_ranges_of.nd (ce_str))
    (jb_cons (set_ 2 sc_ranges_of.nd (ce_int))
    (jb_cons (js_while (jt_cmp o_lt (v_ 2) (je_b1 c_len rfl T.b_len (by decide +kernel) (v_ 0))) (jb_cons (set_ 3 sc_ranges_of.nd (ce_int))
    (jb_cons (js_if (jt_cmp o_ne (je_ix o_ix (v_ 0) (v_ 2)) (ce_str)) (jb_one (js_while (jt_w (jw_and (jt_cmp o_lt (ce_op o_add (v_ 2) (v_ 3)) (je_b1 c_len rfl T.b_len (by decide +kernel) (v_ 0))) (jw_and1 (jt_cmp o_inT (je_cut (v_ 0) (jp_some (v_ 2)) (jp_some (ce_op o_add (ce_op o_add (v_ 2) (v_ 3)) (ce_int)))) (g_str (hm := T.k_CHARACTERS)))))) (jb_one (js_aug (i := 3) sc_ranges_of.nd o_iadd (ce_int))))) (jb_nil))
    (jb_cons (js_if (jt_cmp o_lt (v_ 3) (g_int (hm := T.k_LEAST_RANGE))) (jb_one (js_aug (i := 1) sc_ranges_of.nd o_iadd (je_cut (v_ 0) (jp_some (v_ 2)) (jp_some (ce_op o_add (v_ 2) (v_ 3)))))) (jb_one (js_aug (i := 1) sc_ranges_of.nd o_iadd (ce_op o_add (ce_op o_add (je_ix o_ix (v_ 0) (v_ 2)) (ce_str)) (je_ix o_ix (v_ 0) (ce_op o_sub (ce_op o_add (v_ 2) (v_ 3)) (ce_int)))))))
    (jb_one (js_aug (i := 2) sc_ranges_of.nd o_iadd (v_ 3)))))))
    (jb_one (js_ret (v_ 1)))))
theorem P_ranges_of (T : Facts c C_Pattern C_FolderkinError C_InvalidPattern gX) : PrF c 1 "ranges_of" ["characters"] [] [] (f_ranges_of C_Pattern C_FolderkinError C_InvalidPattern gX) := T.a_ranges_of.runP sc_ranges_of (jb_ranges_of T)
theorem jb_format_atom (T : Facts c C_Pattern C_FolderkinError C_InvalidPattern gX) : JB (c.at_ 1) ["atom", "characters", "repeats", "char"] (defScope s_format_atom) (defBody s_format_atom) (m_format_atom C_Pattern C_FolderkinError C_InvalidPattern gX) :=
  jb_cons (js_asg (v_ 0) (jtg_tup (jtgs_cons (tg_ 1 sc_format_atom.nd) (jtgs_cons (tg_ 2 sc_format_atom.nd) (jtgs_nil)))))
    (jb_cons (js_if (jt_val (v_ 2)) (jb_one (js_ret (je_if (jt_cmp o_eq (v_ 1) (g_str (hm := T.k_CHARACTERS))) (ce_str) (ce_str)))) (jb_nil))
    (jb_cons (js_if (jt_cmp o_eq (v_ 1) (g_str (hm := T.k_PLAIN))) (jb_one (js_ret (ce_str))) (jb_nil))
    (jb_cons (js_if (jt_cmp o_eq (je_b1 c_len rfl T.b_len (by decide +kernel) (v_ 1)) (ce_int)) (jb_one (js_ret (v_ 1))) (jb_nil))
    (jb_cons (js_if (jt_w (jw_or (jt_cmp o_in (ce_str) (v_ 1)) (jw_or1 (jt_cmp o_le (je_b1 c_len rfl T.b_len (by decide +kernel) (v_ 1)) (g_int (hm := T.k_LONGEST_SET)))))) (jb_one (js_ret (ce_op o_add (ce_op o_add (ce_str) (je_call (P_ranges_of (c := c) T).fn (Nat.le_of_ble_eq_true rfl) rfl (jl_cons (v_ 1) (jl_nil)))) (ce_str)))) (jb_nil))
    (jb_one (js_ret (ce_op o_add (ce_op o_add (ce_str) (je_call (P_ranges_of (c := c) T).fn (Nat.le_of_ble_eq_true rfl) rfl (jl_cons (je_met Hz.m_join PySem.F.slot_str_join PySem.F.type_str_join (ce_str) (jl_cons (JF.je (jf_lc (own := [("char", 3)]) (oc := []) sc_format_atom.nd (ji_str (g_str (hm := T.k_PLAIN))) (blkOk_by (by decide +kernel)) (tg_ 3 sc_format_atom.nd) (jts_one (jt_cmp o_notIn (v_ 3) (v_ 1))) (v_ 3))) (jl_nil))) (jl_nil)))) (ce_str))))))))
theorem P_format_atom (T : Facts c C_Pattern C_FolderkinError C_InvalidPattern gX) : PrF c 2 "format_atom" ["atom"] [] [] (f_format_atom C_Pattern C_FolderkinError C_InvalidPattern gX) := T.a_format_atom.runP sc_format_atom (jb_format_atom T)
theorem jb_format_pattern (T : Facts c C_Pattern C_FolderkinError C_InvalidPattern gX) : JB (c.at_ 2) ["pattern", "text", "atom"] (defScope s_format_pattern) (defBody s_format_pattern) (m_format_pattern C_Pattern C_FolderkinError C_InvalidPattern gX) :=
  jb_cons (set_ 1 sc_format_pattern.nd (je_met Hz.m_join PySem.F.slot_str_join PySem.F.type_str_join (ce_str) (jl_cons (JF.je (jf_lc (own := [("atom", 2)]) (oc := []) sc_format_pattern.nd (ji_tup (je_fld (v_ 0) T.cl_Pattern.cl T.na_Pattern_atoms)) (blkOk_by (by decide +kernel)) (tg_ 2 sc_format_pattern.nd) (jts_nil) (je_call (P_format_atom (c := c) T).fn (Nat.le_of_ble_eq_true rfl) rfl (jl_cons (v_ 2) (jl_nil))))) (jl_nil))))
    (jb_one (js_ret (je_if (jt_val (je_fld (v_ 0) T.cl_Pattern.cl T.na_Pattern_negated)) (ce_op o_add (ce_str) (v_ 1)) (v_ 1))))
theorem P_format_pattern (T : Facts c C_Pattern C_FolderkinError C_InvalidPattern gX) : PrF c 3 "format_pattern" ["pattern"] [] [] (f_format_pattern C_Pattern C_FolderkinError C_InvalidPattern gX) := T.a_format_pattern.runP sc_format_pattern (jb_format_pattern T)
theorem jb_format_patterns (T : Facts c C_Pattern C_FolderkinError C_InvalidPattern gX) : JB (c.at_ 3) ["patterns", "pattern"] (defScope s_format_patterns) (defBody s_format_patterns) (m_format_patterns C_Pattern C_FolderkinError C_InvalidPattern gX) :=
  jb_one (js_ret (je_met Hz.m_join PySem.F.slot_str_join PySem.F.type_str_join (ce_str) (jl_cons (JF.je (jf_lc (own := [("pattern", 1)]) (oc := []) sc_format_patterns.nd (ji_list (v_ 0)) (blkOk_by (by decide +kernel)) (tg_ 1 sc_format_patterns.nd) (jts_nil) (je_call (P_format_pattern (c := c) T).fn (Nat.le_of_ble_eq_true rfl) rfl (jl_cons (v_ 1) (jl_nil))))) (jl_nil))))
theorem P_format_patterns (T : Facts c C_Pattern C_FolderkinError C_InvalidPattern gX) : PrF c 4 "format_patterns" ["patterns"] [] [] (f_format_patterns C_Pattern C_FolderkinError C_InvalidPattern gX) := T.a_format_patterns.runP sc_format_patterns (jb_format_patterns T)
theorem jb_read_items (T : Facts c C_Pattern C_FolderkinError C_InvalidPattern gX) : JB (c.at_ 2) ["line", "at", "stop", "start", "chosen", "low", "high"] (defScope s_read_items) (defBody s_read_items) (m_read_items C_Pattern C_FolderkinError C_InvalidPattern gX) :=
  jb_cons (set_ 4 sc_read_items.nd (ce_str))
    (jb_cons (js_if (jt_cmp o_eq (je_ix o_ix (v_ 0) (v_ 1)) (ce_str)) (jb_cons (set_ 4 sc_read_items.nd (ce_str))
    (jb_one (js_aug (i := 1) sc_read_items.nd o_iadd (ce_int)))) (jb_nil))
    (jb_cons (js_while (jt_cmp o_lt (v_ 1) (v_ 2)) (jb_cons (set_ 5 sc_read_items.nd (je_met m_find1 PySem.F.slot_str_find PySem.F.type_str_find (g_str (hm := T.k_CHARACTERS)) (jl_cons (je_ix o_ix (v_ 0) (v_ 1)) (jl_nil))))
    (jb_cons (js_if (jt_cmp o_lt (v_ 5) (ce_int)) (jb_one (js_raise T.x_InvalidPattern (Nat.le_of_ble_eq_true rfl) rfl (ce_op o_add (v_ 3) (v_ 1)))) (jb_nil))
    (jb_cons (set_ 6 sc_read_items.nd (v_ 5))
    (jb_cons (js_if (jt_cmp o_eq (je_ix o_ix (v_ 0) (ce_op o_add (v_ 1) (ce_int))) (ce_str)) (jb_cons (js_aug (i := 1) sc_read_items.nd o_iadd (ce_int))
    (jb_cons (set_ 6 sc_read_items.nd (je_met m_find1 PySem.F.slot_str_find PySem.F.type_str_find (g_str (hm := T.k_CHARACTERS)) (jl_cons (je_ix o_ix (v_ 0) (v_ 1)) (jl_nil))))
    (jb_one (js_if (jt_cmp o_le (v_ 6) (v_ 5)) (jb_one (js_raise T.x_InvalidPattern (Nat.le_of_ble_eq_true rfl) rfl (ce_op o_add (v_ 3) (v_ 1)))) (jb_nil))))) (jb_nil))
    (jb_cons (js_aug (i := 4) sc_read_items.nd o_iadd (je_cut (g_str (hm := T.k_CHARACTERS)) (jp_some (v_ 5)) (jp_some (ce_op o_add (v_ 6) (ce_int)))))
    (jb_one (js_aug (i := 1) sc_read_items.nd o_iadd (ce_int)))))))))
    (jb_one (js_ret (v_ 4)))))
theorem P_read_items (T : Facts c C_Pattern C_FolderkinError C_InvalidPattern gX) : PrF c 3 "read_items" ["line", "at", "stop", "start"] [] [] (f_read_items C_Pattern C_FolderkinError C_InvalidPattern gX) := T.a_read_items.runP sc_read_items (jb_read_items T)
theorem jb_read_set (T : Facts c C_Pattern C_FolderkinError C_InvalidPattern gX) : JB (c.at_ 3) ["line", "at", "start", "stop", "negated", "chosen", "characters", "char"] (defScope s_read_set) (defBody s_read_set) (m_read_set C_Pattern C_FolderkinError C_InvalidPattern gX) :=
  jb_cons (set_ 3 sc_read_set.nd (je_met m_find2 PySem.F.slot_str_find PySem.F.type_str_find (v_ 0) (jl_cons (ce_str) (jl_cons (v_ 1) (jl_nil)))))
    (jb_cons (js_if (jt_cmp o_lt (v_ 3) (ce_int)) (jb_one (js_raise T.x_InvalidPattern (Nat.le_of_ble_eq_true rfl) rfl (ce_op o_add (v_ 2) (v_ 1)))) (jb_nil))
    (jb_cons (set_ 4 sc_read_set.nd (ce_cmp o_eq (je_ix o_ix (v_ 0) (ce_op o_add (v_ 1) (ce_int))) (ce_str)))
    (jb_cons (set_ 5 sc_read_set.nd (je_call (P_read_items (c := c) T).fn (Nat.le_of_ble_eq_true rfl) rfl (jl_cons (v_ 0) (jl_cons (ce_op o_add (ce_op o_add (v_ 1) (ce_int)) (je_t1 c_int rfl T.b_int (by decide +kernel) (v_ 4))) (jl_cons (v_ 3) (jl_cons (v_ 2) (jl_nil)))))))
    (jb_cons (js_if (jt_val (v_ 4)) (jb_one (set_ 6 sc_read_set.nd (je_met Hz.m_join PySem.F.slot_str_join PySem.F.type_str_join (ce_str) (jl_cons (JF.je (jf_lc (own := [("char", 7)]) (oc := []) sc_read_set.nd (ji_str (g_str (hm := T.k_PLAIN))) (blkOk_by (by decide +kernel)) (tg_ 7 sc_read_set.nd) (jts_one (jt_cmp o_notIn (v_ 7) (v_ 5))) (v_ 7))) (jl_nil))))) (jb_one (set_ 6 sc_read_set.nd (je_met Hz.m_join PySem.F.slot_str_join PySem.F.type_str_join (ce_str) (jl_cons (JF.je (jf_lc (own := [("char", 7)]) (oc := []) sc_read_set.nd (ji_str (g_str (hm := T.k_CHARACTERS))) (blkOk_by (by decide +kernel)) (tg_ 7 sc_read_set.nd) (jts_one (jt_cmp o_in (v_ 7) (v_ 5))) (v_ 7))) (jl_nil))))))
    (jb_cons (js_if (jt_cmp o_eq (v_ 6) (ce_str)) (jb_one (js_raise T.x_InvalidPattern (Nat.le_of_ble_eq_true rfl) rfl (ce_op o_add (v_ 2) (v_ 1)))) (jb_nil))
    (jb_one (js_ret (je_tup (jl_cons (je_tup (jl_cons (v_ 6) (jl_cons (ce_bl) (jl_nil)))) (jl_cons (ce_op o_add (v_ 3) (ce_int)) (jl_nil)))))))))))
theorem P_read_set (T : Facts c C_Pattern C_FolderkinError C_InvalidPattern gX) : PrF c 4 "read_set" ["line", "at", "start"] [] [] (f_read_set C_Pattern C_FolderkinError C_InvalidPattern gX) := T.a_read_set.runP sc_read_set (jb_read_set T)
theorem jb_read_atom (T : Facts c C_Pattern C_FolderkinError C_InvalidPattern gX) : JB (c.at_ 4) ["line", "at", "start"] (defScope s_read_atom) (defBody s_read_atom) (m_read_atom C_Pattern C_FolderkinError C_InvalidPattern gX) :=
  jb_cons (js_if (jt_cmp o_eq (je_cut (v_ 0) (jp_some (v_ 1)) (jp_some (ce_op o_add (v_ 1) (ce_int)))) (ce_str)) (jb_one (js_ret (je_tup (jl_cons (je_tup (jl_cons (g_str (hm := T.k_CHARACTERS)) (jl_cons (ce_bl) (jl_nil)))) (jl_cons (ce_op o_add (v_ 1) (ce_int)) (jl_nil)))))) (jb_nil))
    (jb_cons (js_if (jt_cmp o_eq (je_ix o_ix (v_ 0) (v_ 1)) (ce_str)) (jb_one (js_ret (je_tup (jl_cons (je_tup (jl_cons (g_str (hm := T.k_PLAIN)) (jl_cons (ce_bl) (jl_nil)))) (jl_cons (ce_op o_add (v_ 1) (ce_int)) (jl_nil)))))) (jb_nil))
    (jb_cons (js_if (jt_cmp o_eq (je_ix o_ix (v_ 0) (v_ 1)) (ce_str)) (jb_one (js_ret (je_tup (jl_cons (je_tup (jl_cons (g_str (hm := T.k_PLAIN)) (jl_cons (ce_bl) (jl_nil)))) (jl_cons (ce_op o_add (v_ 1) (ce_int)) (jl_nil)))))) (jb_nil))
    (jb_cons (js_if (jt_cmp o_eq (je_ix o_ix (v_ 0) (v_ 1)) (ce_str)) (jb_one (js_ret (je_call (P_read_set (c := c) T).fn (Nat.le_of_ble_eq_true rfl) rfl (jl_cons (v_ 0) (jl_cons (v_ 1) (jl_cons (v_ 2) (jl_nil))))))) (jb_nil))
    (jb_cons (js_if (jt_cmp o_notIn (je_ix o_ix (v_ 0) (v_ 1)) (g_str (hm := T.k_CHARACTERS))) (jb_one (js_raise T.x_InvalidPattern (Nat.le_of_ble_eq_true rfl) rfl (ce_op o_add (v_ 2) (v_ 1)))) (jb_nil))
    (jb_one (js_ret (je_tup (jl_cons (je_tup (jl_cons (je_ix o_ix (v_ 0) (v_ 1)) (jl_cons (ce_bl) (jl_nil)))) (jl_cons (ce_op o_add (v_ 1) (ce_int)) (jl_nil))))))))))
theorem P_read_atom (T : Facts c C_Pattern C_FolderkinError C_InvalidPattern gX) : PrF c 5 "read_atom" ["line", "at", "start"] [] [] (f_read_atom C_Pattern C_FolderkinError C_InvalidPattern gX) := T.a_read_atom.runP sc_read_atom (jb_read_atom T)
theorem jb_parse_line (T : Facts c C_Pattern C_FolderkinError C_InvalidPattern gX) : JB (c.at_ 5) ["line", "start", "atoms", "negated", "at", "begin", "atom"] (defScope s_parse_line) (defBody s_parse_line) (m_parse_line C_Pattern C_FolderkinError C_InvalidPattern gX) :=
  jb_cons (set_ 2 sc_parse_line.nd (JF.new (jf_lst (jl_nil))))
    (jb_cons (set_ 3 sc_parse_line.nd (ce_cmp o_eq (je_ix o_ix (v_ 0) (ce_int)) (ce_str)))
    (jb_cons (set_ 4 sc_parse_line.nd (je_t1 c_int rfl T.b_int (by decide +kernel) (v_ 3)))
    (jb_cons (js_if (jt_cmp o_eq (v_ 4) (je_b1 c_len rfl T.b_len (by decide +kernel) (v_ 0))) (jb_one (js_raise T.x_InvalidPattern (Nat.le_of_ble_eq_true rfl) rfl (ce_op o_add (v_ 1) (v_ 4)))) (jb_nil))
    (jb_cons (js_while (jt_cmp o_lt (v_ 4) (je_b1 c_len rfl T.b_len (by decide +kernel) (v_ 0))) (jb_cons (set_ 5 sc_parse_line.nd (v_ 4))
    (jb_cons (js_asg (je_call (P_read_atom (c := c) T).fn (Nat.le_of_ble_eq_true rfl) rfl (jl_cons (v_ 0) (jl_cons (v_ 4) (jl_cons (v_ 1) (jl_nil))))) (jtg_tup (jtgs_cons (tg_ 6 sc_parse_line.nd) (jtgs_cons (tg_ 4 sc_parse_line.nd) (jtgs_nil)))))
    (jb_cons (js_if (jt_w (jw_or (jt_cmp o_eq (je_b1 c_len rfl T.b_len (by decide +kernel) (v_ 2)) (g_int (hm := T.k_MOST_ATOMS))) (jw_or1 (jt_w (jw_and (jt_val (je_ix o_ix (v_ 6) (ce_int))) (jw_and (jt_cmp o_gt (je_b1 c_len rfl T.b_len (by decide +kernel) (v_ 2)) (ce_int)) (jw_and1 (jt_val (je_ix o_ix (je_ix o_ix (v_ 2) (je_neg (ce_int))) (ce_int)))))))))) (jb_one (js_raise T.x_InvalidPattern (Nat.le_of_ble_eq_true rfl) rfl (ce_op o_add (v_ 1) (v_ 5)))) (jb_nil))
    (jb_one (js_expr (je_mut mu_append PySem.F.slot_list_append PySem.F.type_list_append (v_ 2) (jl_cons (v_ 6) (jl_nil)))))))))
    (jb_frz (i := 2) (jb_one (js_ret (JE.frz (je_mk (P_Pattern_init (c := c) T).mk_ (Nat.le_of_ble_eq_true rfl) rfl (jl_cons (v_ 2) (jl_cons (v_ 3) (jl_nil))))))))))))
theorem P_parse_line (T : Facts c C_Pattern C_FolderkinError C_InvalidPattern gX) : PrF c 6 "parse_line" ["line", "start"] [] [] (f_parse_line C_Pattern C_FolderkinError C_InvalidPattern gX) := T.a_parse_line.runP sc_parse_line (jb_parse_line T)
theorem jb_parse_patterns (T : Facts c C_Pattern C_FolderkinError C_InvalidPattern gX) : JB (c.at_ 6) ["text", "patterns", "start", "line"] (defScope s_parse_patterns) (defBody s_parse_patterns) (m_parse_patterns C_Pattern C_FolderkinError C_InvalidPattern gX) :=
  jb_cons (set_ 1 sc_parse_patterns.nd (JF.new (jf_lst (jl_nil))))
    (jb_cons (set_ 2 sc_parse_patterns.nd (ce_int))
    (jb_cons (js_for (ji_list (je_met Hz.m_split PySem.F.slot_str_split PySem.F.type_str_split (v_ 0) (jl_cons (ce_str) (jl_nil)))) (tg_ 3 sc_parse_patterns.nd) (jb_cons (js_if (jt_w (jw_and (jt_cmp o_ne (v_ 3) (ce_str)) (jw_and1 (jt_cmp o_ne (je_ix o_ix (v_ 3) (ce_int)) (ce_str))))) (jb_cons (js_if (jt_cmp o_eq (je_b1 c_len rfl T.b_len (by decide +kernel) (v_ 1)) (g_int (hm := T.k_MOST_PATTERNS))) (jb_one (js_raise T.x_InvalidPattern (Nat.le_of_ble_eq_true rfl) rfl (v_ 2))) (jb_nil))
    (jb_one (js_expr (je_mut mu_append PySem.F.slot_list_append PySem.F.type_list_append (v_ 1) (jl_cons (je_call (P_parse_line (c := c) T).fn (Nat.le_of_ble_eq_true rfl) rfl (jl_cons (v_ 3) (jl_cons (v_ 2) (jl_nil)))) (jl_nil)))))) (jb_nil))
    (jb_one (js_aug (i := 2) sc_parse_patterns.nd o_iadd (ce_op o_add (je_b1 c_len rfl T.b_len (by decide +kernel) (v_ 3)) (ce_int))))))
    (jb_one (js_ret (JE.frz (v_ 1))))))
theorem P_parse_patterns (T : Facts c C_Pattern C_FolderkinError C_InvalidPattern gX) : PrF c 7 "parse_patterns" ["text"] [] [] (f_parse_patterns C_Pattern C_FolderkinError C_InvalidPattern gX) := T.a_parse_patterns.runP sc_parse_patterns (jb_parse_patterns T)
theorem jb_law_draw (T : Facts c C_Pattern C_FolderkinError C_InvalidPattern gX) : JB (c.at_ 0) ["_law_state", "_law_script", "_law_size", "_law_digit", "_law_at", "_law_cell", "_law_first"] (defScope s_law_draw) (defBody s_law_draw) (m_law_draw C_Pattern C_FolderkinError C_InvalidPattern gX) :=
  jb_cons (js_if (jt_cmp o_eq (je_ix o_ix (v_ 0) (ce_int)) (ce_int)) (jb_cons (set_ 4 sc_law_draw.nd (je_ix o_ix (v_ 0) (ce_int)))
    (jb_cons (set_ 5 sc_law_draw.nd (ce_int))
    (jb_cons (js_if (jt_cmp o_gt (je_b1 c_len rfl T.b_len (by decide +kernel) (v_ 1)) (ce_int)) (jb_one (set_ 5 sc_law_draw.nd (je_t1 c_int rfl T.b_int (by decide +kernel) (je_ix o_ix (v_ 1) (ce_op o_mod (v_ 4) (je_b1 c_len rfl T.b_len (by decide +kernel) (v_ 1))))))) (jb_nil))
    (jb_cons (js_if (jt_cmp o_lt (v_ 5) (ce_int)) (jb_one (set_ 5 sc_law_draw.nd (ce_op o_sub (ce_int) (ce_op o_mul (ce_int) (v_ 5))))) (jb_nil))
    (jb_cons (js_if (jt_w (jw_and (jt_cmp o_ge (v_ 5) (ce_op o_pow (ce_int) (ce_int))) (jw_and1 (jt_cmp o_lt (v_ 4) (je_b1 c_len rfl T.b_len (by decide +kernel) (v_ 1)))))) (jb_one (js_seti (v_ 5) (v_ 0) (ce_int))) (jb_cons (set_ 6 sc_law_draw.nd (ce_op o_mod (je_t1 c_int rfl T.b_int (by decide +kernel) (ce_op o_add (ce_op o_add (ce_op o_mul (v_ 5) (ce_int)) (ce_op o_mul (v_ 4) (ce_int))) (ce_int))) (ce_int)))
    (jb_one (js_seti (ce_op o_add (ce_int) (ce_op o_mod (je_t1 c_int rfl T.b_int (by decide +kernel) (ce_op o_add (ce_op o_mul (v_ 6) (ce_int)) (ce_op o_mul (v_ 4) (ce_int)))) (ce_int))) (v_ 0) (ce_int)))))
    (jb_one (js_seti (ce_op o_add (v_ 4) (ce_int)) (v_ 0) (ce_int)))))))) (jb_nil))
    (jb_cons (set_ 3 sc_law_draw.nd (ce_op o_mod (je_t1 c_int rfl T.b_int (by decide +kernel) (je_ix o_ix (v_ 0) (ce_int))) (v_ 2)))
    (jb_cons (js_seti (ce_op o_div (je_ix o_ix (v_ 0) (ce_int)) (v_ 2)) (v_ 0) (ce_int))
    (jb_one (js_ret (v_ 3)))))
theorem P_law_draw (T : Facts c C_Pattern C_FolderkinError C_InvalidPattern gX) : PrF c 1 "_law_draw" ["_law_state", "_law_script", "_law_size"] [] [] (f_law_draw C_Pattern C_FolderkinError C_InvalidPattern gX) := T.a_law_draw.runP sc_law_draw (jb_law_draw T)
theorem jb_law_all (T : Facts c C_Pattern C_FolderkinError C_InvalidPattern gX) : JB (c.at_ 0) [] (defScope s_law_all) (defBody s_law_all) (m_law_all C_Pattern C_FolderkinError C_InvalidPattern gX) :=
  jb_one (js_ret (ce_str))
theorem P_law_all (T : Facts c C_Pattern C_FolderkinError C_InvalidPattern gX) : PrF c 1 "_law_all" [] [] [] (f_law_all C_Pattern C_FolderkinError C_InvalidPattern gX) := T.a_law_all.runP sc_law_all (jb_law_all T)
theorem jb_law_told (T : Facts c C_Pattern C_FolderkinError C_InvalidPattern gX) : JB (c.at_ 0) ["_law_actual", "_law_due_here"] (defScope s_law_told) (defBody s_law_told) (m_law_told C_Pattern C_FolderkinError C_InvalidPattern gX) :=
  jb_one (js_ret (je_and (je_isi (T := "bool") rfl T.b_isinstance rfl T.b_bool (by decide +kernel) (v_ 0)) (je_one (ce_cmp o_eq (v_ 0) (v_ 1)))))
theorem P_law_told (T : Facts c C_Pattern C_FolderkinError C_InvalidPattern gX) : PrF c 1 "_law_told" ["_law_actual", "_law_due_here"] [] [] (f_law_told C_Pattern C_FolderkinError C_InvalidPattern gX) := T.a_law_told.runP sc_law_told (jb_law_told T)
theorem jb_law_same (T : Facts c C_Pattern C_FolderkinError C_InvalidPattern gX) : JB (c.at_ 2) ["_law_patterns", "_law_rows", "_law_k", "_law_one"] (defScope s_law_same) (defBody s_law_same) (m_law_same C_Pattern C_FolderkinError C_InvalidPattern gX) :=
  jb_cons (js_if (jt_w (jw_or (jt_not (jt_val (je_isi (T := "list") rfl T.b_isinstance rfl T.b_list (by decide +kernel) (v_ 0)))) (jw_or1 (jt_cmp o_ne (je_b1 c_len rfl T.b_len (by decide +kernel) (v_ 0)) (je_b1 c_len rfl T.b_len (by decide +kernel) (v_ 1)))))) (jb_one (js_ret (ce_bl))) (jb_nil))
    (jb_cons (js_for (ji_range1 rfl T.b_range (jl_cons (je_b1 c_len rfl T.b_len (by decide +kernel) (v_ 1)) (jl_nil))) (tg_ 2 sc_law_same.nd) (jb_cons (set_ 3 sc_law_same.nd (je_ix o_ix (v_ 0) (v_ 2)))
    (jb_one (js_if (jt_w (jw_or (jt_not (jt_val (je_isiC T.cl_Pattern rfl T.b_isinstance rfl (v_ 3)))) (jw_or (jt_cmp o_ne (je_fld (v_ 3) T.cl_Pattern.cl T.na_Pattern_atoms) (je_t1 c_tuple rfl T.b_tuple (by decide +kernel) (je_ix o_ix (je_ix o_ix (v_ 1) (v_ 2)) (ce_int)))) (jw_or1 (jt_not (jt_val (je_call (P_law_told (c := c) T).fn (Nat.le_of_ble_eq_true rfl) rfl (jl_cons (je_fld (v_ 3) T.cl_Pattern.cl T.na_Pattern_negated) (jl_cons (je_ix o_ix (je_ix o_ix (v_ 1) (v_ 2)) (ce_int)) (jl_nil)))))))))) (jb_one (js_ret (ce_bl))) (jb_nil)))))
    (jb_one (js_ret (ce_bl))))
theorem P_law_same (T : Facts c C_Pattern C_FolderkinError C_InvalidPattern gX) : PrF c 3 "_law_same" ["_law_patterns", "_law_rows"] [] [] (f_law_same C_Pattern C_FolderkinError C_InvalidPattern gX) := T.a_law_same.runP sc_law_same (jb_law_same T)
theorem jb_law_set (T : Facts c C_Pattern C_FolderkinError C_InvalidPattern gX) : JB (c.at_ 1) ["_law_line_here", "_law_start", "_law_body", "_law_stop", "_law_first", "_law_negated", "_law_chosen", "_law_at", "_law_turn", "_law_low", "_law_high", "_law_char"] (defScope s_law_set) (defBody s_law_set) (m_law_set C_Pattern C_FolderkinError C_InvalidPattern gX) :=
  jb_cons (set_ 2 sc_law_set.nd (je_ix o_ix (je_met Hz.m_split PySem.F.slot_str_split PySem.F.type_str_split (je_cut (v_ 0) (jp_some (ce_op o_add (v_ 1) (ce_int))) (jp_none)) (jl_cons (ce_str) (jl_nil))) (ce_int)))
    (jb_cons (set_ 3 sc_law_set.nd (ce_op o_add (ce_op o_add (v_ 1) (ce_int)) (je_b1 c_len rfl T.b_len (by decide +kernel) (v_ 2))))
    (jb_cons (js_if (jt_cmp o_eq (v_ 3) (je_b1 c_len rfl T.b_len (by decide +kernel) (v_ 0))) (jb_one (js_ret (v_ 1))) (jb_nil))
    (jb_cons (set_ 4 sc_law_set.nd (ce_op o_add (v_ 1) (ce_int)))
    (jb_cons (set_ 5 sc_law_set.nd (ce_cmp o_eq (je_cut (v_ 2) (jp_none) (jp_some (ce_int))) (ce_str)))
    (jb_cons (js_if (jt_val (v_ 5)) (jb_one (set_ 4 sc_law_set.nd (ce_op o_add (v_ 4) (ce_int)))) (jb_nil))
    (jb_cons (set_ 6 sc_law_set.nd (ce_str))
    (jb_cons (set_ 7 sc_law_set.nd (v_ 4))
    (jb_cons (js_if (jt_cmp o_eq (je_ix o_ix (v_ 0) (v_ 7)) (ce_str)) (jb_cons (set_ 6 sc_law_set.nd (ce_str))
    (jb_one (set_ 7 sc_law_set.nd (ce_op o_add (v_ 7) (ce_int))))) (jb_nil))
    (jb_cons (js_for (ji_range1 rfl T.b_range (jl_cons (je_b1 c_len rfl T.b_len (by decide +kernel) (v_ 2)) (jl_nil))) (tg_ 8 sc_law_set.nd) (jb_one (js_if (jt_cmp o_lt (v_ 7) (v_ 3)) (jb_cons (set_ 9 sc_law_set.nd (je_ix o_ix (v_ 0) (v_ 7)))
    (jb_cons (js_if (jt_w (jw_or (jt_cmp o_eq (v_ 9) (ce_str)) (jw_or1 (jt_cmp o_notIn (v_ 9) (je_call0 (P_law_all (c := c) T).fn (Nat.le_of_ble_eq_true rfl) rfl))))) (jb_one (js_ret (v_ 7))) (jb_nil))
    (jb_cons (set_ 10 sc_law_set.nd (v_ 9))
    (jb_cons (js_if (jt_cmp o_eq (je_ix o_ix (v_ 0) (ce_op o_add (v_ 7) (ce_int))) (ce_str)) (jb_cons (set_ 7 sc_law_set.nd (ce_op o_add (v_ 7) (ce_int)))
    (jb_cons (set_ 10 sc_law_set.nd (je_ix o_ix (v_ 0) (v_ 7)))
    (jb_one (js_if (jt_w (jw_or (jt_cmp o_notIn (v_ 10) (je_call0 (P_law_all (c := c) T).fn (Nat.le_of_ble_eq_true rfl) rfl)) (jw_or1 (jt_cmp o_le (v_ 10) (v_ 9))))) (jb_one (js_ret (v_ 7))) (jb_nil))))) (jb_nil))
    (jb_cons (set_ 6 sc_law_set.nd (ce_op o_add (v_ 6) (je_met Hz.m_join PySem.F.slot_str_join PySem.F.type_str_join (ce_str) (jl_cons (JF.je (jf_lc (own := [("_law_char", 11)]) (oc := []) sc_law_set.nd (ji_str (je_call0 (P_law_all (c := c) T).fn (Nat.le_of_ble_eq_true rfl) rfl)) (blkOk_by (by decide +kernel)) (tg_ 11 sc_law_set.nd) (jts_one (jt_chain o_le o_le (v_ 9) (v_ 11) (v_ 10))) (v_ 11))) (jl_nil)))))
    (jb_one (set_ 7 sc_law_set.nd (ce_op o_add (v_ 7) (ce_int))))))))) (jb_nil))))
    (jb_cons (js_if (jt_val (v_ 5)) (jb_one (set_ 6 sc_law_set.nd (je_met Hz.m_join PySem.F.slot_str_join PySem.F.type_str_join (ce_str) (jl_cons (JF.je (jf_lc (own := [("_law_char", 11)]) (oc := []) sc_law_set.nd (ji_str (je_call0 (P_law_all (c := c) T).fn (Nat.le_of_ble_eq_true rfl) rfl)) (blkOk_by (by decide +kernel)) (tg_ 11 sc_law_set.nd) (jts_one (jt_cmp o_notIn (v_ 11) (ce_op o_add (v_ 6) (ce_str)))) (v_ 11))) (jl_nil))))) (jb_nil))
    (jb_cons (js_if (jt_cmp o_eq (v_ 6) (ce_str)) (jb_one (js_ret (v_ 1))) (jb_nil))
    (jb_one (js_ret (je_tup (jl_cons (je_tup (jl_cons (je_met Hz.m_join PySem.F.slot_str_join PySem.F.type_str_join (ce_str) (jl_cons (JF.je (jf_lc (own := [("_law_char", 11)]) (oc := []) sc_law_set.nd (ji_str (je_call0 (P_law_all (c := c) T).fn (Nat.le_of_ble_eq_true rfl) rfl)) (blkOk_by (by decide +kernel)) (tg_ 11 sc_law_set.nd) (jts_one (jt_cmp o_in (v_ 11) (v_ 6))) (v_ 11))) (jl_nil))) (jl_cons (ce_bl) (jl_nil)))) (jl_cons (ce_op o_add (v_ 3) (ce_int)) (jl_nil)))))))))))))))))
theorem P_law_set (T : Facts c C_Pattern C_FolderkinError C_InvalidPattern gX) : PrF c 2 "_law_set" ["_law_line_here", "_law_start"] [] [] (f_law_set C_Pattern C_FolderkinError C_InvalidPattern gX) := T.a_law_set.runP sc_law_set (jb_law_set T)
theorem jb_law_read (T : Facts c C_Pattern C_FolderkinError C_InvalidPattern gX) : JB (c.at_ 2) ["_law_line_here", "_law_at", "_law_plain", "_law_char"] (defScope s_law_read) (defBody s_law_read) (m_law_read C_Pattern C_FolderkinError C_InvalidPattern gX) :=
  jb_cons (set_ 2 sc_law_read.nd (je_met Hz.m_join PySem.F.slot_str_join PySem.F.type_str_join (ce_str) (jl_cons (JF.je (jf_lc (own := [("_law_char", 3)]) (oc := []) sc_law_read.nd (ji_str (je_call0 (P_law_all (c := c) T).fn (Nat.le_of_ble_eq_true rfl) rfl)) (blkOk_by (by decide +kernel)) (tg_ 3 sc_law_read.nd) (jts_one (jt_cmp o_ne (v_ 3) (ce_str))) (v_ 3))) (jl_nil))))
    (jb_cons (js_if (jt_cmp o_eq (je_cut (v_ 0) (jp_some (v_ 1)) (jp_some (ce_op o_add (v_ 1) (ce_int)))) (ce_str)) (jb_one (js_ret (je_tup (jl_cons (je_tup (jl_cons (je_call0 (P_law_all (c := c) T).fn (Nat.le_of_ble_eq_true rfl) rfl) (jl_cons (ce_bl) (jl_nil)))) (jl_cons (ce_op o_add (v_ 1) (ce_int)) (jl_nil)))))) (jb_nil))
    (jb_cons (js_if (jt_cmp o_eq (je_ix o_ix (v_ 0) (v_ 1)) (ce_str)) (jb_one (js_ret (je_call (P_law_set (c := c) T).fn (Nat.le_of_ble_eq_true rfl) rfl (jl_cons (v_ 0) (jl_cons (v_ 1) (jl_nil)))))) (jb_nil))
    (jb_cons (js_if (jt_w (jw_or (jt_cmp o_eq (je_ix o_ix (v_ 0) (v_ 1)) (ce_str)) (jw_or1 (jt_cmp o_eq (je_ix o_ix (v_ 0) (v_ 1)) (ce_str))))) (jb_one (js_ret (je_tup (jl_cons (je_tup (jl_cons (v_ 2) (jl_cons (ce_cmp o_eq (je_ix o_ix (v_ 0) (v_ 1)) (ce_str)) (jl_nil)))) (jl_cons (ce_op o_add (v_ 1) (ce_int)) (jl_nil)))))) (jb_nil))
    (jb_cons (js_if (jt_cmp o_in (je_ix o_ix (v_ 0) (v_ 1)) (je_call0 (P_law_all (c := c) T).fn (Nat.le_of_ble_eq_true rfl) rfl)) (jb_one (js_ret (je_tup (jl_cons (je_tup (jl_cons (je_ix o_ix (v_ 0) (v_ 1)) (jl_cons (ce_bl) (jl_nil)))) (jl_cons (ce_op o_add (v_ 1) (ce_int)) (jl_nil)))))) (jb_nil))
    (jb_one (js_ret (v_ 1)))))))
theorem P_law_read (T : Facts c C_Pattern C_FolderkinError C_InvalidPattern gX) : PrF c 3 "_law_read" ["_law_line_here", "_law_at"] [] [] (f_law_read C_Pattern C_FolderkinError C_InvalidPattern gX) := T.a_law_read.runP sc_law_read (jb_law_read T)
theorem jb_law_line (T : Facts c C_Pattern C_FolderkinError C_InvalidPattern gX) : JB (c.at_ 3) ["_law_line_here", "_law_atoms", "_law_negated", "_law_at", "_law_turn", "_law_told_here"] (defScope s_law_line) (defBody s_law_line) (m_law_line C_Pattern C_FolderkinError C_InvalidPattern gX) :=
  jb_cons (set_ 1 sc_law_line.nd (JF.new (jf_lst (jl_nil))))
    (jb_cons (set_ 2 sc_law_line.nd (ce_cmp o_eq (je_ix o_ix (v_ 0) (ce_int)) (ce_str)))
    (jb_cons (set_ 3 sc_law_line.nd (je_t1 c_int rfl T.b_int (by decide +kernel) (v_ 2)))
    (jb_cons (js_if (jt_cmp o_eq (v_ 0) (ce_str)) (jb_one (js_ret (ce_int))) (jb_nil))
    (jb_cons (js_for (ji_range1 rfl T.b_range (jl_cons (je_b1 c_len rfl T.b_len (by decide +kernel) (v_ 0)) (jl_nil))) (tg_ 4 sc_law_line.nd) (jb_one (js_if (jt_cmp o_lt (v_ 3) (je_b1 c_len rfl T.b_len (by decide +kernel) (v_ 0))) (jb_cons (set_ 5 sc_law_line.nd (je_call (P_law_read (c := c) T).fn (Nat.le_of_ble_eq_true rfl) rfl (jl_cons (v_ 0) (jl_cons (v_ 3) (jl_nil)))))
    (jb_cons (js_if (jt_val (je_isi (T := "int") rfl T.b_isinstance rfl T.b_int (by decide +kernel) (v_ 5))) (jb_one (js_ret (v_ 5))) (jb_nil))
    (jb_cons (js_if (jt_w (jw_or (jt_cmp o_eq (je_b1 c_len rfl T.b_len (by decide +kernel) (v_ 1)) (ce_int)) (jw_or1 (jt_w (jw_and (jt_val (je_ix o_ix (je_ix o_ix (v_ 5) (ce_int)) (ce_int))) (jw_and (jt_cmp o_gt (je_b1 c_len rfl T.b_len (by decide +kernel) (v_ 1)) (ce_int)) (jw_and1 (jt_val (je_ix o_ix (je_ix o_ix (v_ 1) (je_neg (ce_int))) (ce_int)))))))))) (jb_one (js_ret (v_ 3))) (jb_nil))
    (jb_cons (js_expr (je_mut mu_append PySem.F.slot_list_append PySem.F.type_list_append (v_ 1) (jl_cons (je_ix o_ix (v_ 5) (ce_int)) (jl_nil))))
    (jb_one (set_ 3 sc_law_line.nd (je_ix o_ix (v_ 5) (ce_int)))))))) (jb_nil))))
    (jb_frz (i := 1) (jb_one (js_ret (je_tup (jl_cons (v_ 1) (jl_cons (v_ 2) (jl_nil)))))))))))
theorem P_law_line (T : Facts c C_Pattern C_FolderkinError C_InvalidPattern gX) : PrF c 4 "_law_line" ["_law_line_here"] [] [] (f_law_line C_Pattern C_FolderkinError C_InvalidPattern gX) := T.a_law_line.runP sc_law_line (jb_law_line T)
theorem jb_law_due (T : Facts c C_Pattern C_FolderkinError C_InvalidPattern gX) : JB (c.at_ 4) ["_law_text_here", "_law_rows", "_law_start", "_law_line_here", "_law_told_here"] (defScope s_law_due) (defBody s_law_due) (m_law_due C_Pattern C_FolderkinError C_InvalidPattern gX) :=
  jb_cons (set_ 1 sc_law_due.nd (JF.new (jf_lst (jl_nil))))
    (jb_cons (set_ 2 sc_law_due.nd (ce_int))
    (jb_cons (js_for (ji_list (je_met Hz.m_split PySem.F.slot_str_split PySem.F.type_str_split (v_ 0) (jl_cons (ce_str) (jl_nil)))) (tg_ 3 sc_law_due.nd) (jb_cons (js_if (jt_w (jw_and (jt_cmp o_ne (v_ 3) (ce_str)) (jw_and1 (jt_cmp o_ne (je_ix o_ix (v_ 3) (ce_int)) (ce_str))))) (jb_cons (js_if (jt_cmp o_eq (je_b1 c_len rfl T.b_len (by decide +kernel) (v_ 1)) (ce_int)) (jb_one (js_ret (v_ 2))) (jb_nil))
    (jb_cons (set_ 4 sc_law_due.nd (je_call (P_law_line (c := c) T).fn (Nat.le_of_ble_eq_true rfl) rfl (jl_cons (v_ 3) (jl_nil))))
    (jb_cons (js_if (jt_val (je_isi (T := "int") rfl T.b_isinstance rfl T.b_int (by decide +kernel) (v_ 4))) (jb_one (js_ret (ce_op o_add (v_ 2) (v_ 4)))) (jb_nil))
    (jb_one (js_expr (je_mut mu_append PySem.F.slot_list_append PySem.F.type_list_append (v_ 1) (jl_cons (v_ 4) (jl_nil)))))))) (jb_nil))
    (jb_one (set_ 2 sc_law_due.nd (ce_op o_add (ce_op o_add (v_ 2) (je_b1 c_len rfl T.b_len (by decide +kernel) (v_ 3))) (ce_int))))))
    (jb_one (js_ret (JE.frz (v_ 1))))))
theorem P_law_due (T : Facts c C_Pattern C_FolderkinError C_InvalidPattern gX) : PrF c 5 "_law_due" ["_law_text_here"] [] [] (f_law_due C_Pattern C_FolderkinError C_InvalidPattern gX) := T.a_law_due.runP sc_law_due (jb_law_due T)
theorem jb_law_text (T : Facts c C_Pattern C_FolderkinError C_InvalidPattern gX) : JB (c.at_ 1) ["_law_state", "_law_script", "_law_pieces", "_law_text_here", "_law_k", "_law_kind"] (defScope s_law_text) (defBody s_law_text) (m_law_text C_Pattern C_FolderkinError C_InvalidPattern gX) :=
  jb_cons (set_ 2 sc_law_text.nd (JF.je (jf_lst (jl_cons (ce_str) (jl_cons (ce_str) (jl_cons (ce_str) (jl_cons (ce_str) (jl_cons (ce_str) (jl_cons (ce_str) (jl_cons (ce_str) (jl_cons (ce_str) (jl_cons (ce_str) (jl_cons (ce_str) (jl_cons (ce_str) (jl_cons (ce_str) (jl_cons (ce_str) (jl_cons (ce_str) (jl_cons (ce_str) (jl_cons (ce_str) (jl_cons (ce_str) (jl_cons (ce_str) (jl_cons (ce_str) (jl_nil)))))))))))))))))))))))
    (jb_cons (set_ 2 sc_law_text.nd (ce_op o_add (v_ 2) (JF.je (jf_lst (jl_cons (ce_str) (jl_cons (ce_str) (jl_cons (ce_str) (jl_cons (ce_str) (jl_cons (ce_str) (jl_cons (ce_str) (jl_cons (ce_str) (jl_cons (ce_str) (jl_cons (ce_str) (jl_cons (ce_str) (jl_cons (ce_str) (jl_cons (ce_str) (jl_cons (ce_str) (jl_cons (ce_str) (jl_cons (ce_str) (jl_cons (ce_str) (jl_nil)))))))))))))))))))))
    (jb_cons (set_ 3 sc_law_text.nd (ce_str))
    (jb_cons (js_for (ji_range1 rfl T.b_range (jl_cons (je_call (P_law_draw (c := c) T).fn (Nat.le_of_ble_eq_true rfl) rfl (jl_cons (v_ 0) (jl_cons (v_ 1) (jl_cons (ce_int) (jl_nil))))) (jl_nil))) (tg_ 4 sc_law_text.nd) (jb_one (set_ 3 sc_law_text.nd (ce_op o_add (v_ 3) (je_ix o_ix (v_ 2) (je_call (P_law_draw (c := c) T).fn (Nat.le_of_ble_eq_true rfl) rfl (jl_cons (v_ 0) (jl_cons (v_ 1) (jl_cons (je_b1 c_len rfl T.b_len (by decide +kernel) (v_ 2)) (jl_nil))))))))))
    (jb_cons (set_ 5 sc_law_text.nd (je_call (P_law_draw (c := c) T).fn (Nat.le_of_ble_eq_true rfl) rfl (jl_cons (v_ 0) (jl_cons (v_ 1) (jl_cons (ce_int) (jl_nil))))))
    (jb_cons (js_if (jt_cmp o_eq (v_ 5) (ce_int)) (jb_one (set_ 3 sc_law_text.nd (ce_op o_add (ce_op o_add (ce_op o_repS (ce_str) (je_call (P_law_draw (c := c) T).fn (Nat.le_of_ble_eq_true rfl) rfl (jl_cons (v_ 0) (jl_cons (v_ 1) (jl_cons (ce_int) (jl_nil)))))) (ce_op o_repS (ce_str) (ce_op o_add (ce_int) (je_call (P_law_draw (c := c) T).fn (Nat.le_of_ble_eq_true rfl) rfl (jl_cons (v_ 0) (jl_cons (v_ 1) (jl_cons (ce_int) (jl_nil)))))))) (v_ 3)))) (jb_nil))
    (jb_cons (js_if (jt_cmp o_eq (v_ 5) (ce_int)) (jb_one (set_ 3 sc_law_text.nd (ce_op o_add (ce_op o_repS (ce_str) (ce_op o_add (ce_int) (je_call (P_law_draw (c := c) T).fn (Nat.le_of_ble_eq_true rfl) rfl (jl_cons (v_ 0) (jl_cons (v_ 1) (jl_cons (ce_int) (jl_nil))))))) (v_ 3)))) (jb_nil))
    (jb_one (js_ret (v_ 3)))))))))
theorem P_law_text (T : Facts c C_Pattern C_FolderkinError C_InvalidPattern gX) : PrF c 2 "_law_text" ["_law_state", "_law_script"] [] [] (f_law_text C_Pattern C_FolderkinError C_InvalidPattern gX) := T.a_law_text.runP sc_law_text (jb_law_text T)
theorem jb_law_told_of (T : Facts c C_Pattern C_FolderkinError C_InvalidPattern gX) : JB (c.at_ 7) ["_law_text_here", "error"] (defScope s_law_told_of) (defBody s_law_told_of) (m_law_told_of C_Pattern C_FolderkinError C_InvalidPattern gX) :=
  jb_one (js_tryA (i := 1) sc_law_told_of.nd rfl rfl rfl T.x_InvalidPattern.mg (exm_InvalidPattern_ok (c := c) T) (jb_one (js_ret (je_call (P_parse_patterns (c := c) T).fn (Nat.le_of_ble_eq_true rfl) rfl (jl_cons (v_ 0) (jl_nil))))) (fun a dx C => jb_cons (js_if (jt_w (jw_or (jt_not (jt_val (je_xiC (isX_ok (c := c) T) (xi_FolderkinError_ok (c := c) T) rfl T.b_isinstance rfl T.x_FolderkinError.mg rfl (Or.inl rfl) (i := 1)))) (jw_or1 (jt_not (jt_val (je_xiT (isX_ok (c := c) T) (xi_ValueError_ok (c := c) T) rfl T.b_isinstance rfl T.b_ValueError (by decide +kernel) rfl (Or.inl rfl) (i := 1))))))) (jb_one (js_ret (ce_non))) (jb_nil))
    (jb_one (js_ret (je_xf (isX_ok (c := c) T) (isX_np (c := c) T) rfl (Or.inl rfl) (i := 1))))))
theorem P_law_told_of (T : Facts c C_Pattern C_FolderkinError C_InvalidPattern gX) : PrF c 8 "_law_told_of" ["_law_text_here"] [] [] (f_law_told_of C_Pattern C_FolderkinError C_InvalidPattern gX) := T.a_law_told_of.runP sc_law_told_of (jb_law_told_of T)
theorem jb_law (T : Facts c C_Pattern C_FolderkinError C_InvalidPattern gX) : JB (c.at_ 8) ["_law_script", "_law_state", "_law_text_here", "_law_due_here", "_law_found"] (defScope s_law) (defBody s_law) (m_law C_Pattern C_FolderkinError C_InvalidPattern gX) :=
  jb_cons (set_ 1 sc_law.nd (JF.new (jf_lst (jl_cons (ce_int) (jl_cons (ce_int) (jl_nil))))))
    (jb_cons (set_ 2 sc_law.nd (je_call (P_law_text (c := c) T).fn (Nat.le_of_ble_eq_true rfl) rfl (jl_cons (v_ 1) (jl_cons (v_ 0) (jl_nil)))))
    (jb_cons (set_ 3 sc_law.nd (je_call (P_law_due (c := c) T).fn (Nat.le_of_ble_eq_true rfl) rfl (jl_cons (v_ 2) (jl_nil))))
    (jb_cons (set_ 4 sc_law.nd (je_call (P_law_told_of (c := c) T).fn (Nat.le_of_ble_eq_true rfl) rfl (jl_cons (v_ 2) (jl_nil))))
    (jb_cons (js_if (jt_val (je_isi (T := "int") rfl T.b_isinstance rfl T.b_int (by decide +kernel) (v_ 3))) (jb_one (js_ret (je_and (je_isi (T := "int") rfl T.b_isinstance rfl T.b_int (by decide +kernel) (v_ 4)) (je_and (je_not (je_isi (T := "bool") rfl T.b_isinstance rfl T.b_bool (by decide +kernel) (v_ 4))) (je_one (ce_cmp o_eq (v_ 4) (v_ 3))))))) (jb_nil))
    (jb_cons (js_if (jt_not (jt_val (je_call (P_law_same (c := c) T).fn (Nat.le_of_ble_eq_true rfl) rfl (jl_cons (v_ 4) (jl_cons (v_ 3) (jl_nil)))))) (jb_one (js_ret (ce_bl))) (jb_nil))
    (jb_one (js_ret (je_and (je_call (P_law_same (c := c) T).fn (Nat.le_of_ble_eq_true rfl) rfl (jl_cons (je_call (P_parse_patterns (c := c) T).fn (Nat.le_of_ble_eq_true rfl) rfl (jl_cons (je_call (P_format_patterns (c := c) T).fn (Nat.le_of_ble_eq_true rfl) rfl (jl_cons (v_ 4) (jl_nil))) (jl_nil))) (jl_cons (v_ 3) (jl_nil)))) (je_one (je_call (P_law_same (c := c) T).fn (Nat.le_of_ble_eq_true rfl) rfl (jl_cons (je_call (P_law_told_of (c := c) T).fn (Nat.le_of_ble_eq_true rfl) rfl (jl_cons (v_ 2) (jl_nil))) (jl_cons (v_ 3) (jl_nil)))))))))))))
end
theorem all_mk {l : PySem.W.OpenLaw} {w : World} {K : PySem.W.Frag} {h : Heap} {mg : Str → Option Value} {fa C_Pattern C_FolderkinError C_InvalidPattern f0 dT0 f1 f2 f3 f4 f5 f6 f7 f8 f9 f10 f11 f12 f13 f14 f15 f16 f17 f18 f19 f20 gX cdaX ccX : Addr} (X : K.In h) (G : h.Ns mainGlobals mg) (hfa : mg "law" = some (.ref fa))
    {od0 an0 dd0 od1 an1 od2 an2 od3 an3 od4 an4 od5 an5 od6 an6 od7 an7 od8 an8 od9 an9 od10 an10 od11 an11 od12 an12 od13 an13 od14 an14 od15 an15 od16 an16 od17 an17 od18 an18 od19 an19 od20 an20 odX anX cddX cldX : Option Addr} {sl0 ds0 sl1 sl2 sl3 sl4 sl5 sl6 sl7 sl8 sl9 sl10 sl11 sl12 sl13 sl14 sl15 sl16 sl17 sl18 sl19 sl20 oslX ccsX cslX : Array (Option Value)} {oc0 kV0 dc0 pm0 cd0 ct0 oc1 kV1 dc1 pm1 cd1 ct1 oc2 kV2 dc2 pm2 cd2 ct2 oc3 kV3 dc3 pm3 cd3 ct3 oc4 kV4 dc4 pm4 cd4 ct4 oc5 kV5 dc5 pm5 cd5 ct5 oc6 kV6 dc6 pm6 cd6 ct6 oc7 kV7 dc7 pm7 cd7 ct7 oc8 kV8 dc8 pm8 cd8 ct8 oc9 kV9 dc9 pm9 cd9 ct9 oc10 kV10 dc10 pm10 cd10 ct10 oc11 kV11 dc11 pm11 cd11 ct11 oc12 kV12 dc12 pm12 cd12 ct12 oc13 kV13 dc13 pm13 cd13 ct13 oc14 kV14 dc14 pm14 cd14 ct14 oc15 kV15 dc15 pm15 cd15 ct15 oc16 kV16 dc16 pm16 cd16 ct16 oc17 kV17 dc17 pm17 cd17 ct17 oc18 kV18 dc18 pm18 cd18 ct18 oc19 kV19 dc19 pm19 cd19 ct19 oc20 kV20 dc20 pm20 cd20 ct20 ocX dcX pmX ctX kVX cclX clX : Value} {tfX t_PLAIN t_LONGEST_SET t_CHARACTERS t_LEAST_RANGE t_MOST_PATTERNS t_MOST_ATOMS : Tok} {dn0 : Nat} {fileX : Str} {vsX : Array Value} {nm_FolderkinError q_FolderkinError : Str} {N_FolderkinError : Addr} {bs_FolderkinError bm_FolderkinError sub_FolderkinError : List Value} {sn_FolderkinError : List Str} {ab_FolderkinError : Bool} {col_FolderkinError : Option Bool} {dd_FolderkinError : Option Addr} {k0_FolderkinError k1_FolderkinError k2_FolderkinError k3_FolderkinError k5_FolderkinError : Option Value} {nm_InvalidPattern q_InvalidPattern : Str} {N_InvalidPattern : Addr} {bs_InvalidPattern bm_InvalidPattern sub_InvalidPattern : List Value} {sn_InvalidPattern : List Str} {ab_InvalidPattern : Bool} {col_InvalidPattern : Option Bool} {dd_InvalidPattern : Option Addr} {k0_InvalidPattern k1_InvalidPattern k2_InvalidPattern k3_InvalidPattern k5_InvalidPattern : Option Value}
    (aC_Pattern : PySem.W.nsIn K mainGlobals "Pattern" = some (some (.ref C_Pattern)))
    (aC_FolderkinError : PySem.W.nsIn K mainGlobals "FolderkinError" = some (some (.ref C_FolderkinError)))
    (aC_InvalidPattern : PySem.W.nsIn K mainGlobals "InvalidPattern" = some (some (.ref C_InvalidPattern)))
    (a0 : PySem.W.findIn K (.ref C_Pattern) "__init__" = some (some (.ref f0)))
    (i0 : PySem.W.isFn K (.ref f0) = true)
    (l0 : K.lookup f0 = some ⟨oc0, od0, .func (PySem.W.fnOf "__init__" "Pattern.__init__" (defArgs s_Pattern_init) (defBody s_Pattern_init) (defScope s_Pattern_init) (.ref dT0) kV0 dc0 pm0 an0 cd0 ct0), sl0⟩)
    (c0 : PySem.W.codeIn K cd0 "Pattern.__init__" = true)
    (k0 : PySem.W.keepIn K (.ref f0) = true)
    (t0 : K.lookup dT0 = some ⟨.type "tuple", dd0, .seq #[.bool false] dn0, ds0⟩)
    (a1 : PySem.W.nsIn K mainGlobals "ranges_of" = some (some (.ref f1)))
    (l1 : K.lookup f1 = some ⟨oc1, od1, .func (PySem.W.fnOf "ranges_of" "ranges_of" (defArgs s_ranges_of) (defBody s_ranges_of) (defScope s_ranges_of) .none kV1 dc1 pm1 an1 cd1 ct1), sl1⟩)
    (c1 : PySem.W.codeIn K cd1 "ranges_of" = true)
    (k1 : PySem.W.keepIn K (.ref f1) = true)
    (a2 : PySem.W.nsIn K mainGlobals "format_atom" = some (some (.ref f2)))
    (l2 : K.lookup f2 = some ⟨oc2, od2, .func (PySem.W.fnOf "format_atom" "format_atom" (defArgs s_format_atom) (defBody s_format_atom) (defScope s_format_atom) .none kV2 dc2 pm2 an2 cd2 ct2), sl2⟩)
    (c2 : PySem.W.codeIn K cd2 "format_atom" = true)
    (k2 : PySem.W.keepIn K (.ref f2) = true)
    (a3 : PySem.W.nsIn K mainGlobals "format_pattern" = some (some (.ref f3)))
    (l3 : K.lookup f3 = some ⟨oc3, od3, .func (PySem.W.fnOf "format_pattern" "format_pattern" (defArgs s_format_pattern) (defBody s_format_pattern) (defScope s_format_pattern) .none kV3 dc3 pm3 an3 cd3 ct3), sl3⟩)
    (c3 : PySem.W.codeIn K cd3 "format_pattern" = true)
    (k3 : PySem.W.keepIn K (.ref f3) = true)
    (a4 : PySem.W.nsIn K mainGlobals "format_patterns" = some (some (.ref f4)))
    (l4 : K.lookup f4 = some ⟨oc4, od4, .func (PySem.W.fnOf "format_patterns" "format_patterns" (defArgs s_format_patterns) (defBody s_format_patterns) (defScope s_format_patterns) .none kV4 dc4 pm4 an4 cd4 ct4), sl4⟩)
    (c4 : PySem.W.codeIn K cd4 "format_patterns" = true)
    (k4 : PySem.W.keepIn K (.ref f4) = true)
    (a5 : PySem.W.nsIn K mainGlobals "read_items" = some (some (.ref f5)))
    (l5 : K.lookup f5 = some ⟨oc5, od5, .func (PySem.W.fnOf "read_items" "read_items" (defArgs s_read_items) (defBody s_read_items) (defScope s_read_items) .none kV5 dc5 pm5 an5 cd5 ct5), sl5⟩)
    (c5 : PySem.W.codeIn K cd5 "read_items" = true)
    (k5 : PySem.W.keepIn K (.ref f5) = true)
    (a6 : PySem.W.nsIn K mainGlobals "read_set" = some (some (.ref f6)))
    (l6 : K.lookup f6 = some ⟨oc6, od6, .func (PySem.W.fnOf "read_set" "read_set" (defArgs s_read_set) (defBody s_read_set) (defScope s_read_set) .none kV6 dc6 pm6 an6 cd6 ct6), sl6⟩)
    (c6 : PySem.W.codeIn K cd6 "read_set" = true)
    (k6 : PySem.W.keepIn K (.ref f6) = true)
    (a7 : PySem.W.nsIn K mainGlobals "read_atom" = some (some (.ref f7)))
    (l7 : K.lookup f7 = some ⟨oc7, od7, .func (PySem.W.fnOf "read_atom" "read_atom" (defArgs s_read_atom) (defBody s_read_atom) (defScope s_read_atom) .none kV7 dc7 pm7 an7 cd7 ct7), sl7⟩)
    (c7 : PySem.W.codeIn K cd7 "read_atom" = true)
    (k7 : PySem.W.keepIn K (.ref f7) = true)
    (a8 : PySem.W.nsIn K mainGlobals "parse_line" = some (some (.ref f8)))
    (l8 : K.lookup f8 = some ⟨oc8, od8, .func (PySem.W.fnOf "parse_line" "parse_line" (defArgs s_parse_line) (defBody s_parse_line) (defScope s_parse_line) .none kV8 dc8 pm8 an8 cd8 ct8), sl8⟩)
    (c8 : PySem.W.codeIn K cd8 "parse_line" = true)
    (k8 : PySem.W.keepIn K (.ref f8) = true)
    (a9 : PySem.W.nsIn K mainGlobals "parse_patterns" = some (some (.ref f9)))
    (l9 : K.lookup f9 = some ⟨oc9, od9, .func (PySem.W.fnOf "parse_patterns" "parse_patterns" (defArgs s_parse_patterns) (defBody s_parse_patterns) (defScope s_parse_patterns) .none kV9 dc9 pm9 an9 cd9 ct9), sl9⟩)
    (c9 : PySem.W.codeIn K cd9 "parse_patterns" = true)
    (k9 : PySem.W.keepIn K (.ref f9) = true)
    (a10 : PySem.W.nsIn K mainGlobals "_law_draw" = some (some (.ref f10)))
    (l10 : K.lookup f10 = some ⟨oc10, od10, .func (PySem.W.fnOf "_law_draw" "_law_draw" (defArgs s_law_draw) (defBody s_law_draw) (defScope s_law_draw) .none kV10 dc10 pm10 an10 cd10 ct10), sl10⟩)
    (c10 : PySem.W.codeIn K cd10 "_law_draw" = true)
    (k10 : PySem.W.keepIn K (.ref f10) = true)
    (a11 : PySem.W.nsIn K mainGlobals "_law_all" = some (some (.ref f11)))
    (l11 : K.lookup f11 = some ⟨oc11, od11, .func (PySem.W.fnOf "_law_all" "_law_all" (defArgs s_law_all) (defBody s_law_all) (defScope s_law_all) .none kV11 dc11 pm11 an11 cd11 ct11), sl11⟩)
    (c11 : PySem.W.codeIn K cd11 "_law_all" = true)
    (k11 : PySem.W.keepIn K (.ref f11) = true)
    (a12 : PySem.W.nsIn K mainGlobals "_law_told" = some (some (.ref f12)))
    (l12 : K.lookup f12 = some ⟨oc12, od12, .func (PySem.W.fnOf "_law_told" "_law_told" (defArgs s_law_told) (defBody s_law_told) (defScope s_law_told) .none kV12 dc12 pm12 an12 cd12 ct12), sl12⟩)
    (c12 : PySem.W.codeIn K cd12 "_law_told" = true)
    (k12 : PySem.W.keepIn K (.ref f12) = true)
    (a13 : PySem.W.nsIn K mainGlobals "_law_same" = some (some (.ref f13)))
    (l13 : K.lookup f13 = some ⟨oc13, od13, .func (PySem.W.fnOf "_law_same" "_law_same" (defArgs s_law_same) (defBody s_law_same) (defScope s_law_same) .none kV13 dc13 pm13 an13 cd13 ct13), sl13⟩)
    (c13 : PySem.W.codeIn K cd13 "_law_same" = true)
    (k13 : PySem.W.keepIn K (.ref f13) = true)
    (a14 : PySem.W.nsIn K mainGlobals "_law_set" = some (some (.ref f14)))
    (l14 : K.lookup f14 = some ⟨oc14, od14, .func (PySem.W.fnOf "_law_set" "_law_set" (defArgs s_law_set) (defBody s_law_set) (defScope s_law_set) .none kV14 dc14 pm14 an14 cd14 ct14), sl14⟩)
    (c14 : PySem.W.codeIn K cd14 "_law_set" = true)
    (k14 : PySem.W.keepIn K (.ref f14) = true)
    (a15 : PySem.W.nsIn K mainGlobals "_law_read" = some (some (.ref f15)))
    (l15 : K.lookup f15 = some ⟨oc15, od15, .func (PySem.W.fnOf "_law_read" "_law_read" (defArgs s_law_read) (defBody s_law_read) (defScope s_law_read) .none kV15 dc15 pm15 an15 cd15 ct15), sl15⟩)
    (c15 : PySem.W.codeIn K cd15 "_law_read" = true)
    (k15 : PySem.W.keepIn K (.ref f15) = true)
    (a16 : PySem.W.nsIn K mainGlobals "_law_line" = some (some (.ref f16)))
    (l16 : K.lookup f16 = some ⟨oc16, od16, .func (PySem.W.fnOf "_law_line" "_law_line" (defArgs s_law_line) (defBody s_law_line) (defScope s_law_line) .none kV16 dc16 pm16 an16 cd16 ct16), sl16⟩)
    (c16 : PySem.W.codeIn K cd16 "_law_line" = true)
    (k16 : PySem.W.keepIn K (.ref f16) = true)
    (a17 : PySem.W.nsIn K mainGlobals "_law_due" = some (some (.ref f17)))
    (l17 : K.lookup f17 = some ⟨oc17, od17, .func (PySem.W.fnOf "_law_due" "_law_due" (defArgs s_law_due) (defBody s_law_due) (defScope s_law_due) .none kV17 dc17 pm17 an17 cd17 ct17), sl17⟩)
    (c17 : PySem.W.codeIn K cd17 "_law_due" = true)
    (k17 : PySem.W.keepIn K (.ref f17) = true)
    (a18 : PySem.W.nsIn K mainGlobals "_law_text" = some (some (.ref f18)))
    (l18 : K.lookup f18 = some ⟨oc18, od18, .func (PySem.W.fnOf "_law_text" "_law_text" (defArgs s_law_text) (defBody s_law_text) (defScope s_law_text) .none kV18 dc18 pm18 an18 cd18 ct18), sl18⟩)
    (c18 : PySem.W.codeIn K cd18 "_law_text" = true)
    (k18 : PySem.W.keepIn K (.ref f18) = true)
    (a19 : PySem.W.nsIn K mainGlobals "_law_told_of" = some (some (.ref f19)))
    (l19 : K.lookup f19 = some ⟨oc19, od19, .func (PySem.W.fnOf "_law_told_of" "_law_told_of" (defArgs s_law_told_of) (defBody s_law_told_of) (defScope s_law_told_of) .none kV19 dc19 pm19 an19 cd19 ct19), sl19⟩)
    (c19 : PySem.W.codeIn K cd19 "_law_told_of" = true)
    (k19 : PySem.W.keepIn K (.ref f19) = true)
    (a20 : PySem.W.nsIn K mainGlobals "law" = some (some (.ref f20)))
    (l20 : K.lookup f20 = some ⟨oc20, od20, .func (PySem.W.fnOf "law" "law" (defArgs s_law) (defBody s_law) (defScope s_law) .none kV20 dc20 pm20 an20 cd20 ct20), sl20⟩)
    (c20 : PySem.W.codeIn K cd20 "law" = true)
    (k20 : PySem.W.keepIn K (.ref f20) = true)
    (pg_Pattern : PySem.W.plainGet K C_Pattern Str.empty = true)
    (hd_Pattern : PySem.W.hasDictIn K C_Pattern = true)
    (po_Pattern : PySem.W.plainOver K C_Pattern = true)
    (sa_Pattern : PySem.W.findIn K (.ref C_Pattern) "__setattr__" = some (some (.builtin "object.__setattr__")))
    (mk_Pattern : PySem.W.makesIn K C_Pattern = true)
    (kc_Pattern : PySem.W.keepIn K (.ref C_Pattern) = true)
    (cha_Pattern : PySem.W.findIn K (.ref C_Pattern) "__class__" = some (some (.builtin "object.__class__")))
    (chn_Pattern : PySem.W.specialIn K (.builtin "object.__class__") "__get__" = some (some (.builtin "getset_descriptor.__get__")))
    (cht_Pattern : PySem.W.takesIn K (.builtin "object.__class__") = some true)
    (chm_Pattern : PySem.W.mroIn K C_Pattern (.type "object") = some true)
    (cic_Pattern : PySem.W.isClsIn K C_Pattern = true)
    (cty_Pattern : PySem.W.typeIn K (.ref C_Pattern) = some (.type "type"))
    (nNoneType_Pattern : PySem.W.notFirst K C_Pattern (.type "NoneType") = true)
    (nbool_Pattern : PySem.W.notFirst K C_Pattern (.type "bool") = true)
    (nint_Pattern : PySem.W.notFirst K C_Pattern (.type "int") = true)
    (nstr_Pattern : PySem.W.notFirst K C_Pattern (.type "str") = true)
    (nlist_Pattern : PySem.W.notFirst K C_Pattern (.type "list") = true)
    (ntuple_Pattern : PySem.W.notFirst K C_Pattern (.type "tuple") = true)
    (na_atoms_Pattern : PySem.W.findIn K (.ref C_Pattern) "atoms" = some none)
    (na_negated_Pattern : PySem.W.findIn K (.ref C_Pattern) "negated" = some none)
    (lX : K.lookup gX = some ⟨ocX, odX, .func (PySem.W.ksFn "__init__" "FolderkinError.__init__" (defArgs s_X) (defBody s_X) (defScope s_X) .none kVX dcX pmX anX (.ref cdaX) ctX ccX), oslX⟩)
    (cX : PySem.W.codeIn K (.ref cdaX) "FolderkinError.__init__" = true)
    (oX : K.lookup cdaX = some ⟨cclX, cddX, .fields vsX, ccsX⟩)
    (vX : vsX[2]? = some (.str fileX tfX))
    (fX : ((l.prog.main.file : Str) == fileX) = true)
    (ceX : K.lookup ccX = some ⟨clX, cldX, .cell (some (.ref C_FolderkinError)), cslX⟩)
    (dX : PySem.W.isClsIn K C_FolderkinError = true)
    (kX : PySem.W.keepIn K (.ref gX) = true)
    (tX : PySem.W.typeIn K (.ref gX) = some (.type "function"))
    (tpX : PySem.W.nsIn K cStatics "thirdparty.any" = some none)
    (topX : (l.prog.main.scope.names.lookup ("super" : Str)).isSome = false)
    (suX : PySem.W.nsIn K mainGlobals "super" = some none)
    (e0_FolderkinError : K.lookup C_FolderkinError = some (PySem.excClassObj nm_FolderkinError q_FolderkinError C_FolderkinError N_FolderkinError bs_FolderkinError bm_FolderkinError true sn_FolderkinError sub_FolderkinError ab_FolderkinError col_FolderkinError dd_FolderkinError k0_FolderkinError k1_FolderkinError k2_FolderkinError k3_FolderkinError k5_FolderkinError "ValueError.__new__"))
    (ez_FolderkinError : PySem.HandSPX.refsVE bm_FolderkinError = true)
    (e1_FolderkinError : PySem.W.findIn K (.ref C_FolderkinError) "__setattr__" = some (some (.builtin "object.__setattr__")))
    (e2_FolderkinError : PySem.W.subIn K (.ref C_FolderkinError) (.type "BaseException") = some true)
    (e3_FolderkinError : PySem.W.typeIn K (.ref C_FolderkinError) = some (.type "type"))
    (e4_FolderkinError : PySem.W.keepIn K (.ref C_FolderkinError) = true)
    (e5_FolderkinError : PySem.W.isClsIn K C_FolderkinError = true)
    (e6_FolderkinError : PySem.W.mroIn K C_FolderkinError (.ref C_FolderkinError) = some true)
    (e7_FolderkinError : PySem.W.ks_superIn K C_FolderkinError C_FolderkinError "__init__" = some (some (.builtin "ValueError.__init__")))
    (e8_FolderkinError : PySem.W.subIn K (.ref C_FolderkinError) (.type "ValueError") = some true)
    (e9_FolderkinError : PySem.W.findIn K (.ref C_FolderkinError) "place" = some none)
    (ea_FolderkinError : PySem.W.findIn K (.ref C_FolderkinError) "__init__" = some (some (.ref gX)))
    (eb_FolderkinError : PySem.W.hasDictIn K C_FolderkinError = true)
    (ec_FolderkinError : PySem.W.findIn K (.ref C_FolderkinError) "__getattribute__" = some (some (.builtin "BaseException.__getattribute__")))
    (ed_FolderkinError : PySem.W.findIn K (.ref C_FolderkinError) "__getattr__" = some none)
    (ee_FolderkinError : PySem.W.findIn K (.ref C_FolderkinError) "__class__" = some (some (.builtin "object.__class__")))
    (ef_FolderkinError : PySem.W.specialIn K (.builtin "object.__class__") "__get__" = some (some (.builtin "getset_descriptor.__get__")))
    (eg_FolderkinError : PySem.W.takesIn K (.builtin "object.__class__") = some true)
    (eh_FolderkinError : PySem.W.mroIn K C_FolderkinError (.type "object") = some true)
    (e0_InvalidPattern : K.lookup C_InvalidPattern = some (PySem.excClassObj nm_InvalidPattern q_InvalidPattern C_InvalidPattern N_InvalidPattern bs_InvalidPattern bm_InvalidPattern true sn_InvalidPattern sub_InvalidPattern ab_InvalidPattern col_InvalidPattern dd_InvalidPattern k0_InvalidPattern k1_InvalidPattern k2_InvalidPattern k3_InvalidPattern k5_InvalidPattern "ValueError.__new__"))
    (ez_InvalidPattern : PySem.HandSPX.refsVE bm_InvalidPattern = true)
    (e1_InvalidPattern : PySem.W.findIn K (.ref C_InvalidPattern) "__setattr__" = some (some (.builtin "object.__setattr__")))
    (e2_InvalidPattern : PySem.W.subIn K (.ref C_InvalidPattern) (.type "BaseException") = some true)
    (e3_InvalidPattern : PySem.W.typeIn K (.ref C_InvalidPattern) = some (.type "type"))
    (e4_InvalidPattern : PySem.W.keepIn K (.ref C_InvalidPattern) = true)
    (e5_InvalidPattern : PySem.W.isClsIn K C_InvalidPattern = true)
    (e6_InvalidPattern : PySem.W.mroIn K C_InvalidPattern (.ref C_FolderkinError) = some true)
    (e7_InvalidPattern : PySem.W.ks_superIn K C_InvalidPattern C_FolderkinError "__init__" = some (some (.builtin "ValueError.__init__")))
    (e8_InvalidPattern : PySem.W.subIn K (.ref C_InvalidPattern) (.type "ValueError") = some true)
    (e9_InvalidPattern : PySem.W.findIn K (.ref C_InvalidPattern) "place" = some none)
    (ea_InvalidPattern : PySem.W.findIn K (.ref C_InvalidPattern) "__init__" = some (some (.ref gX)))
    (eb_InvalidPattern : PySem.W.hasDictIn K C_InvalidPattern = true)
    (ec_InvalidPattern : PySem.W.findIn K (.ref C_InvalidPattern) "__getattribute__" = some (some (.builtin "BaseException.__getattribute__")))
    (ed_InvalidPattern : PySem.W.findIn K (.ref C_InvalidPattern) "__getattr__" = some none)
    (ee_InvalidPattern : PySem.W.findIn K (.ref C_InvalidPattern) "__class__" = some (some (.builtin "object.__class__")))
    (ef_InvalidPattern : PySem.W.specialIn K (.builtin "object.__class__") "__get__" = some (some (.builtin "getset_descriptor.__get__")))
    (eg_InvalidPattern : PySem.W.takesIn K (.builtin "object.__class__") = some true)
    (eh_InvalidPattern : PySem.W.mroIn K C_InvalidPattern (.type "object") = some true)
    (es_InvalidPattern_InvalidPattern : PySem.W.subIn K (.ref C_InvalidPattern) (.ref C_InvalidPattern) = some true)
    (es_InvalidPattern_FolderkinError : PySem.W.subIn K (.ref C_InvalidPattern) (.ref C_FolderkinError) = some true)
    (z_ValueError : PySem.W.nsIn K mainGlobals "ValueError" = some none)
    (z_bool : PySem.W.nsIn K mainGlobals "bool" = some none)
    (z_int : PySem.W.nsIn K mainGlobals "int" = some none)
    (z_isinstance : PySem.W.nsIn K mainGlobals "isinstance" = some none)
    (z_len : PySem.W.nsIn K mainGlobals "len" = some none)
    (z_list : PySem.W.nsIn K mainGlobals "list" = some none)
    (z_range : PySem.W.nsIn K mainGlobals "range" = some none)
    (z_tuple : PySem.W.nsIn K mainGlobals "tuple" = some none)
    (y_PLAIN : PySem.W.nsIn K mainGlobals "PLAIN" = some (some (.str "-.0123456789ABCDEFGHIJKLMNOPQRSTUVWXYZ_abcdefghijklmnopqrstuvwxyz~" t_PLAIN)))
    (y_LONGEST_SET : PySem.W.nsIn K mainGlobals "LONGEST_SET" = some (some (.int 33 t_LONGEST_SET)))
    (y_CHARACTERS : PySem.W.nsIn K mainGlobals "CHARACTERS" = some (some (.str "-./0123456789ABCDEFGHIJKLMNOPQRSTUVWXYZ_abcdefghijklmnopqrstuvwxyz~" t_CHARACTERS)))
    (y_LEAST_RANGE : PySem.W.nsIn K mainGlobals "LEAST_RANGE" = some (some (.int 3 t_LEAST_RANGE)))
    (y_MOST_PATTERNS : PySem.W.nsIn K mainGlobals "MOST_PATTERNS" = some (some (.int 20 t_MOST_PATTERNS)))
    (y_MOST_ATOMS : PySem.W.nsIn K mainGlobals "MOST_ATOMS" = some (some (.int 40 t_MOST_ATOMS)))
    (hm : ∀ (C_Pattern C_FolderkinError C_InvalidPattern gX : Nat) (ns : List Int), ns.length ≤ 63 → (f_law C_Pattern C_FolderkinError C_InvalidPattern gX) [scriptD ns] (fun _ => none) (fun d _ => d = .bool true) (fun _ _ => False)) :
    ∃ fd : FuncData, (∀ (s : Shared) (v : Value), BindsTo s fd ⟨[v], []⟩ [("_law_script", v)]) ∧ ∀ base : Heap, K.In base → base.Ns mainGlobals mg → FnOk l.prog w K mg base (L2.CX l.prog w) 9 fa fd ["_law_script"] (fun vs H Q _ => ∃ (a : Addr) (ns : List Int), vs = [.ref a] ∧ SqL K H a (ns.map V.int) ∧ ns.length ≤ 63 ∧ ∀ H', Q (.bl true) H') := by
  have e := Value.ref.inj (Option.some.inj ((PySem.W.mg_of X G a20).symm.trans hfa))
  subst e
  have F0 : FunD K "__init__" "Pattern.__init__" (defArgs s_Pattern_init) (defBody s_Pattern_init) (defScope s_Pattern_init) [V.bl false] [] f0 (PySem.W.fnOf "__init__" "Pattern.__init__" (defArgs s_Pattern_init) (defBody s_Pattern_init) (defScope s_Pattern_init) (.ref dT0) kV0 dc0 pm0 an0 cd0 ct0) := ⟨⟨_, _, _, _, _, _, _, _, _, _, rfl, l0, c0, .inr ⟨by simp, _, _, [.bool false], _, rfl, t0, rfl, by repeat (first | exact .nil | refine .cons ?_ ?_ | exact rfl | exact ⟨_, rfl⟩)⟩, .inl rfl⟩, k0⟩
  have b0 : Binds K (PySem.W.fnOf "__init__" "Pattern.__init__" (defArgs s_Pattern_init) (defBody s_Pattern_init) (defScope s_Pattern_init) (.ref dT0) kV0 dc0 pm0 an0 cd0 ct0) ["self", "atoms", "negated"] [] := by
    obtain ⟨ds, r, b⟩ := F0.binds1 (ps := ["self", "atoms", "negated"]) 3 1 (by simp) rfl fun T kV doc pm an cdv ct us its h1 h2 => match us, its, h1, h2 with | [_, _, _], [_], _, _ => ⟨_, rfl, rfl⟩
    cases r
    exact b
  have A0 : ∀ (base : Heap), AtF ⟨l.prog, w, K, mg, base, 0, true, true, none, []⟩ "__init__" "Pattern.__init__" s_Pattern_init ["self", "atoms", "negated"] [V.bl false] [] f0 := fun base => ⟨_, F0, b0, fun j hj => by
    cases hj⟩
  have F1 : FunD K "ranges_of" "ranges_of" (defArgs s_ranges_of) (defBody s_ranges_of) (defScope s_ranges_of) [] [] f1 _ := ⟨⟨_, _, _, _, _, _, _, _, _, _, rfl, l1, c1, .inl ⟨rfl, rfl⟩, .inl rfl⟩, k1⟩
  have A1 : ∀ (base : Heap), AtF ⟨l.prog, w, K, mg, base, 0, true, true, none, []⟩ "ranges_of" "ranges_of" s_ranges_of ["characters"] [] [] f1 := fun base => ⟨_, F1, F1.bindsN fun _ _ _ _ _ _ us hl => match us, hl with | [_], _ => rfl, fun j hj => by cases hj⟩
  have F2 : FunD K "format_atom" "format_atom" (defArgs s_format_atom) (defBody s_format_atom) (defScope s_format_atom) [] [] f2 _ := ⟨⟨_, _, _, _, _, _, _, _, _, _, rfl, l2, c2, .inl ⟨rfl, rfl⟩, .inl rfl⟩, k2⟩
  have A2 : ∀ (base : Heap), AtF ⟨l.prog, w, K, mg, base, 0, true, true, none, []⟩ "format_atom" "format_atom" s_format_atom ["atom"] [] [] f2 := fun base => ⟨_, F2, F2.bindsN fun _ _ _ _ _ _ us hl => match us, hl with | [_], _ => rfl, fun j hj => by cases hj⟩
  have F3 : FunD K "format_pattern" "format_pattern" (defArgs s_format_pattern) (defBody s_format_pattern) (defScope s_format_pattern) [] [] f3 _ := ⟨⟨_, _, _, _, _, _, _, _, _, _, rfl, l3, c3, .inl ⟨rfl, rfl⟩, .inl rfl⟩, k3⟩
  have A3 : ∀ (base : Heap), AtF ⟨l.prog, w, K, mg, base, 0, true, true, none, []⟩ "format_pattern" "format_pattern" s_format_pattern ["pattern"] [] [] f3 := fun base => ⟨_, F3, F3.bindsN fun _ _ _ _ _ _ us hl => match us, hl with | [_], _ => rfl, fun j hj => by cases hj⟩
  have F4 : FunD K "format_patterns" "format_patterns" (defArgs s_format_patterns) (defBody s_format_patterns) (defScope s_format_patterns) [] [] f4 _ := ⟨⟨_, _, _, _, _, _, _, _, _, _, rfl, l4, c4, .inl ⟨rfl, rfl⟩, .inl rfl⟩, k4⟩
  have A4 : ∀ (base : Heap), AtF ⟨l.prog, w, K, mg, base, 0, true, true, none, []⟩ "format_patterns" "format_patterns" s_format_patterns ["patterns"] [] [] f4 := fun base => ⟨_, F4, F4.bindsN fun _ _ _ _ _ _ us hl => match us, hl with | [_], _ => rfl, fun j hj => by cases hj⟩
  have F5 : FunD K "read_items" "read_items" (defArgs s_read_items) (defBody s_read_items) (defScope s_read_items) [] [] f5 _ := ⟨⟨_, _, _, _, _, _, _, _, _, _, rfl, l5, c5, .inl ⟨rfl, rfl⟩, .inl rfl⟩, k5⟩
  have A5 : ∀ (base : Heap), AtF ⟨l.prog, w, K, mg, base, 0, true, true, none, []⟩ "read_items" "read_items" s_read_items ["line", "at", "stop", "start"] [] [] f5 := fun base => ⟨_, F5, F5.bindsN fun _ _ _ _ _ _ us hl => match us, hl with | [_, _, _, _], _ => rfl, fun j hj => by cases hj⟩
  have F6 : FunD K "read_set" "read_set" (defArgs s_read_set) (defBody s_read_set) (defScope s_read_set) [] [] f6 _ := ⟨⟨_, _, _, _, _, _, _, _, _, _, rfl, l6, c6, .inl ⟨rfl, rfl⟩, .inl rfl⟩, k6⟩
  have A6 : ∀ (base : Heap), AtF ⟨l.prog, w, K, mg, base, 0, true, true, none, []⟩ "read_set" "read_set" s_read_set ["line", "at", "start"] [] [] f6 := fun base => ⟨_, F6, F6.bindsN fun _ _ _ _ _ _ us hl => match us, hl with | [_, _, _], _ => rfl, fun j hj => by cases hj⟩
  have F7 : FunD K "read_atom" "read_atom" (defArgs s_read_atom) (defBody s_read_atom) (defScope s_read_atom) [] [] f7 _ := ⟨⟨_, _, _, _, _, _, _, _, _, _, rfl, l7, c7, .inl ⟨rfl, rfl⟩, .inl rfl⟩, k7⟩
  have A7 : ∀ (base : Heap), AtF ⟨l.prog, w, K, mg, base, 0, true, true, none, []⟩ "read_atom" "read_atom" s_read_atom ["line", "at", "start"] [] [] f7 := fun base => ⟨_, F7, F7.bindsN fun _ _ _ _ _ _ us hl => match us, hl with | [_, _, _], _ => rfl, fun j hj => by cases hj⟩
  have F8 : FunD K "parse_line" "parse_line" (defArgs s_parse_line) (defBody s_parse_line) (defScope s_parse_line) [] [] f8 _ := ⟨⟨_, _, _, _, _, _, _, _, _, _, rfl, l8, c8, .inl ⟨rfl, rfl⟩, .inl rfl⟩, k8⟩
  have A8 : ∀ (base : Heap), AtF ⟨l.prog, w, K, mg, base, 0, true, true, none, []⟩ "parse_line" "parse_line" s_parse_line ["line", "start"] [] [] f8 := fun base => ⟨_, F8, F8.bindsN fun _ _ _ _ _ _ us hl => match us, hl with | [_, _], _ => rfl, fun j hj => by cases hj⟩
  have F9 : FunD K "parse_patterns" "parse_patterns" (defArgs s_parse_patterns) (defBody s_parse_patterns) (defScope s_parse_patterns) [] [] f9 _ := ⟨⟨_, _, _, _, _, _, _, _, _, _, rfl, l9, c9, .inl ⟨rfl, rfl⟩, .inl rfl⟩, k9⟩
  have A9 : ∀ (base : Heap), AtF ⟨l.prog, w, K, mg, base, 0, true, true, none, []⟩ "parse_patterns" "parse_patterns" s_parse_patterns ["text"] [] [] f9 := fun base => ⟨_, F9, F9.bindsN fun _ _ _ _ _ _ us hl => match us, hl with | [_], _ => rfl, fun j hj => by cases hj⟩
  have F10 : FunD K "_law_draw" "_law_draw" (defArgs s_law_draw) (defBody s_law_draw) (defScope s_law_draw) [] [] f10 _ := ⟨⟨_, _, _, _, _, _, _, _, _, _, rfl, l10, c10, .inl ⟨rfl, rfl⟩, .inl rfl⟩, k10⟩
  have A10 : ∀ (base : Heap), AtF ⟨l.prog, w, K, mg, base, 0, true, true, none, []⟩ "_law_draw" "_law_draw" s_law_draw ["_law_state", "_law_script", "_law_size"] [] [] f10 := fun base => ⟨_, F10, F10.bindsN fun _ _ _ _ _ _ us hl => match us, hl with | [_, _, _], _ => rfl, fun j hj => by cases hj⟩
  have F11 : FunD K "_law_all" "_law_all" (defArgs s_law_all) (defBody s_law_all) (defScope s_law_all) [] [] f11 _ := ⟨⟨_, _, _, _, _, _, _, _, _, _, rfl, l11, c11, .inl ⟨rfl, rfl⟩, .inl rfl⟩, k11⟩
  have A11 : ∀ (base : Heap), AtF ⟨l.prog, w, K, mg, base, 0, true, true, none, []⟩ "_law_all" "_law_all" s_law_all [] [] [] f11 := fun base => ⟨_, F11, F11.bindsN fun _ _ _ _ _ _ us hl => match us, hl with | [], _ => rfl, fun j hj => by cases hj⟩
  have F12 : FunD K "_law_told" "_law_told" (defArgs s_law_told) (defBody s_law_told) (defScope s_law_told) [] [] f12 _ := ⟨⟨_, _, _, _, _, _, _, _, _, _, rfl, l12, c12, .inl ⟨rfl, rfl⟩, .inl rfl⟩, k12⟩
  have A12 : ∀ (base : Heap), AtF ⟨l.prog, w, K, mg, base, 0, true, true, none, []⟩ "_law_told" "_law_told" s_law_told ["_law_actual", "_law_due_here"] [] [] f12 := fun base => ⟨_, F12, F12.bindsN fun _ _ _ _ _ _ us hl => match us, hl with | [_, _], _ => rfl, fun j hj => by cases hj⟩
  have F13 : FunD K "_law_same" "_law_same" (defArgs s_law_same) (defBody s_law_same) (defScope s_law_same) [] [] f13 _ := ⟨⟨_, _, _, _, _, _, _, _, _, _, rfl, l13, c13, .inl ⟨rfl, rfl⟩, .inl rfl⟩, k13⟩
  have A13 : ∀ (base : Heap), AtF ⟨l.prog, w, K, mg, base, 0, true, true, none, []⟩ "_law_same" "_law_same" s_law_same ["_law_patterns", "_law_rows"] [] [] f13 := fun base => ⟨_, F13, F13.bindsN fun _ _ _ _ _ _ us hl => match us, hl with | [_, _], _ => rfl, fun j hj => by cases hj⟩
  have F14 : FunD K "_law_set" "_law_set" (defArgs s_law_set) (defBody s_law_set) (defScope s_law_set) [] [] f14 _ := ⟨⟨_, _, _, _, _, _, _, _, _, _, rfl, l14, c14, .inl ⟨rfl, rfl⟩, .inl rfl⟩, k14⟩
  have A14 : ∀ (base : Heap), AtF ⟨l.prog, w, K, mg, base, 0, true, true, none, []⟩ "_law_set" "_law_set" s_law_set ["_law_line_here", "_law_start"] [] [] f14 := fun base => ⟨_, F14, F14.bindsN fun _ _ _ _ _ _ us hl => match us, hl with | [_, _], _ => rfl, fun j hj => by cases hj⟩
  have F15 : FunD K "_law_read" "_law_read" (defArgs s_law_read) (defBody s_law_read) (defScope s_law_read) [] [] f15 _ := ⟨⟨_, _, _, _, _, _, _, _, _, _, rfl, l15, c15, .inl ⟨rfl, rfl⟩, .inl rfl⟩, k15⟩
  have A15 : ∀ (base : Heap), AtF ⟨l.prog, w, K, mg, base, 0, true, true, none, []⟩ "_law_read" "_law_read" s_law_read ["_law_line_here", "_law_at"] [] [] f15 := fun base => ⟨_, F15, F15.bindsN fun _ _ _ _ _ _ us hl => match us, hl with | [_, _], _ => rfl, fun j hj => by cases hj⟩
  have F16 : FunD K "_law_line" "_law_line" (defArgs s_law_line) (defBody s_law_line) (defScope s_law_line) [] [] f16 _ := ⟨⟨_, _, _, _, _, _, _, _, _, _, rfl, l16, c16, .inl ⟨rfl, rfl⟩, .inl rfl⟩, k16⟩
  have A16 : ∀ (base : Heap), AtF ⟨l.prog, w, K, mg, base, 0, true, true, none, []⟩ "_law_line" "_law_line" s_law_line ["_law_line_here"] [] [] f16 := fun base => ⟨_, F16, F16.bindsN fun _ _ _ _ _ _ us hl => match us, hl with | [_], _ => rfl, fun j hj => by cases hj⟩
  have F17 : FunD K "_law_due" "_law_due" (defArgs s_law_due) (defBody s_law_due) (defScope s_law_due) [] [] f17 _ := ⟨⟨_, _, _, _, _, _, _, _, _, _, rfl, l17, c17, .inl ⟨rfl, rfl⟩, .inl rfl⟩, k17⟩
  have A17 : ∀ (base : Heap), AtF ⟨l.prog, w, K, mg, base, 0, true, true, none, []⟩ "_law_due" "_law_due" s_law_due ["_law_text_here"] [] [] f17 := fun base => ⟨_, F17, F17.bindsN fun _ _ _ _ _ _ us hl => match us, hl with | [_], _ => rfl, fun j hj => by cases hj⟩
  have F18 : FunD K "_law_text" "_law_text" (defArgs s_law_text) (defBody s_law_text) (defScope s_law_text) [] [] f18 _ := ⟨⟨_, _, _, _, _, _, _, _, _, _, rfl, l18, c18, .inl ⟨rfl, rfl⟩, .inl rfl⟩, k18⟩
  have A18 : ∀ (base : Heap), AtF ⟨l.prog, w, K, mg, base, 0, true, true, none, []⟩ "_law_text" "_law_text" s_law_text ["_law_state", "_law_script"] [] [] f18 := fun base => ⟨_, F18, F18.bindsN fun _ _ _ _ _ _ us hl => match us, hl with | [_, _], _ => rfl, fun j hj => by cases hj⟩
  have F19 : FunD K "_law_told_of" "_law_told_of" (defArgs s_law_told_of) (defBody s_law_told_of) (defScope s_law_told_of) [] [] f19 _ := ⟨⟨_, _, _, _, _, _, _, _, _, _, rfl, l19, c19, .inl ⟨rfl, rfl⟩, .inl rfl⟩, k19⟩
  have A19 : ∀ (base : Heap), AtF ⟨l.prog, w, K, mg, base, 0, true, true, none, []⟩ "_law_told_of" "_law_told_of" s_law_told_of ["_law_text_here"] [] [] f19 := fun base => ⟨_, F19, F19.bindsN fun _ _ _ _ _ _ us hl => match us, hl with | [_], _ => rfl, fun j hj => by cases hj⟩
  have F20 : FunD K "law" "law" (defArgs s_law) (defBody s_law) (defScope s_law) [] [] f20 _ := ⟨⟨_, _, _, _, _, _, _, _, _, _, rfl, l20, c20, .inl ⟨rfl, rfl⟩, .inl rfl⟩, k20⟩
  have A20 : ∀ (base : Heap), AtF ⟨l.prog, w, K, mg, base, 0, true, true, none, []⟩ "law" "law" s_law ["_law_script"] [] [] f20 := fun base => ⟨_, F20, F20.bindsN fun _ _ _ _ _ _ us hl => match us, hl with | [_], _ => rfl, fun j hj => by cases hj⟩
  have TX : ExI l.prog K C_FolderkinError gX "FolderkinError.__init__" s_X := ⟨by
    obtain ⟨cd, hcd⟩ := Option.isSome_iff_exists.mp dX
    exact ⟨_, _, _, _, _, _, _, _, _, _, _, _, _, _, _, _, _, _, _, cd, lX, cX, oX, vX, fX, ceX, hcd⟩, kX, tX, tpX, topX⟩
  have E_FolderkinError : ExC K C_FolderkinError gX C_FolderkinError := ⟨⟨⟨_, _, _, _, _, _, _, _, _, _, _, _, _, _, _, e0_FolderkinError, ez_FolderkinError⟩, e1_FolderkinError, e2_FolderkinError, e3_FolderkinError, e4_FolderkinError⟩, Option.isSome_iff_exists.mp e5_FolderkinError, e6_FolderkinError, e7_FolderkinError, e8_FolderkinError, e9_FolderkinError, ea_FolderkinError, eb_FolderkinError, ec_FolderkinError, ed_FolderkinError, ee_FolderkinError, ef_FolderkinError, eg_FolderkinError, eh_FolderkinError⟩
  have E_InvalidPattern : ExC K C_FolderkinError gX C_InvalidPattern := ⟨⟨⟨_, _, _, _, _, _, _, _, _, _, _, _, _, _, _, e0_InvalidPattern, ez_InvalidPattern⟩, e1_InvalidPattern, e2_InvalidPattern, e3_InvalidPattern, e4_InvalidPattern⟩, Option.isSome_iff_exists.mp e5_InvalidPattern, e6_InvalidPattern, e7_InvalidPattern, e8_InvalidPattern, e9_InvalidPattern, ea_InvalidPattern, eb_InvalidPattern, ec_InvalidPattern, ed_InvalidPattern, ee_InvalidPattern, ef_InvalidPattern, eg_InvalidPattern, eh_InvalidPattern⟩
  have T : ∀ base : Heap, Facts ⟨l.prog, w, K, mg, base, 0, true, true, none, []⟩ C_Pattern C_FolderkinError C_InvalidPattern gX := fun base => ⟨PySem.W.mg_none_of X G z_ValueError, PySem.W.mg_none_of X G z_bool, PySem.W.mg_none_of X G z_int, PySem.W.mg_none_of X G z_isinstance, PySem.W.mg_none_of X G z_len, PySem.W.mg_none_of X G z_list, PySem.W.mg_none_of X G z_range, PySem.W.mg_none_of X G z_tuple, ⟨_, PySem.W.mg_of X G y_PLAIN⟩, ⟨_, PySem.W.mg_of X G y_LONGEST_SET⟩, ⟨_, PySem.W.mg_of X G y_CHARACTERS⟩, ⟨_, PySem.W.mg_of X G y_LEAST_RANGE⟩, ⟨_, PySem.W.mg_of X G y_MOST_PATTERNS⟩, ⟨_, PySem.W.mg_of X G y_MOST_ATOMS⟩, ⟨PySem.W.mg_of X G aC_Pattern, ⟨pg_Pattern, hd_Pattern, po_Pattern, sa_Pattern⟩, cha_Pattern, chn_Pattern, cht_Pattern, chm_Pattern, kit_self, kit_other cic_Pattern cty_Pattern nNoneType_Pattern, kit_other cic_Pattern cty_Pattern nbool_Pattern, kit_other cic_Pattern cty_Pattern nint_Pattern, kit_other cic_Pattern cty_Pattern nstr_Pattern, kit_other cic_Pattern cty_Pattern nlist_Pattern, kit_other cic_Pattern cty_Pattern ntuple_Pattern, nlist_Pattern, ntuple_Pattern⟩, na_atoms_Pattern, na_negated_Pattern, ⟨exi_ok TX form_X (PySem.W.mg_none_of X G suX), tX, E_FolderkinError, PySem.W.mg_of X G aC_FolderkinError⟩, ⟨exi_ok TX form_X (PySem.W.mg_none_of X G suX), tX, E_InvalidPattern, PySem.W.mg_of X G aC_InvalidPattern⟩, PySem.W.exm_ref e2_InvalidPattern eb_InvalidPattern e3_InvalidPattern es_InvalidPattern_InvalidPattern, kit_sub e5_FolderkinError e3_FolderkinError es_InvalidPattern_FolderkinError, kit_T (by decide +kernel) e8_InvalidPattern, ⟨_, A0 base, ⟨mk_Pattern, a0, i0, kc_Pattern⟩, PySem.W.mg_of X G aC_Pattern⟩, ⟨_, A1 base, PySem.W.mg_of X G a1⟩, ⟨_, A2 base, PySem.W.mg_of X G a2⟩, ⟨_, A3 base, PySem.W.mg_of X G a3⟩, ⟨_, A4 base, PySem.W.mg_of X G a4⟩, ⟨_, A5 base, PySem.W.mg_of X G a5⟩, ⟨_, A6 base, PySem.W.mg_of X G a6⟩, ⟨_, A7 base, PySem.W.mg_of X G a7⟩, ⟨_, A8 base, PySem.W.mg_of X G a8⟩, ⟨_, A9 base, PySem.W.mg_of X G a9⟩, ⟨_, A10 base, PySem.W.mg_of X G a10⟩, ⟨_, A11 base, PySem.W.mg_of X G a11⟩, ⟨_, A12 base, PySem.W.mg_of X G a12⟩, ⟨_, A13 base, PySem.W.mg_of X G a13⟩, ⟨_, A14 base, PySem.W.mg_of X G a14⟩, ⟨_, A15 base, PySem.W.mg_of X G a15⟩, ⟨_, A16 base, PySem.W.mg_of X G a16⟩, ⟨_, A17 base, PySem.W.mg_of X G a17⟩, ⟨_, A18 base, PySem.W.mg_of X G a18⟩, ⟨_, A19 base, PySem.W.mg_of X G a19⟩, ⟨_, A20 base, PySem.W.mg_of X G a20⟩⟩
  refine ⟨_, fun s v => F20.bindsA (ps := ["_law_script"]) (fun _ _ _ _ _ _ us hl => match us, hl with | [_], _ => rfl) s [v] rfl, fun base _ _ => ?_⟩
  exact law_fn (c := ⟨l.prog, w, K, mg, base, 0, true, true, none, []⟩) (fn_okD (c := ⟨l.prog, w, K, mg, base, 0, true, true, none, []⟩) (F20) sc_law (jb_law (T base))) (hm C_Pattern C_FolderkinError C_InvalidPattern gX)
end K42
namespace K42
open PySem L2 Hz
local macro_rules | `(tactic| array_mem_dec) => `(tactic| (repeat' (first | (with_reducible first | refine w_kC ?_ | refine w_bop ?_ | refine w_tst ?_ | refine w_val ?_ | refine w_and ?_ | refine w_or ?_ | refine w_not ?_ | refine w_andV ?_ | refine w_orV ?_ | refine w_chain ?_ | refine w_ifK ?_ | refine w_nil ?_ | refine w_cons ?_ | refine w_tup ?_ | refine w_lst ?_ | refine w_call ?_ | refine w_neg ?_ | refine w_b1 ?_ | refine w_bn ?_ | refine w_isi ?_ | refine w_met ?_ | refine w_pnone ?_ | refine w_psome ?_ | refine w_cut ?_ | refine w_yes ?_ | refine w_list ?_ | refine w_tuple ?_ | refine w_str ?_ | refine w_range1 ?_ | refine w_range2 ?_ | refine w_range3 ?_ | refine w_seq ?_ | refine w_next ?_ | refine w_break ?_ | refine w_cont ?_ | refine w_drop ?_ | refine w_ret ?_ | refine w_retN ?_ | refine w_if ?_ | refine w_asg ?_ | refine w_raise ?_ | refine w_fld ?_ | refine w_seta ?_ | refine w_auga ?_ | refine w_seti ?_ | refine w_mut ?_ | refine w_frz ?_ | refine w_new ?_ | refine w_ext ?_ | refine w_for ?_ | refine w_lc ?_ | refine w_tryA ?_ | refine w_try ?_ | refine tb_b ?_ | refine ti_b ?_ | refine ts_b ?_ | refine we_nx ?_ | refine we_rt ?_ | refine we_ex ?_ | refine wn_nx ?_ | refine wn_rt ?_ | refine wn_bk ?_ | refine wn_ct ?_ | refine wn_ex ?_ | refine wl_nx ?_ | refine wl_rt ?_ | refine wl_bk ?_ | refine wl_ct ?_ | refine wl_ex ?_ | refine wx_nx ?_ | refine wx_rt ?_ | refine wx_bk ?_ | refine wx_ct ?_ | refine wx_ex ?_ | refine wh_nx ?_ | refine wh_rt ?_ | refine wh_bk ?_ | refine wh_ct ?_ | refine vw_i ?_ | refine vw_s ?_ | refine vw_b ?_ | refine vw_n ?_ | refine vw_l ?_ | refine vw_t ?_ | refine vw_sc ?_ | refine vw_o ?_ | refine mv_nil ?_ | refine mv_cons ?_ | refine oq_tgNil ?_ | refine oq_tgCons ?_ | refine it2_t ?_ | refine it2_f ?_ | refine it2_not ?_ | refine tlG_l ?_ | refine ttG_t ?_ | refine oq_add_i ?_ | refine oq_sub ?_ | refine oq_lt ?_ | refine oq_le ?_ | refine oq_gt ?_ | refine oq_ge ?_ | refine oq_eq_i ?_ | refine oq_ne_i ?_ | refine oq_eq_s ?_ | refine oq_ne_s ?_ | refine oq_eq_b ?_ | refine oq_ne_b ?_ | refine oq_is ?_ | refine oq_isNot ?_ | refine oq_in_s ?_ | refine oq_notIn_s ?_ | refine oq_len_l ?_ | refine oq_len_t ?_ | refine oq_int ?_ | refine oq_abs ?_ | refine oq_ord ?_ | refine oq_cut_l ?_ | refine oq_cut_t ?_ | refine oq_list_l ?_ | refine oq_list_t ?_ | refine oq_tuple_l ?_ | refine oq_tuple_t ?_ | refine oq_max2 ?_ | refine oq_min2 ?_ | refine oq_some ?_ | refine oq_len_sc ?_ | refine oq_eq_il ?_ | refine oq_ne_il ?_ | refine oq_eq_it ?_ | refine oq_ne_it ?_ | refine oq_lt_il ?_ | refine oq_lt_it ?_ | refine oq_iadd_i ?_ | refine oq_isT ?_ | refine oq_isNotT ?_ | refine pr2_of ?_ | refine w_par ?_) | ((with_reducible apply w_kV); exact rfl) | ((with_reducible apply oq_setv2); (simp only [List.set, wipeA]; exact rfl)) | ((with_reducible apply cal_of); exact rfl; (try simp only [List.cons_append, List.nil_append, List.append_nil])) | ((with_reducible apply oq_tgTup); exact rfl) | ((with_reducible apply oq_ix_lk); exact rfl) | ((with_reducible apply oq_ix_tk); exact rfl) | ((with_reducible apply w_aug); exact rfl) | ((with_reducible apply vw_r); (first | assumption | exact aset_same)) | ((with_reducible apply cel_of); (first | assumption | exact aset_same)) | ((with_reducible apply ceo_of); (first | assumption | exact aset_same)) | ((with_reducible apply tlG_r); (first | assumption | exact aset_same)) | ((with_reducible apply fr_of); (first | assumption | exact aset_same)) | ((with_reducible apply fd_cons); exact trivial) | ((with_reducible apply fd_nil); exact trivial) | ((with_reducible apply oq_isiB (b := true)); exact rfl) | ((with_reducible apply oq_isiB (b := false)); exact rfl) | ((with_reducible apply w_xi); exact rfl; exact decide_eq_true rfl; exact if_pos rfl) | ((with_reducible apply w_xf); exact rfl; exact decide_eq_true rfl; exact rfl) | ((with_reducible apply w_frzS); exact rfl; (first | assumption | exact aset_same); (try simp only [List.set])) | ((with_reducible apply oq_ixN_k); exact rfl; (try simp only [List.set, Int.reduceToNat])) | ((with_reducible apply oq_mod); (first | omega | decide)) | ((with_reducible apply oq_div); (first | omega | decide)) | ((with_reducible apply oq_mul); (first | omega | decide)) | ((with_reducible apply oq_pow); (first | omega | decide)) | ((with_reducible apply oq_shl); (first | omega | decide)) | ((with_reducible apply oq_shr); (first | omega | decide)) | ((with_reducible apply oq_add_s); (first | omega | decide)) | ((with_reducible apply oq_len_s); (first | omega | decide)) | ((with_reducible apply oq_cut_s); (first | omega | decide)) | ((with_reducible apply oq_append); (first | omega | decide)) | ((with_reducible apply oq_insert); (first | omega | decide)) | ((with_reducible apply oq_rep); (first | omega | decide)) | ((with_reducible apply oq_cat); (first | omega | decide)) | ((with_reducible apply rg1_of); (first | omega | decide)) | ((with_reducible apply rg2_of); (first | omega | decide)) | ((with_reducible apply lok); exact rfl) | ((with_reducible refine it2_dec ?_ ?_) <;> intro))))
local macro_rules | `(tactic| array_get_dec) => `(tactic| (repeat' (first | (with_reducible first | refine w_kC ?_ | refine w_bop ?_ | refine w_tst ?_ | refine w_val ?_ | refine w_and ?_ | refine w_or ?_ | refine w_not ?_ | refine w_andV ?_ | refine w_orV ?_ | refine w_chain ?_ | refine w_ifK ?_ | refine w_nil ?_ | refine w_cons ?_ | refine w_tup ?_ | refine w_lst ?_ | refine w_call ?_ | refine w_neg ?_ | refine w_b1 ?_ | refine w_bn ?_ | refine w_isi ?_ | refine w_met ?_ | refine w_pnone ?_ | refine w_psome ?_ | refine w_cut ?_ | refine w_yes ?_ | refine w_list ?_ | refine w_tuple ?_ | refine w_str ?_ | refine w_range1 ?_ | refine w_range2 ?_ | refine w_range3 ?_ | refine w_seqB ?_ | refine w_next ?_ | refine w_break ?_ | refine w_cont ?_ | refine w_drop ?_ | refine w_ret ?_ | refine w_retN ?_ | refine w_if ?_ | refine w_asg ?_ | refine w_raise ?_ | refine w_fld ?_ | refine w_seta ?_ | refine w_auga ?_ | refine w_seti ?_ | refine w_mut ?_ | refine w_frz ?_ | refine w_new ?_ | refine w_ext ?_ | refine w_for ?_ | refine w_lc ?_ | refine w_tryA ?_ | refine w_try ?_ | refine tb_b ?_ | refine ti_b ?_ | refine ts_b ?_ | refine we_nx ?_ | refine we_rt ?_ | refine we_ex ?_ | refine wn_nx ?_ | refine wn_rt ?_ | refine wn_bk ?_ | refine wn_ct ?_ | refine wn_ex ?_ | refine wl_nx ?_ | refine wl_rt ?_ | refine wl_bk ?_ | refine wl_ct ?_ | refine wl_ex ?_ | refine wx_nx ?_ | refine wx_rt ?_ | refine wx_bk ?_ | refine wx_ct ?_ | refine wx_ex ?_ | refine wh_nx ?_ | refine wh_rt ?_ | refine wh_bk ?_ | refine wh_ct ?_ | refine vw_i ?_ | refine vw_s ?_ | refine vw_b ?_ | refine vw_n ?_ | refine vw_l ?_ | refine vw_t ?_ | refine vw_sc ?_ | refine vw_o ?_ | refine mv_nil ?_ | refine mv_cons ?_ | refine oq_tgNil ?_ | refine oq_tgCons ?_ | refine it2_t ?_ | refine it2_f ?_ | refine it2_not ?_ | refine tlG_l ?_ | refine ttG_t ?_ | refine oq_add_i ?_ | refine oq_sub ?_ | refine oq_lt ?_ | refine oq_le ?_ | refine oq_gt ?_ | refine oq_ge ?_ | refine oq_eq_i ?_ | refine oq_ne_i ?_ | refine oq_eq_s ?_ | refine oq_ne_s ?_ | refine oq_eq_b ?_ | refine oq_ne_b ?_ | refine oq_is ?_ | refine oq_isNot ?_ | refine oq_in_s ?_ | refine oq_notIn_s ?_ | refine oq_len_l ?_ | refine oq_len_t ?_ | refine oq_int ?_ | refine oq_abs ?_ | refine oq_ord ?_ | refine oq_cut_l ?_ | refine oq_cut_t ?_ | refine oq_list_l ?_ | refine oq_list_t ?_ | refine oq_tuple_l ?_ | refine oq_tuple_t ?_ | refine oq_max2 ?_ | refine oq_min2 ?_ | refine oq_some ?_ | refine oq_len_sc ?_ | refine oq_eq_il ?_ | refine oq_ne_il ?_ | refine oq_eq_it ?_ | refine oq_ne_it ?_ | refine oq_lt_il ?_ | refine oq_lt_it ?_ | refine oq_iadd_i ?_ | refine oq_isT ?_ | refine oq_isNotT ?_ | refine pr2_of ?_ | refine w_par ?_) | ((with_reducible apply w_kV); exact rfl) | ((with_reducible apply oq_setv2); (simp only [List.set, wipeA]; exact rfl)) | ((with_reducible apply cal_of); exact rfl; (try simp only [List.cons_append, List.nil_append, List.append_nil])) | ((with_reducible apply oq_tgTup); exact rfl) | ((with_reducible apply oq_ix_lk); exact rfl) | ((with_reducible apply oq_ix_tk); exact rfl) | ((with_reducible apply w_aug); exact rfl) | ((with_reducible apply vw_r); (first | assumption | exact aset_same)) | ((with_reducible apply cel_of); (first | assumption | exact aset_same)) | ((with_reducible apply ceo_of); (first | assumption | exact aset_same)) | ((with_reducible apply tlG_r); (first | assumption | exact aset_same)) | ((with_reducible apply fr_of); (first | assumption | exact aset_same)) | ((with_reducible apply fd_cons); exact trivial) | ((with_reducible apply fd_nil); exact trivial) | ((with_reducible apply oq_isiB (b := true)); exact rfl) | ((with_reducible apply oq_isiB (b := false)); exact rfl) | ((with_reducible apply w_xi); exact rfl; exact decide_eq_true rfl; exact if_pos rfl) | ((with_reducible apply w_xf); exact rfl; exact decide_eq_true rfl; exact rfl) | ((with_reducible apply w_frzS); exact rfl; (first | assumption | exact aset_same); (try simp only [List.set])) | ((with_reducible apply oq_ixN_k); exact rfl; (try simp only [List.set, Int.reduceToNat])) | ((with_reducible apply oq_mod); (first | omega | decide)) | ((with_reducible apply oq_div); (first | omega | decide)) | ((with_reducible apply oq_mul); (first | omega | decide)) | ((with_reducible apply oq_pow); (first | omega | decide)) | ((with_reducible apply oq_shl); (first | omega | decide)) | ((with_reducible apply oq_shr); (first | omega | decide)) | ((with_reducible apply oq_add_s); (first | omega | decide)) | ((with_reducible apply oq_len_s); (first | omega | decide)) | ((with_reducible apply oq_cut_s); (first | omega | decide)) | ((with_reducible apply oq_append); (first | omega | decide)) | ((with_reducible apply oq_insert); (first | omega | decide)) | ((with_reducible apply oq_rep); (first | omega | decide)) | ((with_reducible apply oq_cat); (first | omega | decide)) | ((with_reducible apply rg1_of); (first | omega | decide)) | ((with_reducible apply rg2_of); (first | omega | decide)) | ((with_reducible apply lok); exact rfl) | ((with_reducible refine it2_dec ?_ ?_) <;> intro))))
local macro_rules | `(tactic| sizeOf_list_dec) => `(tactic| (try simp only [List.set, Int.reduceToNat, List.map_cons, List.map_nil, Nat.reduceSub, List.reduceReplicate, List.cons_append, List.nil_append, wipeA, aset_aset, List.getElem?_cons_zero, List.getElem?_cons_succ]))
variable {CP CF CI gX : Nat} {α : AH} {Q : QD} {E : QX}
theorem draw_ok {ns : List Int} {a b n : Int} {p : Addr} {α : AH} (hp : α p = some (.list [.int a, .int b])) (hn : 0 < n ∧ n < 2 ^ 80) {Q : QD} {E : QX} (q : ∀ d a' b', 0 ≤ d → d < n → Q (.int d) (aset α p (.list [.int a', .int b']))) :
    f_law_draw CP CF CI gX [dref p, scriptD ns, .int n] α Q E := by
  unfold f_law_draw m_law_draw
  refine w_runP rfl ?_
  sizeOf_list_dec
  have h0 := hn.1
  refine w_seqI (fun ρ α' => ∃ a b x y z, ρ = [some (dref p), some (scriptD ns), some (.int n), none, x, y, z] ∧ α' = aset α p (.list [.int a, .int b])) ?_ fun X hX => ?_
  · rintro _ _ ⟨a, b, x, y, z, rfl, rfl⟩
    array_mem_dec
    sizeOf_list_dec
    rw [arst_old ⟨_, hp⟩, arst_self]
    exact q _ _ _ (Int.emod_nonneg _ (by omega)) (Int.emod_lt_of_pos _ h0)
  · have hid : α = aset α p (.list [.int a, .int b]) := (aset_id hp).symm
    have fin : ∀ a' b' x y z, X [some (dref p), some (scriptD ns), some (.int n), none, x, y, z] (aset α p (.list [.int a', .int b'])) := fun a' b' x y z => hX _ _ ⟨a', b', x, y, z, rfl, rfl⟩
    array_mem_dec
    · have h1 : 0 ≤ a % ↑ns.length := Int.emod_nonneg _ (by omega)
      have h2 : a % ↑ns.length < ↑ns.length := Int.emod_lt_of_pos _ (by omega)
      refine oq_ix_sc h1 h2 fun z _ => ?_
      array_mem_dec
      all_goals (sizeOf_list_dec; exact fin _ _ _ _ _)
    all_goals first | (sizeOf_list_dec; exact fin _ _ _ _ _) | (rw [hid]; exact fin _ _ _ _ _)
def AL : List Nat := [45, 46, 47, 48, 49, 50, 51, 52, 53, 54, 55, 56, 57, 65, 66, 67, 68, 69, 70, 71, 72, 73, 74, 75, 76, 77, 78, 79, 80, 81, 82, 83, 84, 85, 86, 87, 88, 89, 90, 95, 97, 98, 99, 100, 101, 102, 103, 104, 105, 106, 107, 108, 109, 110, 111, 112, 113, 114, 115, 116, 117, 118, 119, 120, 121, 122, 126]
theorem AL_eq : ("-./0123456789ABCDEFGHIJKLMNOPQRSTUVWXYZ_abcdefghijklmnopqrstuvwxyz~" : Str) = S AL := by decide +kernel
def PL : List Nat := AL.filter fun c => !decide (c = 47)
theorem PL_eq : ("-.0123456789ABCDEFGHIJKLMNOPQRSTUVWXYZ_abcdefghijklmnopqrstuvwxyz~" : Str) = S PL := by decide +kernel
theorem AL_len : AL.length = 67 := rfl
theorem AL_nodup : AL.Nodup := by decide
theorem al_go (h : Q (.str (S AL)) α) : f_law_all CP CF CI gX [] α Q E := by
  refine (?_ : pu _ _ _) α Q E h
  unfold f_law_all m_law_all
  refine pu_P rfl fun α R X hR => ?_
  simp only [AL_eq]
  sizeOf_list_dec
  array_mem_dec
  exact hR
local macro_rules | `(tactic| array_mem_dec) => `(tactic| (repeat' (first | (with_reducible first | refine w_kC ?_ | refine w_bop ?_ | refine w_tst ?_ | refine w_val ?_ | refine w_and ?_ | refine w_or ?_ | refine w_not ?_ | refine w_andV ?_ | refine w_orV ?_ | refine w_chain ?_ | refine w_ifK ?_ | refine w_nil ?_ | refine w_cons ?_ | refine w_tup ?_ | refine w_lst ?_ | refine w_call ?_ | refine w_neg ?_ | refine w_b1 ?_ | refine w_bn ?_ | refine w_isi ?_ | refine w_met ?_ | refine w_pnone ?_ | refine w_psome ?_ | refine w_cut ?_ | refine w_yes ?_ | refine w_list ?_ | refine w_tuple ?_ | refine w_str ?_ | refine w_range1 ?_ | refine w_range2 ?_ | refine w_range3 ?_ | refine w_seq ?_ | refine w_next ?_ | refine w_break ?_ | refine w_cont ?_ | refine w_drop ?_ | refine w_ret ?_ | refine w_retN ?_ | refine w_if ?_ | refine w_asg ?_ | refine w_raise ?_ | refine w_fld ?_ | refine w_seta ?_ | refine w_auga ?_ | refine w_seti ?_ | refine w_mut ?_ | refine w_frz ?_ | refine w_new ?_ | refine w_ext ?_ | refine w_for ?_ | refine w_lc ?_ | refine w_tryA ?_ | refine w_try ?_ | refine tb_b ?_ | refine ti_b ?_ | refine ts_b ?_ | refine we_nx ?_ | refine we_rt ?_ | refine we_ex ?_ | refine wn_nx ?_ | refine wn_rt ?_ | refine wn_bk ?_ | refine wn_ct ?_ | refine wn_ex ?_ | refine wl_nx ?_ | refine wl_rt ?_ | refine wl_bk ?_ | refine wl_ct ?_ | refine wl_ex ?_ | refine wx_nx ?_ | refine wx_rt ?_ | refine wx_bk ?_ | refine wx_ct ?_ | refine wx_ex ?_ | refine wh_nx ?_ | refine wh_rt ?_ | refine wh_bk ?_ | refine wh_ct ?_ | refine vw_i ?_ | refine vw_s ?_ | refine vw_b ?_ | refine vw_n ?_ | refine vw_l ?_ | refine vw_t ?_ | refine vw_sc ?_ | refine vw_o ?_ | refine mv_nil ?_ | refine mv_cons ?_ | refine oq_tgNil ?_ | refine oq_tgCons ?_ | refine it2_t ?_ | refine it2_f ?_ | refine it2_not ?_ | refine tlG_l ?_ | refine ttG_t ?_ | refine oq_add_i ?_ | refine oq_sub ?_ | refine oq_lt ?_ | refine oq_le ?_ | refine oq_gt ?_ | refine oq_ge ?_ | refine oq_eq_i ?_ | refine oq_ne_i ?_ | refine oq_eq_s ?_ | refine oq_ne_s ?_ | refine oq_eq_b ?_ | refine oq_ne_b ?_ | refine oq_is ?_ | refine oq_isNot ?_ | refine oq_in_s ?_ | refine oq_notIn_s ?_ | refine oq_len_l ?_ | refine oq_len_t ?_ | refine oq_int ?_ | refine oq_abs ?_ | refine oq_ord ?_ | refine oq_cut_l ?_ | refine oq_cut_t ?_ | refine oq_list_l ?_ | refine oq_list_t ?_ | refine oq_tuple_l ?_ | refine oq_tuple_t ?_ | refine oq_max2 ?_ | refine oq_min2 ?_ | refine oq_some ?_ | refine oq_len_sc ?_ | refine oq_eq_il ?_ | refine oq_ne_il ?_ | refine oq_eq_it ?_ | refine oq_ne_it ?_ | refine oq_lt_il ?_ | refine oq_lt_it ?_ | refine oq_iadd_i ?_ | refine oq_isT ?_ | refine oq_isNotT ?_ | refine pr2_of ?_ | refine w_par ?_ | refine al_go ?_) | ((with_reducible apply w_kV); exact rfl) | ((with_reducible apply oq_setv2); (simp only [List.set, wipeA]; exact rfl)) | ((with_reducible apply cal_of); exact rfl; (try simp only [List.cons_append, List.nil_append, List.append_nil])) | ((with_reducible apply oq_tgTup); exact rfl) | ((with_reducible apply oq_ix_lk); exact rfl) | ((with_reducible apply oq_ix_tk); exact rfl) | ((with_reducible apply w_aug); exact rfl) | ((with_reducible apply vw_r); (first | assumption | exact aset_same)) | ((with_reducible apply cel_of); (first | assumption | exact aset_same)) | ((with_reducible apply ceo_of); (first | assumption | exact aset_same)) | ((with_reducible apply tlG_r); (first | assumption | exact aset_same)) | ((with_reducible apply fr_of); (first | assumption | exact aset_same)) | ((with_reducible apply fd_cons); exact trivial) | ((with_reducible apply fd_nil); exact trivial) | ((with_reducible apply oq_isiB (b := true)); exact rfl) | ((with_reducible apply oq_isiB (b := false)); exact rfl) | ((with_reducible apply w_xi); exact rfl; exact decide_eq_true rfl; exact if_pos rfl) | ((with_reducible apply w_xf); exact rfl; exact decide_eq_true rfl; exact rfl) | ((with_reducible apply w_frzS); exact rfl; (first | assumption | exact aset_same); (try simp only [List.set])) | ((with_reducible apply oq_ixN_k); exact rfl; (try simp only [List.set, Int.reduceToNat])) | ((with_reducible apply oq_mod); (first | omega | decide)) | ((with_reducible apply oq_div); (first | omega | decide)) | ((with_reducible apply oq_mul); (first | omega | decide)) | ((with_reducible apply oq_pow); (first | omega | decide)) | ((with_reducible apply oq_shl); (first | omega | decide)) | ((with_reducible apply oq_shr); (first | omega | decide)) | ((with_reducible apply oq_add_s); (first | omega | decide)) | ((with_reducible apply oq_len_s); (first | omega | decide)) | ((with_reducible apply oq_cut_s); (first | omega | decide)) | ((with_reducible apply oq_append); (first | omega | decide)) | ((with_reducible apply oq_insert); (first | omega | decide)) | ((with_reducible apply oq_rep); (first | omega | decide)) | ((with_reducible apply oq_cat); (first | omega | decide)) | ((with_reducible apply rg1_of); (first | omega | decide)) | ((with_reducible apply rg2_of); (first | omega | decide)) | ((with_reducible apply lok); exact rfl) | ((with_reducible refine it2_dec ?_ ?_) <;> intro))))
local macro_rules | `(tactic| array_get_dec) => `(tactic| (repeat' (first | (with_reducible first | refine w_kC ?_ | refine w_bop ?_ | refine w_tst ?_ | refine w_val ?_ | refine w_and ?_ | refine w_or ?_ | refine w_not ?_ | refine w_andV ?_ | refine w_orV ?_ | refine w_chain ?_ | refine w_ifK ?_ | refine w_nil ?_ | refine w_cons ?_ | refine w_tup ?_ | refine w_lst ?_ | refine w_call ?_ | refine w_neg ?_ | refine w_b1 ?_ | refine w_bn ?_ | refine w_isi ?_ | refine w_met ?_ | refine w_pnone ?_ | refine w_psome ?_ | refine w_cut ?_ | refine w_yes ?_ | refine w_list ?_ | refine w_tuple ?_ | refine w_str ?_ | refine w_range1 ?_ | refine w_range2 ?_ | refine w_range3 ?_ | refine w_seqB ?_ | refine w_next ?_ | refine w_break ?_ | refine w_cont ?_ | refine w_drop ?_ | refine w_ret ?_ | refine w_retN ?_ | refine w_if ?_ | refine w_asg ?_ | refine w_raise ?_ | refine w_fld ?_ | refine w_seta ?_ | refine w_auga ?_ | refine w_seti ?_ | refine w_mut ?_ | refine w_frz ?_ | refine w_new ?_ | refine w_ext ?_ | refine w_for ?_ | refine w_lc ?_ | refine w_tryA ?_ | refine w_try ?_ | refine tb_b ?_ | refine ti_b ?_ | refine ts_b ?_ | refine we_nx ?_ | refine we_rt ?_ | refine we_ex ?_ | refine wn_nx ?_ | refine wn_rt ?_ | refine wn_bk ?_ | refine wn_ct ?_ | refine wn_ex ?_ | refine wl_nx ?_ | refine wl_rt ?_ | refine wl_bk ?_ | refine wl_ct ?_ | refine wl_ex ?_ | refine wx_nx ?_ | refine wx_rt ?_ | refine wx_bk ?_ | refine wx_ct ?_ | refine wx_ex ?_ | refine wh_nx ?_ | refine wh_rt ?_ | refine wh_bk ?_ | refine wh_ct ?_ | refine vw_i ?_ | refine vw_s ?_ | refine vw_b ?_ | refine vw_n ?_ | refine vw_l ?_ | refine vw_t ?_ | refine vw_sc ?_ | refine vw_o ?_ | refine mv_nil ?_ | refine mv_cons ?_ | refine oq_tgNil ?_ | refine oq_tgCons ?_ | refine it2_t ?_ | refine it2_f ?_ | refine it2_not ?_ | refine tlG_l ?_ | refine ttG_t ?_ | refine oq_add_i ?_ | refine oq_sub ?_ | refine oq_lt ?_ | refine oq_le ?_ | refine oq_gt ?_ | refine oq_ge ?_ | refine oq_eq_i ?_ | refine oq_ne_i ?_ | refine oq_eq_s ?_ | refine oq_ne_s ?_ | refine oq_eq_b ?_ | refine oq_ne_b ?_ | refine oq_is ?_ | refine oq_isNot ?_ | refine oq_in_s ?_ | refine oq_notIn_s ?_ | refine oq_len_l ?_ | refine oq_len_t ?_ | refine oq_int ?_ | refine oq_abs ?_ | refine oq_ord ?_ | refine oq_cut_l ?_ | refine oq_cut_t ?_ | refine oq_list_l ?_ | refine oq_list_t ?_ | refine oq_tuple_l ?_ | refine oq_tuple_t ?_ | refine oq_max2 ?_ | refine oq_min2 ?_ | refine oq_some ?_ | refine oq_len_sc ?_ | refine oq_eq_il ?_ | refine oq_ne_il ?_ | refine oq_eq_it ?_ | refine oq_ne_it ?_ | refine oq_lt_il ?_ | refine oq_lt_it ?_ | refine oq_iadd_i ?_ | refine oq_isT ?_ | refine oq_isNotT ?_ | refine pr2_of ?_ | refine w_par ?_ | refine al_go ?_) | ((with_reducible apply w_kV); exact rfl) | ((with_reducible apply oq_setv2); (simp only [List.set, wipeA]; exact rfl)) | ((with_reducible apply cal_of); exact rfl; (try simp only [List.cons_append, List.nil_append, List.append_nil])) | ((with_reducible apply oq_tgTup); exact rfl) | ((with_reducible apply oq_ix_lk); exact rfl) | ((with_reducible apply oq_ix_tk); exact rfl) | ((with_reducible apply w_aug); exact rfl) | ((with_reducible apply vw_r); (first | assumption | exact aset_same)) | ((with_reducible apply cel_of); (first | assumption | exact aset_same)) | ((with_reducible apply ceo_of); (first | assumption | exact aset_same)) | ((with_reducible apply tlG_r); (first | assumption | exact aset_same)) | ((with_reducible apply fr_of); (first | assumption | exact aset_same)) | ((with_reducible apply fd_cons); exact trivial) | ((with_reducible apply fd_nil); exact trivial) | ((with_reducible apply oq_isiB (b := true)); exact rfl) | ((with_reducible apply oq_isiB (b := false)); exact rfl) | ((with_reducible apply w_xi); exact rfl; exact decide_eq_true rfl; exact if_pos rfl) | ((with_reducible apply w_xf); exact rfl; exact decide_eq_true rfl; exact rfl) | ((with_reducible apply w_frzS); exact rfl; (first | assumption | exact aset_same); (try simp only [List.set])) | ((with_reducible apply oq_ixN_k); exact rfl; (try simp only [List.set, Int.reduceToNat])) | ((with_reducible apply oq_mod); (first | omega | decide)) | ((with_reducible apply oq_div); (first | omega | decide)) | ((with_reducible apply oq_mul); (first | omega | decide)) | ((with_reducible apply oq_pow); (first | omega | decide)) | ((with_reducible apply oq_shl); (first | omega | decide)) | ((with_reducible apply oq_shr); (first | omega | decide)) | ((with_reducible apply oq_add_s); (first | omega | decide)) | ((with_reducible apply oq_len_s); (first | omega | decide)) | ((with_reducible apply oq_cut_s); (first | omega | decide)) | ((with_reducible apply oq_append); (first | omega | decide)) | ((with_reducible apply oq_insert); (first | omega | decide)) | ((with_reducible apply oq_rep); (first | omega | decide)) | ((with_reducible apply oq_cat); (first | omega | decide)) | ((with_reducible apply rg1_of); (first | omega | decide)) | ((with_reducible apply rg2_of); (first | omega | decide)) | ((with_reducible apply lok); exact rfl) | ((with_reducible refine it2_dec ?_ ?_) <;> intro))))
local macro_rules | `(tactic| sizeOf_list_dec) => `(tactic| (try simp only [List.set, Int.reduceToNat, List.map_cons, List.map_nil, Nat.reduceSub, List.reduceReplicate, List.cons_append, List.nil_append, wipeA, aset_aset, List.getElem?_cons_zero, List.getElem?_cons_succ]))
/-- an atom's signs -/
def okA (cs : List Nat) : Prop := cs ≠ [] ∧ cs.Sublist AL
def atD (a : List Nat × Bool) : D := .tuple [.str (S a.1), .bool a.2]
theorem okA_one {c : Nat} (h : c ∈ AL) : okA [c] := ⟨by simp, List.singleton_sublist.mpr h⟩
theorem pl_ok : okA PL := ⟨by decide, List.filter_sublist⟩
theorem al_ok : okA AL := ⟨by decide, List.Sublist.refl _⟩
abbrev At_ := List Nat × Bool
def adj : List At_ → Prop
  | a :: b :: r => ¬ (a.2 = true ∧ b.2 = true) ∧ adj (b :: r)
  | _ => True
def okT (ts : List At_) : Prop := (∀ t ∈ ts, okA t.1 ∧ (t.2 = true → t.1 = PL ∨ t.1 = AL)) ∧ adj ts
theorem oq_ix_last {ds : List D} {d : D} {R : D → Prop} (h : R d) : oq (dIx (.list (ds ++ [d])) (.int (-1))) R := by
  refine ⟨d, ?_, h⟩
  show (ixN (ds ++ [d]).length (-1)).bind (fun j => (ds ++ [d])[j]?) = _
  rw [ixN_back (by decide) (by simp; omega)]
  show (ds ++ [d])[(-1 + ((ds ++ [d]).length : Int)).toNat]? = _
  rw [show (-1 + ((ds ++ [d]).length : Int)).toNat = ds.length by simp; omega]
  simp
theorem adj_app {t : At_} : ∀ {ts : List At_} {u : At_}, adj (ts ++ [u]) → ¬ (u.2 = true ∧ t.2 = true) → adj (ts ++ [u] ++ [t])
  | [], u, _, h => ⟨h, trivial⟩
  | [a], u, k, h => ⟨k.1, h, trivial⟩
  | a :: b :: r, u, k, h => ⟨k.1, adj_app (ts := b :: r) k.2 h⟩
/-- a run as it is written -/
def fmt (r : List Nat) : List Nat := if 2 < r.length then [r.getD 0 0, 45, r.getD (r.length - 1) 0] else r
/-- the runs of the rest of the alphabet -/
def itm (cs : List Nat) : List Nat → List Nat → List Nat
  | [], run => fmt run
  | c :: l, run => if c ∈ cs then itm cs l (run ++ [c]) else fmt run ++ itm cs l []
def items (cs : List Nat) : List Nat := (if 45 ∈ cs then [45] else []) ++ itm cs (AL.drop 1) []
theorem fmt_len (r : List Nat) : (fmt r).length ≤ r.length := by
  unfold fmt
  split
  · simp
    omega
  · exact Nat.le_refl _
theorem itm_len (cs : List Nat) : ∀ (l run : List Nat), (itm cs l run).length ≤ l.length + run.length
  | [], run => by
    have := fmt_len run
    rw [itm]
    simp
    exact this
  | c :: l, run => by
    rw [itm]
    split
    · have := itm_len cs l (run ++ [c])
      simp at this ⊢
      omega
    · have := itm_len cs l []
      have := fmt_len run
      simp at *
      omega
def oth (cs : List Nat) : List Nat := AL.filter fun c => !decide (c ∈ cs) && !decide (c = 47)
def wr (t : At_) : List Nat :=
  if t.2 = true then (if 47 ∈ t.1 then [42, 42] else [42])
  else if oth t.1 = [] ∧ 47 ∉ t.1 then [63]
  else if t.1.length = 1 then t.1
  else if 47 ∈ t.1 ∨ t.1.length < 34 then [91] ++ items t.1 ++ [93]
  else [91, 33] ++ items (oth t.1) ++ [93]
theorem wrF (cs : List Nat) : wr (cs, false) = if oth cs = [] ∧ 47 ∉ cs then [63] else if cs.length = 1 then cs else if 47 ∈ cs ∨ cs.length < 34 then [91] ++ items cs ++ [93] else [91, 33] ++ items (oth cs) ++ [93] := rfl
theorem items_len (cs : List Nat) : (items cs).length ≤ 67 := by
  unfold items
  have := itm_len cs (AL.drop 1) []
  rw [List.length_append]
  have h1 : (AL.drop 1).length = 66 := rfl
  have : (if 45 ∈ cs then [45] else ([] : List Nat)).length ≤ 1 := by split <;> decide
  simp at *
  omega
end K42
namespace K42
open PySem L2 Hz
local macro_rules | `(tactic| array_mem_dec) => `(tactic| (repeat' (first | (with_reducible first | refine w_kC ?_ | refine w_bop ?_ | refine w_tst ?_ | refine w_val ?_ | refine w_and ?_ | refine w_or ?_ | refine w_not ?_ | refine w_andV ?_ | refine w_orV ?_ | refine w_chain ?_ | refine w_ifK ?_ | refine w_nil ?_ | refine w_cons ?_ | refine w_tup ?_ | refine w_lst ?_ | refine w_call ?_ | refine w_neg ?_ | refine w_b1 ?_ | refine w_bn ?_ | refine w_isi ?_ | refine w_met ?_ | refine w_pnone ?_ | refine w_psome ?_ | refine w_cut ?_ | refine w_yes ?_ | refine w_list ?_ | refine w_tuple ?_ | refine w_str ?_ | refine w_range1 ?_ | refine w_range2 ?_ | refine w_range3 ?_ | refine w_seq ?_ | refine w_next ?_ | refine w_break ?_ | refine w_cont ?_ | refine w_drop ?_ | refine w_ret ?_ | refine w_retN ?_ | refine w_if ?_ | refine w_asg ?_ | refine w_raise ?_ | refine w_fld ?_ | refine w_seta ?_ | refine w_auga ?_ | refine w_seti ?_ | refine w_mut ?_ | refine w_frz ?_ | refine w_new ?_ | refine w_ext ?_ | refine w_for ?_ | refine w_lc ?_ | refine w_tryA ?_ | refine w_try ?_ | refine tb_b ?_ | refine ti_b ?_ | refine ts_b ?_ | refine we_nx ?_ | refine we_rt ?_ | refine we_ex ?_ | refine wn_nx ?_ | refine wn_rt ?_ | refine wn_bk ?_ | refine wn_ct ?_ | refine wn_ex ?_ | refine wl_nx ?_ | refine wl_rt ?_ | refine wl_bk ?_ | refine wl_ct ?_ | refine wl_ex ?_ | refine wx_nx ?_ | refine wx_rt ?_ | refine wx_bk ?_ | refine wx_ct ?_ | refine wx_ex ?_ | refine wh_nx ?_ | refine wh_rt ?_ | refine wh_bk ?_ | refine wh_ct ?_ | refine vw_i ?_ | refine vw_s ?_ | refine vw_b ?_ | refine vw_n ?_ | refine vw_l ?_ | refine vw_t ?_ | refine vw_sc ?_ | refine vw_o ?_ | refine mv_nil ?_ | refine mv_cons ?_ | refine oq_tgNil ?_ | refine oq_tgCons ?_ | refine it2_t ?_ | refine it2_f ?_ | refine it2_not ?_ | refine tlG_l ?_ | refine ttG_t ?_ | refine oq_add_i ?_ | refine oq_sub ?_ | refine oq_lt ?_ | refine oq_le ?_ | refine oq_gt ?_ | refine oq_ge ?_ | refine oq_eq_i ?_ | refine oq_ne_i ?_ | refine oq_eq_s ?_ | refine oq_ne_s ?_ | refine oq_eq_b ?_ | refine oq_ne_b ?_ | refine oq_is ?_ | refine oq_isNot ?_ | refine oq_in_s ?_ | refine oq_notIn_s ?_ | refine oq_len_l ?_ | refine oq_len_t ?_ | refine oq_int ?_ | refine oq_abs ?_ | refine oq_ord ?_ | refine oq_cut_l ?_ | refine oq_cut_t ?_ | refine oq_list_l ?_ | refine oq_list_t ?_ | refine oq_tuple_l ?_ | refine oq_tuple_t ?_ | refine oq_max2 ?_ | refine oq_min2 ?_ | refine oq_some ?_ | refine oq_len_sc ?_ | refine oq_eq_il ?_ | refine oq_ne_il ?_ | refine oq_eq_it ?_ | refine oq_ne_it ?_ | refine oq_lt_il ?_ | refine oq_lt_it ?_ | refine oq_iadd_i ?_ | refine oq_isT ?_ | refine oq_isNotT ?_ | refine pr2_of ?_ | refine w_par ?_ | refine al_go ?_) | ((with_reducible apply w_kV); exact rfl) | ((with_reducible apply oq_setv2); (simp only [List.set, wipeA]; exact rfl)) | ((with_reducible apply cal_of); exact rfl; (try simp only [List.cons_append, List.nil_append, List.append_nil])) | ((with_reducible apply oq_tgTup); exact rfl) | ((with_reducible apply oq_ix_lk); exact rfl) | ((with_reducible apply oq_ix_tk); exact rfl) | ((with_reducible apply w_aug); exact rfl) | ((with_reducible apply vw_r); (first | assumption | exact aset_same)) | ((with_reducible apply cel_of); (first | assumption | exact aset_same)) | ((with_reducible apply ceo_of); (first | assumption | exact aset_same)) | ((with_reducible apply tlG_r); (first | assumption | exact aset_same)) | ((with_reducible apply fr_of); (first | assumption | exact aset_same)) | ((with_reducible apply fd_cons); exact trivial) | ((with_reducible apply fd_nil); exact trivial) | ((with_reducible apply oq_isiB (b := true)); exact rfl) | ((with_reducible apply oq_isiB (b := false)); exact rfl) | ((with_reducible apply w_xi); exact rfl; exact decide_eq_true rfl; exact if_pos rfl) | ((with_reducible apply w_xf); exact rfl; exact decide_eq_true rfl; exact rfl) | ((with_reducible apply w_frzS); exact rfl; (first | assumption | exact aset_same); (try simp only [List.set])) | ((with_reducible apply oq_ixN_k); exact rfl; (try simp only [List.set, Int.reduceToNat])) | ((with_reducible apply oq_mod); (first | omega | decide)) | ((with_reducible apply oq_div); (first | omega | decide)) | ((with_reducible apply oq_mul); (first | omega | decide)) | ((with_reducible apply oq_pow); (first | omega | decide)) | ((with_reducible apply oq_shl); (first | omega | decide)) | ((with_reducible apply oq_shr); (first | omega | decide)) | ((with_reducible apply oq_add_s); (first | omega | decide)) | ((with_reducible apply oq_len_s); (first | omega | decide)) | ((with_reducible apply oq_cut_s); (first | omega | decide)) | ((with_reducible apply oq_append); (first | omega | decide)) | ((with_reducible apply oq_insert); (first | omega | decide)) | ((with_reducible apply oq_rep); (first | omega | decide)) | ((with_reducible apply oq_cat); (first | omega | decide)) | ((with_reducible apply rg1_of); (first | omega | decide)) | ((with_reducible apply rg2_of); (first | omega | decide)) | ((with_reducible apply lok); exact rfl) | ((with_reducible refine it2_dec ?_ ?_) <;> intro))))
local macro_rules | `(tactic| array_get_dec) => `(tactic| (repeat' (first | (with_reducible first | refine w_kC ?_ | refine w_bop ?_ | refine w_tst ?_ | refine w_val ?_ | refine w_and ?_ | refine w_or ?_ | refine w_not ?_ | refine w_andV ?_ | refine w_orV ?_ | refine w_chain ?_ | refine w_ifK ?_ | refine w_nil ?_ | refine w_cons ?_ | refine w_tup ?_ | refine w_lst ?_ | refine w_call ?_ | refine w_neg ?_ | refine w_b1 ?_ | refine w_bn ?_ | refine w_isi ?_ | refine w_met ?_ | refine w_pnone ?_ | refine w_psome ?_ | refine w_cut ?_ | refine w_yes ?_ | refine w_list ?_ | refine w_tuple ?_ | refine w_str ?_ | refine w_range1 ?_ | refine w_range2 ?_ | refine w_range3 ?_ | refine w_seqB ?_ | refine w_next ?_ | refine w_break ?_ | refine w_cont ?_ | refine w_drop ?_ | refine w_ret ?_ | refine w_retN ?_ | refine w_if ?_ | refine w_asg ?_ | refine w_raise ?_ | refine w_fld ?_ | refine w_seta ?_ | refine w_auga ?_ | refine w_seti ?_ | refine w_mut ?_ | refine w_frz ?_ | refine w_new ?_ | refine w_ext ?_ | refine w_for ?_ | refine w_lc ?_ | refine w_tryA ?_ | refine w_try ?_ | refine tb_b ?_ | refine ti_b ?_ | refine ts_b ?_ | refine we_nx ?_ | refine we_rt ?_ | refine we_ex ?_ | refine wn_nx ?_ | refine wn_rt ?_ | refine wn_bk ?_ | refine wn_ct ?_ | refine wn_ex ?_ | refine wl_nx ?_ | refine wl_rt ?_ | refine wl_bk ?_ | refine wl_ct ?_ | refine wl_ex ?_ | refine wx_nx ?_ | refine wx_rt ?_ | refine wx_bk ?_ | refine wx_ct ?_ | refine wx_ex ?_ | refine wh_nx ?_ | refine wh_rt ?_ | refine wh_bk ?_ | refine wh_ct ?_ | refine vw_i ?_ | refine vw_s ?_ | refine vw_b ?_ | refine vw_n ?_ | refine vw_l ?_ | refine vw_t ?_ | refine vw_sc ?_ | refine vw_o ?_ | refine mv_nil ?_ | refine mv_cons ?_ | refine oq_tgNil ?_ | refine oq_tgCons ?_ | refine it2_t ?_ | refine it2_f ?_ | refine it2_not ?_ | refine tlG_l ?_ | refine ttG_t ?_ | refine oq_add_i ?_ | refine oq_sub ?_ | refine oq_lt ?_ | refine oq_le ?_ | refine oq_gt ?_ | refine oq_ge ?_ | refine oq_eq_i ?_ | refine oq_ne_i ?_ | refine oq_eq_s ?_ | refine oq_ne_s ?_ | refine oq_eq_b ?_ | refine oq_ne_b ?_ | refine oq_is ?_ | refine oq_isNot ?_ | refine oq_in_s ?_ | refine oq_notIn_s ?_ | refine oq_len_l ?_ | refine oq_len_t ?_ | refine oq_int ?_ | refine oq_abs ?_ | refine oq_ord ?_ | refine oq_cut_l ?_ | refine oq_cut_t ?_ | refine oq_list_l ?_ | refine oq_list_t ?_ | refine oq_tuple_l ?_ | refine oq_tuple_t ?_ | refine oq_max2 ?_ | refine oq_min2 ?_ | refine oq_some ?_ | refine oq_len_sc ?_ | refine oq_eq_il ?_ | refine oq_ne_il ?_ | refine oq_eq_it ?_ | refine oq_ne_it ?_ | refine oq_lt_il ?_ | refine oq_lt_it ?_ | refine oq_iadd_i ?_ | refine oq_isT ?_ | refine oq_isNotT ?_ | refine pr2_of ?_ | refine w_par ?_ | refine al_go ?_) | ((with_reducible apply w_kV); exact rfl) | ((with_reducible apply oq_setv2); (simp only [List.set, wipeA]; exact rfl)) | ((with_reducible apply cal_of); exact rfl; (try simp only [List.cons_append, List.nil_append, List.append_nil])) | ((with_reducible apply oq_tgTup); exact rfl) | ((with_reducible apply oq_ix_lk); exact rfl) | ((with_reducible apply oq_ix_tk); exact rfl) | ((with_reducible apply w_aug); exact rfl) | ((with_reducible apply vw_r); (first | assumption | exact aset_same)) | ((with_reducible apply cel_of); (first | assumption | exact aset_same)) | ((with_reducible apply ceo_of); (first | assumption | exact aset_same)) | ((with_reducible apply tlG_r); (first | assumption | exact aset_same)) | ((with_reducible apply fr_of); (first | assumption | exact aset_same)) | ((with_reducible apply fd_cons); exact trivial) | ((with_reducible apply fd_nil); exact trivial) | ((with_reducible apply oq_isiB (b := true)); exact rfl) | ((with_reducible apply oq_isiB (b := false)); exact rfl) | ((with_reducible apply w_xi); exact rfl; exact decide_eq_true rfl; exact if_pos rfl) | ((with_reducible apply w_xf); exact rfl; exact decide_eq_true rfl; exact rfl) | ((with_reducible apply w_frzS); exact rfl; (first | assumption | exact aset_same); (try simp only [List.set])) | ((with_reducible apply oq_ixN_k); exact rfl; (try simp only [List.set, Int.reduceToNat])) | ((with_reducible apply oq_mod); (first | omega | decide)) | ((with_reducible apply oq_div); (first | omega | decide)) | ((with_reducible apply oq_mul); (first | omega | decide)) | ((with_reducible apply oq_pow); (first | omega | decide)) | ((with_reducible apply oq_shl); (first | omega | decide)) | ((with_reducible apply oq_shr); (first | omega | decide)) | ((with_reducible apply oq_add_s); (first | omega | decide)) | ((with_reducible apply oq_len_s); (first | omega | decide)) | ((with_reducible apply oq_cut_s); (first | omega | decide)) | ((with_reducible apply oq_append); (first | omega | decide)) | ((with_reducible apply oq_insert); (first | omega | decide)) | ((with_reducible apply oq_rep); (first | omega | decide)) | ((with_reducible apply oq_cat); (first | omega | decide)) | ((with_reducible apply rg1_of); (first | omega | decide)) | ((with_reducible apply rg2_of); (first | omega | decide)) | ((with_reducible apply lok); exact rfl) | ((with_reducible refine it2_dec ?_ ?_) <;> intro))))
local macro_rules | `(tactic| sizeOf_list_dec) => `(tactic| (try simp only [List.set, Int.reduceToNat, List.map_cons, List.map_nil, Nat.reduceSub, List.reduceReplicate, List.cons_append, List.nil_append, wipeA, aset_aset, List.getElem?_cons_zero, List.getElem?_cons_succ]))
variable {CP CF CI gX : Nat} {α : AH} {Q : QD} {E : QX}
/-- a run without gaps passes into the written text -/
theorem itm_run (cs : List Nat) : ∀ (run rest acc : List Nat), (∀ c ∈ run, c ∈ cs) → itm cs (run ++ rest) acc = itm cs rest (acc ++ run)
  | [], rest, acc, _ => by rw [List.nil_append, List.append_nil]
  | c :: run, rest, acc, h => by
    rw [List.cons_append, itm, if_pos (h c (by simp)), itm_run cs run rest (acc ++ [c]) fun d hd => h d (by simp [hd]), List.append_assoc]
    rfl
theorem itm_gap (cs : List Nat) : ∀ (l acc : List Nat), (∀ c, l.head? = some c → c ∉ cs) → itm cs l acc = fmt acc ++ itm cs l []
  | [], acc, _ => by rw [itm, itm]; exact (List.append_nil _).symm
  | c :: l, acc, h => by
    rw [itm, if_neg (h c rfl), itm, if_neg (h c rfl)]
    rfl
/-- two places of one sign in a row without doubles are one -/
theorem nodup_at : ∀ {l p q u v : List Nat} {c : Nat}, l.Nodup → l = p ++ c :: u → l = q ++ c :: v → u = v
  | [], p, q, u, v, c, _, e, _ => by cases p <;> cases e
  | d :: l, [], [], u, v, c, _, e, f => by
    rw [List.nil_append] at e f
    rw [e] at f
    injection f
  | d :: l, [], y :: q, u, v, c, h, e, f => by
    injection e with e1 e2
    injection f with f1 f2
    subst e1
    exact absurd (by rw [f2]; simp) (List.nodup_cons.mp h).1
  | d :: l, x :: p, [], u, v, c, h, e, f => by
    injection e with e1 e2
    injection f with f1 f2
    subst f1
    exact absurd (by rw [e2]; simp) (List.nodup_cons.mp h).1
  | d :: l, x :: p, y :: q, u, v, c, h, e, f => by
    injection e with e1 e2
    injection f with f1 f2
    exact nodup_at (List.nodup_cons.mp h).2 e2 f2
theorem inf_of {a b p q : List Nat} (e : b = p ++ (a ++ q)) : inf a b = true := by
  refine decide_eq_true ⟨p.length, ?_, ?_, ?_⟩
  · rw [e]; simp; omega
  · rw [e]; simp
  · rw [e, List.drop_left, List.take_left]
theorem inf_to {a b : List Nat} (h : inf a b = true) : ∃ p q, b = p ++ (a ++ q) := by
  obtain ⟨i, _, _, e⟩ := of_decide_eq_true h
  refine ⟨b.take i, (b.drop i).drop a.length, ?_⟩
  have e3 := List.take_append_drop a.length (b.drop i)
  rw [e] at e3
  rw [e3]
  exact (List.take_append_drop i b).symm
theorem AL_45 {pre l : List Nat} (e : AL = pre ++ 45 :: l) : pre = [] := by
  cases pre with
  | nil => rfl
  | cons p ps =>
    have h := AL_nodup
    rw [e] at h
    have e2 : some 45 = some p := congrArg List.head? e
    injection e2 with e2
    subst e2
    simp at h
/-- what is still to be written -/
def rst (cs l : List Nat) : List Nat := if l.head? = some 45 then (if 45 ∈ cs then [45] else []) ++ itm cs (l.drop 1) [] else itm cs l []
theorem rst_AL (cs : List Nat) : rst cs AL = items cs := by
  unfold rst items
  rw [if_pos (show AL.head? = some 45 from rfl)]
theorem rst_tail {cs pre l : List Nat} (e : AL = pre ++ l) (h : pre ≠ []) : rst cs l = itm cs l [] := by
  unfold rst
  rw [if_neg]
  intro h2
  cases l with
  | nil => cases h2
  | cons x l =>
    injection h2 with h2
    subst h2
    exact h (AL_45 e)
theorem dw_head {p : Nat → Bool} : ∀ {l : List Nat} {d : Nat}, (l.dropWhile p).head? = some d → p d = false
  | [], _, h => by cases h
  | x :: l, d, h => by
    rw [List.dropWhile_cons] at h
    split at h
    · exact dw_head h
    · rename_i q
      injection h with h
      subst h
      simpa using q
theorem itm_none {cs : List Nat} : ∀ {l : List Nat}, (l.filter fun c => decide (c ∈ cs)) = [] → itm cs l [] = []
  | [], _ => rfl
  | c :: l, h => by
    rw [List.filter_eq_nil_iff] at h
    have hc : c ∉ cs := by simpa using h c (by simp)
    rw [itm, if_neg hc, itm_none (List.filter_eq_nil_iff.mpr fun a ha => h a (by simp [ha]))]
    rfl
theorem rst_none {cs l : List Nat} (h : (l.filter fun c => decide (c ∈ cs)) = []) : rst cs l = [] := by
  unfold rst
  split
  · rename_i h2
    cases l with
    | nil => cases h2
    | cons x l =>
      injection h2 with h2
      subst h2
      rw [List.filter_eq_nil_iff] at h
      have hc : 45 ∉ cs := by simpa using h 45 (by simp)
      rw [if_neg hc]
      exact itm_none (List.filter_eq_nil_iff.mpr fun a ha => h a (by simp [show a ∈ l from ha]))
  · exact itm_none h
theorem rst_step (cs : List Nat) : ∀ (suf pre : List Nat) (c : Nat) (r : List Nat), AL = pre ++ suf → (suf.filter fun c => decide (c ∈ cs)) = c :: r →
    ∃ run suf2 pre2, AL = pre2 ++ (c :: run ++ suf2) ∧ r = run ++ (suf2.filter fun c => decide (c ∈ cs)) ∧ rst cs suf = fmt (c :: run) ++ rst cs suf2 ∧ (c = 45 → run = []) ∧ (c ≠ 45 → ∀ d, suf2.head? = some d → d ∉ cs) ∧ c ∈ cs
  | [], _, _, _, _, h => by cases h
  | d :: l, pre, c, r, e, h => by
    by_cases hd : d ∈ cs
    · rw [List.filter_cons_of_pos (by simpa using hd)] at h
      injection h with h1 h2
      subst h1
      have tl : rst cs l = itm cs l [] := rst_tail (pre := pre ++ [d]) (by rw [e]; simp) (by simp)
      by_cases h45 : d = 45
      · subst h45
        refine ⟨[], l, pre, e, h2.symm, ?_, fun _ => rfl, fun h => absurd rfl h, hd⟩
        rw [tl]
        unfold rst
        rw [if_pos (show (45 :: l).head? = some 45 from rfl), if_pos hd]
        rfl
      · have sp := List.takeWhile_append_dropWhile (p := fun c => decide (c ∈ cs)) (l := l)
        have al : ∀ x ∈ l.takeWhile (fun c => decide (c ∈ cs)), x ∈ cs := fun x hx => by
          have := List.all_eq_true.mp (List.all_takeWhile (p := fun c => decide (c ∈ cs)) (l := l)) x hx
          simpa using this
        have hh : ∀ x, (l.dropWhile fun c => decide (c ∈ cs)).head? = some x → x ∉ cs := fun x hx => by
          have := dw_head hx
          simpa using this
        generalize l.takeWhile (fun c => decide (c ∈ cs)) = run at *
        generalize l.dropWhile (fun c => decide (c ∈ cs)) = suf2 at *
        subst sp
        refine ⟨run, suf2, pre, e, ?_, ?_, fun h => absurd h h45, fun _ => hh, hd⟩
        · rw [← h2, List.filter_append, List.filter_eq_self.mpr fun a ha => by simpa using al a ha]
        · rw [rst_tail (pre := pre ++ (d :: run)) (l := suf2) (by rw [e]; simp) (by simp)]
          unfold rst
          rw [if_neg (show ¬ (d :: (run ++ suf2)).head? = some 45 from fun h => h45 (Option.some.inj h)), itm, if_pos hd, itm_run cs run suf2 _ al, itm_gap cs suf2 _ hh]
          rfl
    · rw [List.filter_cons_of_neg (by simpa using hd)] at h
      obtain ⟨run, suf2, pre2, h1, h2, h3, h4⟩ := rst_step cs l (pre ++ [d]) c r (by rw [e]; simp) h
      refine ⟨run, suf2, pre2, h1, h2, ?_, h4⟩
      rw [← h3, rst_tail (l := l) (pre := pre ++ [d]) (by rw [e]; simp) (by simp)]
      unfold rst
      split
      · rename_i h5
        obtain rfl : d = 45 := Option.some.inj h5
        rw [if_neg hd]
        rfl
      · rw [itm, if_neg hd]
        rfl
theorem sub_filter {l cs : List Nat} (h : l.Nodup) (s : cs.Sublist l) : (l.filter fun c => decide (c ∈ cs)) = cs := by
  induction s with
  | slnil => rfl
  | cons a s ih =>
    have hn := List.nodup_cons.mp h
    rw [List.filter_cons_of_neg (by simpa using fun hm => hn.1 (s.subset hm)), ih hn.2]
  | cons_cons a s ih =>
    have hn := List.nodup_cons.mp h
    rw [List.filter_cons_of_pos (by simp)]
    congr 1
    conv => rhs; rw [← ih hn.2]
    refine List.filter_congr fun x hx => ?_
    have : x ≠ a := fun e => hn.1 (e ▸ hx)
    simp [this]
theorem run_in {pre2 run suf2 F : List Nat} {c n : Nat} (e : AL = pre2 ++ (c :: run ++ suf2)) (hn : n ≤ run.length) : inf ((c :: (run ++ F)).take (n + 1)) AL = true := by
  refine inf_of (p := pre2) (q := run.drop n ++ suf2) ?_
  rw [List.take_succ_cons, List.take_append_of_le_length hn, e]
  simp
  rw [← List.append_assoc, List.take_append_drop]
theorem run_out {cs pre2 run suf2 F : List Nat} {c d : Nat} (e : AL = pre2 ++ (c :: run ++ suf2)) (hh : ∀ d, suf2.head? = some d → d ∉ cs) (hd : d ∈ cs) : inf (c :: (run ++ [d])) AL = false := by
  cases q : inf (c :: (run ++ [d])) AL with
  | false => rfl
  | true =>
    obtain ⟨p, r, e2⟩ := inf_to q
    have := nodup_at AL_nodup (show AL = pre2 ++ c :: (run ++ suf2) from e) (show AL = p ++ c :: (run ++ [d] ++ r) from e2)
    rw [List.append_assoc] at this
    have := List.append_cancel_left this
    exact absurd hd (hh d (by rw [this]; rfl))
end K42
namespace K42
open PySem L2 Hz
local macro_rules | `(tactic| array_mem_dec) => `(tactic| (repeat' (first | (with_reducible first | refine w_kC ?_ | refine w_bop ?_ | refine w_tst ?_ | refine w_val ?_ | refine w_and ?_ | refine w_or ?_ | refine w_not ?_ | refine w_andV ?_ | refine w_orV ?_ | refine w_chain ?_ | refine w_ifK ?_ | refine w_nil ?_ | refine w_cons ?_ | refine w_tup ?_ | refine w_lst ?_ | refine w_call ?_ | refine w_neg ?_ | refine w_b1 ?_ | refine w_bn ?_ | refine w_isi ?_ | refine w_met ?_ | refine w_pnone ?_ | refine w_psome ?_ | refine w_cut ?_ | refine w_yes ?_ | refine w_list ?_ | refine w_tuple ?_ | refine w_str ?_ | refine w_range1 ?_ | refine w_range2 ?_ | refine w_range3 ?_ | refine w_seq ?_ | refine w_next ?_ | refine w_break ?_ | refine w_cont ?_ | refine w_drop ?_ | refine w_ret ?_ | refine w_retN ?_ | refine w_if ?_ | refine w_asg ?_ | refine w_raise ?_ | refine w_fld ?_ | refine w_seta ?_ | refine w_auga ?_ | refine w_seti ?_ | refine w_mut ?_ | refine w_frz ?_ | refine w_new ?_ | refine w_ext ?_ | refine w_for ?_ | refine w_lc ?_ | refine w_tryA ?_ | refine w_try ?_ | refine tb_b ?_ | refine ti_b ?_ | refine ts_b ?_ | refine we_nx ?_ | refine we_rt ?_ | refine we_ex ?_ | refine wn_nx ?_ | refine wn_rt ?_ | refine wn_bk ?_ | refine wn_ct ?_ | refine wn_ex ?_ | refine wl_nx ?_ | refine wl_rt ?_ | refine wl_bk ?_ | refine wl_ct ?_ | refine wl_ex ?_ | refine wx_nx ?_ | refine wx_rt ?_ | refine wx_bk ?_ | refine wx_ct ?_ | refine wx_ex ?_ | refine wh_nx ?_ | refine wh_rt ?_ | refine wh_bk ?_ | refine wh_ct ?_ | refine vw_i ?_ | refine vw_s ?_ | refine vw_b ?_ | refine vw_n ?_ | refine vw_l ?_ | refine vw_t ?_ | refine vw_sc ?_ | refine vw_o ?_ | refine mv_nil ?_ | refine mv_cons ?_ | refine oq_tgNil ?_ | refine oq_tgCons ?_ | refine it2_t ?_ | refine it2_f ?_ | refine it2_not ?_ | refine tlG_l ?_ | refine ttG_t ?_ | refine oq_add_i ?_ | refine oq_sub ?_ | refine oq_lt ?_ | refine oq_le ?_ | refine oq_gt ?_ | refine oq_ge ?_ | refine oq_eq_i ?_ | refine oq_ne_i ?_ | refine oq_eq_s ?_ | refine oq_ne_s ?_ | refine oq_eq_b ?_ | refine oq_ne_b ?_ | refine oq_is ?_ | refine oq_isNot ?_ | refine oq_in_s ?_ | refine oq_notIn_s ?_ | refine oq_len_l ?_ | refine oq_len_t ?_ | refine oq_int ?_ | refine oq_abs ?_ | refine oq_ord ?_ | refine oq_cut_l ?_ | refine oq_cut_t ?_ | refine oq_list_l ?_ | refine oq_list_t ?_ | refine oq_tuple_l ?_ | refine oq_tuple_t ?_ | refine oq_max2 ?_ | refine oq_min2 ?_ | refine oq_some ?_ | refine oq_len_sc ?_ | refine oq_eq_il ?_ | refine oq_ne_il ?_ | refine oq_eq_it ?_ | refine oq_ne_it ?_ | refine oq_lt_il ?_ | refine oq_lt_it ?_ | refine oq_iadd_i ?_ | refine oq_isT ?_ | refine oq_isNotT ?_ | refine pr2_of ?_ | refine w_par ?_ | refine al_go ?_) | ((with_reducible apply w_kV); exact rfl) | ((with_reducible apply oq_setv2); (simp only [List.set, wipeA]; exact rfl)) | ((with_reducible apply cal_of); exact rfl; (try simp only [List.cons_append, List.nil_append, List.append_nil])) | ((with_reducible apply oq_tgTup); exact rfl) | ((with_reducible apply oq_ix_lk); exact rfl) | ((with_reducible apply oq_ix_tk); exact rfl) | ((with_reducible apply w_aug); exact rfl) | ((with_reducible apply vw_r); (first | assumption | exact aset_same)) | ((with_reducible apply cel_of); (first | assumption | exact aset_same)) | ((with_reducible apply ceo_of); (first | assumption | exact aset_same)) | ((with_reducible apply tlG_r); (first | assumption | exact aset_same)) | ((with_reducible apply fr_of); (first | assumption | exact aset_same)) | ((with_reducible apply fd_cons); exact trivial) | ((with_reducible apply fd_nil); exact trivial) | ((with_reducible apply oq_isiB (b := true)); exact rfl) | ((with_reducible apply oq_isiB (b := false)); exact rfl) | ((with_reducible apply w_xi); exact rfl; exact decide_eq_true rfl; exact if_pos rfl) | ((with_reducible apply w_xf); exact rfl; exact decide_eq_true rfl; exact rfl) | ((with_reducible apply w_frzS); exact rfl; (first | assumption | exact aset_same); (try simp only [List.set])) | ((with_reducible apply oq_ixN_k); exact rfl; (try simp only [List.set, Int.reduceToNat])) | ((with_reducible apply oq_mod); (first | omega | decide)) | ((with_reducible apply oq_div); (first | omega | decide)) | ((with_reducible apply oq_mul); (first | omega | decide)) | ((with_reducible apply oq_pow); (first | omega | decide)) | ((with_reducible apply oq_shl); (first | omega | decide)) | ((with_reducible apply oq_shr); (first | omega | decide)) | ((with_reducible apply oq_add_s); (first | omega | decide)) | ((with_reducible apply oq_len_s); (first | omega | decide)) | ((with_reducible apply oq_cut_s); (first | omega | decide)) | ((with_reducible apply oq_append); (first | omega | decide)) | ((with_reducible apply oq_insert); (first | omega | decide)) | ((with_reducible apply oq_rep); (first | omega | decide)) | ((with_reducible apply oq_cat); (first | omega | decide)) | ((with_reducible apply rg1_of); (first | omega | decide)) | ((with_reducible apply rg2_of); (first | omega | decide)) | ((with_reducible apply lok); exact rfl) | ((with_reducible refine it2_dec ?_ ?_) <;> intro))))
local macro_rules | `(tactic| array_get_dec) => `(tactic| (repeat' (first | (with_reducible first | refine w_kC ?_ | refine w_bop ?_ | refine w_tst ?_ | refine w_val ?_ | refine w_and ?_ | refine w_or ?_ | refine w_not ?_ | refine w_andV ?_ | refine w_orV ?_ | refine w_chain ?_ | refine w_ifK ?_ | refine w_nil ?_ | refine w_cons ?_ | refine w_tup ?_ | refine w_lst ?_ | refine w_call ?_ | refine w_neg ?_ | refine w_b1 ?_ | refine w_bn ?_ | refine w_isi ?_ | refine w_met ?_ | refine w_pnone ?_ | refine w_psome ?_ | refine w_cut ?_ | refine w_yes ?_ | refine w_list ?_ | refine w_tuple ?_ | refine w_str ?_ | refine w_range1 ?_ | refine w_range2 ?_ | refine w_range3 ?_ | refine w_seqB ?_ | refine w_next ?_ | refine w_break ?_ | refine w_cont ?_ | refine w_drop ?_ | refine w_ret ?_ | refine w_retN ?_ | refine w_if ?_ | refine w_asg ?_ | refine w_raise ?_ | refine w_fld ?_ | refine w_seta ?_ | refine w_auga ?_ | refine w_seti ?_ | refine w_mut ?_ | refine w_frz ?_ | refine w_new ?_ | refine w_ext ?_ | refine w_for ?_ | refine w_lc ?_ | refine w_tryA ?_ | refine w_try ?_ | refine tb_b ?_ | refine ti_b ?_ | refine ts_b ?_ | refine we_nx ?_ | refine we_rt ?_ | refine we_ex ?_ | refine wn_nx ?_ | refine wn_rt ?_ | refine wn_bk ?_ | refine wn_ct ?_ | refine wn_ex ?_ | refine wl_nx ?_ | refine wl_rt ?_ | refine wl_bk ?_ | refine wl_ct ?_ | refine wl_ex ?_ | refine wx_nx ?_ | refine wx_rt ?_ | refine wx_bk ?_ | refine wx_ct ?_ | refine wx_ex ?_ | refine wh_nx ?_ | refine wh_rt ?_ | refine wh_bk ?_ | refine wh_ct ?_ | refine vw_i ?_ | refine vw_s ?_ | refine vw_b ?_ | refine vw_n ?_ | refine vw_l ?_ | refine vw_t ?_ | refine vw_sc ?_ | refine vw_o ?_ | refine mv_nil ?_ | refine mv_cons ?_ | refine oq_tgNil ?_ | refine oq_tgCons ?_ | refine it2_t ?_ | refine it2_f ?_ | refine it2_not ?_ | refine tlG_l ?_ | refine ttG_t ?_ | refine oq_add_i ?_ | refine oq_sub ?_ | refine oq_lt ?_ | refine oq_le ?_ | refine oq_gt ?_ | refine oq_ge ?_ | refine oq_eq_i ?_ | refine oq_ne_i ?_ | refine oq_eq_s ?_ | refine oq_ne_s ?_ | refine oq_eq_b ?_ | refine oq_ne_b ?_ | refine oq_is ?_ | refine oq_isNot ?_ | refine oq_in_s ?_ | refine oq_notIn_s ?_ | refine oq_len_l ?_ | refine oq_len_t ?_ | refine oq_int ?_ | refine oq_abs ?_ | refine oq_ord ?_ | refine oq_cut_l ?_ | refine oq_cut_t ?_ | refine oq_list_l ?_ | refine oq_list_t ?_ | refine oq_tuple_l ?_ | refine oq_tuple_t ?_ | refine oq_max2 ?_ | refine oq_min2 ?_ | refine oq_some ?_ | refine oq_len_sc ?_ | refine oq_eq_il ?_ | refine oq_ne_il ?_ | refine oq_eq_it ?_ | refine oq_ne_it ?_ | refine oq_lt_il ?_ | refine oq_lt_it ?_ | refine oq_iadd_i ?_ | refine oq_isT ?_ | refine oq_isNotT ?_ | refine pr2_of ?_ | refine w_par ?_ | refine al_go ?_) | ((with_reducible apply w_kV); exact rfl) | ((with_reducible apply oq_setv2); (simp only [List.set, wipeA]; exact rfl)) | ((with_reducible apply cal_of); exact rfl; (try simp only [List.cons_append, List.nil_append, List.append_nil])) | ((with_reducible apply oq_tgTup); exact rfl) | ((with_reducible apply oq_ix_lk); exact rfl) | ((with_reducible apply oq_ix_tk); exact rfl) | ((with_reducible apply w_aug); exact rfl) | ((with_reducible apply vw_r); (first | assumption | exact aset_same)) | ((with_reducible apply cel_of); (first | assumption | exact aset_same)) | ((with_reducible apply ceo_of); (first | assumption | exact aset_same)) | ((with_reducible apply tlG_r); (first | assumption | exact aset_same)) | ((with_reducible apply fr_of); (first | assumption | exact aset_same)) | ((with_reducible apply fd_cons); exact trivial) | ((with_reducible apply fd_nil); exact trivial) | ((with_reducible apply oq_isiB (b := true)); exact rfl) | ((with_reducible apply oq_isiB (b := false)); exact rfl) | ((with_reducible apply w_xi); exact rfl; exact decide_eq_true rfl; exact if_pos rfl) | ((with_reducible apply w_xf); exact rfl; exact decide_eq_true rfl; exact rfl) | ((with_reducible apply w_frzS); exact rfl; (first | assumption | exact aset_same); (try simp only [List.set])) | ((with_reducible apply oq_ixN_k); exact rfl; (try simp only [List.set, Int.reduceToNat])) | ((with_reducible apply oq_mod); (first | omega | decide)) | ((with_reducible apply oq_div); (first | omega | decide)) | ((with_reducible apply oq_mul); (first | omega | decide)) | ((with_reducible apply oq_pow); (first | omega | decide)) | ((with_reducible apply oq_shl); (first | omega | decide)) | ((with_reducible apply oq_shr); (first | omega | decide)) | ((with_reducible apply oq_add_s); (first | omega | decide)) | ((with_reducible apply oq_len_s); (first | omega | decide)) | ((with_reducible apply oq_cut_s); (first | omega | decide)) | ((with_reducible apply oq_append); (first | omega | decide)) | ((with_reducible apply oq_insert); (first | omega | decide)) | ((with_reducible apply oq_rep); (first | omega | decide)) | ((with_reducible apply oq_cat); (first | omega | decide)) | ((with_reducible apply rg1_of); (first | omega | decide)) | ((with_reducible apply rg2_of); (first | omega | decide)) | ((with_reducible apply lok); exact rfl) | ((with_reducible refine it2_dec ?_ ?_) <;> intro))))
local macro_rules | `(tactic| sizeOf_list_dec) => `(tactic| (try simp only [List.set, Int.reduceToNat, List.map_cons, List.map_nil, Nat.reduceSub, List.reduceReplicate, List.cons_append, List.nil_append, wipeA, aset_aset, List.getElem?_cons_zero, List.getElem?_cons_succ]))
variable {CP CF CI gX : Nat} {α : AH} {Q : QD} {E : QX}
def tokT (k : Nat × Nat) : List Nat := if k.1 = k.2 then [AL.getD k.1 0] else [AL.getD k.1 0, 45, AL.getD k.2 0]
def tokC (k : Nat × Nat) : List Nat := (AL.drop k.1).take (k.2 + 1 - k.1)
def okK (k : Nat × Nat) : Prop := 1 ≤ k.1 ∧ k.1 ≤ k.2 ∧ k.2 < 67
def itsT (b : Bool) (ks : List (Nat × Nat)) : List Nat := (if b = true then [45] else []) ++ ks.flatMap tokT
def itsC (b : Bool) (ks : List (Nat × Nat)) : List Nat := (if b = true then [45] else []) ++ ks.flatMap tokC
theorem AL_ix : ∀ c ∈ AL, AL.getD (AL.idxOf c) 0 = c ∧ AL.idxOf c < 67 ∧ (c ≠ 45 → 1 ≤ AL.idxOf c) ∧ (AL.drop (AL.idxOf c)).take 1 = [c] := by decide
theorem AL_chr : ∀ k, k < 67 → AL.getD k 0 ≠ 33 ∧ AL.getD k 0 ≠ 93 ∧ AL.getD k 0 ≠ 42 ∧ AL.getD k 0 ≠ 63 ∧ AL.getD k 0 ≠ 91 ∧ AL.getD k 0 ≠ 10 ∧ AL.getD k 0 ≠ 35 ∧ (1 ≤ k → AL.getD k 0 ≠ 45) := by decide
theorem AL_mem : ∀ c ∈ AL, c ≠ 33 ∧ c ≠ 93 ∧ c ≠ 42 ∧ c ≠ 63 ∧ c ≠ 91 ∧ c ≠ 10 ∧ c ≠ 35 := by decide
theorem AL_find : ∀ k, k < 67 → hd1 (pos (AL.getD k 0) AL 0) = (k : Int) := by decide
def sg (c : Nat) : Nat × Nat := (AL.idxOf c, AL.idxOf c)
theorem sg_T {c : Nat} (h : c ∈ AL) : tokT (sg c) = [c] := by
  unfold tokT sg
  rw [if_pos rfl, (AL_ix c h).1]
theorem sg_C {c : Nat} (h : c ∈ AL) : tokC (sg c) = [c] := by
  unfold tokC sg
  show (AL.drop (AL.idxOf c)).take (AL.idxOf c + 1 - AL.idxOf c) = _
  rw [show AL.idxOf c + 1 - AL.idxOf c = 1 by omega]
  exact (AL_ix c h).2.2.2
theorem sg_ok {c : Nat} (h : c ∈ AL) (h2 : c ≠ 45) : okK (sg c) := ⟨(AL_ix c h).2.2.1 h2, Nat.le_refl _, (AL_ix c h).2.1⟩
theorem sgs_T {l : List Nat} (h : ∀ c ∈ l, c ∈ AL) : (l.map sg).flatMap tokT = l := by
  induction l with
  | nil => rfl
  | cons c l ih =>
    rw [List.map_cons, List.flatMap_cons, sg_T (h c (by simp)), ih fun d hd => h d (by simp [hd])]
    rfl
theorem sgs_C {l : List Nat} (h : ∀ c ∈ l, c ∈ AL) : (l.map sg).flatMap tokC = l := by
  induction l with
  | nil => rfl
  | cons c l ih =>
    rw [List.map_cons, List.flatMap_cons, sg_C (h c (by simp)), ih fun d hd => h d (by simp [hd])]
    rfl
theorem fmt_tok {pre run l : List Nat} (e : AL = pre ++ (run ++ l)) (hp : pre ≠ []) : ∃ ks : List (Nat × Nat), fmt run = ks.flatMap tokT ∧ (∀ k ∈ ks, okK k) ∧ ks.flatMap tokC = run := by
  have hA : ∀ c ∈ run, c ∈ AL := fun c hc => by rw [e]; simp [hc]
  have h45 : ∀ c ∈ run, c ≠ 45 := fun c hc h => by
    subst h
    obtain ⟨a, b, rfl⟩ := List.append_of_mem hc
    have := AL_45 (pre := pre ++ a) (l := b ++ l) (by rw [e]; simp)
    exact hp (List.append_eq_nil_iff.mp this).1
  by_cases h : 2 < run.length
  · have l1 : AL.length = pre.length + (run.length + l.length) := by rw [e]; simp
    have l2 : AL.length = 67 := rfl
    have l3 : 1 ≤ pre.length := by
      cases pre with
      | nil => exact absurd rfl hp
      | cons _ _ => simp
    have g : ∀ i, i < run.length → AL.getD (pre.length + i) 0 = run.getD i 0 := fun i hi => by
      rw [List.getD_eq_getElem?_getD, List.getD_eq_getElem?_getD, e, List.getElem?_append_right (by omega), show pre.length + i - pre.length = i by omega, List.getElem?_append_left hi]
    refine ⟨[(pre.length, pre.length + run.length - 1)], ?_, ?_, ?_⟩
    · unfold fmt
      rw [if_pos h, List.flatMap_singleton]
      unfold tokT
      rw [if_neg (by show ¬ pre.length = pre.length + run.length - 1; omega)]
      show [run.getD 0 0, 45, run.getD (run.length - 1) 0] = [AL.getD pre.length 0, 45, AL.getD (pre.length + run.length - 1) 0]
      rw [← g 0 (by omega), ← g (run.length - 1) (by omega), show pre.length + (run.length - 1) = pre.length + run.length - 1 by omega]
      rfl
    · intro k hk
      rw [List.mem_singleton.mp hk]
      exact ⟨l3, by show pre.length ≤ pre.length + run.length - 1; omega, by show pre.length + run.length - 1 < 67; omega⟩
    · rw [List.flatMap_singleton]
      unfold tokC
      show (AL.drop pre.length).take (pre.length + run.length - 1 + 1 - pre.length) = run
      rw [show pre.length + run.length - 1 + 1 - pre.length = run.length by omega, e, List.drop_left, List.take_left]
  · refine ⟨run.map sg, ?_, ?_, sgs_C hA⟩
    · unfold fmt
      rw [if_neg h, sgs_T hA]
    · intro k hk
      obtain ⟨c, hc, rfl⟩ := List.mem_map.mp hk
      exact sg_ok (hA c hc) (h45 c hc)
theorem itm_tok (cs : List Nat) : ∀ (l pre run : List Nat), AL = pre ++ (run ++ l) → pre ≠ [] → ∃ ks : List (Nat × Nat), itm cs l run = ks.flatMap tokT ∧ (∀ k ∈ ks, okK k) ∧ ∀ c, c ∈ ks.flatMap tokC ↔ c ∈ run ∨ (c ∈ l ∧ c ∈ cs)
  | [], pre, run, e, hp => by
    obtain ⟨ks, h1, h2, h3⟩ := fmt_tok e hp
    refine ⟨ks, h1, h2, fun c => ?_⟩
    rw [h3]
    simp
  | d :: l, pre, run, e, hp => by
    by_cases hd : d ∈ cs
    · obtain ⟨ks, h1, h2, h3⟩ := itm_tok cs l pre (run ++ [d]) (by rw [e]; simp) hp
      refine ⟨ks, by rw [itm, if_pos hd]; exact h1, h2, fun c => ?_⟩
      rw [h3]
      simp only [List.mem_append, List.mem_singleton, List.mem_cons, List.not_mem_nil, or_false]
      constructor
      · rintro ((h | rfl) | ⟨h, k⟩)
        · exact .inl h
        · exact .inr ⟨.inl rfl, hd⟩
        · exact .inr ⟨.inr h, k⟩
      · rintro (h | ⟨rfl | h, k⟩)
        · exact .inl (.inl h)
        · exact .inl (.inr rfl)
        · exact .inr ⟨h, k⟩
    · obtain ⟨ks, h1, h2, h3⟩ := fmt_tok (pre := pre) (run := run) (l := d :: l) e hp
      obtain ⟨js, g1, g2, g3⟩ := itm_tok cs l (pre ++ run ++ [d]) [] (by rw [e]; simp) (by simp)
      refine ⟨ks ++ js, by rw [itm, if_neg hd, h1, g1, List.flatMap_append], fun k hk => (List.mem_append.mp hk).elim (h2 k) (g2 k), fun c => ?_⟩
      rw [List.flatMap_append, List.mem_append, h3, g3]
      simp only [List.mem_cons, List.not_mem_nil, false_or]
      constructor
      · rintro (h | ⟨h, k⟩)
        · exact .inl h
        · exact .inr ⟨.inr h, k⟩
      · rintro (h | ⟨rfl | h, k⟩)
        · exact .inl h
        · exact absurd k hd
        · exact .inr ⟨h, k⟩
theorem items_tok (cs : List Nat) (hs : ∀ c ∈ cs, c ∈ AL) : ∃ b ks, items cs = itsT b ks ∧ (∀ k ∈ ks, okK k) ∧ ∀ c, c ∈ itsC b ks ↔ c ∈ cs := by
  obtain ⟨ks, h1, h2, h3⟩ := itm_tok cs (AL.drop 1) [45] [] rfl (by simp)
  refine ⟨decide (45 ∈ cs), ks, ?_, h2, fun c => ?_⟩
  · unfold items itsT
    rw [h1]
    congr 1
    by_cases h : 45 ∈ cs <;> simp [h]
  · unfold itsC
    rw [List.mem_append, h3]
    have hA : c ∈ AL ↔ c = 45 ∨ c ∈ AL.drop 1 := by
      show c ∈ 45 :: AL.drop 1 ↔ _
      rw [List.mem_cons]
    constructor
    · rintro (h | h | ⟨h, k⟩)
      · split at h
        · rename_i q
          rw [List.mem_singleton.mp h]
          simpa using q
        · cases h
      · cases h
      · exact k
    · intro h
      rcases hA.mp (hs c h) with rfl | q
      · left
        rw [if_pos (by simpa using h)]
        simp
      · exact .inr (.inr ⟨q, h⟩)
def chs (neg : Bool) (l : List Nat) : List Nat := if neg = true then PL.filter (fun c => !decide (c ∈ l)) else AL.filter fun c => decide (c ∈ l)
inductive Wt : List Nat → At_ → Prop
  | all : Wt [42, 42] (AL, true)
  | star : Wt [42] (PL, true)
  | any : Wt [63] (PL, false)
  | one {c : Nat} : c ∈ AL → Wt [c] ([c], false)
  | set (neg b : Bool) (ks : List (Nat × Nat)) : (∀ k ∈ ks, okK k) → chs neg (itsC b ks) ≠ [] → (itsT b ks).length ≤ 100 → Wt ([91] ++ (if neg = true then [33] else []) ++ (itsT b ks ++ [93])) (chs neg (itsC b ks), false)
theorem chs_pos {cs l : List Nat} (hs : cs.Sublist AL) (h : ∀ c, c ∈ l ↔ c ∈ cs) : chs false l = cs := by
  conv => rhs; rw [← sub_filter AL_nodup hs]
  refine List.filter_congr fun x _ => ?_
  simp [h]
theorem chs_neg {cs l : List Nat} (hs : cs.Sublist AL) (h47 : 47 ∉ cs) (h : ∀ c, c ∈ PL → (c ∈ l ↔ c ∉ cs)) : chs true l = cs := by
  conv => rhs; rw [← sub_filter AL_nodup hs]
  rw [show chs true l = PL.filter (fun c => !decide (c ∈ l)) from rfl]
  have : (AL.filter fun c => decide (c ∈ cs)) = PL.filter fun c => decide (c ∈ cs) := by
    unfold PL
    rw [List.filter_filter]
    refine List.filter_congr fun x _ => ?_
    by_cases hx : x = 47
    · subst hx
      simp [h47]
    · simp [hx]
  rw [this]
  refine List.filter_congr fun x hx => ?_
  have := h x hx
  by_cases q : x ∈ cs <;> simp [q, this]
theorem oth_mem {cs : List Nat} {c : Nat} : c ∈ oth cs ↔ c ∈ AL ∧ c ∉ cs ∧ c ≠ 47 := by
  unfold oth
  rw [List.mem_filter]
  simp
theorem PL_mem {c : Nat} : c ∈ PL ↔ c ∈ AL ∧ c ≠ 47 := by
  unfold PL
  rw [List.mem_filter]
  simp
theorem pl_of {cs : List Nat} (hs : cs.Sublist AL) (h47 : 47 ∉ cs) (ho : oth cs = []) : cs = PL := by
  conv => lhs; rw [← sub_filter AL_nodup hs]
  refine List.filter_congr fun x hx => ?_
  by_cases q : x = 47
  · subst q
    simp [h47]
  · have : x ∉ oth cs := by rw [ho]; simp
    rw [oth_mem] at this
    have : x ∈ cs := by
      apply Classical.byContradiction
      intro z
      exact this ⟨hx, z, q⟩
    simp [this, q]
theorem wr_wt {t : At_} (h : okA t.1) (hr : t.2 = true → t.1 = PL ∨ t.1 = AL) : Wt (wr t) t := by
  obtain ⟨cs, r⟩ := t
  have h : okA cs := h
  have hA : ∀ c ∈ cs, c ∈ AL := fun c hc => h.2.subset hc
  cases r with
  | true =>
    rcases hr rfl with e | e
    · have e : cs = PL := e
      subst e
      exact .star
    · have e : cs = AL := e
      subst e
      exact .all
  | false =>
    rw [wrF]
    split
    · rename_i q
      rw [show cs = PL from pl_of h.2 q.2 q.1]
      exact .any
    · split
      · rename_i q
        obtain ⟨c, rfl⟩ := List.length_eq_one_iff.mp q
        exact .one (hA c (by simp))
      · split
        · obtain ⟨b, ks, h1, h2, h3⟩ := items_tok cs hA
          have e := chs_pos h.2 h3
          have il := items_len cs
          have := Wt.set false b ks h2 (by rw [e]; exact h.1) (by rw [← h1]; omega)
          rw [e, ← h1] at this
          exact this
        · rename_i q
          obtain ⟨b, ks, h1, h2, h3⟩ := items_tok (oth cs) fun c hc => (oth_mem.mp hc).1
          have e : chs true (itsC b ks) = cs := chs_neg h.2 (fun z => q (.inl z)) fun c hc => by
            rw [h3, oth_mem]
            exact ⟨fun z => z.2.1, fun z => ⟨(PL_mem.mp hc).1, z, (PL_mem.mp hc).2⟩⟩
          have il := items_len (oth cs)
          have := Wt.set true b ks h2 (by rw [e]; exact h.1) (by rw [← h1]; omega)
          rw [e, ← h1] at this
          exact this
end K42
namespace K42
open PySem L2 Hz
local macro_rules | `(tactic| array_mem_dec) => `(tactic| (repeat' (first | (with_reducible first | refine w_kC ?_ | refine w_bop ?_ | refine w_tst ?_ | refine w_val ?_ | refine w_and ?_ | refine w_or ?_ | refine w_not ?_ | refine w_andV ?_ | refine w_orV ?_ | refine w_chain ?_ | refine w_ifK ?_ | refine w_nil ?_ | refine w_cons ?_ | refine w_tup ?_ | refine w_lst ?_ | refine w_call ?_ | refine w_neg ?_ | refine w_b1 ?_ | refine w_bn ?_ | refine w_isi ?_ | refine w_met ?_ | refine w_pnone ?_ | refine w_psome ?_ | refine w_cut ?_ | refine w_yes ?_ | refine w_list ?_ | refine w_tuple ?_ | refine w_str ?_ | refine w_range1 ?_ | refine w_range2 ?_ | refine w_range3 ?_ | refine w_seq ?_ | refine w_next ?_ | refine w_break ?_ | refine w_cont ?_ | refine w_drop ?_ | refine w_ret ?_ | refine w_retN ?_ | refine w_if ?_ | refine w_asg ?_ | refine w_raise ?_ | refine w_fld ?_ | refine w_seta ?_ | refine w_auga ?_ | refine w_seti ?_ | refine w_mut ?_ | refine w_frz ?_ | refine w_new ?_ | refine w_ext ?_ | refine w_for ?_ | refine w_lc ?_ | refine w_tryA ?_ | refine w_try ?_ | refine tb_b ?_ | refine ti_b ?_ | refine ts_b ?_ | refine we_nx ?_ | refine we_rt ?_ | refine we_ex ?_ | refine wn_nx ?_ | refine wn_rt ?_ | refine wn_bk ?_ | refine wn_ct ?_ | refine wn_ex ?_ | refine wl_nx ?_ | refine wl_rt ?_ | refine wl_bk ?_ | refine wl_ct ?_ | refine wl_ex ?_ | refine wx_nx ?_ | refine wx_rt ?_ | refine wx_bk ?_ | refine wx_ct ?_ | refine wx_ex ?_ | refine wh_nx ?_ | refine wh_rt ?_ | refine wh_bk ?_ | refine wh_ct ?_ | refine vw_i ?_ | refine vw_s ?_ | refine vw_b ?_ | refine vw_n ?_ | refine vw_l ?_ | refine vw_t ?_ | refine vw_sc ?_ | refine vw_o ?_ | refine mv_nil ?_ | refine mv_cons ?_ | refine oq_tgNil ?_ | refine oq_tgCons ?_ | refine it2_t ?_ | refine it2_f ?_ | refine it2_not ?_ | refine tlG_l ?_ | refine ttG_t ?_ | refine oq_add_i ?_ | refine oq_sub ?_ | refine oq_lt ?_ | refine oq_le ?_ | refine oq_gt ?_ | refine oq_ge ?_ | refine oq_eq_i ?_ | refine oq_ne_i ?_ | refine oq_eq_s ?_ | refine oq_ne_s ?_ | refine oq_eq_b ?_ | refine oq_ne_b ?_ | refine oq_is ?_ | refine oq_isNot ?_ | refine oq_in_s ?_ | refine oq_notIn_s ?_ | refine oq_len_l ?_ | refine oq_len_t ?_ | refine oq_int ?_ | refine oq_abs ?_ | refine oq_ord ?_ | refine oq_cut_l ?_ | refine oq_cut_t ?_ | refine oq_list_l ?_ | refine oq_list_t ?_ | refine oq_tuple_l ?_ | refine oq_tuple_t ?_ | refine oq_max2 ?_ | refine oq_min2 ?_ | refine oq_some ?_ | refine oq_len_sc ?_ | refine oq_eq_il ?_ | refine oq_ne_il ?_ | refine oq_eq_it ?_ | refine oq_ne_it ?_ | refine oq_lt_il ?_ | refine oq_lt_it ?_ | refine oq_iadd_i ?_ | refine oq_isT ?_ | refine oq_isNotT ?_ | refine pr2_of ?_ | refine w_par ?_ | refine al_go ?_ | refine oq_in_S ?_ | refine oq_notIn_S ?_ | refine oq_inT_S ?_) | ((with_reducible apply w_kV); exact rfl) | ((with_reducible apply oq_setv2); (simp only [List.set, wipeA]; exact rfl)) | ((with_reducible apply cal_of); exact rfl; (try simp only [List.cons_append, List.nil_append, List.append_nil])) | ((with_reducible apply oq_tgTup); exact rfl) | ((with_reducible apply oq_ix_lk); exact rfl) | ((with_reducible apply oq_ix_tk); exact rfl) | ((with_reducible apply w_aug); exact rfl) | ((with_reducible apply vw_r); (first | assumption | exact aset_same)) | ((with_reducible apply cel_of); (first | assumption | exact aset_same)) | ((with_reducible apply ceo_of); (first | assumption | exact aset_same)) | ((with_reducible apply tlG_r); (first | assumption | exact aset_same)) | ((with_reducible apply fr_of); (first | assumption | exact aset_same)) | ((with_reducible apply fd_cons); exact trivial) | ((with_reducible apply fd_nil); exact trivial) | ((with_reducible apply oq_isiB (b := true)); exact rfl) | ((with_reducible apply oq_isiB (b := false)); exact rfl) | ((with_reducible apply w_xi); exact rfl; exact decide_eq_true rfl; exact if_pos rfl) | ((with_reducible apply w_xf); exact rfl; exact decide_eq_true rfl; exact rfl) | ((with_reducible apply w_frzS); exact rfl; (first | assumption | exact aset_same); (try simp only [List.set])) | ((with_reducible apply oq_ixN_k); exact rfl; (try simp only [List.set, Int.reduceToNat])) | ((with_reducible apply oq_mod); (first | omega | decide)) | ((with_reducible apply oq_div); (first | omega | decide)) | ((with_reducible apply oq_mul); (first | omega | decide)) | ((with_reducible apply oq_pow); (first | omega | decide)) | ((with_reducible apply oq_shl); (first | omega | decide)) | ((with_reducible apply oq_shr); (first | omega | decide)) | ((with_reducible apply oq_add_s); (first | omega | decide)) | ((with_reducible apply oq_len_s); (first | omega | decide)) | ((with_reducible apply oq_cut_s); (first | omega | decide)) | ((with_reducible apply oq_append); (first | omega | decide)) | ((with_reducible apply oq_insert); (first | omega | decide)) | ((with_reducible apply oq_rep); (first | omega | decide)) | ((with_reducible apply oq_cat); (first | omega | decide)) | ((with_reducible apply rg1_of); (first | omega | decide)) | ((with_reducible apply rg2_of); (first | omega | decide)) | ((with_reducible apply lok); exact rfl) | ((with_reducible refine it2_dec ?_ ?_) <;> intro))))
local macro_rules | `(tactic| array_get_dec) => `(tactic| (repeat' (first | (with_reducible first | refine w_kC ?_ | refine w_bop ?_ | refine w_tst ?_ | refine w_val ?_ | refine w_and ?_ | refine w_or ?_ | refine w_not ?_ | refine w_andV ?_ | refine w_orV ?_ | refine w_chain ?_ | refine w_ifK ?_ | refine w_nil ?_ | refine w_cons ?_ | refine w_tup ?_ | refine w_lst ?_ | refine w_call ?_ | refine w_neg ?_ | refine w_b1 ?_ | refine w_bn ?_ | refine w_isi ?_ | refine w_met ?_ | refine w_pnone ?_ | refine w_psome ?_ | refine w_cut ?_ | refine w_yes ?_ | refine w_list ?_ | refine w_tuple ?_ | refine w_str ?_ | refine w_range1 ?_ | refine w_range2 ?_ | refine w_range3 ?_ | refine w_seqB ?_ | refine w_next ?_ | refine w_break ?_ | refine w_cont ?_ | refine w_drop ?_ | refine w_ret ?_ | refine w_retN ?_ | refine w_if ?_ | refine w_asg ?_ | refine w_raise ?_ | refine w_fld ?_ | refine w_seta ?_ | refine w_auga ?_ | refine w_seti ?_ | refine w_mut ?_ | refine w_frz ?_ | refine w_new ?_ | refine w_ext ?_ | refine w_for ?_ | refine w_lc ?_ | refine w_tryA ?_ | refine w_try ?_ | refine tb_b ?_ | refine ti_b ?_ | refine ts_b ?_ | refine we_nx ?_ | refine we_rt ?_ | refine we_ex ?_ | refine wn_nx ?_ | refine wn_rt ?_ | refine wn_bk ?_ | refine wn_ct ?_ | refine wn_ex ?_ | refine wl_nx ?_ | refine wl_rt ?_ | refine wl_bk ?_ | refine wl_ct ?_ | refine wl_ex ?_ | refine wx_nx ?_ | refine wx_rt ?_ | refine wx_bk ?_ | refine wx_ct ?_ | refine wx_ex ?_ | refine wh_nx ?_ | refine wh_rt ?_ | refine wh_bk ?_ | refine wh_ct ?_ | refine vw_i ?_ | refine vw_s ?_ | refine vw_b ?_ | refine vw_n ?_ | refine vw_l ?_ | refine vw_t ?_ | refine vw_sc ?_ | refine vw_o ?_ | refine mv_nil ?_ | refine mv_cons ?_ | refine oq_tgNil ?_ | refine oq_tgCons ?_ | refine it2_t ?_ | refine it2_f ?_ | refine it2_not ?_ | refine tlG_l ?_ | refine ttG_t ?_ | refine oq_add_i ?_ | refine oq_sub ?_ | refine oq_lt ?_ | refine oq_le ?_ | refine oq_gt ?_ | refine oq_ge ?_ | refine oq_eq_i ?_ | refine oq_ne_i ?_ | refine oq_eq_s ?_ | refine oq_ne_s ?_ | refine oq_eq_b ?_ | refine oq_ne_b ?_ | refine oq_is ?_ | refine oq_isNot ?_ | refine oq_in_s ?_ | refine oq_notIn_s ?_ | refine oq_len_l ?_ | refine oq_len_t ?_ | refine oq_int ?_ | refine oq_abs ?_ | refine oq_ord ?_ | refine oq_cut_l ?_ | refine oq_cut_t ?_ | refine oq_list_l ?_ | refine oq_list_t ?_ | refine oq_tuple_l ?_ | refine oq_tuple_t ?_ | refine oq_max2 ?_ | refine oq_min2 ?_ | refine oq_some ?_ | refine oq_len_sc ?_ | refine oq_eq_il ?_ | refine oq_ne_il ?_ | refine oq_eq_it ?_ | refine oq_ne_it ?_ | refine oq_lt_il ?_ | refine oq_lt_it ?_ | refine oq_iadd_i ?_ | refine oq_isT ?_ | refine oq_isNotT ?_ | refine pr2_of ?_ | refine w_par ?_ | refine al_go ?_ | refine oq_in_S ?_ | refine oq_notIn_S ?_ | refine oq_inT_S ?_) | ((with_reducible apply w_kV); exact rfl) | ((with_reducible apply oq_setv2); (simp only [List.set, wipeA]; exact rfl)) | ((with_reducible apply cal_of); exact rfl; (try simp only [List.cons_append, List.nil_append, List.append_nil])) | ((with_reducible apply oq_tgTup); exact rfl) | ((with_reducible apply oq_ix_lk); exact rfl) | ((with_reducible apply oq_ix_tk); exact rfl) | ((with_reducible apply w_aug); exact rfl) | ((with_reducible apply vw_r); (first | assumption | exact aset_same)) | ((with_reducible apply cel_of); (first | assumption | exact aset_same)) | ((with_reducible apply ceo_of); (first | assumption | exact aset_same)) | ((with_reducible apply tlG_r); (first | assumption | exact aset_same)) | ((with_reducible apply fr_of); (first | assumption | exact aset_same)) | ((with_reducible apply fd_cons); exact trivial) | ((with_reducible apply fd_nil); exact trivial) | ((with_reducible apply oq_isiB (b := true)); exact rfl) | ((with_reducible apply oq_isiB (b := false)); exact rfl) | ((with_reducible apply w_xi); exact rfl; exact decide_eq_true rfl; exact if_pos rfl) | ((with_reducible apply w_xf); exact rfl; exact decide_eq_true rfl; exact rfl) | ((with_reducible apply w_frzS); exact rfl; (first | assumption | exact aset_same); (try simp only [List.set])) | ((with_reducible apply oq_ixN_k); exact rfl; (try simp only [List.set, Int.reduceToNat])) | ((with_reducible apply oq_mod); (first | omega | decide)) | ((with_reducible apply oq_div); (first | omega | decide)) | ((with_reducible apply oq_mul); (first | omega | decide)) | ((with_reducible apply oq_pow); (first | omega | decide)) | ((with_reducible apply oq_shl); (first | omega | decide)) | ((with_reducible apply oq_shr); (first | omega | decide)) | ((with_reducible apply oq_add_s); (first | omega | decide)) | ((with_reducible apply oq_len_s); (first | omega | decide)) | ((with_reducible apply oq_cut_s); (first | omega | decide)) | ((with_reducible apply oq_append); (first | omega | decide)) | ((with_reducible apply oq_insert); (first | omega | decide)) | ((with_reducible apply oq_rep); (first | omega | decide)) | ((with_reducible apply oq_cat); (first | omega | decide)) | ((with_reducible apply rg1_of); (first | omega | decide)) | ((with_reducible apply rg2_of); (first | omega | decide)) | ((with_reducible apply lok); exact rfl) | ((with_reducible refine it2_dec ?_ ?_) <;> intro))))
local macro_rules | `(tactic| sizeOf_list_dec) => `(tactic| (try simp only [List.set, Int.reduceToNat, List.map_cons, List.map_nil, Nat.reduceSub, List.reduceReplicate, List.cons_append, List.nil_append, wipeA, aset_aset, List.getElem?_cons_zero, List.getElem?_cons_succ]))
variable {CP CF CI gX : Nat} {α : AH} {Q : QD} {E : QX}
theorem ro_go {cs : List Nat} (hs : cs.Sublist AL) (h : Q (.str (S (items cs))) α) : f_ranges_of CP CF CI gX [.str (S cs)] α Q E := by
  refine (?_ : pu _ _ _) α Q E h
  unfold f_ranges_of m_ranges_of
  refine pu_P rfl fun α R X hR => ?_
  have hl : cs.length ≤ 67 := hs.length_le
  have il := items_len cs
  have e0 : (PySem.Str.ofString "") = S [] := by decide
  have e2 : (PySem.Str.ofString "-") = S [45] := by decide
  have e3 : (PySem.Str.ofString "-./0123456789ABCDEFGHIJKLMNOPQRSTUVWXYZ_abcdefghijklmnopqrstuvwxyz~") = S AL := AL_eq
  simp only [e0, e2, e3]
  sizeOf_list_dec
  array_mem_dec
  refine w_while (fun m ρ α' => α = α' ∧ ∃ (text suf pre : List Nat) (a : Nat) (v : Option D), m = cs.length - a ∧ a ≤ cs.length ∧ AL = pre ++ suf ∧ cs.drop a = (suf.filter fun c => decide (c ∈ cs)) ∧ text ++ rst cs suf = items cs ∧ ρ = [some (.str (S cs)), some (.str (S text)), some (.int (a : Int)), v]) cs.length ⟨rfl, [], AL, [], 0, none, by omega, by omega, rfl, (sub_filter AL_nodup hs).symm, by rw [rst_AL]; rfl, rfl⟩ ?_
  rintro m _ _ ⟨rfl, text, suf, pre, a, v, rfl, ha, e, ed, et, rfl⟩ X hX
  array_mem_dec
  refine oq_len_S (by omega) ?_
  array_get_dec
  · rename_i h1
    refine bar_of ?_
    have h1 : a < cs.length := by omega
    cases hd : cs.drop a with
    | nil =>
      have := congrArg List.length hd
      rw [List.length_drop] at this
      simp at this
      omega
    | cons c r =>
    obtain ⟨run, suf2, pre2, g1, g2, g3, g4, g5, g6⟩ := rst_step cs suf pre c r e (by rw [← ed, hd])
    have hlen : cs.length = a + (1 + r.length) := by
      have := congrArg List.length hd
      rw [List.length_drop] at this
      simp at this
      omega
    have hrun : run.length ≤ r.length := by rw [g2]; simp
    have hc : cs.getD a 0 = c := by
      rw [List.getD_eq_getElem?_getD, ← List.head?_drop, hd]
      rfl
    have hf := fmt_len (c :: run)
    have htl : text.length + (fmt (c :: run)).length ≤ 67 := by
      have := congrArg List.length et
      rw [List.length_append, g3, List.length_append] at this
      omega
    have fin : ∀ v2, X [some (.str (S cs)), some (.str (S (text ++ fmt (c :: run)))), some (.int ((a + (run.length + 1) : Nat) : Int)), v2] α := fun v2 => by
      refine hX _ _ _ ?_ ⟨rfl, text ++ fmt (c :: run), suf2, pre2 ++ (c :: run), a + (run.length + 1), v2, rfl, by omega, ?_, ?_, ?_, rfl⟩
      · omega
      · rw [g1]; simp
      · rw [← List.drop_drop, hd, List.drop_succ_cons, g2, List.drop_left]
      · rw [List.append_assoc, ← g3, et]
    -- behind the inner loop
    have tail : ∀ (D' : Md), D'.nx = X → ∀ α', α = α' → (seqS (ifS (tst (bop dLt (kV 3) (kC (.int 3)))) (augS dIAdd 1 (cutK (kV 0) (psome (kV 2)) (psome (bop dAdd (kV 2) (kV 3))))) (augS dIAdd 1 (bop dAdd (bop dAdd (bop dIx (kV 0) (kV 2)) (kC (.str (S [45])))) (bop dIx (kV 0) (bop dSub (bop dAdd (kV 2) (kV 3)) (kC (.int 1)))))))
  (augS dIAdd 2 (kV 3))) [some (.str (S cs)), some (.str (S text)), some (.int (a : Int)), some (.int ((run.length + 1 : Nat) : Int))] α' D' := by
      rintro D' eD _ rfl
      array_mem_dec
      · rename_i h3
        have h3 : run.length + 1 < 3 := by omega
        have ef : fmt (c :: run) = c :: run := by unfold fmt; rw [if_neg (by simp; omega)]
        rw [show (a : Int) + ((run.length + 1 : Nat) : Int) = ((a + (run.length + 1) : Nat) : Int) by omega]
        refine oq_cut_s (by rw [S_len]; omega) ?_
        rw [S_cut, hd, show a + (run.length + 1) - a = run.length + 1 by omega, List.take_succ_cons, g2, List.take_left, ← ef]
        refine oq_iadd_S (by omega) ?_
        array_mem_dec
        rw [eD]
        have := fin (some (.int ((run.length + 1 : Nat) : Int)))
        rwa [show ((a + (run.length + 1) : Nat) : Int) = (a : Int) + ((run.length + 1 : Nat) : Int) by omega] at this
      · rename_i h3
        have h3 : ¬ run.length + 1 < 3 := by omega
        have ef : fmt (c :: run) = [c] ++ [45] ++ [cs.getD (a + run.length) 0] := by
          unfold fmt
          rw [if_pos (by simp; omega)]
          show [c, 45, (c :: run).getD run.length 0] = [c, 45, _]
          congr 3
          have : cs.getD (a + run.length) 0 = (c :: r).getD run.length 0 := by
            rw [List.getD_eq_getElem?_getD, List.getD_eq_getElem?_getD, ← hd, List.getElem?_drop]
          rw [this, g2, List.getD_eq_getElem?_getD, List.getD_eq_getElem?_getD, ← List.cons_append, List.getElem?_append_left (by simp)]
        refine oq_ix_S (by omega) (by omega) (by omega) ?_
        rw [Int.toNat_natCast, hc]
        array_mem_dec
        refine oq_add_S (by simp) ?_
        array_mem_dec
        refine oq_ix_S (by omega) (by omega) (by omega) ?_
        rw [show ((a : Int) + ((run.length + 1 : Nat) : Int) - 1).toNat = a + run.length by omega]
        array_mem_dec
        refine oq_add_S (by simp) ?_
        rw [← ef]
        array_mem_dec
        refine oq_iadd_S (by omega) ?_
        array_mem_dec
        rw [eD]
        have := fin (some (.int ((run.length + 1 : Nat) : Int)))
        rwa [show ((a + (run.length + 1) : Nat) : Int) = (a : Int) + ((run.length + 1 : Nat) : Int) by omega] at this
    sizeOf_list_dec
    refine w_seqI (fun ρ α' => α = α' ∧ ρ = [some (.str (S cs)), some (.str (S text)), some (.int (a : Int)), some (.int ((run.length + 1 : Nat) : Int))]) ?_ fun Z hZ => ?_
    · rintro _ _ ⟨rfl, rfl⟩
      exact tail _ rfl _ rfl
    array_mem_dec
    refine oq_ix_S (by omega) (by omega) (by omega) ?_
    rw [Int.toNat_natCast, hc]
    array_mem_dec
    · rename_i h2
      have h2 := S_inj.mp h2
      injection h2 with h2
      have := g4 h2
      subst this
      exact hZ _ _ ⟨rfl, rfl⟩
    · rename_i h2
      have h2 : c ≠ 45 := fun z => h2 (by rw [z])
      refine w_while (fun m ρ α' => α = α' ∧ ∃ k : Nat, m = run.length - k ∧ k ≤ run.length ∧ ρ = [some (.str (S cs)), some (.str (S text)), some (.int (a : Int)), some (.int ((k + 1 : Nat) : Int))]) run.length ⟨rfl, 0, by omega, by omega, rfl⟩ ?_
      rintro m _ _ ⟨rfl, k, rfl, hk, rfl⟩ Y hY
      array_mem_dec
      refine oq_len_S (by omega) ?_
      array_mem_dec
      · rename_i h3
        rw [show (a : Int) + ((k + 1 : Nat) : Int) + 1 = ((a + (k + 1) + 1 : Nat) : Int) by omega]
        refine oq_cut_s (by rw [S_len]; omega) ?_
        rw [S_cut, hd, show a + (k + 1) + 1 - a = k + 1 + 1 by omega, g2]
        array_mem_dec
        by_cases hk2 : k < run.length
        · rw [run_in g1 (by omega)]
          array_mem_dec
          exact hY _ _ _ (by omega) ⟨rfl, k + 1, rfl, by omega, rfl⟩
        · obtain rfl : k = run.length := by omega
          cases hF : (suf2.filter fun c => decide (c ∈ cs)) with
          | nil =>
            rw [hF, List.append_nil] at g2
            subst g2
            omega
          | cons d F =>
            have hd2 : d ∈ cs := by
              have : d ∈ suf2.filter fun c => decide (c ∈ cs) := by rw [hF]; simp
              simpa using (List.mem_filter.mp this).2
            rw [show (c :: (run ++ d :: F)).take (run.length + 1 + 1) = c :: (run ++ [d]) by rw [List.take_succ_cons, List.take_append]; simp [List.take_of_length_le (show run.length ≤ run.length + 1 by omega)], run_out (F := F) g1 (g5 h2) hd2]
            array_mem_dec
            exact hZ _ _ ⟨rfl, rfl⟩
      · rename_i h3
        obtain rfl : k = run.length := by omega
        exact hZ _ _ ⟨rfl, rfl⟩
  · rename_i h1
    have h1 : a = cs.length := by omega
    subst h1
    rw [List.drop_length] at ed
    rw [rst_none ed.symm, List.append_nil] at et
    rw [et]
    exact hR
end K42
namespace K42
open PySem L2 Hz
variable {CP CF CI gX : Nat} {α : AH} {Q : QD} {E : QX}
/-- where a sign stands in the alphabet -/
def ix (c : Nat) : Int := hd1 (pos c AL 0)
def seg (i j : Int) : List Nat := (AL.drop i.toNat).take (j.toNat + 1 - i.toNat)
/-- items: the rest of the body, its place, what was chosen -/
def rdI : List Nat → Nat → List Nat → Nat ⊕ List Nat
  | [], _, acc => .inr acc
  | [c], a, acc => if ix c < 1 then .inl a else .inr (acc ++ seg (ix c) (ix c))
  | [c, d], a, acc => if ix c < 1 then .inl a else if d = 45 then .inl (a + 2) else if ix d < 1 then .inl (a + 1) else .inr (acc ++ seg (ix c) (ix c) ++ seg (ix d) (ix d))
  | c :: d :: e :: l, a, acc => if ix c < 1 then .inl a else if d = 45 then (if ix e ≤ ix c then .inl (a + 2) else rdI l (a + 3) (acc ++ seg (ix c) (ix e))) else rdI (d :: e :: l) (a + 1) (acc ++ seg (ix c) (ix c))
/-- the result of a def that reads, st: the start of the line -/
def rs (CI : Nat) {β : Type} (u : β → D) (st : Int) (r : Nat ⊕ β) (Q : QD) (E : QX) (α : AH) : Prop := match r with
  | .inl p => E ⟨CI, [(.str "place", .int (st + p))]⟩ α
  | .inr b => Q (u b) α
theorem rs_inl {CI : Nat} {β : Type} {u : β → D} {st : Int} {p : Nat} (h : E ⟨CI, [(.str "place", .int (st + p))]⟩ α) : rs CI u st (.inl p) Q E α := h
theorem rs_inr {CI : Nat} {β : Type} {u : β → D} {st : Int} {b : β} (h : Q (u b) α) : rs CI u st (.inr b) Q E α := h
theorem ix_find {c : Nat} {R : D → Prop} (h : R (.int (ix c))) : oq (dFind1 (S AL) [.str (S [c])]) R := oq_find1 h
local macro_rules | `(tactic| array_mem_dec) => `(tactic| (repeat' (first | (with_reducible first | refine w_kC ?_ | refine w_bop ?_ | refine w_tst ?_ | refine w_val ?_ | refine w_and ?_ | refine w_or ?_ | refine w_not ?_ | refine w_andV ?_ | refine w_orV ?_ | refine w_chain ?_ | refine w_ifK ?_ | refine w_nil ?_ | refine w_cons ?_ | refine w_tup ?_ | refine w_lst ?_ | refine w_call ?_ | refine w_neg ?_ | refine w_b1 ?_ | refine w_bn ?_ | refine w_isi ?_ | refine w_met ?_ | refine w_pnone ?_ | refine w_psome ?_ | refine w_cut ?_ | refine w_yes ?_ | refine w_list ?_ | refine w_tuple ?_ | refine w_str ?_ | refine w_range1 ?_ | refine w_range2 ?_ | refine w_range3 ?_ | refine w_seq ?_ | refine w_next ?_ | refine w_break ?_ | refine w_cont ?_ | refine w_drop ?_ | refine w_ret ?_ | refine w_retN ?_ | refine w_if ?_ | refine w_asg ?_ | refine w_raise ?_ | refine w_fld ?_ | refine w_seta ?_ | refine w_auga ?_ | refine w_seti ?_ | refine w_mut ?_ | refine w_frz ?_ | refine w_new ?_ | refine w_ext ?_ | refine w_for ?_ | refine w_lc ?_ | refine w_tryA ?_ | refine w_try ?_ | refine tb_b ?_ | refine ti_b ?_ | refine ts_b ?_ | refine we_nx ?_ | refine we_rt ?_ | refine we_ex ?_ | refine wn_nx ?_ | refine wn_rt ?_ | refine wn_bk ?_ | refine wn_ct ?_ | refine wn_ex ?_ | refine wl_nx ?_ | refine wl_rt ?_ | refine wl_bk ?_ | refine wl_ct ?_ | refine wl_ex ?_ | refine wx_nx ?_ | refine wx_rt ?_ | refine wx_bk ?_ | refine wx_ct ?_ | refine wx_ex ?_ | refine wh_nx ?_ | refine wh_rt ?_ | refine wh_bk ?_ | refine wh_ct ?_ | refine vw_i ?_ | refine vw_s ?_ | refine vw_b ?_ | refine vw_n ?_ | refine vw_l ?_ | refine vw_t ?_ | refine vw_sc ?_ | refine vw_o ?_ | refine mv_nil ?_ | refine mv_cons ?_ | refine oq_tgNil ?_ | refine oq_tgCons ?_ | refine it2_t ?_ | refine it2_f ?_ | refine it2_not ?_ | refine tlG_l ?_ | refine ttG_t ?_ | refine oq_add_i ?_ | refine oq_sub ?_ | refine oq_lt ?_ | refine oq_le ?_ | refine oq_gt ?_ | refine oq_ge ?_ | refine oq_eq_i ?_ | refine oq_ne_i ?_ | refine oq_eq_s ?_ | refine oq_ne_s ?_ | refine oq_eq_b ?_ | refine oq_ne_b ?_ | refine oq_is ?_ | refine oq_isNot ?_ | refine oq_in_s ?_ | refine oq_notIn_s ?_ | refine oq_len_l ?_ | refine oq_len_t ?_ | refine oq_int ?_ | refine oq_abs ?_ | refine oq_ord ?_ | refine oq_cut_l ?_ | refine oq_cut_t ?_ | refine oq_list_l ?_ | refine oq_list_t ?_ | refine oq_tuple_l ?_ | refine oq_tuple_t ?_ | refine oq_max2 ?_ | refine oq_min2 ?_ | refine oq_some ?_ | refine oq_len_sc ?_ | refine oq_eq_il ?_ | refine oq_ne_il ?_ | refine oq_eq_it ?_ | refine oq_ne_it ?_ | refine oq_lt_il ?_ | refine oq_lt_it ?_ | refine oq_iadd_i ?_ | refine oq_isT ?_ | refine oq_isNotT ?_ | refine pr2_of ?_ | refine w_par ?_ | refine al_go ?_ | refine oq_in_S ?_ | refine oq_notIn_S ?_ | refine oq_inT_S ?_ | refine ix_find ?_) | ((with_reducible apply w_kV); exact rfl) | ((with_reducible apply oq_setv2); (simp only [List.set, wipeA]; exact rfl)) | ((with_reducible apply cal_of); exact rfl; (try simp only [List.cons_append, List.nil_append, List.append_nil])) | ((with_reducible apply oq_tgTup); exact rfl) | ((with_reducible apply oq_ix_lk); exact rfl) | ((with_reducible apply oq_ix_tk); exact rfl) | ((with_reducible apply w_aug); exact rfl) | ((with_reducible apply vw_r); (first | assumption | exact aset_same)) | ((with_reducible apply cel_of); (first | assumption | exact aset_same)) | ((with_reducible apply ceo_of); (first | assumption | exact aset_same)) | ((with_reducible apply tlG_r); (first | assumption | exact aset_same)) | ((with_reducible apply fr_of); (first | assumption | exact aset_same)) | ((with_reducible apply fd_cons); exact trivial) | ((with_reducible apply fd_nil); exact trivial) | ((with_reducible apply oq_isiB (b := true)); exact rfl) | ((with_reducible apply oq_isiB (b := false)); exact rfl) | ((with_reducible apply w_xi); exact rfl; exact decide_eq_true rfl; exact if_pos rfl) | ((with_reducible apply w_xf); exact rfl; exact decide_eq_true rfl; exact rfl) | ((with_reducible apply w_frzS); exact rfl; (first | assumption | exact aset_same); (try simp only [List.set])) | ((with_reducible apply oq_ixN_k); exact rfl; (try simp only [List.set, Int.reduceToNat])) | ((with_reducible apply oq_mod); (first | omega | decide)) | ((with_reducible apply oq_div); (first | omega | decide)) | ((with_reducible apply oq_mul); (first | omega | decide)) | ((with_reducible apply oq_pow); (first | omega | decide)) | ((with_reducible apply oq_shl); (first | omega | decide)) | ((with_reducible apply oq_shr); (first | omega | decide)) | ((with_reducible apply oq_add_s); (first | omega | decide)) | ((with_reducible apply oq_len_s); (first | omega | decide)) | ((with_reducible apply oq_cut_s); (first | omega | decide)) | ((with_reducible apply oq_append); (first | omega | decide)) | ((with_reducible apply oq_insert); (first | omega | decide)) | ((with_reducible apply oq_rep); (first | omega | decide)) | ((with_reducible apply oq_cat); (first | omega | decide)) | ((with_reducible apply rg1_of); (first | omega | decide)) | ((with_reducible apply rg2_of); (first | omega | decide)) | ((with_reducible apply lok); exact rfl) | ((with_reducible refine it2_dec ?_ ?_) <;> intro))))
local macro_rules | `(tactic| array_get_dec) => `(tactic| (repeat' (first | (with_reducible first | refine w_kC ?_ | refine w_bop ?_ | refine w_tst ?_ | refine w_val ?_ | refine w_and ?_ | refine w_or ?_ | refine w_not ?_ | refine w_andV ?_ | refine w_orV ?_ | refine w_chain ?_ | refine w_ifK ?_ | refine w_nil ?_ | refine w_cons ?_ | refine w_tup ?_ | refine w_lst ?_ | refine w_call ?_ | refine w_neg ?_ | refine w_b1 ?_ | refine w_bn ?_ | refine w_isi ?_ | refine w_met ?_ | refine w_pnone ?_ | refine w_psome ?_ | refine w_cut ?_ | refine w_yes ?_ | refine w_list ?_ | refine w_tuple ?_ | refine w_str ?_ | refine w_range1 ?_ | refine w_range2 ?_ | refine w_range3 ?_ | refine w_seqB ?_ | refine w_next ?_ | refine w_break ?_ | refine w_cont ?_ | refine w_drop ?_ | refine w_ret ?_ | refine w_retN ?_ | refine w_if ?_ | refine w_asg ?_ | refine w_raise ?_ | refine w_fld ?_ | refine w_seta ?_ | refine w_auga ?_ | refine w_seti ?_ | refine w_mut ?_ | refine w_frz ?_ | refine w_new ?_ | refine w_ext ?_ | refine w_for ?_ | refine w_lc ?_ | refine w_tryA ?_ | refine w_try ?_ | refine tb_b ?_ | refine ti_b ?_ | refine ts_b ?_ | refine we_nx ?_ | refine we_rt ?_ | refine we_ex ?_ | refine wn_nx ?_ | refine wn_rt ?_ | refine wn_bk ?_ | refine wn_ct ?_ | refine wn_ex ?_ | refine wl_nx ?_ | refine wl_rt ?_ | refine wl_bk ?_ | refine wl_ct ?_ | refine wl_ex ?_ | refine wx_nx ?_ | refine wx_rt ?_ | refine wx_bk ?_ | refine wx_ct ?_ | refine wx_ex ?_ | refine wh_nx ?_ | refine wh_rt ?_ | refine wh_bk ?_ | refine wh_ct ?_ | refine vw_i ?_ | refine vw_s ?_ | refine vw_b ?_ | refine vw_n ?_ | refine vw_l ?_ | refine vw_t ?_ | refine vw_sc ?_ | refine vw_o ?_ | refine mv_nil ?_ | refine mv_cons ?_ | refine oq_tgNil ?_ | refine oq_tgCons ?_ | refine it2_t ?_ | refine it2_f ?_ | refine it2_not ?_ | refine tlG_l ?_ | refine ttG_t ?_ | refine oq_add_i ?_ | refine oq_sub ?_ | refine oq_lt ?_ | refine oq_le ?_ | refine oq_gt ?_ | refine oq_ge ?_ | refine oq_eq_i ?_ | refine oq_ne_i ?_ | refine oq_eq_s ?_ | refine oq_ne_s ?_ | refine oq_eq_b ?_ | refine oq_ne_b ?_ | refine oq_is ?_ | refine oq_isNot ?_ | refine oq_in_s ?_ | refine oq_notIn_s ?_ | refine oq_len_l ?_ | refine oq_len_t ?_ | refine oq_int ?_ | refine oq_abs ?_ | refine oq_ord ?_ | refine oq_cut_l ?_ | refine oq_cut_t ?_ | refine oq_list_l ?_ | refine oq_list_t ?_ | refine oq_tuple_l ?_ | refine oq_tuple_t ?_ | refine oq_max2 ?_ | refine oq_min2 ?_ | refine oq_some ?_ | refine oq_len_sc ?_ | refine oq_eq_il ?_ | refine oq_ne_il ?_ | refine oq_eq_it ?_ | refine oq_ne_it ?_ | refine oq_lt_il ?_ | refine oq_lt_it ?_ | refine oq_iadd_i ?_ | refine oq_isT ?_ | refine oq_isNotT ?_ | refine pr2_of ?_ | refine w_par ?_ | refine al_go ?_ | refine oq_in_S ?_ | refine oq_notIn_S ?_ | refine oq_inT_S ?_ | refine ix_find ?_) | ((with_reducible apply w_kV); exact rfl) | ((with_reducible apply oq_setv2); (simp only [List.set, wipeA]; exact rfl)) | ((with_reducible apply cal_of); exact rfl; (try simp only [List.cons_append, List.nil_append, List.append_nil])) | ((with_reducible apply oq_tgTup); exact rfl) | ((with_reducible apply oq_ix_lk); exact rfl) | ((with_reducible apply oq_ix_tk); exact rfl) | ((with_reducible apply w_aug); exact rfl) | ((with_reducible apply vw_r); (first | assumption | exact aset_same)) | ((with_reducible apply cel_of); (first | assumption | exact aset_same)) | ((with_reducible apply ceo_of); (first | assumption | exact aset_same)) | ((with_reducible apply tlG_r); (first | assumption | exact aset_same)) | ((with_reducible apply fr_of); (first | assumption | exact aset_same)) | ((with_reducible apply fd_cons); exact trivial) | ((with_reducible apply fd_nil); exact trivial) | ((with_reducible apply oq_isiB (b := true)); exact rfl) | ((with_reducible apply oq_isiB (b := false)); exact rfl) | ((with_reducible apply w_xi); exact rfl; exact decide_eq_true rfl; exact if_pos rfl) | ((with_reducible apply w_xf); exact rfl; exact decide_eq_true rfl; exact rfl) | ((with_reducible apply w_frzS); exact rfl; (first | assumption | exact aset_same); (try simp only [List.set])) | ((with_reducible apply oq_ixN_k); exact rfl; (try simp only [List.set, Int.reduceToNat])) | ((with_reducible apply oq_mod); (first | omega | decide)) | ((with_reducible apply oq_div); (first | omega | decide)) | ((with_reducible apply oq_mul); (first | omega | decide)) | ((with_reducible apply oq_pow); (first | omega | decide)) | ((with_reducible apply oq_shl); (first | omega | decide)) | ((with_reducible apply oq_shr); (first | omega | decide)) | ((with_reducible apply oq_add_s); (first | omega | decide)) | ((with_reducible apply oq_len_s); (first | omega | decide)) | ((with_reducible apply oq_cut_s); (first | omega | decide)) | ((with_reducible apply oq_append); (first | omega | decide)) | ((with_reducible apply oq_insert); (first | omega | decide)) | ((with_reducible apply oq_rep); (first | omega | decide)) | ((with_reducible apply oq_cat); (first | omega | decide)) | ((with_reducible apply rg1_of); (first | omega | decide)) | ((with_reducible apply rg2_of); (first | omega | decide)) | ((with_reducible apply lok); exact rfl) | ((with_reducible refine it2_dec ?_ ?_) <;> intro))))
local macro_rules | `(tactic| sizeOf_list_dec) => `(tactic| (try simp only [List.set, Int.reduceToNat, List.map_cons, List.map_nil, Nat.reduceSub, List.reduceReplicate, List.cons_append, List.nil_append, wipeA, aset_aset, List.getElem?_cons_zero, List.getElem?_cons_succ]))
theorem pos_lt (c : Nat) : ∀ (l : List Nat) (i : Nat), ∀ k ∈ pos c l i, i ≤ k ∧ k < i + l.length
  | [], _, k, h => by cases h
  | x :: l, i, k, h => by
    have ih := pos_lt c l (i + 1) k
    unfold pos at h
    split at h
    · rcases List.mem_cons.mp h with rfl | h
      · simp
      · have := ih h
        simp only [List.length_cons]
        omega
    · have := ih h
      simp only [List.length_cons]
      omega
theorem ix_lt (c : Nat) : -1 ≤ ix c ∧ ix c < 67 := by
  unfold ix
  cases h : pos c AL 0 with
  | nil => exact ⟨by decide, by decide⟩
  | cons k r =>
    have := pos_lt c AL 0 k (by rw [h]; simp)
    rw [AL_len] at this
    show -1 ≤ (k : Int) ∧ (k : Int) < 67
    omega
theorem seg_len (i j : Int) : (seg i j).length ≤ 67 := by
  unfold seg
  rw [List.length_take, List.length_drop, AL_len]
  omega
theorem seg_one (i : Int) : (seg i i).length ≤ 1 := by
  unfold seg
  rw [List.length_take]
  omega
theorem seg_cut {i j : Int} (h0 : 0 ≤ i) (h1 : 0 ≤ j) : cutS (S AL) (some i) (some (j + 1)) = S (seg i j) := by
  obtain ⟨i', rfl⟩ := Int.eq_ofNat_of_zero_le h0
  obtain ⟨j', rfl⟩ := Int.eq_ofNat_of_zero_le h1
  exact S_cut AL i' (j' + 1)
theorem at_len {p r : List Nat} {c : Nat} : (p ++ c :: r).getD p.length 0 = c := by
  rw [List.getD_eq_getElem?_getD, List.getElem?_append_right (Nat.le_refl _), Nat.sub_self]
  rfl
theorem at_len' {l p r : List Nat} {c k : Nat} (e : l = p ++ c :: r) (hk : k = p.length) : l.getD k 0 = c := by
  subst e hk
  exact at_len
theorem oq_ix_at {l p r : List Nat} {c : Nat} {i : Int} {R : D → Prop} (e : l = p ++ c :: r) (hi : i = (p.length : Int)) (hz : l.length ≤ 100000) (h : R (.str (S [c]))) : oq (dIx (.str (S l)) (.int i)) R := by
  have : l.length = p.length + (1 + r.length) := by rw [e]; simp; omega
  refine oq_ix_S hz (by omega) (by omega) ?_
  rw [at_len' e (by omega)]
  exact h
theorem ix93 : ix 93 = -1 := by decide
theorem rdI_step (c : Nat) (l : List Nat) (a : Nat) (acc : List Nat) : rdI (c :: l) a acc = if ix c < 1 then .inl a else if l.head? = some 45 then (match l.drop 1 with
  | [] => .inl (a + 2)
  | e :: l' => if ix e ≤ ix c then .inl (a + 2) else rdI l' (a + 3) (acc ++ seg (ix c) (ix e))) else rdI l (a + 1) (acc ++ seg (ix c) (ix c)) := by
  cases l with
  | nil => simp [rdI]
  | cons d l =>
    cases l with
    | nil =>
      by_cases h : d = 45
      · simp [rdI, h]
      · simp [rdI, h]
    | cons e l => simp [rdI]
/-- the mirror's loop behind the first sign -/
theorem ri_go {line p body rest : List Nat} {st s a : Int} (e : line = p ++ (body ++ 93 :: rest)) (ha : a = (p.length : Int)) (hl : line.length ≤ 4200) (hs : s = (p.length + body.length : Nat))
    (h : rs CI (fun ch => .str (S ch)) st (if body.head? = some 45 then rdI (body.drop 1) (p.length + 1) [45] else rdI body p.length []) Q E α) : f_read_items CP CF CI gX [.str (S line), .int a, .int s, .int st] α Q E := by
  subst hs ha
  unfold f_read_items m_read_items
  refine w_runP rfl ?_
  have e0 : (PySem.Str.ofString "") = S [] := by decide
  have e2 : (PySem.Str.ofString "-") = S [45] := by decide
  simp only [e0, e2, AL_eq]
  have ll : line.length = p.length + (body.length + (1 + rest.length)) := by rw [e]; simp; omega
  sizeOf_list_dec
  refine w_seqI (fun ρ α' => α = α' ∧ ρ = [some (.str (S line)), some (.int (p.length : Int)), some (.int ((p.length + body.length : Nat) : Int)), some (.int st), some (.str (S [])), none, none]) ?_ fun X hX => ?_
  rotate_left
  · array_mem_dec
    exact hX _ _ ⟨rfl, rfl⟩
  rintro _ _ ⟨rfl, rfl⟩
  refine w_seqI (fun ρ α' => α = α' ∧ ∃ (b : Bool), rs CI (fun ch => .str (S ch)) st (rdI (if b = true then body.drop 1 else body) (p.length + (if b = true then 1 else 0)) (if b = true then [45] else [])) Q E α ∧ (b = true → body ≠ []) ∧ ρ = [some (.str (S line)), some (.int ((p.length + (if b = true then 1 else 0) : Nat) : Int)), some (.int ((p.length + body.length : Nat) : Int)), some (.int st), some (.str (S (if b = true then [45] else []))), none, none]) ?_ fun X hX => ?_
  rotate_left
  · array_mem_dec
    refine oq_ix_S (by omega) (by omega) (by omega) ?_
    rw [Int.toNat_natCast]
    cases body with
    | nil =>
      rw [at_len' (p := p) e rfl]
      array_mem_dec
      · rename_i h1
        exact absurd (S_inj.mp h1) (by decide)
      · exact hX _ _ ⟨rfl, false, h, by simp, rfl⟩
    | cons c body =>
      rw [at_len' (p := p) e rfl]
      array_mem_dec
      · rename_i h1
        have h1 := S_inj.mp h1
        injection h1 with h1
        subst h1
        rw [if_pos (show (45 :: body).head? = some 45 from rfl)] at h
        exact hX _ _ ⟨rfl, true, h, by simp, rfl⟩
      · rename_i h1
        rw [if_neg (fun z => h1 (by injection z with z; rw [z]))] at h
        exact hX _ _ ⟨rfl, false, h, by simp, rfl⟩
  rintro _ _ ⟨rfl, b, h, hb, rfl⟩
  array_get_dec
  have eb : ∃ l, body = (if b = true then [body.headD 0] else []) ++ l ∧ (if b = true then body.drop 1 else body) = l := by
    cases b with
    | true =>
      cases body with
      | nil => exact absurd rfl (hb rfl)
      | cons c l => exact ⟨l, rfl, rfl⟩
    | false => exact ⟨body, rfl, rfl⟩
  obtain ⟨l0, eb, el⟩ := eb
  rw [el] at h
  have e1 : line = (p ++ (if b = true then [body.headD 0] else [])) ++ (l0 ++ 93 :: rest) := by
    rw [e]
    conv => lhs; arg 2; arg 1; rw [eb]
    simp only [List.append_assoc]
  have e2 : (p ++ (if b = true then [body.headD 0] else [])).length = p.length + (if b = true then 1 else 0) := by cases b <;> simp
  have lb : p.length + body.length = p.length + (if b = true then 1 else 0) + l0.length := by
    have := congrArg List.length eb
    rw [List.length_append] at this
    rw [this]
    cases b <;> simp <;> omega
  have l1 : (if b = true then 1 else 0) ≤ 1 := by cases b <;> simp
  have l2 : (if b = true then [45] else ([] : List Nat)).length ≤ 1 := by cases b <;> simp
  generalize p ++ (if b = true then [body.headD 0] else []) = p1 at e1 e2
  generalize (if b = true then [45] else ([] : List Nat)) = acc0 at *
  have lp : p1.length ≤ p.length + 1 := by omega
  rw [← e2] at h lb
  rw [← e2, lb]
  clear eb el hb
  refine w_while (fun m ρ α' => α = α' ∧ ∃ (todo acc q : List Nat) (v5 v6 : Option D), m = todo.length ∧ line = q ++ (todo ++ 93 :: rest) ∧ q.length + todo.length = p1.length + l0.length ∧ acc.length ≤ 1 + 23 * q.length ∧ rs CI (fun ch => .str (S ch)) st (rdI todo q.length acc) Q E α ∧ ρ = [some (.str (S line)), some (.int (q.length : Int)), some (.int ((p1.length + l0.length : Nat) : Int)), some (.int st), some (.str (S acc)), v5, v6]) l0.length ⟨rfl, l0, acc0, p1, none, none, rfl, e1, rfl, by omega, h, rfl⟩ ?_
  clear h
  rintro m _ _ ⟨rfl, todo, acc, q, v5, v6, rfl, eq, lq, la, h, rfl⟩ Y hY
  have lln : line.length = q.length + (todo.length + (1 + rest.length)) := by rw [eq]; simp; omega
  cases todo with
  | nil =>
    array_mem_dec
    · rename_i h1
      simp at lq
      omega
    · refine bar_of ?_
      array_mem_dec
      rw [rdI] at h
      rw [arst_self]
      exact h
  | cons c l =>
    simp only [List.length_cons] at lq lln
    rw [rdI_step] at h
    have ic := ix_lt c
    array_get_dec
    · refine oq_ix_at eq rfl (by omega) ?_
      array_get_dec
      refine bar_of ?_
      sizeOf_list_dec
      by_cases hc : ix c < 1
      · rw [if_pos hc] at h
        array_mem_dec
        · rw [arst_self]
          exact h
        · omega
      rw [if_neg hc] at h
      have i0 : 0 ≤ ix c := by omega
      refine w_seqI (fun ρ α' => α = α' ∧ ρ = [some (.str (S line)), some (.int (q.length : Int)), some (.int ((p1.length + l0.length : Nat) : Int)), some (.int st), some (.str (S acc)), some (.int (ix c)), v6]) ?_ fun Z hZ => ?_
      rotate_left
      · array_mem_dec
        · omega
        · exact hZ _ _ ⟨rfl, rfl⟩
      rintro _ _ ⟨rfl, rfl⟩
      array_get_dec
      refine bar_of ?_
      sizeOf_list_dec
      -- behind the test for a range
      refine w_seqI (fun ρ α' => α = α' ∧ ∃ (j : Int) (k : Nat) (l' : List Nat), 0 ≤ j ∧ l.length = k + l'.length ∧ (acc ++ seg (ix c) j).length ≤ 1 + 23 * (q.length + 1 + k) ∧ line = (q ++ c :: l.take k) ++ (l' ++ 93 :: rest) ∧ rs CI (fun ch => .str (S ch)) st (rdI l' (q.length + 1 + k) (acc ++ seg (ix c) j)) Q E α ∧ ρ = [some (.str (S line)), some (.int ((q.length + k : Nat) : Int)), some (.int ((p1.length + l0.length : Nat) : Int)), some (.int st), some (.str (S acc)), some (.int (ix c)), some (.int j)]) ?_ fun Z hZ => ?_
      · rintro _ _ ⟨rfl, j, k, l', hj, hk, hl2, e2, h, rfl⟩
        array_get_dec
        rw [List.length_append] at hl2
        rw [seg_cut i0 hj]
        refine oq_iadd_S (by omega) ?_
        array_get_dec
        refine bar_of ?_
        sizeOf_list_dec
        array_mem_dec
        sizeOf_list_dec
        refine hY l'.length _ _ (by simp; omega) ⟨rfl, l', acc ++ seg (ix c) j, q ++ c :: l.take k, some (.int (ix c)), some (.int j), rfl, e2, ?_, ?_, ?_, ?_⟩
        · simp [List.length_take]; omega
        · simp [List.length_take]; omega
        · rw [show (q ++ c :: l.take k).length = q.length + 1 + k by simp [List.length_take]; omega]
          exact h
        · rw [show ((q ++ c :: l.take k).length : Int) = ((q.length + k : Nat) : Int) + 1 by simp [List.length_take]; omega]
      · have plain : ∀ (d : Nat) (r : List Nat), line = (q ++ [c]) ++ d :: r → d ≠ 45 → rs CI (fun ch => .str (S ch)) st (rdI l (q.length + 1) (acc ++ seg (ix c) (ix c))) Q E α → Z [some (.str (S line)), some (.int (q.length : Int)), some (.int ((p1.length + l0.length : Nat) : Int)), some (.int st), some (.str (S acc)), some (.int (ix c)), some (.int (ix c))] α := fun d r _ _ h => by
          have := seg_one (ix c)
          exact hZ _ _ ⟨rfl, ix c, 0, l, i0, by omega, by rw [List.length_append]; omega, by rw [eq]; simp, h, rfl⟩
        cases l with
        | nil =>
          rw [if_neg (by simp)] at h
          array_mem_dec
          refine oq_ix_at (p := q ++ [c]) (c := 93) (r := rest) (by rw [eq]; simp) (by simp) (by omega) ?_
          array_mem_dec
          · rename_i h1
            exact absurd (S_inj.mp h1) (by decide)
          · exact plain 93 rest (by rw [eq]; simp) (by decide) h
        | cons d l =>
          array_get_dec
          refine oq_ix_at (p := q ++ [c]) (c := d) (r := l ++ 93 :: rest) (by rw [eq]; simp) (by simp) (by omega) ?_
          array_get_dec
          · rename_i h1
            have h1 := S_inj.mp h1
            injection h1 with h1
            subst h1
            rw [if_pos (show (45 :: l).head? = some 45 from rfl)] at h
            sizeOf_list_dec
            refine bar_of ?_
            cases l with
            | nil =>
              have h : E ⟨CI, [(.str "place", .int (st + ((q.length + 2 : Nat) : Int)))]⟩ α := h
              array_mem_dec
              refine oq_ix_at (p := q ++ [c, 45]) (c := 93) (r := rest) (by rw [eq]; simp) (by simp) (by omega) ?_
              array_mem_dec
              · rw [arst_self]
                exact h
              · rename_i h2
                rw [ix93] at h2
                omega
            | cons e l =>
              have h : rs CI (fun ch => .str (S ch)) st (if ix e ≤ ix c then .inl (q.length + 2) else rdI l (q.length + 3) (acc ++ seg (ix c) (ix e))) Q E α := h
              array_mem_dec
              refine oq_ix_at (p := q ++ [c, 45]) (c := e) (r := l ++ 93 :: rest) (by rw [eq]; simp) (by simp) (by omega) ?_
              array_mem_dec
              · rename_i h2
                rw [if_pos h2] at h
                rw [arst_self]
                exact h
              · rename_i h2
                rw [if_neg h2] at h
                have := seg_len (ix c) (ix e)
                exact hZ _ _ ⟨rfl, ix e, 2, l, by omega, by simp; omega, by rw [List.length_append]; omega, by rw [eq]; simp, h, rfl⟩
          · rename_i h1
            have h1 : d ≠ 45 := fun z => h1 (by rw [z])
            rw [if_neg (show ¬ (d :: l).head? = some 45 from fun z => h1 (Option.some.inj z))] at h
            exact plain d (l ++ 93 :: rest) (by rw [eq]; simp) h1 h
    · rename_i h1
      omega
end K42
namespace K42
open PySem L2 Hz
local macro_rules | `(tactic| array_mem_dec) => `(tactic| (repeat' (first | (with_reducible first | refine w_kC ?_ | refine w_bop ?_ | refine w_tst ?_ | refine w_val ?_ | refine w_and ?_ | refine w_or ?_ | refine w_not ?_ | refine w_andV ?_ | refine w_orV ?_ | refine w_chain ?_ | refine w_ifK ?_ | refine w_nil ?_ | refine w_cons ?_ | refine w_tup ?_ | refine w_lst ?_ | refine w_call ?_ | refine w_neg ?_ | refine w_b1 ?_ | refine w_bn ?_ | refine w_isi ?_ | refine w_met ?_ | refine w_pnone ?_ | refine w_psome ?_ | refine w_cut ?_ | refine w_yes ?_ | refine w_list ?_ | refine w_tuple ?_ | refine w_str ?_ | refine w_range1 ?_ | refine w_range2 ?_ | refine w_range3 ?_ | refine w_seq ?_ | refine w_next ?_ | refine w_break ?_ | refine w_cont ?_ | refine w_drop ?_ | refine w_ret ?_ | refine w_retN ?_ | refine w_if ?_ | refine w_asg ?_ | refine w_raise ?_ | refine w_fld ?_ | refine w_seta ?_ | refine w_auga ?_ | refine w_seti ?_ | refine w_mut ?_ | refine w_frz ?_ | refine w_new ?_ | refine w_ext ?_ | refine w_for ?_ | refine w_lc ?_ | refine w_tryA ?_ | refine w_try ?_ | refine tb_b ?_ | refine ti_b ?_ | refine ts_b ?_ | refine we_nx ?_ | refine we_rt ?_ | refine we_ex ?_ | refine wn_nx ?_ | refine wn_rt ?_ | refine wn_bk ?_ | refine wn_ct ?_ | refine wn_ex ?_ | refine wl_nx ?_ | refine wl_rt ?_ | refine wl_bk ?_ | refine wl_ct ?_ | refine wl_ex ?_ | refine wx_nx ?_ | refine wx_rt ?_ | refine wx_bk ?_ | refine wx_ct ?_ | refine wx_ex ?_ | refine wh_nx ?_ | refine wh_rt ?_ | refine wh_bk ?_ | refine wh_ct ?_ | refine vw_i ?_ | refine vw_s ?_ | refine vw_b ?_ | refine vw_n ?_ | refine vw_l ?_ | refine vw_t ?_ | refine vw_sc ?_ | refine vw_o ?_ | refine mv_nil ?_ | refine mv_cons ?_ | refine oq_tgNil ?_ | refine oq_tgCons ?_ | refine it2_t ?_ | refine it2_f ?_ | refine it2_not ?_ | refine tlG_l ?_ | refine ttG_t ?_ | refine oq_add_i ?_ | refine oq_sub ?_ | refine oq_lt ?_ | refine oq_le ?_ | refine oq_gt ?_ | refine oq_ge ?_ | refine oq_eq_i ?_ | refine oq_ne_i ?_ | refine oq_eq_s ?_ | refine oq_ne_s ?_ | refine oq_eq_b ?_ | refine oq_ne_b ?_ | refine oq_is ?_ | refine oq_isNot ?_ | refine oq_in_s ?_ | refine oq_notIn_s ?_ | refine oq_len_l ?_ | refine oq_len_t ?_ | refine oq_int ?_ | refine oq_abs ?_ | refine oq_ord ?_ | refine oq_cut_l ?_ | refine oq_cut_t ?_ | refine oq_list_l ?_ | refine oq_list_t ?_ | refine oq_tuple_l ?_ | refine oq_tuple_t ?_ | refine oq_max2 ?_ | refine oq_min2 ?_ | refine oq_some ?_ | refine oq_len_sc ?_ | refine oq_eq_il ?_ | refine oq_ne_il ?_ | refine oq_eq_it ?_ | refine oq_ne_it ?_ | refine oq_lt_il ?_ | refine oq_lt_it ?_ | refine oq_iadd_i ?_ | refine oq_isT ?_ | refine oq_isNotT ?_ | refine pr2_of ?_ | refine w_par ?_ | refine al_go ?_ | refine oq_in_S ?_ | refine oq_notIn_S ?_ | refine oq_inT_S ?_ | refine ix_find ?_) | ((with_reducible apply w_kV); exact rfl) | ((with_reducible apply oq_setv2); (simp only [List.set, wipeA]; exact rfl)) | ((with_reducible apply cal_of); exact rfl; (try simp only [List.cons_append, List.nil_append, List.append_nil])) | ((with_reducible apply oq_tgTup); exact rfl) | ((with_reducible apply oq_ix_lk); exact rfl) | ((with_reducible apply oq_ix_tk); exact rfl) | ((with_reducible apply w_aug); exact rfl) | ((with_reducible apply vw_r); (first | assumption | exact aset_same)) | ((with_reducible apply cel_of); (first | assumption | exact aset_same)) | ((with_reducible apply ceo_of); (first | assumption | exact aset_same)) | ((with_reducible apply tlG_r); (first | assumption | exact aset_same)) | ((with_reducible apply fr_of); (first | assumption | exact aset_same)) | ((with_reducible apply fd_cons); exact trivial) | ((with_reducible apply fd_nil); exact trivial) | ((with_reducible apply oq_isiB (b := true)); exact rfl) | ((with_reducible apply oq_isiB (b := false)); exact rfl) | ((with_reducible apply w_xi); exact rfl; exact decide_eq_true rfl; exact if_pos rfl) | ((with_reducible apply w_xf); exact rfl; exact decide_eq_true rfl; exact rfl) | ((with_reducible apply w_frzS); exact rfl; (first | assumption | exact aset_same); (try simp only [List.set])) | ((with_reducible apply oq_ixN_k); exact rfl; (try simp only [List.set, Int.reduceToNat])) | ((with_reducible apply oq_mod); (first | omega | decide)) | ((with_reducible apply oq_div); (first | omega | decide)) | ((with_reducible apply oq_mul); (first | omega | decide)) | ((with_reducible apply oq_pow); (first | omega | decide)) | ((with_reducible apply oq_shl); (first | omega | decide)) | ((with_reducible apply oq_shr); (first | omega | decide)) | ((with_reducible apply oq_add_s); (first | omega | decide)) | ((with_reducible apply oq_len_s); (first | omega | decide)) | ((with_reducible apply oq_cut_s); (first | omega | decide)) | ((with_reducible apply oq_append); (first | omega | decide)) | ((with_reducible apply oq_insert); (first | omega | decide)) | ((with_reducible apply oq_rep); (first | omega | decide)) | ((with_reducible apply oq_cat); (first | omega | decide)) | ((with_reducible apply rg1_of); (first | omega | decide)) | ((with_reducible apply rg2_of); (first | omega | decide)) | ((with_reducible apply lok); exact rfl) | ((with_reducible refine it2_dec ?_ ?_) <;> intro))))
local macro_rules | `(tactic| array_get_dec) => `(tactic| (repeat' (first | (with_reducible first | refine w_kC ?_ | refine w_bop ?_ | refine w_tst ?_ | refine w_val ?_ | refine w_and ?_ | refine w_or ?_ | refine w_not ?_ | refine w_andV ?_ | refine w_orV ?_ | refine w_chain ?_ | refine w_ifK ?_ | refine w_nil ?_ | refine w_cons ?_ | refine w_tup ?_ | refine w_lst ?_ | refine w_call ?_ | refine w_neg ?_ | refine w_b1 ?_ | refine w_bn ?_ | refine w_isi ?_ | refine w_met ?_ | refine w_pnone ?_ | refine w_psome ?_ | refine w_cut ?_ | refine w_yes ?_ | refine w_list ?_ | refine w_tuple ?_ | refine w_str ?_ | refine w_range1 ?_ | refine w_range2 ?_ | refine w_range3 ?_ | refine w_seqB ?_ | refine w_next ?_ | refine w_break ?_ | refine w_cont ?_ | refine w_drop ?_ | refine w_ret ?_ | refine w_retN ?_ | refine w_if ?_ | refine w_asg ?_ | refine w_raise ?_ | refine w_fld ?_ | refine w_seta ?_ | refine w_auga ?_ | refine w_seti ?_ | refine w_mut ?_ | refine w_frz ?_ | refine w_new ?_ | refine w_ext ?_ | refine w_for ?_ | refine w_lc ?_ | refine w_tryA ?_ | refine w_try ?_ | refine tb_b ?_ | refine ti_b ?_ | refine ts_b ?_ | refine we_nx ?_ | refine we_rt ?_ | refine we_ex ?_ | refine wn_nx ?_ | refine wn_rt ?_ | refine wn_bk ?_ | refine wn_ct ?_ | refine wn_ex ?_ | refine wl_nx ?_ | refine wl_rt ?_ | refine wl_bk ?_ | refine wl_ct ?_ | refine wl_ex ?_ | refine wx_nx ?_ | refine wx_rt ?_ | refine wx_bk ?_ | refine wx_ct ?_ | refine wx_ex ?_ | refine wh_nx ?_ | refine wh_rt ?_ | refine wh_bk ?_ | refine wh_ct ?_ | refine vw_i ?_ | refine vw_s ?_ | refine vw_b ?_ | refine vw_n ?_ | refine vw_l ?_ | refine vw_t ?_ | refine vw_sc ?_ | refine vw_o ?_ | refine mv_nil ?_ | refine mv_cons ?_ | refine oq_tgNil ?_ | refine oq_tgCons ?_ | refine it2_t ?_ | refine it2_f ?_ | refine it2_not ?_ | refine tlG_l ?_ | refine ttG_t ?_ | refine oq_add_i ?_ | refine oq_sub ?_ | refine oq_lt ?_ | refine oq_le ?_ | refine oq_gt ?_ | refine oq_ge ?_ | refine oq_eq_i ?_ | refine oq_ne_i ?_ | refine oq_eq_s ?_ | refine oq_ne_s ?_ | refine oq_eq_b ?_ | refine oq_ne_b ?_ | refine oq_is ?_ | refine oq_isNot ?_ | refine oq_in_s ?_ | refine oq_notIn_s ?_ | refine oq_len_l ?_ | refine oq_len_t ?_ | refine oq_int ?_ | refine oq_abs ?_ | refine oq_ord ?_ | refine oq_cut_l ?_ | refine oq_cut_t ?_ | refine oq_list_l ?_ | refine oq_list_t ?_ | refine oq_tuple_l ?_ | refine oq_tuple_t ?_ | refine oq_max2 ?_ | refine oq_min2 ?_ | refine oq_some ?_ | refine oq_len_sc ?_ | refine oq_eq_il ?_ | refine oq_ne_il ?_ | refine oq_eq_it ?_ | refine oq_ne_it ?_ | refine oq_lt_il ?_ | refine oq_lt_it ?_ | refine oq_iadd_i ?_ | refine oq_isT ?_ | refine oq_isNotT ?_ | refine pr2_of ?_ | refine w_par ?_ | refine al_go ?_ | refine oq_in_S ?_ | refine oq_notIn_S ?_ | refine oq_inT_S ?_ | refine ix_find ?_) | ((with_reducible apply w_kV); exact rfl) | ((with_reducible apply oq_setv2); (simp only [List.set, wipeA]; exact rfl)) | ((with_reducible apply cal_of); exact rfl; (try simp only [List.cons_append, List.nil_append, List.append_nil])) | ((with_reducible apply oq_tgTup); exact rfl) | ((with_reducible apply oq_ix_lk); exact rfl) | ((with_reducible apply oq_ix_tk); exact rfl) | ((with_reducible apply w_aug); exact rfl) | ((with_reducible apply vw_r); (first | assumption | exact aset_same)) | ((with_reducible apply cel_of); (first | assumption | exact aset_same)) | ((with_reducible apply ceo_of); (first | assumption | exact aset_same)) | ((with_reducible apply tlG_r); (first | assumption | exact aset_same)) | ((with_reducible apply fr_of); (first | assumption | exact aset_same)) | ((with_reducible apply fd_cons); exact trivial) | ((with_reducible apply fd_nil); exact trivial) | ((with_reducible apply oq_isiB (b := true)); exact rfl) | ((with_reducible apply oq_isiB (b := false)); exact rfl) | ((with_reducible apply w_xi); exact rfl; exact decide_eq_true rfl; exact if_pos rfl) | ((with_reducible apply w_xf); exact rfl; exact decide_eq_true rfl; exact rfl) | ((with_reducible apply w_frzS); exact rfl; (first | assumption | exact aset_same); (try simp only [List.set])) | ((with_reducible apply oq_ixN_k); exact rfl; (try simp only [List.set, Int.reduceToNat])) | ((with_reducible apply oq_mod); (first | omega | decide)) | ((with_reducible apply oq_div); (first | omega | decide)) | ((with_reducible apply oq_mul); (first | omega | decide)) | ((with_reducible apply oq_pow); (first | omega | decide)) | ((with_reducible apply oq_shl); (first | omega | decide)) | ((with_reducible apply oq_shr); (first | omega | decide)) | ((with_reducible apply oq_add_s); (first | omega | decide)) | ((with_reducible apply oq_len_s); (first | omega | decide)) | ((with_reducible apply oq_cut_s); (first | omega | decide)) | ((with_reducible apply oq_append); (first | omega | decide)) | ((with_reducible apply oq_insert); (first | omega | decide)) | ((with_reducible apply oq_rep); (first | omega | decide)) | ((with_reducible apply oq_cat); (first | omega | decide)) | ((with_reducible apply rg1_of); (first | omega | decide)) | ((with_reducible apply rg2_of); (first | omega | decide)) | ((with_reducible apply lok); exact rfl) | ((with_reducible refine it2_dec ?_ ?_) <;> intro))))
local macro_rules | `(tactic| sizeOf_list_dec) => `(tactic| (try simp only [List.set, Int.reduceToNat, List.map_cons, List.map_nil, Nat.reduceSub, List.reduceReplicate, List.cons_append, List.nil_append, wipeA, aset_aset, List.getElem?_cons_zero, List.getElem?_cons_succ]))
variable {CP CF CI gX : Nat} {α : AH} {Q : QD} {E : QX}
/-- a set: what stands behind `[` -/
def rdS (l : List Nat) (a : Nat) : Nat ⊕ (At_ × Nat) :=
  if 93 ∈ l then
    match (if ((l.takeWhile fun c => !decide (c = 93)).drop (if l.head? = some 33 then 1 else 0)).head? = some 45 then rdI (((l.takeWhile fun c => !decide (c = 93)).drop (if l.head? = some 33 then 1 else 0)).drop 1) (a + 1 + (if l.head? = some 33 then 1 else 0) + 1) [45] else rdI ((l.takeWhile fun c => !decide (c = 93)).drop (if l.head? = some 33 then 1 else 0)) (a + 1 + (if l.head? = some 33 then 1 else 0)) []) with
    | .inl p => .inl p
    | .inr ch => if chs (decide (l.head? = some 33)) ch = [] then .inl a else .inr ((chs (decide (l.head? = some 33)) ch, false), a + 2 + (l.takeWhile fun c => !decide (c = 93)).length)
  else .inl a
def rdA (l : List Nat) (a : Nat) : Nat ⊕ (At_ × Nat) :=
  if l.head? = some 42 then (if (l.drop 1).head? = some 42 then .inr ((AL, true), a + 2) else .inr ((PL, true), a + 1))
  else if l.head? = some 63 then .inr ((PL, false), a + 1)
  else if l.head? = some 91 then rdS (l.drop 1) a
  else if l.headD 0 ∈ AL then .inr (([l.headD 0], false), a + 1)
  else .inl a
def atiD (t : At_ × Nat) : D := .tuple [atD t.1, .int (t.2 : Int)]
theorem tw93 : ∀ {l : List Nat}, 93 ∈ l → ∃ r, l = (l.takeWhile fun c => !decide (c = 93)) ++ 93 :: r ∧ 93 ∉ (l.takeWhile fun c => !decide (c = 93))
  | [], h => by cases h
  | c :: l, h => by
    by_cases hc : c = 93
    · subst hc
      exact ⟨l, rfl, by simp⟩
    · obtain ⟨r, e1, e2⟩ := tw93 (l := l) (by simpa [Ne.symm hc] using h)
      refine ⟨r, ?_, ?_⟩
      · rw [List.takeWhile_cons_of_pos (by simpa using hc)]
        conv => lhs; rw [e1]
        rfl
      · rw [List.takeWhile_cons_of_pos (by simpa using hc)]
        simp [e2, Ne.symm hc]
theorem pos_app {c : Nat} {a r : List Nat} {i : Nat} (h : c ∉ a) : pos c (a ++ c :: r) i = (i + a.length) :: pos c r (i + a.length + 1) := by
  induction a generalizing i with
  | nil =>
    show pos c (c :: r) i = _
    rw [pos, if_pos rfl]
    rfl
  | cons x a ih =>
    simp only [List.mem_cons, not_or] at h
    show pos c (x :: (a ++ c :: r)) i = _
    rw [pos, if_neg (Ne.symm h.1), ih h.2]
    simp only [List.length_cons]
    congr 1
    · omega
    · congr 1
      omega
theorem pos_no {c : Nat} {a : List Nat} {i : Nat} (h : c ∉ a) : pos c a i = [] := by
  induction a generalizing i with
  | nil => rfl
  | cons x a ih =>
    simp only [List.mem_cons, not_or] at h
    rw [pos, if_neg (Ne.symm h.1), ih h.2]
theorem chs_len (b : Bool) (l : List Nat) : (chs b l).length ≤ 67 := by
  have h1 := (List.filter_sublist (l := AL) (p := fun c => decide (c ∈ l))).length_le
  have h2 := (List.filter_sublist (l := PL) (p := fun c => !decide (c ∈ l))).length_le
  have h3 : PL.length ≤ 67 := by decide
  rw [AL_len] at h1
  unfold chs
  split <;> omega
theorem rs_go {line p l : List Nat} {st : Int} (e : line = p ++ 91 :: l) (hl : line.length ≤ 4200) (h : rs CI atiD st (rdS l p.length) Q E α) : f_read_set CP CF CI gX [.str (S line), .int (p.length : Int), .int st] α Q E := by
  unfold f_read_set m_read_set
  refine w_runP rfl ?_
  have e0 : (PySem.Str.ofString "") = S [] := by decide
  have e1 : (PySem.Str.ofString "]") = S [93] := by decide
  have e2 : (PySem.Str.ofString "!") = S [33] := by decide
  simp only [e0, e1, e2, AL_eq, PL_eq]
  have ll : line.length = p.length + (1 + l.length) := by rw [e]; simp; omega
  sizeOf_list_dec
  array_get_dec
  refine oq_find2 (by omega) (by omega) ?_
  rw [Int.toNat_natCast, e, List.drop_left, pos, if_neg (by decide), ← e]
  by_cases h93 : 93 ∈ l
  · obtain ⟨r, el, hn⟩ := tw93 h93
    unfold rdS at h
    rw [if_pos h93] at h
    have eh : l.head? = some 33 ↔ (l.takeWhile fun c => !decide (c = 93)).head? = some 33 := by
      conv => lhs; rw [el]
      cases l.takeWhile (fun c => !decide (c = 93)) with
      | nil => simp
      | cons x b => simp
    generalize (l.takeWhile fun c => !decide (c = 93)) = body at *
    have ebl : l.length = body.length + (1 + r.length) := by rw [el]; simp; omega
    have ep : pos 93 l (p.length + 1) = (p.length + 1 + body.length) :: pos 93 r (p.length + 1 + body.length + 1) := by
      conv => lhs; rw [el]
      exact pos_app hn
    rw [ep]
    array_get_dec
    refine bar_of ?_
    sizeOf_list_dec
    refine w_seqI (fun ρ α' => α = α' ∧ ρ = [some (.str (S line)), some (.int (p.length : Int)), some (.int st), some (.int ((p.length + 1 + body.length : Nat) : Int)), none, none, none, none]) ?_ fun Z hZ => ?_
    rotate_left
    · array_mem_dec
      · rename_i h1
        simp only [hd1] at h1
        omega
      · exact hZ _ _ ⟨rfl, rfl⟩
    rintro _ _ ⟨rfl, rfl⟩
    array_get_dec
    obtain ⟨x, l', el2⟩ : ∃ x l', l = x :: l' := by
      cases l with
      | nil => cases h93
      | cons x l' => exact ⟨x, l', rfl⟩
    refine oq_ix_at (p := p ++ [91]) (c := x) (r := l') (by rw [e, el2]; simp) (by simp) (by omega) ?_
    array_get_dec
    refine bar_of ?_
    sizeOf_list_dec
    have en : decide (S [x] = S [33]) = decide (l.head? = some 33) := by
      rw [el2]
      refine decide_eq_decide.mpr ⟨fun z => ?_, fun z => ?_⟩
      · have := S_inj.mp z
        injection this with this
        rw [this]
        rfl
      · rw [show x = 33 from Option.some.inj z]
    rw [en]
    -- behind the items
    have tail : ∀ (neg : Bool) (ch : List Nat), rs CI atiD st (if chs neg ch = [] then .inl p.length else .inr ((chs neg ch, false), p.length + 2 + body.length)) Q E α → (seqS
              (ifS (tst (Hz.kV 4))
                (asgS
                  (metK dJoin (kC (PyData.str (S [])))
                    (consK
                      (lcK [7] (strK (kC (PyData.str (S PL)))) (setv 7) (tst (bop dNotIn (Hz.kV 7) (Hz.kV 5)))
                        (Hz.kV 7))
                      nilK))
                  (setv 6))
                (asgS
                  (metK dJoin (kC (PyData.str (S [])))
                    (consK
                      (lcK [7] (strK (kC (PyData.str (S AL)))) (setv 7) (tst (bop dIn (Hz.kV 7) (Hz.kV 5))) (Hz.kV 7))
                      nilK))
                  (setv 6)))
              (seqS
                (ifS (tst (bop dEq (Hz.kV 6) (kC (PyData.str (S []))))) (raiseS CI (bop dAdd (Hz.kV 2) (Hz.kV 1)))
                  nextS)
                (retS (tupK (consK (tupK (consK (Hz.kV 6) (consK (kC (.bool false)) (nilK)))) (consK (bop dAdd (Hz.kV 3) (kC (.int 1))) (nilK))))))) [some (.str (S line)), some (.int (p.length : Int)), some (.int st), some (.int ((p.length + 1 + body.length : Nat) : Int)), some (.bool neg), some (.str (S ch)), none, none] α (we (fun d α' => Q d (arst α α')) (fun x α' => E x (arst α α'))) := by
      intro neg ch h
      refine w_seqI (fun ρ α' => α = α' ∧ ρ = [some (.str (S line)), some (.int (p.length : Int)), some (.int st), some (.int ((p.length + 1 + body.length : Nat) : Int)), some (.bool neg), some (.str (S ch)), some (.str (S (chs neg ch))), none]) ?_ fun Z hZ => ?_
      · rintro _ _ ⟨rfl, rfl⟩
        have := chs_len neg ch
        array_mem_dec
        · rename_i h1
          rw [if_pos (S_inj.mp h1)] at h
          rw [arst_self]
          exact h
        · rename_i h1
          rw [if_neg (fun z => h1 (by rw [z]))] at h
          rw [arst_self]
          have h : Q (.tuple [.tuple [.str (S (chs neg ch)), .bool false], .int ((p.length + 2 + body.length : Nat) : Int)]) α := h
          rwa [show ((p.length + 1 + body.length : Nat) : Int) + 1 = ((p.length + 2 + body.length : Nat) : Int) by omega]
      · cases neg with
        | true =>
          array_mem_dec
          rw [S_chars]
          refine lc_fm PL (fun k => .str (S [k])) (fun k => !decide (k ∈ ch)) (fun k => .str (S [k])) rfl (by decide) trivial (fun k hk => ?_) ?_
          · refine ⟨_, rfl, fun R hR => ?_, fun _ R hR => ?_⟩
            · sizeOf_list_dec
              array_mem_dec
              exact hR
            · sizeOf_list_dec
              array_mem_dec
              exact hR
          array_mem_dec
          refine oq_join_S (Nat.le_trans (chs_len true ch) (by decide)) ?_
          array_mem_dec
          exact hZ _ _ ⟨rfl, rfl⟩
        | false =>
          array_mem_dec
          rw [S_chars]
          refine lc_fm AL (fun k => .str (S [k])) (fun k => decide (k ∈ ch)) (fun k => .str (S [k])) rfl (by decide) trivial (fun k hk => ?_) ?_
          · refine ⟨_, rfl, fun R hR => ?_, fun _ R hR => ?_⟩
            · sizeOf_list_dec
              array_mem_dec
              exact hR
            · sizeOf_list_dec
              array_mem_dec
              exact hR
          array_mem_dec
          refine oq_join_S (Nat.le_trans (chs_len false ch) (by decide)) ?_
          array_mem_dec
          exact hZ _ _ ⟨rfl, rfl⟩
    by_cases hneg : l.head? = some 33
    · simp only [if_pos hneg] at h
      rw [decide_eq_true hneg] at h ⊢
      obtain ⟨b', eb⟩ : ∃ b', body = 33 :: b' := by
        have := eh.mp hneg
        cases body with
        | nil => cases this
        | cons y b' => exact ⟨b', by rw [Option.some.inj this]⟩
      subst eb
      array_get_dec
      refine ⟨.int 1, rfl, ?_⟩
      array_get_dec
      refine ri_go (p := p ++ [91, 33]) (body := b') (rest := r) (by rw [e, el]; simp) (by simp; omega) hl (by simp; omega) ?_
      simp only [List.drop_succ_cons, List.drop_zero] at h
      have e5 : (p ++ [91, 33]).length = p.length + 1 + 1 := by simp
      rw [e5]
      generalize (if b'.head? = some 45 then rdI (b'.drop 1) (p.length + 1 + 1 + 1) [45] else rdI b' (p.length + 1 + 1) []) = z at h ⊢
      cases z with
      | inl q =>
        refine rs_inl ?_
        array_mem_dec
        rw [arst_self]
        exact h
      | inr ch =>
        refine rs_inr ?_
        array_get_dec
        exact tail true ch h
    · simp only [if_neg hneg] at h
      rw [decide_eq_false hneg] at h ⊢
      array_get_dec
      refine ⟨.int 0, rfl, ?_⟩
      array_get_dec
      refine ri_go (p := p ++ [91]) (body := body) (rest := r) (by rw [e, el]; simp) (by simp) hl (by simp) ?_
      simp only [List.drop_zero, Nat.add_zero] at h
      have e5 : (p ++ [91]).length = p.length + 1 := by simp
      rw [e5]
      generalize (if body.head? = some 45 then rdI (body.drop 1) (p.length + 1 + 1) [45] else rdI body (p.length + 1) []) = z at h ⊢
      cases z with
      | inl q =>
        refine rs_inl ?_
        array_mem_dec
        rw [arst_self]
        exact h
      | inr ch =>
        refine rs_inr ?_
        array_get_dec
        exact tail false ch h
  · unfold rdS at h
    rw [if_neg h93] at h
    rw [pos_no h93]
    array_get_dec
    refine bar_of ?_
    sizeOf_list_dec
    array_mem_dec
    · rw [arst_self]
      exact h
    · rename_i h1
      exact absurd (show hd1 [] < 0 by decide) h1
theorem ra_go {line p l : List Nat} {st a : Int} (e : line = p ++ l) (ha : a = (p.length : Int)) (hne : l ≠ []) (hl : line.length ≤ 4200) (h : rs CI atiD st (rdA l p.length) Q E α) : f_read_atom CP CF CI gX [.str (S line), .int a, .int st] α Q E := by
  subst ha
  unfold f_read_atom m_read_atom
  refine w_runP rfl ?_
  have e1 : (PySem.Str.ofString "**") = S [42, 42] := by decide
  have e2 : (PySem.Str.ofString "*") = S [42] := by decide
  have e3 : (PySem.Str.ofString "?") = S [63] := by decide
  have e4 : (PySem.Str.ofString "[") = S [91] := by decide
  simp only [e1, e2, e3, e4, AL_eq, PL_eq]
  have ll : line.length = p.length + l.length := by rw [e]; simp
  cases l with
  | nil => exact absurd rfl hne
  | cons c l =>
  simp only [List.length_cons] at ll
  sizeOf_list_dec
  array_get_dec
  rw [show (p.length : Int) + 2 = ((p.length + 2 : Nat) : Int) by omega]
  refine oq_cut_s (by rw [S_len]; omega) ?_
  rw [S_cut, e, List.drop_left, show p.length + 2 - p.length = 2 by omega, ← e]
  have ix0 : ∀ {R : D → Prop}, R (.str (S [c])) → oq (dIx (.str (S line)) (.int (p.length : Int))) R := fun h => oq_ix_at e rfl (by omega) h
  by_cases h42 : c = 42
  · subst h42
    by_cases h43 : l.head? = some 42
    · obtain ⟨l', rfl⟩ : ∃ l', l = 42 :: l' := by
        cases l with
        | nil => cases h43
        | cons y b' => exact ⟨b', by rw [Option.some.inj h43]⟩
      array_mem_dec
      · rw [arst_self]
        exact h
      · rename_i h1
        exact absurd rfl h1
    · have h : rs CI atiD st (.inr ((PL, true), p.length + 1)) Q E α := by
        unfold rdA at h
        rwa [if_pos (show (42 :: l).head? = some 42 from rfl), if_neg (show ¬ ((42 :: l).drop 1).head? = some 42 from h43)] at h
      have no : ¬ S ((42 :: l).take 2) = S [42, 42] := fun z => by
        have := S_inj.mp z
        cases l with
        | nil => cases this
        | cons y b' =>
          simp at this
          exact h43 (by rw [this]; rfl)
      array_mem_dec
      · rename_i h1
        exact absurd h1 no
      · refine bar_of ?_
        array_mem_dec
        refine ix0 ?_
        array_mem_dec
        · rw [arst_self]
          exact h
        · rename_i h1
          exact absurd rfl h1
  · have no : ¬ S ((c :: l).take 2) = S [42, 42] := fun z => by
      have := S_inj.mp z
      cases l with
      | nil => cases this
      | cons y b' =>
        simp at this
        exact h42 this.1
    have no2 : ¬ S [c] = S [42] := fun z => h42 (by have := S_inj.mp z; injection this)
    unfold rdA at h
    rw [if_neg (show ¬ (c :: l).head? = some 42 from fun z => h42 (Option.some.inj z))] at h
    array_mem_dec
    · rename_i h1
      exact absurd h1 no
    refine bar_of ?_
    array_get_dec
    refine ix0 ?_
    array_get_dec
    · rename_i h1
      exact absurd h1 no2
    refine bar_of ?_
    array_get_dec
    refine ix0 ?_
    array_get_dec
    · rename_i h1
      have := S_inj.mp h1
      injection this with this
      rw [if_pos (show (c :: l).head? = some 63 by rw [this]; rfl)] at h
      rw [arst_self]
      exact h
    rename_i h63
    rw [if_neg (show ¬ (c :: l).head? = some 63 from fun z => h63 (by rw [Option.some.inj z]))] at h
    refine bar_of ?_
    array_get_dec
    refine ix0 ?_
    array_get_dec
    · rename_i h1
      have := S_inj.mp h1
      injection this with this
      rw [if_pos (show (c :: l).head? = some 91 by rw [this]; rfl)] at h
      subst this
      refine rs_go (p := p) (l := l) e hl ?_
      have h : rs CI atiD st (rdS l p.length) Q E α := h
      generalize rdS l p.length = z at h
      cases z with
      | inl q =>
        refine rs_inl ?_
        array_mem_dec
        rw [arst_self]
        exact h
      | inr ch =>
        refine rs_inr ?_
        array_mem_dec
        rw [arst_self]
        exact h
    rename_i h91
    rw [if_neg (show ¬ (c :: l).head? = some 91 from fun z => h91 (by rw [Option.some.inj z]))] at h
    refine bar_of ?_
    array_get_dec
    refine ix0 ?_
    array_get_dec
    rotate_left
    · rename_i h1
      rw [if_neg (show ¬ (c :: l).headD 0 ∈ AL from h1)] at h
      rw [arst_self]
      exact h
    rename_i h1
    rw [if_pos (show (c :: l).headD 0 ∈ AL from h1)] at h
    refine bar_of ?_
    array_get_dec
    refine ix0 ?_
    array_get_dec
    rw [arst_self]
    exact h
end K42
namespace K42
open PySem L2 Hz
local macro_rules | `(tactic| array_mem_dec) => `(tactic| (repeat' (first | (with_reducible first | refine w_kC ?_ | refine w_bop ?_ | refine w_tst ?_ | refine w_val ?_ | refine w_and ?_ | refine w_or ?_ | refine w_not ?_ | refine w_andV ?_ | refine w_orV ?_ | refine w_chain ?_ | refine w_ifK ?_ | refine w_nil ?_ | refine w_cons ?_ | refine w_tup ?_ | refine w_lst ?_ | refine w_call ?_ | refine w_neg ?_ | refine w_b1 ?_ | refine w_bn ?_ | refine w_isi ?_ | refine w_met ?_ | refine w_pnone ?_ | refine w_psome ?_ | refine w_cut ?_ | refine w_yes ?_ | refine w_list ?_ | refine w_tuple ?_ | refine w_str ?_ | refine w_range1 ?_ | refine w_range2 ?_ | refine w_range3 ?_ | refine w_seq ?_ | refine w_next ?_ | refine w_break ?_ | refine w_cont ?_ | refine w_drop ?_ | refine w_ret ?_ | refine w_retN ?_ | refine w_if ?_ | refine w_asg ?_ | refine w_raise ?_ | refine w_fld ?_ | refine w_seta ?_ | refine w_auga ?_ | refine w_seti ?_ | refine w_mut ?_ | refine w_frz ?_ | refine w_new ?_ | refine w_ext ?_ | refine w_for ?_ | refine w_lc ?_ | refine w_tryA ?_ | refine w_try ?_ | refine tb_b ?_ | refine ti_b ?_ | refine ts_b ?_ | refine we_nx ?_ | refine we_rt ?_ | refine we_ex ?_ | refine wn_nx ?_ | refine wn_rt ?_ | refine wn_bk ?_ | refine wn_ct ?_ | refine wn_ex ?_ | refine wl_nx ?_ | refine wl_rt ?_ | refine wl_bk ?_ | refine wl_ct ?_ | refine wl_ex ?_ | refine wx_nx ?_ | refine wx_rt ?_ | refine wx_bk ?_ | refine wx_ct ?_ | refine wx_ex ?_ | refine wh_nx ?_ | refine wh_rt ?_ | refine wh_bk ?_ | refine wh_ct ?_ | refine vw_i ?_ | refine vw_s ?_ | refine vw_b ?_ | refine vw_n ?_ | refine vw_l ?_ | refine vw_t ?_ | refine vw_sc ?_ | refine vw_o ?_ | refine mv_nil ?_ | refine mv_cons ?_ | refine oq_tgNil ?_ | refine oq_tgCons ?_ | refine it2_t ?_ | refine it2_f ?_ | refine it2_not ?_ | refine tlG_l ?_ | refine ttG_t ?_ | refine oq_add_i ?_ | refine oq_sub ?_ | refine oq_lt ?_ | refine oq_le ?_ | refine oq_gt ?_ | refine oq_ge ?_ | refine oq_eq_i ?_ | refine oq_ne_i ?_ | refine oq_eq_s ?_ | refine oq_ne_s ?_ | refine oq_eq_b ?_ | refine oq_ne_b ?_ | refine oq_is ?_ | refine oq_isNot ?_ | refine oq_in_s ?_ | refine oq_notIn_s ?_ | refine oq_len_l ?_ | refine oq_len_t ?_ | refine oq_int ?_ | refine oq_abs ?_ | refine oq_ord ?_ | refine oq_cut_l ?_ | refine oq_cut_t ?_ | refine oq_list_l ?_ | refine oq_list_t ?_ | refine oq_tuple_l ?_ | refine oq_tuple_t ?_ | refine oq_max2 ?_ | refine oq_min2 ?_ | refine oq_some ?_ | refine oq_len_sc ?_ | refine oq_eq_il ?_ | refine oq_ne_il ?_ | refine oq_eq_it ?_ | refine oq_ne_it ?_ | refine oq_lt_il ?_ | refine oq_lt_it ?_ | refine oq_iadd_i ?_ | refine oq_isT ?_ | refine oq_isNotT ?_ | refine pr2_of ?_ | refine w_par ?_ | refine al_go ?_ | refine oq_in_S ?_ | refine oq_notIn_S ?_ | refine oq_inT_S ?_ | refine ix_find ?_) | ((with_reducible apply w_kV); exact rfl) | ((with_reducible apply oq_setv2); (simp only [List.set, wipeA]; exact rfl)) | ((with_reducible apply cal_of); exact rfl; (try simp only [List.cons_append, List.nil_append, List.append_nil])) | ((with_reducible apply oq_tgTup); exact rfl) | ((with_reducible apply oq_ix_lk); exact rfl) | ((with_reducible apply oq_ix_tk); exact rfl) | ((with_reducible apply w_aug); exact rfl) | ((with_reducible apply vw_r); (first | assumption | exact aset_same)) | ((with_reducible apply cel_of); (first | assumption | exact aset_same)) | ((with_reducible apply ceo_of); (first | assumption | exact aset_same)) | ((with_reducible apply tlG_r); (first | assumption | exact aset_same)) | ((with_reducible apply fr_of); (first | assumption | exact aset_same)) | ((with_reducible apply fd_cons); exact trivial) | ((with_reducible apply fd_nil); exact trivial) | ((with_reducible apply oq_isiB (b := true)); exact rfl) | ((with_reducible apply oq_isiB (b := false)); exact rfl) | ((with_reducible apply w_xi); exact rfl; exact decide_eq_true rfl; exact if_pos rfl) | ((with_reducible apply w_xf); exact rfl; exact decide_eq_true rfl; exact rfl) | ((with_reducible apply w_frzS); exact rfl; (first | assumption | exact aset_same); (try simp only [List.set])) | ((with_reducible apply oq_ixN_k); exact rfl; (try simp only [List.set, Int.reduceToNat])) | ((with_reducible apply oq_mod); (first | omega | decide)) | ((with_reducible apply oq_div); (first | omega | decide)) | ((with_reducible apply oq_mul); (first | omega | decide)) | ((with_reducible apply oq_pow); (first | omega | decide)) | ((with_reducible apply oq_shl); (first | omega | decide)) | ((with_reducible apply oq_shr); (first | omega | decide)) | ((with_reducible apply oq_add_s); (first | omega | decide)) | ((with_reducible apply oq_len_s); (first | omega | decide)) | ((with_reducible apply oq_cut_s); (first | omega | decide)) | ((with_reducible apply oq_append); (first | omega | decide)) | ((with_reducible apply oq_insert); (first | omega | decide)) | ((with_reducible apply oq_rep); (first | omega | decide)) | ((with_reducible apply oq_cat); (first | omega | decide)) | ((with_reducible apply rg1_of); (first | omega | decide)) | ((with_reducible apply rg2_of); (first | omega | decide)) | ((with_reducible apply lok); exact rfl) | ((with_reducible refine it2_dec ?_ ?_) <;> intro))))
local macro_rules | `(tactic| array_get_dec) => `(tactic| (repeat' (first | (with_reducible first | refine w_kC ?_ | refine w_bop ?_ | refine w_tst ?_ | refine w_val ?_ | refine w_and ?_ | refine w_or ?_ | refine w_not ?_ | refine w_andV ?_ | refine w_orV ?_ | refine w_chain ?_ | refine w_ifK ?_ | refine w_nil ?_ | refine w_cons ?_ | refine w_tup ?_ | refine w_lst ?_ | refine w_call ?_ | refine w_neg ?_ | refine w_b1 ?_ | refine w_bn ?_ | refine w_isi ?_ | refine w_met ?_ | refine w_pnone ?_ | refine w_psome ?_ | refine w_cut ?_ | refine w_yes ?_ | refine w_list ?_ | refine w_tuple ?_ | refine w_str ?_ | refine w_range1 ?_ | refine w_range2 ?_ | refine w_range3 ?_ | refine w_seqB ?_ | refine w_next ?_ | refine w_break ?_ | refine w_cont ?_ | refine w_drop ?_ | refine w_ret ?_ | refine w_retN ?_ | refine w_if ?_ | refine w_asg ?_ | refine w_raise ?_ | refine w_fld ?_ | refine w_seta ?_ | refine w_auga ?_ | refine w_seti ?_ | refine w_mut ?_ | refine w_frz ?_ | refine w_new ?_ | refine w_ext ?_ | refine w_for ?_ | refine w_lc ?_ | refine w_tryA ?_ | refine w_try ?_ | refine tb_b ?_ | refine ti_b ?_ | refine ts_b ?_ | refine we_nx ?_ | refine we_rt ?_ | refine we_ex ?_ | refine wn_nx ?_ | refine wn_rt ?_ | refine wn_bk ?_ | refine wn_ct ?_ | refine wn_ex ?_ | refine wl_nx ?_ | refine wl_rt ?_ | refine wl_bk ?_ | refine wl_ct ?_ | refine wl_ex ?_ | refine wx_nx ?_ | refine wx_rt ?_ | refine wx_bk ?_ | refine wx_ct ?_ | refine wx_ex ?_ | refine wh_nx ?_ | refine wh_rt ?_ | refine wh_bk ?_ | refine wh_ct ?_ | refine vw_i ?_ | refine vw_s ?_ | refine vw_b ?_ | refine vw_n ?_ | refine vw_l ?_ | refine vw_t ?_ | refine vw_sc ?_ | refine vw_o ?_ | refine mv_nil ?_ | refine mv_cons ?_ | refine oq_tgNil ?_ | refine oq_tgCons ?_ | refine it2_t ?_ | refine it2_f ?_ | refine it2_not ?_ | refine tlG_l ?_ | refine ttG_t ?_ | refine oq_add_i ?_ | refine oq_sub ?_ | refine oq_lt ?_ | refine oq_le ?_ | refine oq_gt ?_ | refine oq_ge ?_ | refine oq_eq_i ?_ | refine oq_ne_i ?_ | refine oq_eq_s ?_ | refine oq_ne_s ?_ | refine oq_eq_b ?_ | refine oq_ne_b ?_ | refine oq_is ?_ | refine oq_isNot ?_ | refine oq_in_s ?_ | refine oq_notIn_s ?_ | refine oq_len_l ?_ | refine oq_len_t ?_ | refine oq_int ?_ | refine oq_abs ?_ | refine oq_ord ?_ | refine oq_cut_l ?_ | refine oq_cut_t ?_ | refine oq_list_l ?_ | refine oq_list_t ?_ | refine oq_tuple_l ?_ | refine oq_tuple_t ?_ | refine oq_max2 ?_ | refine oq_min2 ?_ | refine oq_some ?_ | refine oq_len_sc ?_ | refine oq_eq_il ?_ | refine oq_ne_il ?_ | refine oq_eq_it ?_ | refine oq_ne_it ?_ | refine oq_lt_il ?_ | refine oq_lt_it ?_ | refine oq_iadd_i ?_ | refine oq_isT ?_ | refine oq_isNotT ?_ | refine pr2_of ?_ | refine w_par ?_ | refine al_go ?_ | refine oq_in_S ?_ | refine oq_notIn_S ?_ | refine oq_inT_S ?_ | refine ix_find ?_) | ((with_reducible apply w_kV); exact rfl) | ((with_reducible apply oq_setv2); (simp only [List.set, wipeA]; exact rfl)) | ((with_reducible apply cal_of); exact rfl; (try simp only [List.cons_append, List.nil_append, List.append_nil])) | ((with_reducible apply oq_tgTup); exact rfl) | ((with_reducible apply oq_ix_lk); exact rfl) | ((with_reducible apply oq_ix_tk); exact rfl) | ((with_reducible apply w_aug); exact rfl) | ((with_reducible apply vw_r); (first | assumption | exact aset_same)) | ((with_reducible apply cel_of); (first | assumption | exact aset_same)) | ((with_reducible apply ceo_of); (first | assumption | exact aset_same)) | ((with_reducible apply tlG_r); (first | assumption | exact aset_same)) | ((with_reducible apply fr_of); (first | assumption | exact aset_same)) | ((with_reducible apply fd_cons); exact trivial) | ((with_reducible apply fd_nil); exact trivial) | ((with_reducible apply oq_isiB (b := true)); exact rfl) | ((with_reducible apply oq_isiB (b := false)); exact rfl) | ((with_reducible apply w_xi); exact rfl; exact decide_eq_true rfl; exact if_pos rfl) | ((with_reducible apply w_xf); exact rfl; exact decide_eq_true rfl; exact rfl) | ((with_reducible apply w_frzS); exact rfl; (first | assumption | exact aset_same); (try simp only [List.set])) | ((with_reducible apply oq_ixN_k); exact rfl; (try simp only [List.set, Int.reduceToNat])) | ((with_reducible apply oq_mod); (first | omega | decide)) | ((with_reducible apply oq_div); (first | omega | decide)) | ((with_reducible apply oq_mul); (first | omega | decide)) | ((with_reducible apply oq_pow); (first | omega | decide)) | ((with_reducible apply oq_shl); (first | omega | decide)) | ((with_reducible apply oq_shr); (first | omega | decide)) | ((with_reducible apply oq_add_s); (first | omega | decide)) | ((with_reducible apply oq_len_s); (first | omega | decide)) | ((with_reducible apply oq_cut_s); (first | omega | decide)) | ((with_reducible apply oq_append); (first | omega | decide)) | ((with_reducible apply oq_insert); (first | omega | decide)) | ((with_reducible apply oq_rep); (first | omega | decide)) | ((with_reducible apply oq_cat); (first | omega | decide)) | ((with_reducible apply rg1_of); (first | omega | decide)) | ((with_reducible apply rg2_of); (first | omega | decide)) | ((with_reducible apply lok); exact rfl) | ((with_reducible refine it2_dec ?_ ?_) <;> intro))))
local macro_rules | `(tactic| sizeOf_list_dec) => `(tactic| (try simp only [List.set, Int.reduceToNat, List.map_cons, List.map_nil, Nat.reduceSub, List.reduceReplicate, List.cons_append, List.nil_append, wipeA, aset_aset, List.getElem?_cons_zero, List.getElem?_cons_succ]))
variable {CP CF CI gX : Nat} {α : AH} {Q : QD} {E : QX}
def bad (ts : List At_) (t : At_) : Bool := decide (ts.length = 40) || (t.2 && (ts.getLast?.map (·.2) == some true))
def rdL : Nat → List Nat → Nat → List At_ → Nat ⊕ List At_
  | 0, _, _, ts => .inr ts
  | n + 1, line, a, ts => if a < line.length then (match rdA (line.drop a) a with
    | .inl p => .inl p
    | .inr (t, b) => if bad ts t = true then .inl a else rdL n line b (ts ++ [t])) else .inr ts
abbrev Pt := List At_ × Bool
def ptD (CP : Nat) (p : Pt) : D := oD CP [(.str "atoms", .tuple (p.1.map atD)), (.str "negated", .bool p.2)]
def rdP (line : List Nat) : Nat ⊕ Pt :=
  if (if line.head? = some 33 then 1 else 0) = line.length then .inl (if line.head? = some 33 then 1 else 0)
  else match rdL line.length line (if line.head? = some 33 then 1 else 0) [] with
    | .inl p => .inl p
    | .inr ts => .inr (ts, decide (line.head? = some 33))
theorem rdS_gt {l : List Nat} {a : Nat} {t : At_} {b : Nat} (h : rdS l a = .inr (t, b)) : a < b := by
  unfold rdS at h
  split at h
  · split at h
    · cases h
    · split at h
      · cases h
      · simp only [Sum.inr.injEq, Prod.mk.injEq] at h
        omega
  · cases h
theorem rdA_gt {l : List Nat} {a : Nat} {t : At_} {b : Nat} (h : rdA l a = .inr (t, b)) : a < b := by
  unfold rdA at h
  split at h
  · split at h <;> (simp only [Sum.inr.injEq, Prod.mk.injEq] at h; omega)
  · split at h
    · simp only [Sum.inr.injEq, Prod.mk.injEq] at h; omega
    · split at h
      · exact rdS_gt h
      · split at h
        · simp only [Sum.inr.injEq, Prod.mk.injEq] at h; omega
        · cases h
theorem mk_go {p : Addr} {c : D} {ts : List At_} {n : Bool} (hc : vw α c = some (.list (ts.map atD))) (hl : ts.length ≤ 1000) (hp : α p = some (oD CP [])) (h : Q .none (aset α p (ptD CP (ts, n)))) : f_Pattern_init CP CF CI gX [dref p, c, .bool n] α Q E := by
  unfold f_Pattern_init m_Pattern_init
  refine w_runF rfl ?_
  sizeOf_list_dec
  array_mem_dec
  refine oq_of hc ?_
  array_mem_dec
  refine ⟨by show (0 : Nat) < 900; decide, ?_⟩
  array_mem_dec
  refine ⟨by show (1 : Nat) < 900; decide, ?_⟩
  array_mem_dec
  rw [aset_aset]
  exact h
theorem pl_go {line : List Nat} {st : Int} (hne : line ≠ []) (hl : line.length ≤ 4200) (h : rs CI (ptD CP) st (rdP line) Q E α) : f_parse_line CP CF CI gX [.str (S line), .int st] α Q E := by
  unfold f_parse_line m_parse_line
  refine w_runP rfl ?_
  have e1 : (PySem.Str.ofString "!") = S [33] := by decide
  simp only [e1]
  sizeOf_list_dec
  array_get_dec
  intro c hc
  array_get_dec
  refine bar_of ?_
  sizeOf_list_dec
  array_get_dec
  obtain ⟨x, l, rfl⟩ : ∃ x l, line = x :: l := by
    cases line with
    | nil => exact absurd rfl hne
    | cons x l => exact ⟨x, l, rfl⟩
  refine oq_ix_at (p := []) rfl rfl (by omega) ?_
  array_get_dec
  refine bar_of ?_
  sizeOf_list_dec
  have en : decide (S [x] = S [33]) = decide ((x :: l).head? = some 33) := by
    refine decide_eq_decide.mpr ⟨fun z => ?_, fun z => ?_⟩
    · have := S_inj.mp z
      injection this with this
      rw [this]
      rfl
    · rw [show x = 33 from Option.some.inj z]
  have e33 : (if (x :: l).head? = some 33 then 1 else 0) = if decide ((x :: l).head? = some 33) = true then 1 else 0 := by simp
  unfold rdP at h
  rw [e33] at h
  rw [en]
  generalize decide ((x :: l).head? = some 33) = neg at h ⊢
  generalize (x :: l) = line at *
  -- behind the sign
  refine w_seqI (fun ρ α' => α' = aset α c (.list []) ∧ ρ = [some (.str (S line)), some (.int st), some (dref c), some (.bool neg), some (.int ((if neg = true then 1 else 0 : Nat) : Int)), none, none]) ?_ fun Z hZ => ?_
  rotate_left
  · cases neg with
    | true =>
      array_mem_dec
      refine ⟨.int 1, rfl, ?_⟩
      array_mem_dec
      exact hZ _ _ ⟨rfl, rfl⟩
    | false =>
      array_mem_dec
      refine ⟨.int 0, rfl, ?_⟩
      array_mem_dec
      exact hZ _ _ ⟨rfl, rfl⟩
  rintro _ _ ⟨rfl, rfl⟩
  generalize (if neg = true then 1 else 0) = a0 at h ⊢
  array_get_dec
  refine oq_len_S (by omega) ?_
  by_cases h0 : a0 = line.length
  · rw [if_pos h0] at h
    array_mem_dec
    · rw [arst_new hc, arst_self]
      exact h
    · omega
  rw [if_neg h0] at h
  array_mem_dec
  · omega
  refine bar_of ?_
  array_get_dec
  generalize hr : rdL line.length line a0 [] = r0 at h
  refine w_while (fun m ρ α' => ∃ (ts : List At_) (a n : Nat) (v5 v6 : Option D), m = line.length - a ∧ m ≤ n ∧ rdL n line a ts = r0 ∧ ts.length ≤ 40 ∧ α' = aset α c (.list (ts.map atD)) ∧ ρ = [some (.str (S line)), some (.int st), some (dref c), some (.bool neg), some (.int (a : Int)), v5, v6]) (line.length - a0) ⟨[], a0, line.length, none, none, rfl, by omega, hr, by simp, rfl, rfl⟩ ?_
  clear hr
  rintro m _ _ ⟨ts, a, n, v5, v6, rfl, hn, hr, h40, rfl, rfl⟩ Y hY
  array_get_dec
  refine oq_len_S (by omega) ?_
  array_get_dec
  rotate_left
  · rename_i h1
    have e : r0 = .inr ts := by
      rw [← hr]
      cases n with
      | zero => rfl
      | succ n => rw [rdL, if_neg (by omega)]
    subst e
    refine bar_of ?_
    array_get_dec
    array_mem_dec
    refine w_mk ?_
    array_mem_dec
    refine ⟨rfl, fun p hp => ?_⟩
    rw [adel_aset hc] at hp ⊢
    refine mk_go (ts := ts) rfl (by omega) aset_same ?_
    refine ⟨rfl, fr_of aset_same ?_⟩
    array_mem_dec
    rw [aset_aset, adel_aset hp, arst_self]
    exact h
  rename_i h1
  obtain ⟨n, rfl⟩ : ∃ n', n = n' + 1 := ⟨n - 1, by omega⟩
  rw [rdL, if_pos (by omega)] at hr
  refine bar_of ?_
  sizeOf_list_dec
  array_get_dec
  refine ra_go (p := line.take a) (l := line.drop a) (List.take_append_drop a line).symm (by simp; omega) (fun z => ?_) hl ?_
  · have := congrArg List.length z
    simp at this
    omega
  rw [show (line.take a).length = a by simp; omega]
  cases hz : rdA (line.drop a) a with
  | inl p =>
    rw [hz] at hr
    subst hr
    refine rs_inl ?_
    array_get_dec
    rw [arst_new hc, arst_self]
    exact h
  | inr tb =>
    obtain ⟨t, b⟩ := tb
    have hgt := rdA_gt hz
    rw [hz] at hr
    have hr : (if bad ts t = true then Sum.inl a else rdL n line b (ts ++ [t])) = r0 := hr
    refine rs_inr ?_
    simp only [atiD]
    array_get_dec
    refine bar_of ?_
    sizeOf_list_dec
    refine w_seqI (fun ρ α' => bad ts t = false ∧ α' = aset α c (.list (ts.map atD)) ∧ ρ = [some (.str (S line)), some (.int st), some (dref c), some (.bool neg), some (.int (b : Int)), some (.int (a : Int)), some (atD t)]) ?_ fun Z hZ => ?_
    · rintro _ _ ⟨hb, rfl, rfl⟩
      rw [hb] at hr
      have h40' : ts.length < 40 := by
        unfold bad at hb
        simp at hb
        omega
      array_get_dec
      refine oq_append (by simp; omega) ?_
      array_get_dec
      rw [aset_aset]
      exact hY (line.length - b) _ _ (by omega) ⟨ts ++ [t], b, n, _, _, rfl, by omega, hr, by simp; omega, by simp, rfl⟩
    · have fin : bad ts t = false → Z [some (.str (S line)), some (.int st), some (dref c), some (.bool neg), some (.int (b : Int)), some (.int (a : Int)), some (atD t)] (aset α c (.list (ts.map atD))) := fun hb => hZ _ _ ⟨hb, rfl, rfl⟩
      have err : bad ts t = true → E ⟨CI, [(.str "place", .int (st + (a : Int)))]⟩ (arst α (aset α c (.list (ts.map atD)))) := fun hb => by
        rw [hb] at hr
        have hr : Sum.inl a = r0 := hr
        subst hr
        rw [arst_new hc, arst_self]
        exact h
      clear hr hZ hY
      obtain ⟨cs, r⟩ := t
      simp only [atD] at fin ⊢
      rcases List.eq_nil_or_concat ts with rfl | ⟨ini, u, rfl⟩
      · cases r
        all_goals array_mem_dec
        all_goals first | exact fin rfl | (rename_i h2; simp at h2; done)
      · rw [List.concat_eq_append] at *
        have hu : bad (ini ++ [u]) (cs, r) = (decide ((ini ++ [u]).length = 40) || (r && u.2)) := by
          unfold bad
          rw [List.getLast?_concat]
          obtain ⟨uc, ur⟩ := u
          cases ur <;> rfl
        rw [hu] at fin err
        simp only [List.map_append, List.map_cons, List.map_nil] at fin err ⊢
        obtain ⟨uc, ur⟩ := u
        simp only [atD] at fin err ⊢
        cases r
        · array_mem_dec
          · rename_i h2
            exact err (by simp at h2 ⊢; omega)
          · rename_i h2
            exact fin (by simp at h2 ⊢; omega)
        · array_mem_dec
          · rename_i h2
            exact err (by simp at h2 ⊢; omega)
          · rename_i h2 h3
            refine oq_ix_last ?_
            cases ur
            · array_mem_dec
              exact fin (by simp at h2 ⊢; omega)
            · array_mem_dec
              exact err (by simp)
          · rename_i h2
            simp at h2
end K42
namespace K42
open PySem L2 Hz
local macro_rules | `(tactic| array_mem_dec) => `(tactic| (repeat' (first | (with_reducible first | refine w_kC ?_ | refine w_bop ?_ | refine w_tst ?_ | refine w_val ?_ | refine w_and ?_ | refine w_or ?_ | refine w_not ?_ | refine w_andV ?_ | refine w_orV ?_ | refine w_chain ?_ | refine w_ifK ?_ | refine w_nil ?_ | refine w_cons ?_ | refine w_tup ?_ | refine w_lst ?_ | refine w_call ?_ | refine w_neg ?_ | refine w_b1 ?_ | refine w_bn ?_ | refine w_isi ?_ | refine w_met ?_ | refine w_pnone ?_ | refine w_psome ?_ | refine w_cut ?_ | refine w_yes ?_ | refine w_list ?_ | refine w_tuple ?_ | refine w_str ?_ | refine w_range1 ?_ | refine w_range2 ?_ | refine w_range3 ?_ | refine w_seq ?_ | refine w_next ?_ | refine w_break ?_ | refine w_cont ?_ | refine w_drop ?_ | refine w_ret ?_ | refine w_retN ?_ | refine w_if ?_ | refine w_asg ?_ | refine w_raise ?_ | refine w_fld ?_ | refine w_seta ?_ | refine w_auga ?_ | refine w_seti ?_ | refine w_mut ?_ | refine w_frz ?_ | refine w_new ?_ | refine w_ext ?_ | refine w_for ?_ | refine w_lc ?_ | refine w_tryA ?_ | refine w_try ?_ | refine tb_b ?_ | refine ti_b ?_ | refine ts_b ?_ | refine we_nx ?_ | refine we_rt ?_ | refine we_ex ?_ | refine wn_nx ?_ | refine wn_rt ?_ | refine wn_bk ?_ | refine wn_ct ?_ | refine wn_ex ?_ | refine wl_nx ?_ | refine wl_rt ?_ | refine wl_bk ?_ | refine wl_ct ?_ | refine wl_ex ?_ | refine wx_nx ?_ | refine wx_rt ?_ | refine wx_bk ?_ | refine wx_ct ?_ | refine wx_ex ?_ | refine wh_nx ?_ | refine wh_rt ?_ | refine wh_bk ?_ | refine wh_ct ?_ | refine vw_i ?_ | refine vw_s ?_ | refine vw_b ?_ | refine vw_n ?_ | refine vw_l ?_ | refine vw_t ?_ | refine vw_sc ?_ | refine vw_o ?_ | refine mv_nil ?_ | refine mv_cons ?_ | refine oq_tgNil ?_ | refine oq_tgCons ?_ | refine it2_t ?_ | refine it2_f ?_ | refine it2_not ?_ | refine tlG_l ?_ | refine ttG_t ?_ | refine oq_add_i ?_ | refine oq_sub ?_ | refine oq_lt ?_ | refine oq_le ?_ | refine oq_gt ?_ | refine oq_ge ?_ | refine oq_eq_i ?_ | refine oq_ne_i ?_ | refine oq_eq_s ?_ | refine oq_ne_s ?_ | refine oq_eq_b ?_ | refine oq_ne_b ?_ | refine oq_is ?_ | refine oq_isNot ?_ | refine oq_in_s ?_ | refine oq_notIn_s ?_ | refine oq_len_l ?_ | refine oq_len_t ?_ | refine oq_int ?_ | refine oq_abs ?_ | refine oq_ord ?_ | refine oq_cut_l ?_ | refine oq_cut_t ?_ | refine oq_list_l ?_ | refine oq_list_t ?_ | refine oq_tuple_l ?_ | refine oq_tuple_t ?_ | refine oq_max2 ?_ | refine oq_min2 ?_ | refine oq_some ?_ | refine oq_len_sc ?_ | refine oq_eq_il ?_ | refine oq_ne_il ?_ | refine oq_eq_it ?_ | refine oq_ne_it ?_ | refine oq_lt_il ?_ | refine oq_lt_it ?_ | refine oq_iadd_i ?_ | refine oq_isT ?_ | refine oq_isNotT ?_ | refine pr2_of ?_ | refine w_par ?_ | refine al_go ?_ | refine oq_in_S ?_ | refine oq_notIn_S ?_ | refine oq_inT_S ?_ | refine ix_find ?_) | ((with_reducible apply w_kV); exact rfl) | ((with_reducible apply oq_setv2); (simp only [List.set, wipeA]; exact rfl)) | ((with_reducible apply cal_of); exact rfl; (try simp only [List.cons_append, List.nil_append, List.append_nil])) | ((with_reducible apply oq_tgTup); exact rfl) | ((with_reducible apply oq_ix_lk); exact rfl) | ((with_reducible apply oq_ix_tk); exact rfl) | ((with_reducible apply w_aug); exact rfl) | ((with_reducible apply vw_r); (first | assumption | exact aset_same)) | ((with_reducible apply cel_of); (first | assumption | exact aset_same)) | ((with_reducible apply ceo_of); (first | assumption | exact aset_same)) | ((with_reducible apply tlG_r); (first | assumption | exact aset_same)) | ((with_reducible apply fr_of); (first | assumption | exact aset_same)) | ((with_reducible apply fd_cons); exact trivial) | ((with_reducible apply fd_nil); exact trivial) | ((with_reducible apply oq_isiB (b := true)); exact rfl) | ((with_reducible apply oq_isiB (b := false)); exact rfl) | ((with_reducible apply w_xi); exact rfl; exact decide_eq_true rfl; exact if_pos rfl) | ((with_reducible apply w_xf); exact rfl; exact decide_eq_true rfl; exact rfl) | ((with_reducible apply w_frzS); exact rfl; (first | assumption | exact aset_same); (try simp only [List.set])) | ((with_reducible apply oq_ixN_k); exact rfl; (try simp only [List.set, Int.reduceToNat])) | ((with_reducible apply oq_mod); (first | omega | decide)) | ((with_reducible apply oq_div); (first | omega | decide)) | ((with_reducible apply oq_mul); (first | omega | decide)) | ((with_reducible apply oq_pow); (first | omega | decide)) | ((with_reducible apply oq_shl); (first | omega | decide)) | ((with_reducible apply oq_shr); (first | omega | decide)) | ((with_reducible apply oq_add_s); (first | omega | decide)) | ((with_reducible apply oq_len_s); (first | omega | decide)) | ((with_reducible apply oq_cut_s); (first | omega | decide)) | ((with_reducible apply oq_append); (first | omega | decide)) | ((with_reducible apply oq_insert); (first | omega | decide)) | ((with_reducible apply oq_rep); (first | omega | decide)) | ((with_reducible apply oq_cat); (first | omega | decide)) | ((with_reducible apply rg1_of); (first | omega | decide)) | ((with_reducible apply rg2_of); (first | omega | decide)) | ((with_reducible apply lok); exact rfl) | ((with_reducible refine it2_dec ?_ ?_) <;> intro))))
local macro_rules | `(tactic| array_get_dec) => `(tactic| (repeat' (first | (with_reducible first | refine w_kC ?_ | refine w_bop ?_ | refine w_tst ?_ | refine w_val ?_ | refine w_and ?_ | refine w_or ?_ | refine w_not ?_ | refine w_andV ?_ | refine w_orV ?_ | refine w_chain ?_ | refine w_ifK ?_ | refine w_nil ?_ | refine w_cons ?_ | refine w_tup ?_ | refine w_lst ?_ | refine w_call ?_ | refine w_neg ?_ | refine w_b1 ?_ | refine w_bn ?_ | refine w_isi ?_ | refine w_met ?_ | refine w_pnone ?_ | refine w_psome ?_ | refine w_cut ?_ | refine w_yes ?_ | refine w_list ?_ | refine w_tuple ?_ | refine w_str ?_ | refine w_range1 ?_ | refine w_range2 ?_ | refine w_range3 ?_ | refine w_seqB ?_ | refine w_next ?_ | refine w_break ?_ | refine w_cont ?_ | refine w_drop ?_ | refine w_ret ?_ | refine w_retN ?_ | refine w_if ?_ | refine w_asg ?_ | refine w_raise ?_ | refine w_fld ?_ | refine w_seta ?_ | refine w_auga ?_ | refine w_seti ?_ | refine w_mut ?_ | refine w_frz ?_ | refine w_new ?_ | refine w_ext ?_ | refine w_for ?_ | refine w_lc ?_ | refine w_tryA ?_ | refine w_try ?_ | refine tb_b ?_ | refine ti_b ?_ | refine ts_b ?_ | refine we_nx ?_ | refine we_rt ?_ | refine we_ex ?_ | refine wn_nx ?_ | refine wn_rt ?_ | refine wn_bk ?_ | refine wn_ct ?_ | refine wn_ex ?_ | refine wl_nx ?_ | refine wl_rt ?_ | refine wl_bk ?_ | refine wl_ct ?_ | refine wl_ex ?_ | refine wx_nx ?_ | refine wx_rt ?_ | refine wx_bk ?_ | refine wx_ct ?_ | refine wx_ex ?_ | refine wh_nx ?_ | refine wh_rt ?_ | refine wh_bk ?_ | refine wh_ct ?_ | refine vw_i ?_ | refine vw_s ?_ | refine vw_b ?_ | refine vw_n ?_ | refine vw_l ?_ | refine vw_t ?_ | refine vw_sc ?_ | refine vw_o ?_ | refine mv_nil ?_ | refine mv_cons ?_ | refine oq_tgNil ?_ | refine oq_tgCons ?_ | refine it2_t ?_ | refine it2_f ?_ | refine it2_not ?_ | refine tlG_l ?_ | refine ttG_t ?_ | refine oq_add_i ?_ | refine oq_sub ?_ | refine oq_lt ?_ | refine oq_le ?_ | refine oq_gt ?_ | refine oq_ge ?_ | refine oq_eq_i ?_ | refine oq_ne_i ?_ | refine oq_eq_s ?_ | refine oq_ne_s ?_ | refine oq_eq_b ?_ | refine oq_ne_b ?_ | refine oq_is ?_ | refine oq_isNot ?_ | refine oq_in_s ?_ | refine oq_notIn_s ?_ | refine oq_len_l ?_ | refine oq_len_t ?_ | refine oq_int ?_ | refine oq_abs ?_ | refine oq_ord ?_ | refine oq_cut_l ?_ | refine oq_cut_t ?_ | refine oq_list_l ?_ | refine oq_list_t ?_ | refine oq_tuple_l ?_ | refine oq_tuple_t ?_ | refine oq_max2 ?_ | refine oq_min2 ?_ | refine oq_some ?_ | refine oq_len_sc ?_ | refine oq_eq_il ?_ | refine oq_ne_il ?_ | refine oq_eq_it ?_ | refine oq_ne_it ?_ | refine oq_lt_il ?_ | refine oq_lt_it ?_ | refine oq_iadd_i ?_ | refine oq_isT ?_ | refine oq_isNotT ?_ | refine pr2_of ?_ | refine w_par ?_ | refine al_go ?_ | refine oq_in_S ?_ | refine oq_notIn_S ?_ | refine oq_inT_S ?_ | refine ix_find ?_) | ((with_reducible apply w_kV); exact rfl) | ((with_reducible apply oq_setv2); (simp only [List.set, wipeA]; exact rfl)) | ((with_reducible apply cal_of); exact rfl; (try simp only [List.cons_append, List.nil_append, List.append_nil])) | ((with_reducible apply oq_tgTup); exact rfl) | ((with_reducible apply oq_ix_lk); exact rfl) | ((with_reducible apply oq_ix_tk); exact rfl) | ((with_reducible apply w_aug); exact rfl) | ((with_reducible apply vw_r); (first | assumption | exact aset_same)) | ((with_reducible apply cel_of); (first | assumption | exact aset_same)) | ((with_reducible apply ceo_of); (first | assumption | exact aset_same)) | ((with_reducible apply tlG_r); (first | assumption | exact aset_same)) | ((with_reducible apply fr_of); (first | assumption | exact aset_same)) | ((with_reducible apply fd_cons); exact trivial) | ((with_reducible apply fd_nil); exact trivial) | ((with_reducible apply oq_isiB (b := true)); exact rfl) | ((with_reducible apply oq_isiB (b := false)); exact rfl) | ((with_reducible apply w_xi); exact rfl; exact decide_eq_true rfl; exact if_pos rfl) | ((with_reducible apply w_xf); exact rfl; exact decide_eq_true rfl; exact rfl) | ((with_reducible apply w_frzS); exact rfl; (first | assumption | exact aset_same); (try simp only [List.set])) | ((with_reducible apply oq_ixN_k); exact rfl; (try simp only [List.set, Int.reduceToNat])) | ((with_reducible apply oq_mod); (first | omega | decide)) | ((with_reducible apply oq_div); (first | omega | decide)) | ((with_reducible apply oq_mul); (first | omega | decide)) | ((with_reducible apply oq_pow); (first | omega | decide)) | ((with_reducible apply oq_shl); (first | omega | decide)) | ((with_reducible apply oq_shr); (first | omega | decide)) | ((with_reducible apply oq_add_s); (first | omega | decide)) | ((with_reducible apply oq_len_s); (first | omega | decide)) | ((with_reducible apply oq_cut_s); (first | omega | decide)) | ((with_reducible apply oq_append); (first | omega | decide)) | ((with_reducible apply oq_insert); (first | omega | decide)) | ((with_reducible apply oq_rep); (first | omega | decide)) | ((with_reducible apply oq_cat); (first | omega | decide)) | ((with_reducible apply rg1_of); (first | omega | decide)) | ((with_reducible apply rg2_of); (first | omega | decide)) | ((with_reducible apply lok); exact rfl) | ((with_reducible refine it2_dec ?_ ?_) <;> intro))))
local macro_rules | `(tactic| sizeOf_list_dec) => `(tactic| (try simp only [List.set, Int.reduceToNat, List.map_cons, List.map_nil, Nat.reduceSub, List.reduceReplicate, List.cons_append, List.nil_append, wipeA, aset_aset, List.getElem?_cons_zero, List.getElem?_cons_succ]))
variable {CP CF CI gX : Nat} {α : AH} {Q : QD} {E : QX}
/-- a text by its lines: the place of the line, what was read -/
def rdT : List (List Nat) → Nat → List Pt → Nat ⊕ List Pt
  | [], _, acc => .inr acc
  | l :: ls, a, acc => if l = [] ∨ l.head? = some 35 then rdT ls (a + l.length + 1) acc
    else if acc.length = 20 then .inl a
    else match rdP l with
      | .inl p => .inl (a + p)
      | .inr t => rdT ls (a + l.length + 1) (acc ++ [t])
theorem lin_len (c : Nat) : ∀ (t l : List Nat), l ∈ lin c t → l.length ≤ t.length
  | [], l, h => by
    rw [lin] at h
    rw [List.mem_singleton.mp h]
    exact Nat.le_refl _
  | x :: t, l, h => by
    rw [lin] at h
    split at h
    · rcases List.mem_cons.mp h with rfl | h
      · simp
      · have := lin_len c t l h
        simp only [List.length_cons]
        omega
    · obtain ⟨a, r, e⟩ := lin_ne c t
      rw [e] at h
      rcases List.mem_cons.mp h with rfl | h
      · have := lin_len c t a (by rw [e]; simp)
        simp only [List.length_cons]
        omega
      · have := lin_len c t l (by rw [e]; simp [h])
        simp only [List.length_cons]
        omega
theorem pp_go {text : List Nat} (hl : text.length ≤ 90000) (h4 : ∀ l ∈ lin 10 text, l.length ≤ 4200) (h : rs CI (fun ps => .list (ps.map (ptD CP))) 0 (rdT (lin 10 text) 0 []) Q E α) : f_parse_patterns CP CF CI gX [.str (S text)] α Q E := by
  unfold f_parse_patterns m_parse_patterns
  refine w_runP rfl ?_
  have e1 : (PySem.Str.ofString "\n") = S [10] := by decide
  have e2 : (PySem.Str.ofString "") = S [] := by decide
  have e3 : (PySem.Str.ofString "#") = S [35] := by decide
  simp only [e1, e2, e3]
  sizeOf_list_dec
  array_get_dec
  intro c hc
  array_get_dec
  refine bar_of ?_
  sizeOf_list_dec
  array_get_dec
  refine bar_of ?_
  sizeOf_list_dec
  array_get_dec
  refine oq_split_S (by decide) hl ?_
  array_get_dec
  refine for_inv (fun r ρ α' => ∃ (ls : List (List Nat)) (a : Nat) (acc : List Pt) (v : Option D), r = ls.map (fun l => .str (S l)) ∧ (∀ l ∈ ls, l.length ≤ 4200) ∧ acc.length ≤ 20 ∧ rs CI (fun ps => .list (ps.map (ptD CP))) 0 (rdT ls a acc) Q E α ∧ α' = aset α c (.list (acc.map (ptD CP))) ∧ ρ = [some (.str (S text)), some (dref c), some (.int (a : Int)), v]) ⟨_, 0, [], none, rfl, h4, by simp, h, rfl, rfl⟩ ?_ ?_ ?_
  · exact fun _ _ _ _ => trivial
  · rintro _ _ ⟨ls, a, acc, v, e, _, _, h, rfl, rfl⟩
    cases ls with
    | cons l ls => cases e
    | nil =>
      array_get_dec
      refine bar_of ?_
      array_mem_dec
      rw [adel_aset hc, arst_self]
      exact h
  · rintro d r _ _ ⟨ls, a, acc, v, e, h4, h20, h, rfl, rfl⟩ X hX
    cases ls with
    | nil => cases e
    | cons l ls =>
    injection e with e1 e2
    subst e1 e2
    rw [rdT] at h
    have hl4 := h4 l (by simp)
    have h4' : ∀ x ∈ ls, x.length ≤ 4200 := fun x hx => h4 x (by simp [hx])
    refine oq_setv ?_
    sizeOf_list_dec
    refine w_seqI (fun ρ α' => ∃ acc : List Pt, acc.length ≤ 20 ∧ rs CI (fun ps => .list (ps.map (ptD CP))) 0 (rdT ls (a + l.length + 1) acc) Q E α ∧ α' = aset α c (.list (acc.map (ptD CP))) ∧ ρ = [some (.str (S text)), some (dref c), some (.int (a : Int)), some (.str (S l))]) ?_ fun Z hZ => ?_
    · rintro _ _ ⟨acc, h20, h, rfl, rfl⟩
      array_get_dec
      refine oq_len_S (by omega) ?_
      array_get_dec
      sizeOf_list_dec
      exact hX _ _ ⟨ls, a + l.length + 1, acc, some (.str (S l)), rfl, h4', h20, h, rfl, by rw [show ((a + l.length + 1 : Nat) : Int) = (a : Int) + ((l.length : Int) + 1) by omega]⟩
    · array_get_dec
      · rename_i h1
        have h1 : l = [] := S_inj.mp h1
        rw [if_pos (.inl h1)] at h
        exact hZ _ _ ⟨acc, h20, h, rfl, rfl⟩
      · rename_i h1
        have h1 : l ≠ [] := fun z => h1 (by rw [z])
        obtain ⟨x, l', el⟩ : ∃ x l', l = x :: l' := by
          cases l with
          | nil => exact absurd rfl h1
          | cons x l => exact ⟨x, l, rfl⟩
        refine oq_ix_at (p := []) el rfl (by omega) ?_
        array_get_dec
        · rename_i h2
          have := S_inj.mp h2
          injection this with this
          rw [if_pos (.inr (by rw [el, this]; rfl))] at h
          exact hZ _ _ ⟨acc, h20, h, rfl, rfl⟩
        all_goals (rename_i h2 h3; rw [if_neg (by
            rintro (z | z)
            · exact h1 z
            · rw [el] at z
              exact h2 (by rw [Option.some.inj z]))] at h)
        · rw [if_pos (by simp at h3; omega)] at h
          rw [arst_new hc, arst_self]
          have h : E ⟨CI, [(.str "place", .int (0 + (a : Int)))]⟩ α := h
          rwa [Int.zero_add] at h
        · have h3 : ¬ acc.length = 20 := by simp at h3; omega
          rw [if_neg h3] at h
          refine bar_of ?_
          array_get_dec
          refine pl_go h1 hl4 ?_
          cases hz : rdP l with
          | inl p =>
            rw [hz] at h
            refine rs_inl ?_
            array_get_dec
            rw [arst_new hc, arst_self]
            have h : E ⟨CI, [(.str "place", .int (0 + ((a + p : Nat) : Int)))]⟩ α := h
            rwa [show (0 : Int) + ((a + p : Nat) : Int) = (a : Int) + (p : Int) by omega] at h
          | inr t =>
            rw [hz] at h
            refine rs_inr ?_
            array_get_dec
            refine oq_append (by simp; omega) ?_
            array_get_dec
            rw [aset_aset]
            exact hZ _ _ ⟨acc ++ [t], by simp; omega, h, by simp, rfl⟩
end K42
namespace K42
open PySem L2 Hz
theorem ix_AL {k : Nat} (h : k < 67) : ix (AL.getD k 0) = (k : Int) := AL_find k h
theorem nxt {ks : List (Nat × Nat)} (h : ∀ k ∈ ks, okK k) : (ks.flatMap tokT).head? ≠ some 45 ∧ (ks.flatMap tokT).head? ≠ some 33 ∧ (ks = [] ∨ ks.flatMap tokT ≠ []) := by
  cases ks with
  | nil => exact ⟨by simp, by simp, .inl rfl⟩
  | cons k ks =>
    have hk := h k (by simp)
    have := AL_chr k.1 (by have := hk.2.1; have := hk.2.2; omega)
    rw [List.flatMap_cons]
    unfold tokT
    split
    · exact ⟨fun z => this.2.2.2.2.2.2.2 hk.1 (Option.some.inj z), fun z => this.1 (Option.some.inj z), .inr (by simp)⟩
    · exact ⟨fun z => this.2.2.2.2.2.2.2 hk.1 (Option.some.inj z), fun z => this.1 (Option.some.inj z), .inr (by simp)⟩
theorem rdI_toks : ∀ (ks : List (Nat × Nat)) (a : Nat) (acc : List Nat), (∀ k ∈ ks, okK k) → rdI (ks.flatMap tokT) a acc = .inr (acc ++ ks.flatMap tokC)
  | [], a, acc, _ => by
    show rdI [] a acc = .inr (acc ++ [])
    rw [rdI, List.append_nil]
  | k :: ks, a, acc, h => by
    obtain ⟨h1, h2, h3⟩ := h k (by simp)
    have ht : ∀ j ∈ ks, okK j := fun j hj => h j (by simp [hj])
    obtain ⟨n1, n2, n3⟩ := nxt ht
    rw [List.flatMap_cons, List.flatMap_cons, tokT]
    split
    · rename_i e
      rw [List.singleton_append, rdI_step, ix_AL (by omega), if_neg (by omega), if_neg n1, rdI_toks ks _ _ ht, List.append_assoc]
      have : seg (k.1 : Int) (k.1 : Int) = tokC k := by
        unfold seg tokC
        rw [Int.toNat_natCast, ← e]
      rw [this]
    · rename_i e
      rw [List.cons_append, List.cons_append, List.cons_append, List.nil_append, rdI_step, ix_AL (by omega), if_neg (by omega), if_pos (show (45 :: AL.getD k.2 0 :: ks.flatMap tokT).head? = some 45 from rfl)]
      show (if ix (AL.getD k.2 0) ≤ (k.1 : Int) then _ else _) = _
      rw [ix_AL h3, if_neg (by omega)]
      show rdI (ks.flatMap tokT) (a + 3) (acc ++ seg (k.1 : Int) (k.2 : Int)) = _
      rw [rdI_toks ks _ _ ht, List.append_assoc]
      rfl
theorem tw_app {p r : List Nat} (h : 93 ∉ p) : ((p ++ 93 :: r).takeWhile fun c => !decide (c = 93)) = p := by
  induction p with
  | nil => rfl
  | cons x p ih =>
    simp only [List.mem_cons, not_or] at h
    rw [List.cons_append, List.takeWhile_cons_of_pos (by simpa using Ne.symm h.1), ih h.2]
theorem toks_93 {ks : List (Nat × Nat)} (h : ∀ k ∈ ks, okK k) : 93 ∉ ks.flatMap tokT ∧ 10 ∉ ks.flatMap tokT := by
  induction ks with
  | nil => simp
  | cons k ks ih =>
    have hk := h k (by simp)
    have h1 := AL_chr k.1 (by have := hk.2.1; have := hk.2.2; omega)
    have h2 := AL_chr k.2 hk.2.2
    have := ih fun j hj => h j (by simp [hj])
    rw [List.flatMap_cons, List.mem_append, List.mem_append, not_or, not_or]
    refine ⟨⟨?_, this.1⟩, ⟨?_, this.2⟩⟩
    all_goals unfold tokT
    all_goals split
    · simpa using Ne.symm h1.2.1
    · simpa using ⟨Ne.symm h1.2.1, Ne.symm h2.2.1⟩
    · simpa using Ne.symm h1.2.2.2.2.2.1
    · simpa using ⟨Ne.symm h1.2.2.2.2.2.1, Ne.symm h2.2.2.2.2.2.1⟩
theorem its_93 {b : Bool} {ks : List (Nat × Nat)} (h : ∀ k ∈ ks, okK k) : 93 ∉ itsT b ks ∧ 10 ∉ itsT b ks ∧ (itsT b ks).head? ≠ some 33 := by
  have := toks_93 h
  have := nxt h
  unfold itsT
  cases b <;> simp_all
theorem rdS_wt {neg b : Bool} {ks : List (Nat × Nat)} {rest : List Nat} (a : Nat) (h : ∀ k ∈ ks, okK k) (hc : chs neg (itsC b ks) ≠ []) : rdS ((if neg = true then [33] else []) ++ (itsT b ks ++ 93 :: rest)) a = .inr ((chs neg (itsC b ks), false), a + 2 + (if neg = true then 1 else 0) + (itsT b ks).length) := by
  obtain ⟨h93, _, h33⟩ := its_93 (b := b) h
  have e1 : (((if neg = true then [33] else []) ++ (itsT b ks ++ 93 :: rest)).takeWhile fun c => !decide (c = 93)) = (if neg = true then [33] else []) ++ itsT b ks := by
    rw [← List.append_assoc]
    refine tw_app ?_
    cases neg <;> simp [h93]
  have e2 : ((if neg = true then [33] else []) ++ (itsT b ks ++ 93 :: rest)).head? = some 33 ↔ neg = true := by
    cases neg with
    | true => simp
    | false =>
      simp only [Bool.false_eq_true, if_false, List.nil_append, iff_false]
      cases e : itsT b ks with
      | nil => simp
      | cons x r =>
        rw [e] at h33
        simpa using h33
  have e3 : decide (((if neg = true then [33] else []) ++ (itsT b ks ++ 93 :: rest)).head? = some 33) = neg := by
    rw [decide_eq_decide.mpr e2]
    cases neg <;> rfl
  have e4 : (if ((if neg = true then [33] else []) ++ (itsT b ks ++ 93 :: rest)).head? = some 33 then 1 else 0) = (if neg = true then 1 else 0) := by
    by_cases q : neg = true
    · rw [if_pos (e2.mpr q), if_pos q]
    · rw [if_neg (fun z => q (e2.mp z)), if_neg q]
  have e5 : ((if neg = true then [33] else []) ++ itsT b ks).drop (if neg = true then 1 else 0) = itsT b ks := by
    cases neg <;> simp
  have e6 : ((if neg = true then [33] else ([] : List Nat)) ++ itsT b ks).length = (if neg = true then 1 else 0) + (itsT b ks).length := by
    cases neg <;> simp <;> omega
  have e7 : ∀ a, (if (itsT b ks).head? = some 45 then rdI ((itsT b ks).drop 1) (a + 1) [45] else rdI (itsT b ks) a []) = .inr (itsC b ks) := fun a => by
    unfold itsT itsC
    cases b with
    | true =>
      show (if (45 :: ks.flatMap tokT).head? = some 45 then rdI (ks.flatMap tokT) (a + 1) [45] else rdI (45 :: ks.flatMap tokT) a []) = .inr ([45] ++ ks.flatMap tokC)
      rw [if_pos (show (45 :: ks.flatMap tokT).head? = some 45 from rfl), rdI_toks ks _ _ h]
    | false =>
      simp only [Bool.false_eq_true, if_false, List.nil_append]
      rw [if_neg (nxt h).1, rdI_toks ks _ _ h, List.nil_append]
  unfold rdS
  rw [if_pos (by simp), e1, e3, e4, e5, e6, e7]
  show (if chs neg (itsC b ks) = [] then _ else _) = _
  rw [if_neg hc]
  congr 2
  omega
theorem rdA_wt {x rest : List Nat} {t : At_} (a : Nat) (h : Wt x t) (hr : t.2 = true → rest.head? ≠ some 42) : rdA (x ++ rest) a = .inr (t, a + x.length) := by
  cases h with
  | all => rfl
  | star =>
    show rdA (42 :: rest) a = _
    unfold rdA
    rw [if_pos (show (42 :: rest).head? = some 42 from rfl), if_neg (show ¬ ((42 :: rest).drop 1).head? = some 42 from hr rfl)]
    rfl
  | any => rfl
  | @one c hc =>
    have := AL_mem c hc
    show rdA (c :: rest) a = _
    unfold rdA
    rw [if_neg (show ¬ (c :: rest).head? = some 42 from fun z => this.2.2.1 (Option.some.inj z)), if_neg (show ¬ (c :: rest).head? = some 63 from fun z => this.2.2.2.1 (Option.some.inj z)), if_neg (show ¬ (c :: rest).head? = some 91 from fun z => this.2.2.2.2.1 (Option.some.inj z)), if_pos (show (c :: rest).headD 0 ∈ AL from hc)]
    rfl
  | set neg b ks h1 h2 h3 =>
    have e : [91] ++ (if neg = true then [33] else []) ++ (itsT b ks ++ [93]) ++ rest = 91 :: ((if neg = true then [33] else []) ++ (itsT b ks ++ 93 :: rest)) := by simp
    rw [e]
    unfold rdA
    simp only [List.head?_cons, List.drop_succ_cons, List.drop_zero]
    rw [if_neg (show ¬ some 91 = some 42 by decide), if_neg (show ¬ some 91 = some 63 by decide), if_pos trivial]
    show rdS ((if neg = true then [33] else []) ++ (itsT b ks ++ 93 :: rest)) a = _
    rw [rdS_wt a h1 h2]
    congr 2
    cases neg <;> simp <;> omega
theorem wt_head {x : List Nat} {t : At_} (h : Wt x t) : x ≠ [] ∧ x.head? ≠ some 33 ∧ x.head? ≠ some 35 ∧ (t.2 = false → x.head? ≠ some 42) ∧ 10 ∉ x ∧ x.length ≤ 103 := by
  cases h with
  | all => decide
  | star => decide
  | any => decide
  | @one c hc =>
    have := AL_mem c hc
    refine ⟨by simp, fun z => this.1 (Option.some.inj z), fun z => this.2.2.2.2.2.2 (Option.some.inj z), fun _ z => this.2.2.1 (Option.some.inj z), by simpa using Ne.symm this.2.2.2.2.2.1, by simp⟩
  | set neg b ks h1 h2 h3 =>
    have := (its_93 (b := b) h1).2.1
    refine ⟨by simp, by simp, by simp, by simp, ?_, ?_⟩
    · cases neg <;> simp [this]
    · cases neg <;> simp <;> omega
abbrev Zs := List (List Nat × At_)
theorem rdL_wt {line : List Nat} : ∀ (zs : Zs) (n a : Nat) (ts : List At_), (∀ z ∈ zs, Wt z.1 z.2) → adj (ts ++ zs.map (·.2)) → ts.length + zs.length ≤ 40 → line.drop a = (zs.map (·.1)).flatten → a ≤ line.length → line.length - a ≤ n → rdL n line a ts = .inr (ts ++ zs.map (·.2))
  | [], n, a, ts, _, _, _, e, ha, hn => by
    have : line.length = a := by
      have := congrArg List.length e
      simp at this
      omega
    rw [List.map_nil, List.append_nil]
    cases n with
    | zero => rfl
    | succ n => rw [rdL, if_neg (by omega)]
  | z :: zs, n, a, ts, hz, hj, hl, e, ha, hn => by
    obtain ⟨x, t⟩ := z
    have hx := hz (x, t) (by simp)
    obtain ⟨w1, w2, w3, w4, w5, w6⟩ := wt_head hx
    have hx0 : 0 < x.length := List.length_pos_iff.mpr w1
    have e : line.drop a = x ++ (zs.map (·.1)).flatten := e
    have el : line.length = a + (x.length + (zs.map (·.1)).flatten.length) := by
      have := congrArg List.length e
      rw [List.length_drop, List.length_append] at this
      omega
    obtain ⟨n, rfl⟩ : ∃ m, n = m + 1 := ⟨n - 1, by omega⟩
    have hrest : t.2 = true → ((zs.map (·.1)).flatten).head? ≠ some 42 := fun ht => by
      cases zs with
      | nil => simp
      | cons u zs =>
        obtain ⟨y, u⟩ := u
        have hy := wt_head (hz (y, u) (by simp))
        have hu : u.2 = false := by
          have : ∀ ts : List At_, adj (ts ++ t :: u :: zs.map (·.2)) → ¬ (t.2 = true ∧ u.2 = true) := by
            intro ts
            induction ts with
            | nil => exact fun h => h.1
            | cons s ts ih =>
              intro h
              cases ts with
              | nil => exact ih h.2
              | cons s2 ts => exact ih h.2
          have := this ts hj
          cases q : u.2 with
          | false => rfl
          | true => exact absurd ⟨ht, q⟩ this
        show (y ++ (zs.map (·.1)).flatten).head? ≠ some 42
        cases y with
        | nil => exact absurd rfl hy.1
        | cons c y => exact hy.2.2.2.1 hu
    have hb : bad ts t = false := by
      unfold bad
      rw [decide_eq_false (by simp at hl; omega), Bool.false_or]
      rcases List.eq_nil_or_concat ts with rfl | ⟨ini, u, rfl⟩
      · cases t.2 <;> rfl
      · rw [List.concat_eq_append] at *
        have : ∀ ini : List At_, adj (ini ++ u :: t :: zs.map (·.2)) → ¬ (u.2 = true ∧ t.2 = true) := by
          intro ts
          induction ts with
          | nil => exact fun h => h.1
          | cons s ts ih =>
            intro h
            cases ts with
            | nil => exact ih h.2
            | cons s2 ts => exact ih h.2
        have := this ini (by simpa using hj)
        rw [List.getLast?_concat]
        obtain ⟨tc, tr⟩ := t
        obtain ⟨uc, ur⟩ := u
        cases tr <;> cases ur <;> simp_all
    rw [rdL, if_pos (by omega), e, rdA_wt a hx hrest]
    show (if bad ts t = true then _ else rdL n line (a + x.length) (ts ++ [t])) = _
    rw [hb, if_neg (by simp), rdL_wt zs n (a + x.length) (ts ++ [t]) (fun z h => hz z (by simp [h])) (by simpa using hj) (by simp at hl ⊢; omega) (by rw [← List.drop_drop, e, List.drop_left]) (by omega) (by omega)]
    simp
/-- a line of a pattern -/
def PLn (line : List Nat) (p : Pt) : Prop := ∃ zs : Zs, line = (if p.2 = true then [33] else []) ++ (zs.map (·.1)).flatten ∧ p.1 = zs.map (·.2) ∧ (∀ z ∈ zs, Wt z.1 z.2) ∧ adj p.1 ∧ zs ≠ [] ∧ zs.length ≤ 40
theorem flat_len (k : Nat) : ∀ zs : Zs, (∀ z ∈ zs, Wt z.1 z.2) → ((zs.map (·.1)).flatten).length ≤ 103 * zs.length ∧ 10 ∉ (zs.map (·.1)).flatten
  | [], _ => by simp
  | z :: zs, h => by
    have h1 := wt_head (h z (by simp))
    have h2 := flat_len k zs fun y hy => h y (by simp [hy])
    rw [List.map_cons, List.flatten_cons, List.length_append, List.length_cons, List.mem_append, not_or]
    exact ⟨by omega, h1.2.2.2.2.1, h2.2⟩
theorem pln_ok {line : List Nat} {p : Pt} (h : PLn line p) : rdP line = .inr p ∧ line ≠ [] ∧ line.head? ≠ some 35 ∧ 10 ∉ line ∧ line.length ≤ 4121 := by
  obtain ⟨zs, e, ep, hz, hj, h0, h40⟩ := h
  obtain ⟨ts, neg⟩ := p
  have ep : ts = zs.map (·.2) := ep
  subst ep
  obtain ⟨z, zs', rfl⟩ : ∃ z zs', zs = z :: zs' := by
    cases zs with
    | nil => exact absurd rfl h0
    | cons z zs' => exact ⟨z, zs', rfl⟩
  have hw := wt_head (hz z (by simp))
  have fl := flat_len 0 (z :: zs') hz
  obtain ⟨x, r, ex⟩ : ∃ x r, z.1 = x :: r := by
    cases q : z.1 with
    | nil => exact absurd q hw.1
    | cons x r => exact ⟨x, r, rfl⟩
  have ef : ((z :: zs').map (·.1)).flatten = x :: (r ++ (zs'.map (·.1)).flatten) := by rw [List.map_cons, List.flatten_cons, ex]; rfl
  have hx33 : x ≠ 33 := fun q => hw.2.1 (by rw [ex, q]; rfl)
  have hx35 : x ≠ 35 := fun q => hw.2.2.1 (by rw [ex, q]; rfl)
  have e33 : line.head? = some 33 ↔ neg = true := by
    rw [e, ef]
    cases neg <;> simp [hx33]
  have e1 : (if line.head? = some 33 then 1 else 0) = (if neg = true then 1 else 0) := by cases neg <;> simp [e33]
  have e2 : decide (line.head? = some 33) = neg := by cases neg <;> simp [e33]
  have ell : line.length = (if neg = true then 1 else 0) + ((z :: zs').map (·.1)).flatten.length := by
    rw [e]
    cases neg <;> simp <;> omega
  have h1 : 0 < ((z :: zs').map (·.1)).flatten.length := by rw [ef]; simp
  have l1 : (if neg = true then 1 else 0) ≤ 1 := by cases neg <;> simp
  refine ⟨?_, ?_, ?_, ?_, ?_⟩
  · unfold rdP
    rw [e1, e2, if_neg (by omega), rdL_wt (z :: zs') line.length _ [] hz (by simpa using hj) (by simpa using h40) (by rw [e]; cases neg <;> simp) (by omega) (by omega)]
    rfl
  · intro q
    rw [q] at ell
    simp only [List.length_nil] at ell
    omega
  · rw [e, ef]
    cases neg <;> simp [hx35]
  · rw [e]
    cases neg <;> simp [fl.2]
    all_goals simpa using fl.2
  · simp only [List.length_cons] at h40 fl
    omega
abbrev Rw := List (List Nat × Option Pt)
def okR (r : List Nat × Option Pt) : Prop := match r.2 with
  | none => (r.1 = [] ∨ r.1.head? = some 35) ∧ 10 ∉ r.1 ∧ r.1.length ≤ 4
  | some p => PLn r.1 p
theorem rdT_rows : ∀ (rows : Rw) (a : Nat) (acc : List Pt), (∀ r ∈ rows, okR r) → acc.length + (rows.filterMap (·.2)).length ≤ 20 → rdT (rows.map (·.1)) a acc = .inr (acc ++ rows.filterMap (·.2))
  | [], a, acc, _, _ => by
    show rdT [] a acc = .inr (acc ++ [])
    rw [rdT, List.append_nil]
  | (l, none) :: rows, a, acc, h, hl => by
    have h1 := (h (l, none) (by simp)).1
    rw [List.map_cons, rdT, if_pos h1, rdT_rows rows _ _ (fun r hr => h r (by simp [hr])) (by simpa using hl)]
    rfl
  | (l, some p) :: rows, a, acc, h, hl => by
    obtain ⟨h1, h2, h3, h4⟩ := pln_ok (h (l, some p) (by simp))
    have hl' : acc.length + ((rows.filterMap (·.2)).length + 1) ≤ 20 := by simpa using hl
    rw [List.map_cons, rdT, if_neg (by rintro (q | q); exact h2 q; exact h3 q), if_neg (by omega), h1]
    show rdT (rows.map (·.1)) _ (acc ++ [p]) = _
    rw [rdT_rows rows _ _ (fun r hr => h r (by simp [hr])) (by simp; omega)]
    simp
end K42
namespace K42
open PySem L2 Hz
variable {CP CF CI gX : Nat} {α : AH} {Q : QD} {E : QX}
def okP (p : Pt) : Prop := okT p.1 ∧ p.1 ≠ [] ∧ p.1.length ≤ 40
def wrP (p : Pt) : List Nat := (if p.2 = true then [33] else []) ++ (p.1.map wr).flatten
theorem vw_pt {p : Pt} {R : D → Prop} (h : R (ptD CP p)) : oq (vw α (ptD CP p)) R := ⟨_, rfl, h⟩
theorem fl_a {p : Pt} {R : D → Prop} (h : R (.tuple (p.1.map atD))) : oq (fldD CP "atoms" (ptD CP p)) R := ⟨_, by
  show (if Int.ofNat CP = Int.ofNat CP then _ else _) = _
  rw [if_pos rfl]
  rfl, h⟩
theorem fl_n {p : Pt} {R : D → Prop} (h : R (.bool p.2)) : oq (fldD CP "negated" (ptD CP p)) R := ⟨_, by
  show (if Int.ofNat CP = Int.ofNat CP then _ else _) = _
  rw [if_pos rfl]
  rfl, h⟩
local macro_rules | `(tactic| array_mem_dec) => `(tactic| (repeat' (first | (with_reducible first | refine w_kC ?_ | refine w_bop ?_ | refine w_tst ?_ | refine w_val ?_ | refine w_and ?_ | refine w_or ?_ | refine w_not ?_ | refine w_andV ?_ | refine w_orV ?_ | refine w_chain ?_ | refine w_ifK ?_ | refine w_nil ?_ | refine w_cons ?_ | refine w_tup ?_ | refine w_lst ?_ | refine w_call ?_ | refine w_neg ?_ | refine w_b1 ?_ | refine w_bn ?_ | refine w_isi ?_ | refine w_met ?_ | refine w_pnone ?_ | refine w_psome ?_ | refine w_cut ?_ | refine w_yes ?_ | refine w_list ?_ | refine w_tuple ?_ | refine w_str ?_ | refine w_range1 ?_ | refine w_range2 ?_ | refine w_range3 ?_ | refine w_seq ?_ | refine w_next ?_ | refine w_break ?_ | refine w_cont ?_ | refine w_drop ?_ | refine w_ret ?_ | refine w_retN ?_ | refine w_if ?_ | refine w_asg ?_ | refine w_raise ?_ | refine w_fld ?_ | refine w_seta ?_ | refine w_auga ?_ | refine w_seti ?_ | refine w_mut ?_ | refine w_frz ?_ | refine w_new ?_ | refine w_ext ?_ | refine w_for ?_ | refine w_lc ?_ | refine w_tryA ?_ | refine w_try ?_ | refine tb_b ?_ | refine ti_b ?_ | refine ts_b ?_ | refine we_nx ?_ | refine we_rt ?_ | refine we_ex ?_ | refine wn_nx ?_ | refine wn_rt ?_ | refine wn_bk ?_ | refine wn_ct ?_ | refine wn_ex ?_ | refine wl_nx ?_ | refine wl_rt ?_ | refine wl_bk ?_ | refine wl_ct ?_ | refine wl_ex ?_ | refine wx_nx ?_ | refine wx_rt ?_ | refine wx_bk ?_ | refine wx_ct ?_ | refine wx_ex ?_ | refine wh_nx ?_ | refine wh_rt ?_ | refine wh_bk ?_ | refine wh_ct ?_ | refine vw_i ?_ | refine vw_s ?_ | refine vw_b ?_ | refine vw_n ?_ | refine vw_l ?_ | refine vw_t ?_ | refine vw_sc ?_ | refine vw_o ?_ | refine mv_nil ?_ | refine mv_cons ?_ | refine oq_tgNil ?_ | refine oq_tgCons ?_ | refine it2_t ?_ | refine it2_f ?_ | refine it2_not ?_ | refine tlG_l ?_ | refine ttG_t ?_ | refine oq_add_i ?_ | refine oq_sub ?_ | refine oq_lt ?_ | refine oq_le ?_ | refine oq_gt ?_ | refine oq_ge ?_ | refine oq_eq_i ?_ | refine oq_ne_i ?_ | refine oq_eq_s ?_ | refine oq_ne_s ?_ | refine oq_eq_b ?_ | refine oq_ne_b ?_ | refine oq_is ?_ | refine oq_isNot ?_ | refine oq_in_s ?_ | refine oq_notIn_s ?_ | refine oq_len_l ?_ | refine oq_len_t ?_ | refine oq_int ?_ | refine oq_abs ?_ | refine oq_ord ?_ | refine oq_cut_l ?_ | refine oq_cut_t ?_ | refine oq_list_l ?_ | refine oq_list_t ?_ | refine oq_tuple_l ?_ | refine oq_tuple_t ?_ | refine oq_max2 ?_ | refine oq_min2 ?_ | refine oq_some ?_ | refine oq_len_sc ?_ | refine oq_eq_il ?_ | refine oq_ne_il ?_ | refine oq_eq_it ?_ | refine oq_ne_it ?_ | refine oq_lt_il ?_ | refine oq_lt_it ?_ | refine oq_iadd_i ?_ | refine oq_isT ?_ | refine oq_isNotT ?_ | refine pr2_of ?_ | refine w_par ?_ | refine al_go ?_ | refine oq_in_S ?_ | refine oq_notIn_S ?_ | refine oq_inT_S ?_ | refine vw_pt ?_ | refine fl_a ?_ | refine fl_n ?_) | ((with_reducible apply w_kV); exact rfl) | ((with_reducible apply oq_setv2); (simp only [List.set, wipeA]; exact rfl)) | ((with_reducible apply cal_of); exact rfl; (try simp only [List.cons_append, List.nil_append, List.append_nil])) | ((with_reducible apply oq_tgTup); exact rfl) | ((with_reducible apply oq_ix_lk); exact rfl) | ((with_reducible apply oq_ix_tk); exact rfl) | ((with_reducible apply w_aug); exact rfl) | ((with_reducible apply vw_r); (first | assumption | exact aset_same)) | ((with_reducible apply cel_of); (first | assumption | exact aset_same)) | ((with_reducible apply ceo_of); (first | assumption | exact aset_same)) | ((with_reducible apply tlG_r); (first | assumption | exact aset_same)) | ((with_reducible apply fr_of); (first | assumption | exact aset_same)) | ((with_reducible apply fd_cons); exact trivial) | ((with_reducible apply fd_nil); exact trivial) | ((with_reducible apply oq_isiB (b := true)); exact rfl) | ((with_reducible apply oq_isiB (b := false)); exact rfl) | ((with_reducible apply w_xi); exact rfl; exact decide_eq_true rfl; exact if_pos rfl) | ((with_reducible apply w_xf); exact rfl; exact decide_eq_true rfl; exact rfl) | ((with_reducible apply w_frzS); exact rfl; (first | assumption | exact aset_same); (try simp only [List.set])) | ((with_reducible apply oq_ixN_k); exact rfl; (try simp only [List.set, Int.reduceToNat])) | ((with_reducible apply oq_mod); (first | omega | decide)) | ((with_reducible apply oq_div); (first | omega | decide)) | ((with_reducible apply oq_mul); (first | omega | decide)) | ((with_reducible apply oq_pow); (first | omega | decide)) | ((with_reducible apply oq_shl); (first | omega | decide)) | ((with_reducible apply oq_shr); (first | omega | decide)) | ((with_reducible apply oq_add_s); (first | omega | decide)) | ((with_reducible apply oq_len_s); (first | omega | decide)) | ((with_reducible apply oq_cut_s); (first | omega | decide)) | ((with_reducible apply oq_append); (first | omega | decide)) | ((with_reducible apply oq_insert); (first | omega | decide)) | ((with_reducible apply oq_rep); (first | omega | decide)) | ((with_reducible apply oq_cat); (first | omega | decide)) | ((with_reducible apply rg1_of); (first | omega | decide)) | ((with_reducible apply rg2_of); (first | omega | decide)) | ((with_reducible apply lok); exact rfl) | ((with_reducible refine it2_dec ?_ ?_) <;> intro))))
local macro_rules | `(tactic| array_get_dec) => `(tactic| (repeat' (first | (with_reducible first | refine w_kC ?_ | refine w_bop ?_ | refine w_tst ?_ | refine w_val ?_ | refine w_and ?_ | refine w_or ?_ | refine w_not ?_ | refine w_andV ?_ | refine w_orV ?_ | refine w_chain ?_ | refine w_ifK ?_ | refine w_nil ?_ | refine w_cons ?_ | refine w_tup ?_ | refine w_lst ?_ | refine w_call ?_ | refine w_neg ?_ | refine w_b1 ?_ | refine w_bn ?_ | refine w_isi ?_ | refine w_met ?_ | refine w_pnone ?_ | refine w_psome ?_ | refine w_cut ?_ | refine w_yes ?_ | refine w_list ?_ | refine w_tuple ?_ | refine w_str ?_ | refine w_range1 ?_ | refine w_range2 ?_ | refine w_range3 ?_ | refine w_seqB ?_ | refine w_next ?_ | refine w_break ?_ | refine w_cont ?_ | refine w_drop ?_ | refine w_ret ?_ | refine w_retN ?_ | refine w_if ?_ | refine w_asg ?_ | refine w_raise ?_ | refine w_fld ?_ | refine w_seta ?_ | refine w_auga ?_ | refine w_seti ?_ | refine w_mut ?_ | refine w_frz ?_ | refine w_new ?_ | refine w_ext ?_ | refine w_for ?_ | refine w_lc ?_ | refine w_tryA ?_ | refine w_try ?_ | refine tb_b ?_ | refine ti_b ?_ | refine ts_b ?_ | refine we_nx ?_ | refine we_rt ?_ | refine we_ex ?_ | refine wn_nx ?_ | refine wn_rt ?_ | refine wn_bk ?_ | refine wn_ct ?_ | refine wn_ex ?_ | refine wl_nx ?_ | refine wl_rt ?_ | refine wl_bk ?_ | refine wl_ct ?_ | refine wl_ex ?_ | refine wx_nx ?_ | refine wx_rt ?_ | refine wx_bk ?_ | refine wx_ct ?_ | refine wx_ex ?_ | refine wh_nx ?_ | refine wh_rt ?_ | refine wh_bk ?_ | refine wh_ct ?_ | refine vw_i ?_ | refine vw_s ?_ | refine vw_b ?_ | refine vw_n ?_ | refine vw_l ?_ | refine vw_t ?_ | refine vw_sc ?_ | refine vw_o ?_ | refine mv_nil ?_ | refine mv_cons ?_ | refine oq_tgNil ?_ | refine oq_tgCons ?_ | refine it2_t ?_ | refine it2_f ?_ | refine it2_not ?_ | refine tlG_l ?_ | refine ttG_t ?_ | refine oq_add_i ?_ | refine oq_sub ?_ | refine oq_lt ?_ | refine oq_le ?_ | refine oq_gt ?_ | refine oq_ge ?_ | refine oq_eq_i ?_ | refine oq_ne_i ?_ | refine oq_eq_s ?_ | refine oq_ne_s ?_ | refine oq_eq_b ?_ | refine oq_ne_b ?_ | refine oq_is ?_ | refine oq_isNot ?_ | refine oq_in_s ?_ | refine oq_notIn_s ?_ | refine oq_len_l ?_ | refine oq_len_t ?_ | refine oq_int ?_ | refine oq_abs ?_ | refine oq_ord ?_ | refine oq_cut_l ?_ | refine oq_cut_t ?_ | refine oq_list_l ?_ | refine oq_list_t ?_ | refine oq_tuple_l ?_ | refine oq_tuple_t ?_ | refine oq_max2 ?_ | refine oq_min2 ?_ | refine oq_some ?_ | refine oq_len_sc ?_ | refine oq_eq_il ?_ | refine oq_ne_il ?_ | refine oq_eq_it ?_ | refine oq_ne_it ?_ | refine oq_lt_il ?_ | refine oq_lt_it ?_ | refine oq_iadd_i ?_ | refine oq_isT ?_ | refine oq_isNotT ?_ | refine pr2_of ?_ | refine w_par ?_ | refine al_go ?_ | refine oq_in_S ?_ | refine oq_notIn_S ?_ | refine oq_inT_S ?_ | refine vw_pt ?_ | refine fl_a ?_ | refine fl_n ?_) | ((with_reducible apply w_kV); exact rfl) | ((with_reducible apply oq_setv2); (simp only [List.set, wipeA]; exact rfl)) | ((with_reducible apply cal_of); exact rfl; (try simp only [List.cons_append, List.nil_append, List.append_nil])) | ((with_reducible apply oq_tgTup); exact rfl) | ((with_reducible apply oq_ix_lk); exact rfl) | ((with_reducible apply oq_ix_tk); exact rfl) | ((with_reducible apply w_aug); exact rfl) | ((with_reducible apply vw_r); (first | assumption | exact aset_same)) | ((with_reducible apply cel_of); (first | assumption | exact aset_same)) | ((with_reducible apply ceo_of); (first | assumption | exact aset_same)) | ((with_reducible apply tlG_r); (first | assumption | exact aset_same)) | ((with_reducible apply fr_of); (first | assumption | exact aset_same)) | ((with_reducible apply fd_cons); exact trivial) | ((with_reducible apply fd_nil); exact trivial) | ((with_reducible apply oq_isiB (b := true)); exact rfl) | ((with_reducible apply oq_isiB (b := false)); exact rfl) | ((with_reducible apply w_xi); exact rfl; exact decide_eq_true rfl; exact if_pos rfl) | ((with_reducible apply w_xf); exact rfl; exact decide_eq_true rfl; exact rfl) | ((with_reducible apply w_frzS); exact rfl; (first | assumption | exact aset_same); (try simp only [List.set])) | ((with_reducible apply oq_ixN_k); exact rfl; (try simp only [List.set, Int.reduceToNat])) | ((with_reducible apply oq_mod); (first | omega | decide)) | ((with_reducible apply oq_div); (first | omega | decide)) | ((with_reducible apply oq_mul); (first | omega | decide)) | ((with_reducible apply oq_pow); (first | omega | decide)) | ((with_reducible apply oq_shl); (first | omega | decide)) | ((with_reducible apply oq_shr); (first | omega | decide)) | ((with_reducible apply oq_add_s); (first | omega | decide)) | ((with_reducible apply oq_len_s); (first | omega | decide)) | ((with_reducible apply oq_cut_s); (first | omega | decide)) | ((with_reducible apply oq_append); (first | omega | decide)) | ((with_reducible apply oq_insert); (first | omega | decide)) | ((with_reducible apply oq_rep); (first | omega | decide)) | ((with_reducible apply oq_cat); (first | omega | decide)) | ((with_reducible apply rg1_of); (first | omega | decide)) | ((with_reducible apply rg2_of); (first | omega | decide)) | ((with_reducible apply lok); exact rfl) | ((with_reducible refine it2_dec ?_ ?_) <;> intro))))
local macro_rules | `(tactic| sizeOf_list_dec) => `(tactic| (try simp only [List.set, Int.reduceToNat, List.map_cons, List.map_nil, Nat.reduceSub, List.reduceReplicate, List.cons_append, List.nil_append, wipeA, aset_aset, List.getElem?_cons_zero, List.getElem?_cons_succ]))
theorem wr_len {t : At_} (h : okA t.1) (hr : t.2 = true → t.1 = PL ∨ t.1 = AL) : (wr t).length ≤ 103 := (wt_head (wr_wt h hr)).2.2.2.2.2
theorem fa_go {t : At_} (h : okA t.1) (hr : t.2 = true → t.1 = PL ∨ t.1 = AL) (q : Q (.str (S (wr t))) α) : f_format_atom CP CF CI gX [atD t] α Q E := by
  refine (?_ : pu _ _ _) α Q E q
  unfold f_format_atom m_format_atom
  refine pu_P rfl fun α R X hR => ?_
  obtain ⟨cs, r⟩ := t
  have h : okA cs := h
  have hl : cs.length ≤ 67 := h.2.length_le
  have il := items_len cs
  have io := items_len (oth cs)
  have e0 : (PySem.Str.ofString "") = S [] := by decide
  have e1 : (PySem.Str.ofString "/") = S [47] := by decide
  have e2 : (PySem.Str.ofString "*") = S [42] := by decide
  have e3 : (PySem.Str.ofString "**") = S [42, 42] := by decide
  have e4 : (PySem.Str.ofString "?") = S [63] := by decide
  have e5 : (PySem.Str.ofString "[") = S [91] := by decide
  have e6 : (PySem.Str.ofString "]") = S [93] := by decide
  have e7 : (PySem.Str.ofString "[!") = S [91, 33] := by decide
  simp only [e0, e1, e2, e3, e4, e5, e6, e7, atD, AL_eq, PL_eq]
  sizeOf_list_dec
  cases r with
  | true =>
    rcases hr rfl with z | z
    · have z : cs = PL := z
      subst z
      array_mem_dec
      · rename_i h1
        exact absurd (S_inj.mp h1) (by decide)
      · exact hR
    · have z : cs = AL := z
      subst z
      array_mem_dec
      · exact hR
      · rename_i h1
        exact absurd rfl h1
  | false =>
    rw [wrF] at hR
    array_get_dec
    refine bar_of ?_
    sizeOf_list_dec
    array_get_dec
    refine bar_of ?_
    sizeOf_list_dec
    by_cases hp : oth cs = [] ∧ 47 ∉ cs
    · have z : cs = PL := pl_of h.2 hp.2 hp.1
      rw [if_pos hp] at hR
      subst z
      array_get_dec
      · exact hR
      · rename_i h1
        exact absurd rfl h1
    rw [if_neg hp] at hR
    have hp' : ¬ cs = PL := fun z => hp (by subst z; decide)
    array_get_dec
    · rename_i h1
      exact absurd (S_inj.mp h1) hp'
    refine bar_of ?_
    array_get_dec
    refine oq_len_S (by omega) ?_
    array_get_dec
    · rename_i h1
      rw [if_pos (by omega)] at hR
      exact hR
    rename_i h1
    rw [if_neg (by omega)] at hR
    refine bar_of ?_
    have fin1 : (47 ∈ cs ∨ cs.length < 34) → R (.str (S ([91] ++ items cs ++ [93]))) α := fun z => by rwa [if_pos z] at hR
    have fin2 : ¬ (47 ∈ cs ∨ cs.length < 34) → R (.str (S ([91, 33] ++ items (oth cs) ++ [93]))) α := fun z => by rwa [if_neg z] at hR
    array_mem_dec
    · rename_i h2
      refine ro_go h.2 ?_
      array_mem_dec
      refine oq_add_S (by simp; omega) ?_
      array_mem_dec
      refine oq_add_S (by simp; omega) ?_
      array_mem_dec
      exact fin1 (.inl h2)
    · rename_i h2
      refine oq_len_S (by omega) ?_
      array_mem_dec
      · rename_i h3
        refine ro_go h.2 ?_
        array_mem_dec
        refine oq_add_S (by simp; omega) ?_
        array_mem_dec
        refine oq_add_S (by simp; omega) ?_
        array_mem_dec
        exact fin1 (.inr (by omega))
      · rename_i h3
        rw [S_chars]
        refine lc_fm PL (fun k => .str (S [k])) (fun k => !decide (k ∈ cs)) (fun k => .str (S [k])) rfl (by decide) trivial (fun k hk => ?_) ?_
        · refine ⟨_, rfl, fun R hR => ?_, fun _ R hR => ?_⟩
          · sizeOf_list_dec
            array_mem_dec
            exact hR
          · sizeOf_list_dec
            array_mem_dec
            exact hR
        have eo : (PL.filter fun k => !decide (k ∈ cs)) = oth cs := by
          unfold PL oth
          rw [List.filter_filter]
        rw [eo]
        array_mem_dec
        refine oq_join_S (Nat.le_trans (List.filter_sublist (l := AL)).length_le (by decide)) ?_
        array_mem_dec
        refine ro_go List.filter_sublist ?_
        array_mem_dec
        refine oq_add_S (by simp; omega) ?_
        array_mem_dec
        refine oq_add_S (by simp; omega) ?_
        array_mem_dec
        exact fin2 (by rintro (q | q); exact h2 q; omega)
theorem glue_nil : ∀ ls : List (List Nat), glue [] ls = ls.flatten
  | [] => rfl
  | [a] => by simp [glue]
  | a :: b :: r => by
    show a ++ [] ++ glue [] (b :: r) = _
    rw [glue_nil (b :: r)]
    simp
theorem sum_le (k : Nat) : ∀ ls : List (List Nat), (∀ l ∈ ls, l.length ≤ k) → (ls.map (·.length)).sum ≤ k * ls.length
  | [], _ => by simp
  | a :: r, h => by
    have h1 := h a (by simp)
    have h2 := sum_le k r fun l hl => h l (by simp [hl])
    simp only [List.map_cons, List.sum_cons, List.length_cons, Nat.mul_add, Nat.mul_one]
    omega
theorem oq_cat_S {ls : List (List Nat)} {R : D → Prop} (k : Nat) (h : ∀ l ∈ ls, l.length ≤ k) (hk : k * ls.length ≤ 100000) (q : R (.str (S ls.flatten))) : oq (dJoin (S []) [.list (ls.map fun l => .str (S l))]) R := by
  refine oq_glue ?_ (by rw [glue_nil]; exact q)
  have := sum_le k ls h
  simp only [List.length_nil, Nat.mul_zero, Nat.add_zero]
  omega
theorem okP_el {p : Pt} (h : okP p) : ∀ t ∈ p.1, okA t.1 ∧ (t.2 = true → t.1 = PL ∨ t.1 = AL) := h.1.1
theorem flat_le {k : Nat} {ls : List (List Nat)} (h : ∀ l ∈ ls, l.length ≤ k) : ls.flatten.length ≤ k * ls.length := by
  rw [List.length_flatten]
  exact sum_le k ls h
theorem wrs_len {p : Pt} (h : okP p) : (p.1.map wr).flatten.length ≤ 4120 := by
  have := flat_le (k := 103) (ls := p.1.map wr) fun l hl => by
    obtain ⟨t, ht, rfl⟩ := List.mem_map.mp hl
    exact wr_len (okP_el h t ht).1 (okP_el h t ht).2
  rw [List.length_map] at this
  have := h.2.2
  omega
theorem wrP_len {p : Pt} (h : okP p) : (wrP p).length ≤ 4121 := by
  have := wrs_len h
  unfold wrP
  rw [List.length_append]
  split <;> simp only [List.length_cons, List.length_nil] <;> omega
theorem fp_go {p : Pt} (h : okP p) (q : Q (.str (S (wrP p))) α) : f_format_pattern CP CF CI gX [ptD CP p] α Q E := by
  refine (?_ : pu _ _ _) α Q E q
  unfold f_format_pattern m_format_pattern
  refine pu_P rfl fun α R X hR => ?_
  have e0 : (PySem.Str.ofString "") = S [] := by decide
  have e1 : (PySem.Str.ofString "!") = S [33] := by decide
  simp only [e0, e1]
  sizeOf_list_dec
  have wl := wrs_len h
  have hl := h.2.2
  array_mem_dec
  refine lc_map p.1 atD (fun t => .str (S (wr t))) rfl (by omega) trivial (fun t ht => ?_) ?_
  · refine ⟨_, rfl, fun R hR => ?_⟩
    sizeOf_list_dec
    array_mem_dec
    exact fa_go (okP_el h t ht).1 (okP_el h t ht).2 hR
  rw [show (p.1.map fun t => PyData.str (S (wr t))) = (p.1.map wr).map fun l => .str (S l) by rw [List.map_map]; rfl]
  array_mem_dec
  refine oq_cat_S 103 (fun l hl => ?_) (by rw [List.length_map]; omega) ?_
  · obtain ⟨t, ht, rfl⟩ := List.mem_map.mp hl
    exact wr_len (okP_el h t ht).1 (okP_el h t ht).2
  array_mem_dec
  unfold wrP at hR
  obtain ⟨ts, n⟩ := p
  have wl : ((ts.map wr).flatten).length ≤ 4120 := wl
  cases n with
  | true =>
    array_mem_dec
    refine oq_add_S (by simp only [List.length_cons, List.length_nil]; omega) ?_
    array_mem_dec
    exact hR
  | false =>
    array_mem_dec
    exact hR
theorem fps_go {ps : List Pt} (h : ∀ p ∈ ps, okP p) (hl : ps.length ≤ 20) (q : Q (.str (S (glue [10] (ps.map wrP)))) α) : f_format_patterns CP CF CI gX [.list (ps.map (ptD CP))] α Q E := by
  refine (?_ : pu _ _ _) α Q E q
  unfold f_format_patterns m_format_patterns
  refine pu_P rfl fun α R X hR => ?_
  have e1 : (PySem.Str.ofString "\n") = S [10] := by decide
  simp only [e1]
  sizeOf_list_dec
  array_mem_dec
  refine lc_map ps (ptD CP) (fun p => .str (S (wrP p))) rfl (by omega) trivial (fun p hp => ?_) ?_
  · refine ⟨_, rfl, fun R hR => ?_⟩
    sizeOf_list_dec
    array_mem_dec
    exact fp_go (h p hp) hR
  rw [show (ps.map fun p => PyData.str (S (wrP p))) = (ps.map wrP).map fun l => .str (S l) by rw [List.map_map]; rfl]
  array_mem_dec
  refine oq_glue ?_ ?_
  · have := sum_le 4121 (ps.map wrP) fun l hl => by
      obtain ⟨p, hp, rfl⟩ := List.mem_map.mp hl
      exact wrP_len (h p hp)
    simp only [List.length_map, List.length_cons, List.length_nil] at this ⊢
    omega
  array_mem_dec
  exact hR
end K42
namespace K42
open PySem L2 Hz
variable {CP CF CI gX : Nat} {α : AH} {Q : QD} {E : QX}
theorem fst_pln {p : Pt} (h : okP p) : PLn (wrP p) p := by
  refine ⟨p.1.map fun t => (wr t, t), ?_, ?_, ?_, h.1.2, ?_, ?_⟩
  · rw [List.map_map]
    rfl
  · rw [List.map_map]
    exact (List.map_id' p.1).symm
  · intro z hz
    obtain ⟨t, ht, rfl⟩ := List.mem_map.mp hz
    exact wr_wt (okP_el h t ht).1 (okP_el h t ht).2
  · intro e
    exact h.2.1 (List.map_eq_nil_iff.mp e)
  · rw [List.length_map]
    exact h.2.2
def rwD (p : Pt) : D := .tuple [.list (p.1.map atD), .bool p.2]
theorem isi_pt {p : Pt} {R : Bool → Prop} (h : R true) : oq (isiCB CP (ptD CP p)) R := by
  refine ⟨true, ?_, h⟩
  have : isOb CP (ptD CP p) = true := decide_eq_true rfl
  show (if isOb CP (ptD CP p) = true then some true else none) = _
  rw [if_pos this]
theorem w_iC {C : Nat} {ρ : En} {ma : ME} (h : ma ρ α (fun d α1 => oq (vw α1 d) fun d' => oq (isiCB C d') fun b => Q (.bool b) α1) E) : isiCK C ma ρ α Q E := h
local macro_rules | `(tactic| array_mem_dec) => `(tactic| (repeat' (first | (with_reducible first | refine w_kC ?_ | refine w_bop ?_ | refine w_tst ?_ | refine w_val ?_ | refine w_and ?_ | refine w_or ?_ | refine w_not ?_ | refine w_andV ?_ | refine w_orV ?_ | refine w_chain ?_ | refine w_ifK ?_ | refine w_nil ?_ | refine w_cons ?_ | refine w_tup ?_ | refine w_lst ?_ | refine w_call ?_ | refine w_neg ?_ | refine w_b1 ?_ | refine w_bn ?_ | refine w_isi ?_ | refine w_met ?_ | refine w_pnone ?_ | refine w_psome ?_ | refine w_cut ?_ | refine w_yes ?_ | refine w_list ?_ | refine w_tuple ?_ | refine w_str ?_ | refine w_range1 ?_ | refine w_range2 ?_ | refine w_range3 ?_ | refine w_seq ?_ | refine w_next ?_ | refine w_break ?_ | refine w_cont ?_ | refine w_drop ?_ | refine w_ret ?_ | refine w_retN ?_ | refine w_if ?_ | refine w_asg ?_ | refine w_raise ?_ | refine w_fld ?_ | refine w_seta ?_ | refine w_auga ?_ | refine w_seti ?_ | refine w_mut ?_ | refine w_frz ?_ | refine w_new ?_ | refine w_ext ?_ | refine w_for ?_ | refine w_lc ?_ | refine w_tryA ?_ | refine w_try ?_ | refine tb_b ?_ | refine ti_b ?_ | refine ts_b ?_ | refine we_nx ?_ | refine we_rt ?_ | refine we_ex ?_ | refine wn_nx ?_ | refine wn_rt ?_ | refine wn_bk ?_ | refine wn_ct ?_ | refine wn_ex ?_ | refine wl_nx ?_ | refine wl_rt ?_ | refine wl_bk ?_ | refine wl_ct ?_ | refine wl_ex ?_ | refine wx_nx ?_ | refine wx_rt ?_ | refine wx_bk ?_ | refine wx_ct ?_ | refine wx_ex ?_ | refine wh_nx ?_ | refine wh_rt ?_ | refine wh_bk ?_ | refine wh_ct ?_ | refine vw_i ?_ | refine vw_s ?_ | refine vw_b ?_ | refine vw_n ?_ | refine vw_l ?_ | refine vw_t ?_ | refine vw_sc ?_ | refine vw_o ?_ | refine mv_nil ?_ | refine mv_cons ?_ | refine oq_tgNil ?_ | refine oq_tgCons ?_ | refine it2_t ?_ | refine it2_f ?_ | refine it2_not ?_ | refine tlG_l ?_ | refine ttG_t ?_ | refine oq_add_i ?_ | refine oq_sub ?_ | refine oq_lt ?_ | refine oq_le ?_ | refine oq_gt ?_ | refine oq_ge ?_ | refine oq_eq_i ?_ | refine oq_ne_i ?_ | refine oq_eq_s ?_ | refine oq_ne_s ?_ | refine oq_eq_b ?_ | refine oq_ne_b ?_ | refine oq_is ?_ | refine oq_isNot ?_ | refine oq_in_s ?_ | refine oq_notIn_s ?_ | refine oq_len_l ?_ | refine oq_len_t ?_ | refine oq_int ?_ | refine oq_abs ?_ | refine oq_ord ?_ | refine oq_cut_l ?_ | refine oq_cut_t ?_ | refine oq_list_l ?_ | refine oq_list_t ?_ | refine oq_tuple_l ?_ | refine oq_tuple_t ?_ | refine oq_max2 ?_ | refine oq_min2 ?_ | refine oq_some ?_ | refine oq_len_sc ?_ | refine oq_eq_il ?_ | refine oq_ne_il ?_ | refine oq_eq_it ?_ | refine oq_ne_it ?_ | refine oq_lt_il ?_ | refine oq_lt_it ?_ | refine oq_iadd_i ?_ | refine oq_isT ?_ | refine oq_isNotT ?_ | refine pr2_of ?_ | refine w_par ?_ | refine al_go ?_ | refine oq_in_S ?_ | refine oq_notIn_S ?_ | refine oq_inT_S ?_ | refine vw_pt ?_ | refine fl_a ?_ | refine fl_n ?_ | refine isi_pt ?_ | refine w_iC ?_) | ((with_reducible apply w_kV); exact rfl) | ((with_reducible apply oq_setv2); (simp only [List.set, wipeA]; exact rfl)) | ((with_reducible apply cal_of); exact rfl; (try simp only [List.cons_append, List.nil_append, List.append_nil])) | ((with_reducible apply oq_tgTup); exact rfl) | ((with_reducible apply oq_ix_lk); exact rfl) | ((with_reducible apply oq_ix_tk); exact rfl) | ((with_reducible apply w_aug); exact rfl) | ((with_reducible apply vw_r); (first | assumption | exact aset_same)) | ((with_reducible apply cel_of); (first | assumption | exact aset_same)) | ((with_reducible apply ceo_of); (first | assumption | exact aset_same)) | ((with_reducible apply tlG_r); (first | assumption | exact aset_same)) | ((with_reducible apply fr_of); (first | assumption | exact aset_same)) | ((with_reducible apply fd_cons); exact trivial) | ((with_reducible apply fd_nil); exact trivial) | ((with_reducible apply oq_isiB (b := true)); exact rfl) | ((with_reducible apply oq_isiB (b := false)); exact rfl) | ((with_reducible apply w_xi); exact rfl; exact decide_eq_true rfl; exact if_pos rfl) | ((with_reducible apply w_xf); exact rfl; exact decide_eq_true rfl; exact rfl) | ((with_reducible apply w_frzS); exact rfl; (first | assumption | exact aset_same); (try simp only [List.set])) | ((with_reducible apply oq_ixN_k); exact rfl; (try simp only [List.set, Int.reduceToNat])) | ((with_reducible apply oq_mod); (first | omega | decide)) | ((with_reducible apply oq_div); (first | omega | decide)) | ((with_reducible apply oq_mul); (first | omega | decide)) | ((with_reducible apply oq_pow); (first | omega | decide)) | ((with_reducible apply oq_shl); (first | omega | decide)) | ((with_reducible apply oq_shr); (first | omega | decide)) | ((with_reducible apply oq_add_s); (first | omega | decide)) | ((with_reducible apply oq_len_s); (first | omega | decide)) | ((with_reducible apply oq_cut_s); (first | omega | decide)) | ((with_reducible apply oq_append); (first | omega | decide)) | ((with_reducible apply oq_insert); (first | omega | decide)) | ((with_reducible apply oq_rep); (first | omega | decide)) | ((with_reducible apply oq_cat); (first | omega | decide)) | ((with_reducible apply rg1_of); (first | omega | decide)) | ((with_reducible apply rg2_of); (first | omega | decide)) | ((with_reducible apply lok); exact rfl) | ((with_reducible refine it2_dec ?_ ?_) <;> intro))))
local macro_rules | `(tactic| array_get_dec) => `(tactic| (repeat' (first | (with_reducible first | refine w_kC ?_ | refine w_bop ?_ | refine w_tst ?_ | refine w_val ?_ | refine w_and ?_ | refine w_or ?_ | refine w_not ?_ | refine w_andV ?_ | refine w_orV ?_ | refine w_chain ?_ | refine w_ifK ?_ | refine w_nil ?_ | refine w_cons ?_ | refine w_tup ?_ | refine w_lst ?_ | refine w_call ?_ | refine w_neg ?_ | refine w_b1 ?_ | refine w_bn ?_ | refine w_isi ?_ | refine w_met ?_ | refine w_pnone ?_ | refine w_psome ?_ | refine w_cut ?_ | refine w_yes ?_ | refine w_list ?_ | refine w_tuple ?_ | refine w_str ?_ | refine w_range1 ?_ | refine w_range2 ?_ | refine w_range3 ?_ | refine w_seqB ?_ | refine w_next ?_ | refine w_break ?_ | refine w_cont ?_ | refine w_drop ?_ | refine w_ret ?_ | refine w_retN ?_ | refine w_if ?_ | refine w_asg ?_ | refine w_raise ?_ | refine w_fld ?_ | refine w_seta ?_ | refine w_auga ?_ | refine w_seti ?_ | refine w_mut ?_ | refine w_frz ?_ | refine w_new ?_ | refine w_ext ?_ | refine w_for ?_ | refine w_lc ?_ | refine w_tryA ?_ | refine w_try ?_ | refine tb_b ?_ | refine ti_b ?_ | refine ts_b ?_ | refine we_nx ?_ | refine we_rt ?_ | refine we_ex ?_ | refine wn_nx ?_ | refine wn_rt ?_ | refine wn_bk ?_ | refine wn_ct ?_ | refine wn_ex ?_ | refine wl_nx ?_ | refine wl_rt ?_ | refine wl_bk ?_ | refine wl_ct ?_ | refine wl_ex ?_ | refine wx_nx ?_ | refine wx_rt ?_ | refine wx_bk ?_ | refine wx_ct ?_ | refine wx_ex ?_ | refine wh_nx ?_ | refine wh_rt ?_ | refine wh_bk ?_ | refine wh_ct ?_ | refine vw_i ?_ | refine vw_s ?_ | refine vw_b ?_ | refine vw_n ?_ | refine vw_l ?_ | refine vw_t ?_ | refine vw_sc ?_ | refine vw_o ?_ | refine mv_nil ?_ | refine mv_cons ?_ | refine oq_tgNil ?_ | refine oq_tgCons ?_ | refine it2_t ?_ | refine it2_f ?_ | refine it2_not ?_ | refine tlG_l ?_ | refine ttG_t ?_ | refine oq_add_i ?_ | refine oq_sub ?_ | refine oq_lt ?_ | refine oq_le ?_ | refine oq_gt ?_ | refine oq_ge ?_ | refine oq_eq_i ?_ | refine oq_ne_i ?_ | refine oq_eq_s ?_ | refine oq_ne_s ?_ | refine oq_eq_b ?_ | refine oq_ne_b ?_ | refine oq_is ?_ | refine oq_isNot ?_ | refine oq_in_s ?_ | refine oq_notIn_s ?_ | refine oq_len_l ?_ | refine oq_len_t ?_ | refine oq_int ?_ | refine oq_abs ?_ | refine oq_ord ?_ | refine oq_cut_l ?_ | refine oq_cut_t ?_ | refine oq_list_l ?_ | refine oq_list_t ?_ | refine oq_tuple_l ?_ | refine oq_tuple_t ?_ | refine oq_max2 ?_ | refine oq_min2 ?_ | refine oq_some ?_ | refine oq_len_sc ?_ | refine oq_eq_il ?_ | refine oq_ne_il ?_ | refine oq_eq_it ?_ | refine oq_ne_it ?_ | refine oq_lt_il ?_ | refine oq_lt_it ?_ | refine oq_iadd_i ?_ | refine oq_isT ?_ | refine oq_isNotT ?_ | refine pr2_of ?_ | refine w_par ?_ | refine al_go ?_ | refine oq_in_S ?_ | refine oq_notIn_S ?_ | refine oq_inT_S ?_ | refine vw_pt ?_ | refine fl_a ?_ | refine fl_n ?_ | refine isi_pt ?_ | refine w_iC ?_) | ((with_reducible apply w_kV); exact rfl) | ((with_reducible apply oq_setv2); (simp only [List.set, wipeA]; exact rfl)) | ((with_reducible apply cal_of); exact rfl; (try simp only [List.cons_append, List.nil_append, List.append_nil])) | ((with_reducible apply oq_tgTup); exact rfl) | ((with_reducible apply oq_ix_lk); exact rfl) | ((with_reducible apply oq_ix_tk); exact rfl) | ((with_reducible apply w_aug); exact rfl) | ((with_reducible apply vw_r); (first | assumption | exact aset_same)) | ((with_reducible apply cel_of); (first | assumption | exact aset_same)) | ((with_reducible apply ceo_of); (first | assumption | exact aset_same)) | ((with_reducible apply tlG_r); (first | assumption | exact aset_same)) | ((with_reducible apply fr_of); (first | assumption | exact aset_same)) | ((with_reducible apply fd_cons); exact trivial) | ((with_reducible apply fd_nil); exact trivial) | ((with_reducible apply oq_isiB (b := true)); exact rfl) | ((with_reducible apply oq_isiB (b := false)); exact rfl) | ((with_reducible apply w_xi); exact rfl; exact decide_eq_true rfl; exact if_pos rfl) | ((with_reducible apply w_xf); exact rfl; exact decide_eq_true rfl; exact rfl) | ((with_reducible apply w_frzS); exact rfl; (first | assumption | exact aset_same); (try simp only [List.set])) | ((with_reducible apply oq_ixN_k); exact rfl; (try simp only [List.set, Int.reduceToNat])) | ((with_reducible apply oq_mod); (first | omega | decide)) | ((with_reducible apply oq_div); (first | omega | decide)) | ((with_reducible apply oq_mul); (first | omega | decide)) | ((with_reducible apply oq_pow); (first | omega | decide)) | ((with_reducible apply oq_shl); (first | omega | decide)) | ((with_reducible apply oq_shr); (first | omega | decide)) | ((with_reducible apply oq_add_s); (first | omega | decide)) | ((with_reducible apply oq_len_s); (first | omega | decide)) | ((with_reducible apply oq_cut_s); (first | omega | decide)) | ((with_reducible apply oq_append); (first | omega | decide)) | ((with_reducible apply oq_insert); (first | omega | decide)) | ((with_reducible apply oq_rep); (first | omega | decide)) | ((with_reducible apply oq_cat); (first | omega | decide)) | ((with_reducible apply rg1_of); (first | omega | decide)) | ((with_reducible apply rg2_of); (first | omega | decide)) | ((with_reducible apply lok); exact rfl) | ((with_reducible refine it2_dec ?_ ?_) <;> intro))))
local macro_rules | `(tactic| sizeOf_list_dec) => `(tactic| (try simp only [List.set, Int.reduceToNat, List.map_cons, List.map_nil, Nat.reduceSub, List.reduceReplicate, List.cons_append, List.nil_append, wipeA, aset_aset, List.getElem?_cons_zero, List.getElem?_cons_succ]))
theorem lt_go {b : Bool} (h : Q (.bool true) α) : f_law_told CP CF CI gX [.bool b, .bool b] α Q E := by
  refine (?_ : pu _ _ _) α Q E h
  unfold f_law_told m_law_told
  refine pu_P rfl fun α R X hR => ?_
  sizeOf_list_dec
  array_mem_dec
  simpa using hR
theorem strOk_AL {cs : List Nat} (h : cs.Sublist AL) : PyData.strOk (S cs) = true := by
  show (cs.toArray).all (fun c => decide (c < 0x110000)) = true
  rw [List.all_toArray, List.all_eq_true]
  intro c hc
  have : ∀ c ∈ AL, c < 127 := by decide
  have := this c (h.subset hc)
  exact decide_eq_true (by omega)
theorem okD_at {ts : List At_} (h : ∀ t ∈ ts, okA t.1) : okD 60 (.tuple (ts.map atD)) = true := by
  show (ts.map atD).all (okD 59) = true
  rw [List.all_eq_true]
  intro d hd
  obtain ⟨t, ht, rfl⟩ := List.mem_map.mp hd
  show ([PyData.str (S t.1), PyData.bool t.2]).all (okD 58) = true
  simp only [List.all_cons, List.all_nil, okD, Bool.and_true]
  exact strOk_AL (h t ht).2
theorem ne_at {ts : List At_} (h : ∀ t ∈ ts, okA t.1) {R : D → Prop} (q : R (.bool false)) : oq (dNe (.tuple (ts.map atD)) (.tuple (ts.map atD))) R := by
  refine oq_ne_d (b := true) ?_ q
  show (if okD 60 (.tuple (ts.map atD)) = true ∧ okD 60 (.tuple (ts.map atD)) = true then _ else _) = _
  rw [if_pos ⟨okD_at h, okD_at h⟩, PySem.SeqAt.eqv_refl _ (okD_ok 60 _ (okD_at h)).1]
theorem ls_go {ps : List Pt} (h : ∀ p ∈ ps, okP p) (hl : ps.length ≤ 20) (q : Q (.bool true) α) : f_law_same CP CF CI gX [.list (ps.map (ptD CP)), .list (ps.map rwD)] α Q E := by
  refine (?_ : pu _ _ _) α Q E q
  unfold f_law_same m_law_same
  refine pu_P rfl fun α R X hR => ?_
  sizeOf_list_dec
  array_get_dec
  rotate_left
  · rename_i h1
    simp at h1
  refine bar_of ?_
  array_get_dec
  refine rg1_of (by simp; omega) ?_
  refine for_nums (fun k ρ α' => α = α' ∧ ∃ v w : Option D, ρ = [some (.list (ps.map (ptD CP))), some (.list (ps.map rwD)), v, w]) ⟨rfl, none, none, rfl⟩ ?_ ?_
  · rintro _ _ ⟨rfl, v, w, rfl⟩
    array_get_dec
    refine bar_of ?_
    array_mem_dec
    exact hR
  · rintro k hk _ _ ⟨rfl, v, w, rfl⟩ Y hY
    have hk : k < ps.length := by simpa using hk
    have hp := h ps[k] (List.getElem_mem hk)
    refine oq_setv ?_
    sizeOf_list_dec
    array_get_dec
    refine oq_ix_mf (k := k) (by omega) hk ?_
    array_get_dec
    refine bar_of ?_
    sizeOf_list_dec
    array_mem_dec
    refine oq_ix_mf (k := k) (by omega) hk ?_
    simp only [rwD]
    array_mem_dec
    refine ne_at (fun t ht => (hp.1.1 t ht).1) ?_
    array_mem_dec
    refine oq_ix_mf (k := k) (by omega) hk ?_
    simp only [rwD]
    array_mem_dec
    refine lt_go ?_
    array_mem_dec
    exact hY _ _ ⟨rfl, _, _, rfl⟩
end K42
namespace K42
open PySem L2 Hz
local macro_rules | `(tactic| array_mem_dec) => `(tactic| (repeat' (first | (with_reducible first | refine w_kC ?_ | refine w_bop ?_ | refine w_tst ?_ | refine w_val ?_ | refine w_and ?_ | refine w_or ?_ | refine w_not ?_ | refine w_andV ?_ | refine w_orV ?_ | refine w_chain ?_ | refine w_ifK ?_ | refine w_nil ?_ | refine w_cons ?_ | refine w_tup ?_ | refine w_lst ?_ | refine w_call ?_ | refine w_neg ?_ | refine w_b1 ?_ | refine w_bn ?_ | refine w_isi ?_ | refine w_met ?_ | refine w_pnone ?_ | refine w_psome ?_ | refine w_cut ?_ | refine w_yes ?_ | refine w_list ?_ | refine w_tuple ?_ | refine w_str ?_ | refine w_range1 ?_ | refine w_range2 ?_ | refine w_range3 ?_ | refine w_seq ?_ | refine w_next ?_ | refine w_break ?_ | refine w_cont ?_ | refine w_drop ?_ | refine w_ret ?_ | refine w_retN ?_ | refine w_if ?_ | refine w_asg ?_ | refine w_raise ?_ | refine w_fld ?_ | refine w_seta ?_ | refine w_auga ?_ | refine w_seti ?_ | refine w_mut ?_ | refine w_frz ?_ | refine w_new ?_ | refine w_ext ?_ | refine w_for ?_ | refine w_lc ?_ | refine w_tryA ?_ | refine w_try ?_ | refine tb_b ?_ | refine ti_b ?_ | refine ts_b ?_ | refine we_nx ?_ | refine we_rt ?_ | refine we_ex ?_ | refine wn_nx ?_ | refine wn_rt ?_ | refine wn_bk ?_ | refine wn_ct ?_ | refine wn_ex ?_ | refine wl_nx ?_ | refine wl_rt ?_ | refine wl_bk ?_ | refine wl_ct ?_ | refine wl_ex ?_ | refine wx_nx ?_ | refine wx_rt ?_ | refine wx_bk ?_ | refine wx_ct ?_ | refine wx_ex ?_ | refine wh_nx ?_ | refine wh_rt ?_ | refine wh_bk ?_ | refine wh_ct ?_ | refine vw_i ?_ | refine vw_s ?_ | refine vw_b ?_ | refine vw_n ?_ | refine vw_l ?_ | refine vw_t ?_ | refine vw_sc ?_ | refine vw_o ?_ | refine mv_nil ?_ | refine mv_cons ?_ | refine oq_tgNil ?_ | refine oq_tgCons ?_ | refine it2_t ?_ | refine it2_f ?_ | refine it2_not ?_ | refine tlG_l ?_ | refine ttG_t ?_ | refine oq_add_i ?_ | refine oq_sub ?_ | refine oq_lt ?_ | refine oq_le ?_ | refine oq_gt ?_ | refine oq_ge ?_ | refine oq_eq_i ?_ | refine oq_ne_i ?_ | refine oq_eq_s ?_ | refine oq_ne_s ?_ | refine oq_eq_b ?_ | refine oq_ne_b ?_ | refine oq_is ?_ | refine oq_isNot ?_ | refine oq_in_s ?_ | refine oq_notIn_s ?_ | refine oq_len_l ?_ | refine oq_len_t ?_ | refine oq_int ?_ | refine oq_abs ?_ | refine oq_ord ?_ | refine oq_cut_l ?_ | refine oq_cut_t ?_ | refine oq_list_l ?_ | refine oq_list_t ?_ | refine oq_tuple_l ?_ | refine oq_tuple_t ?_ | refine oq_max2 ?_ | refine oq_min2 ?_ | refine oq_some ?_ | refine oq_len_sc ?_ | refine oq_eq_il ?_ | refine oq_ne_il ?_ | refine oq_eq_it ?_ | refine oq_ne_it ?_ | refine oq_lt_il ?_ | refine oq_lt_it ?_ | refine oq_iadd_i ?_ | refine oq_isT ?_ | refine oq_isNotT ?_ | refine pr2_of ?_ | refine w_par ?_ | refine al_go ?_ | refine oq_in_S ?_ | refine oq_notIn_S ?_ | refine oq_inT_S ?_ | refine vw_pt ?_ | refine fl_a ?_ | refine fl_n ?_ | refine isi_pt ?_ | refine w_iC ?_) | ((with_reducible apply w_kV); exact rfl) | ((with_reducible apply oq_setv2); (simp only [List.set, wipeA]; exact rfl)) | ((with_reducible apply cal_of); exact rfl; (try simp only [List.cons_append, List.nil_append, List.append_nil])) | ((with_reducible apply oq_tgTup); exact rfl) | ((with_reducible apply oq_ix_lk); exact rfl) | ((with_reducible apply oq_ix_tk); exact rfl) | ((with_reducible apply w_aug); exact rfl) | ((with_reducible apply vw_r); (first | assumption | exact aset_same)) | ((with_reducible apply cel_of); (first | assumption | exact aset_same)) | ((with_reducible apply ceo_of); (first | assumption | exact aset_same)) | ((with_reducible apply tlG_r); (first | assumption | exact aset_same)) | ((with_reducible apply fr_of); (first | assumption | exact aset_same)) | ((with_reducible apply fd_cons); exact trivial) | ((with_reducible apply fd_nil); exact trivial) | ((with_reducible apply oq_isiB (b := true)); exact rfl) | ((with_reducible apply oq_isiB (b := false)); exact rfl) | ((with_reducible apply w_xi); exact rfl; exact decide_eq_true rfl; exact if_pos rfl) | ((with_reducible apply w_xf); exact rfl; exact decide_eq_true rfl; exact rfl) | ((with_reducible apply w_frzS); exact rfl; (first | assumption | exact aset_same); (try simp only [List.set])) | ((with_reducible apply oq_ixN_k); exact rfl; (try simp only [List.set, Int.reduceToNat])) | ((with_reducible apply oq_mod); (first | omega | decide)) | ((with_reducible apply oq_div); (first | omega | decide)) | ((with_reducible apply oq_mul); (first | omega | decide)) | ((with_reducible apply oq_pow); (first | omega | decide)) | ((with_reducible apply oq_shl); (first | omega | decide)) | ((with_reducible apply oq_shr); (first | omega | decide)) | ((with_reducible apply oq_add_s); (first | omega | decide)) | ((with_reducible apply oq_len_s); (first | omega | decide)) | ((with_reducible apply oq_cut_s); (first | omega | decide)) | ((with_reducible apply oq_append); (first | omega | decide)) | ((with_reducible apply oq_insert); (first | omega | decide)) | ((with_reducible apply oq_rep); (first | omega | decide)) | ((with_reducible apply oq_cat); (first | omega | decide)) | ((with_reducible apply rg1_of); (first | omega | decide)) | ((with_reducible apply rg2_of); (first | omega | decide)) | ((with_reducible apply lok); exact rfl) | ((with_reducible refine it2_dec ?_ ?_) <;> intro))))
local macro_rules | `(tactic| array_get_dec) => `(tactic| (repeat' (first | (with_reducible first | refine w_kC ?_ | refine w_bop ?_ | refine w_tst ?_ | refine w_val ?_ | refine w_and ?_ | refine w_or ?_ | refine w_not ?_ | refine w_andV ?_ | refine w_orV ?_ | refine w_chain ?_ | refine w_ifK ?_ | refine w_nil ?_ | refine w_cons ?_ | refine w_tup ?_ | refine w_lst ?_ | refine w_call ?_ | refine w_neg ?_ | refine w_b1 ?_ | refine w_bn ?_ | refine w_isi ?_ | refine w_met ?_ | refine w_pnone ?_ | refine w_psome ?_ | refine w_cut ?_ | refine w_yes ?_ | refine w_list ?_ | refine w_tuple ?_ | refine w_str ?_ | refine w_range1 ?_ | refine w_range2 ?_ | refine w_range3 ?_ | refine w_seqB ?_ | refine w_next ?_ | refine w_break ?_ | refine w_cont ?_ | refine w_drop ?_ | refine w_ret ?_ | refine w_retN ?_ | refine w_if ?_ | refine w_asg ?_ | refine w_raise ?_ | refine w_fld ?_ | refine w_seta ?_ | refine w_auga ?_ | refine w_seti ?_ | refine w_mut ?_ | refine w_frz ?_ | refine w_new ?_ | refine w_ext ?_ | refine w_for ?_ | refine w_lc ?_ | refine w_tryA ?_ | refine w_try ?_ | refine tb_b ?_ | refine ti_b ?_ | refine ts_b ?_ | refine we_nx ?_ | refine we_rt ?_ | refine we_ex ?_ | refine wn_nx ?_ | refine wn_rt ?_ | refine wn_bk ?_ | refine wn_ct ?_ | refine wn_ex ?_ | refine wl_nx ?_ | refine wl_rt ?_ | refine wl_bk ?_ | refine wl_ct ?_ | refine wl_ex ?_ | refine wx_nx ?_ | refine wx_rt ?_ | refine wx_bk ?_ | refine wx_ct ?_ | refine wx_ex ?_ | refine wh_nx ?_ | refine wh_rt ?_ | refine wh_bk ?_ | refine wh_ct ?_ | refine vw_i ?_ | refine vw_s ?_ | refine vw_b ?_ | refine vw_n ?_ | refine vw_l ?_ | refine vw_t ?_ | refine vw_sc ?_ | refine vw_o ?_ | refine mv_nil ?_ | refine mv_cons ?_ | refine oq_tgNil ?_ | refine oq_tgCons ?_ | refine it2_t ?_ | refine it2_f ?_ | refine it2_not ?_ | refine tlG_l ?_ | refine ttG_t ?_ | refine oq_add_i ?_ | refine oq_sub ?_ | refine oq_lt ?_ | refine oq_le ?_ | refine oq_gt ?_ | refine oq_ge ?_ | refine oq_eq_i ?_ | refine oq_ne_i ?_ | refine oq_eq_s ?_ | refine oq_ne_s ?_ | refine oq_eq_b ?_ | refine oq_ne_b ?_ | refine oq_is ?_ | refine oq_isNot ?_ | refine oq_in_s ?_ | refine oq_notIn_s ?_ | refine oq_len_l ?_ | refine oq_len_t ?_ | refine oq_int ?_ | refine oq_abs ?_ | refine oq_ord ?_ | refine oq_cut_l ?_ | refine oq_cut_t ?_ | refine oq_list_l ?_ | refine oq_list_t ?_ | refine oq_tuple_l ?_ | refine oq_tuple_t ?_ | refine oq_max2 ?_ | refine oq_min2 ?_ | refine oq_some ?_ | refine oq_len_sc ?_ | refine oq_eq_il ?_ | refine oq_ne_il ?_ | refine oq_eq_it ?_ | refine oq_ne_it ?_ | refine oq_lt_il ?_ | refine oq_lt_it ?_ | refine oq_iadd_i ?_ | refine oq_isT ?_ | refine oq_isNotT ?_ | refine pr2_of ?_ | refine w_par ?_ | refine al_go ?_ | refine oq_in_S ?_ | refine oq_notIn_S ?_ | refine oq_inT_S ?_ | refine vw_pt ?_ | refine fl_a ?_ | refine fl_n ?_ | refine isi_pt ?_ | refine w_iC ?_) | ((with_reducible apply w_kV); exact rfl) | ((with_reducible apply oq_setv2); (simp only [List.set, wipeA]; exact rfl)) | ((with_reducible apply cal_of); exact rfl; (try simp only [List.cons_append, List.nil_append, List.append_nil])) | ((with_reducible apply oq_tgTup); exact rfl) | ((with_reducible apply oq_ix_lk); exact rfl) | ((with_reducible apply oq_ix_tk); exact rfl) | ((with_reducible apply w_aug); exact rfl) | ((with_reducible apply vw_r); (first | assumption | exact aset_same)) | ((with_reducible apply cel_of); (first | assumption | exact aset_same)) | ((with_reducible apply ceo_of); (first | assumption | exact aset_same)) | ((with_reducible apply tlG_r); (first | assumption | exact aset_same)) | ((with_reducible apply fr_of); (first | assumption | exact aset_same)) | ((with_reducible apply fd_cons); exact trivial) | ((with_reducible apply fd_nil); exact trivial) | ((with_reducible apply oq_isiB (b := true)); exact rfl) | ((with_reducible apply oq_isiB (b := false)); exact rfl) | ((with_reducible apply w_xi); exact rfl; exact decide_eq_true rfl; exact if_pos rfl) | ((with_reducible apply w_xf); exact rfl; exact decide_eq_true rfl; exact rfl) | ((with_reducible apply w_frzS); exact rfl; (first | assumption | exact aset_same); (try simp only [List.set])) | ((with_reducible apply oq_ixN_k); exact rfl; (try simp only [List.set, Int.reduceToNat])) | ((with_reducible apply oq_mod); (first | omega | decide)) | ((with_reducible apply oq_div); (first | omega | decide)) | ((with_reducible apply oq_mul); (first | omega | decide)) | ((with_reducible apply oq_pow); (first | omega | decide)) | ((with_reducible apply oq_shl); (first | omega | decide)) | ((with_reducible apply oq_shr); (first | omega | decide)) | ((with_reducible apply oq_add_s); (first | omega | decide)) | ((with_reducible apply oq_len_s); (first | omega | decide)) | ((with_reducible apply oq_cut_s); (first | omega | decide)) | ((with_reducible apply oq_append); (first | omega | decide)) | ((with_reducible apply oq_insert); (first | omega | decide)) | ((with_reducible apply oq_rep); (first | omega | decide)) | ((with_reducible apply oq_cat); (first | omega | decide)) | ((with_reducible apply rg1_of); (first | omega | decide)) | ((with_reducible apply rg2_of); (first | omega | decide)) | ((with_reducible apply lok); exact rfl) | ((with_reducible refine it2_dec ?_ ?_) <;> intro))))
local macro_rules | `(tactic| sizeOf_list_dec) => `(tactic| (try simp only [List.set, Int.reduceToNat, List.map_cons, List.map_nil, Nat.reduceSub, List.reduceReplicate, List.cons_append, List.nil_append, wipeA, aset_aset, List.getElem?_cons_zero, List.getElem?_cons_succ]))
variable {CP CF CI gX : Nat} {α : AH} {Q : QD} {E : QX}
def rws (M : Nat) (ps : List Pt) (rows : Rw) : Prop := (∀ r ∈ rows, okR r) ∧ rows.filterMap (·.2) = ps ∧ (rows.map fun r => r.1.length).sum ≤ ps.length * (103 * M + 1) + 4 * rows.length
theorem pln_len {M : Nat} {l : List Nat} {p : Pt} (h : PLn l p) (hm : p.1.length ≤ M) : l.length ≤ 103 * M + 1 := by
  obtain ⟨zs, e, ep, hz, hj, h0, h40⟩ := h
  have := flat_len 0 zs hz
  have e2 : zs.length = p.1.length := by rw [ep, List.length_map]
  rw [e, List.length_append]
  split <;> simp only [List.length_cons, List.length_nil] <;> omega
theorem rws_nil (M : Nat) : rws M [] [] := by
  refine ⟨?_, rfl, by simp⟩
  intro r h
  cases h
theorem glue_len (ls : List (List Nat)) : (glue [10] ls).length ≤ (ls.map (·.length)).sum + ls.length := by
  induction ls with
  | nil => simp [glue]
  | cons a r ih =>
    cases r with
    | nil => simp [glue]
    | cons b r =>
      have e : glue [10] (a :: b :: r) = a ++ [10] ++ glue [10] (b :: r) := rfl
      rw [e, List.length_append, List.length_append, List.map_cons, List.sum_cons, List.length_cons]
      simp only [List.length_cons, List.length_nil] at ih ⊢
      omega
theorem rws_lin {M : Nat} {ps : List Pt} {rows : Rw} (h : rws M ps rows) (hl : ps.length ≤ 20) : rdT (lin 10 (glue [10] (rows.map (·.1)))) 0 [] = .inr ps ∧ ∀ l ∈ lin 10 (glue [10] (rows.map (·.1))), l.length ≤ 4200 := by
  obtain ⟨h1, h2, h3⟩ := h
  cases rows with
  | nil =>
    have : ps = [] := h2.symm
    subst this
    exact ⟨rfl, fun l hl => by rw [List.mem_singleton.mp hl]; simp⟩
  | cons r rows =>
    have e : lin 10 (glue [10] ((r :: rows).map (·.1))) = (r :: rows).map (·.1) := by
      refine lin_glue (by simp) fun a ha => ?_
      obtain ⟨x, hx, rfl⟩ := List.mem_map.mp ha
      obtain ⟨l, o⟩ := x
      have := h1 _ hx
      cases o with
      | none => exact this.2.1
      | some p => exact (pln_ok this).2.2.2.1
    rw [e]
    refine ⟨?_, fun l hl => ?_⟩
    · rw [rdT_rows (r :: rows) 0 [] h1 (by rw [h2]; simpa using hl), h2]
      rfl
    · obtain ⟨x, hx, rfl⟩ := List.mem_map.mp hl
      obtain ⟨l, o⟩ := x
      have := h1 _ hx
      cases o with
      | none =>
        have : l.length ≤ 4 := this.2.2
        show l.length ≤ 4200
        omega
      | some p =>
        have : l.length ≤ 4121 := (pln_ok this).2.2.2.2
        show l.length ≤ 4200
        omega
theorem pr_go {M : Nat} {ps : List Pt} {rows : Rw} (h : rws M ps rows) (hl : ps.length ≤ 20) (hm : ps.length * (103 * M + 1) ≤ 85000) (hr : rows.length ≤ 100) (q : Q (.list (ps.map (ptD CP))) α) : f_parse_patterns CP CF CI gX [.str (S (glue [10] (rows.map (·.1))))] α Q E := by
  obtain ⟨e1, e2⟩ := rws_lin h hl
  have gl := glue_len (rows.map (·.1))
  have := h.2.2
  rw [List.map_map, List.length_map] at gl
  have e3 : (rows.map ((fun x => x.length) ∘ fun x => x.1)).sum = (rows.map fun r => r.1.length).sum := rfl
  refine pp_go (by omega) e2 ?_
  rw [e1]
  exact q
end K42
namespace K42
open PySem L2 Hz
def gdA (t : At_) : Prop := okA t.1 ∧ (t.2 = true → t.1 = PL ∨ t.1 = AL)
theorem chs_sub (b : Bool) (l : List Nat) : (chs b l).Sublist AL := by
  unfold chs
  split
  · exact List.filter_sublist.trans List.filter_sublist
  · exact List.filter_sublist
theorem rdS_ok {l : List Nat} {a b : Nat} {t : At_} (h : rdS l a = .inr (t, b)) : gdA t := by
  unfold rdS at h
  split at h
  · split at h
    · cases h
    · split at h
      · cases h
      · rename_i hne
        simp only [Sum.inr.injEq, Prod.mk.injEq] at h
        obtain ⟨rfl, _⟩ := h
        exact ⟨⟨hne, chs_sub _ _⟩, fun z => nomatch z⟩
  · cases h
theorem rdA_ok {l : List Nat} {a b : Nat} {t : At_} (h : rdA l a = .inr (t, b)) : gdA t := by
  unfold rdA at h
  split at h
  · split at h
    · simp only [Sum.inr.injEq, Prod.mk.injEq] at h
      obtain ⟨rfl, _⟩ := h
      exact ⟨al_ok, fun _ => .inr rfl⟩
    · simp only [Sum.inr.injEq, Prod.mk.injEq] at h
      obtain ⟨rfl, _⟩ := h
      exact ⟨pl_ok, fun _ => .inl rfl⟩
  · split at h
    · simp only [Sum.inr.injEq, Prod.mk.injEq] at h
      obtain ⟨rfl, _⟩ := h
      exact ⟨pl_ok, fun z => nomatch z⟩
    · split at h
      · exact rdS_ok h
      · split at h
        · rename_i hm
          simp only [Sum.inr.injEq, Prod.mk.injEq] at h
          obtain ⟨rfl, _⟩ := h
          exact ⟨okA_one hm, fun z => nomatch z⟩
        · cases h
theorem adj_snoc {ts : List At_} {t : At_} (h : adj ts) (hb : bad ts t = false) : adj (ts ++ [t]) := by
  rcases List.eq_nil_or_concat ts with rfl | ⟨ini, u, rfl⟩
  · trivial
  · rw [List.concat_eq_append] at *
    refine adj_app h ?_
    rintro ⟨h1, h2⟩
    unfold bad at hb
    rw [List.getLast?_concat, h2] at hb
    simp [h1] at hb
theorem rdL_ok : ∀ (n : Nat) (line : List Nat) (a : Nat) (ts r : List At_), (∀ t ∈ ts, gdA t) → adj ts → ts.length ≤ 40 → rdL n line a ts = .inr r → (∀ t ∈ r, gdA t) ∧ adj r ∧ r.length ≤ 40 ∧ ts.length ≤ r.length ∧ (a < line.length → 0 < n → ts.length < r.length)
  | 0, line, a, ts, r, h1, h2, h3, h => by
    rw [rdL] at h
    injection h with h
    subst h
    exact ⟨h1, h2, h3, Nat.le_refl _, fun _ z => absurd z (by omega)⟩
  | n + 1, line, a, ts, r, h1, h2, h3, h => by
    rw [rdL] at h
    split at h
    · rename_i ha
      cases hz : rdA (line.drop a) a with
      | inl p =>
        rw [hz] at h
        cases h
      | inr tb =>
        obtain ⟨t, b⟩ := tb
        rw [hz] at h
        have h : (if bad ts t = true then Sum.inl a else rdL n line b (ts ++ [t])) = .inr r := h
        cases hb : bad ts t with
        | true =>
          rw [hb] at h
          cases h
        | false =>
          rw [hb] at h
          have h : rdL n line b (ts ++ [t]) = .inr r := h
          have h40 : ts.length < 40 := by
            unfold bad at hb
            simp at hb
            omega
          obtain ⟨g1, g2, g3, g4, g5⟩ := rdL_ok n line b (ts ++ [t]) r (fun x hx => by
            rcases List.mem_append.mp hx with z | z
            · exact h1 x z
            · rw [List.mem_singleton.mp z]
              exact rdA_ok hz) (adj_snoc h2 hb) (by simp; omega) h
          simp only [List.length_append, List.length_cons, List.length_nil] at g4
          exact ⟨g1, g2, g3, by omega, fun _ _ => by omega⟩
    · rename_i ha
      injection h with h
      subst h
      exact ⟨h1, h2, h3, Nat.le_refl _, fun z _ => absurd z ha⟩
theorem rdP_ok {line : List Nat} {p : Pt} (h : rdP line = .inr p) : okP p := by
  have e0 : (if line.head? = some 33 then 1 else 0) ≤ line.length := by
    cases line with
    | nil => simp
    | cons x l => split <;> simp
  unfold rdP at h
  generalize (if line.head? = some 33 then 1 else 0) = a0 at h e0
  by_cases hne : a0 = line.length
  · rw [if_pos hne] at h
    cases h
  rw [if_neg hne] at h
  have ha : a0 < line.length := by omega
  cases hz : rdL line.length line a0 [] with
  | inl q =>
    rw [hz] at h
    cases h
  | inr ts =>
    rw [hz] at h
    injection h with h
    subst h
    obtain ⟨g1, g2, g3, g4, g5⟩ := rdL_ok _ _ _ [] _ (by intro t ht; cases ht) trivial (by simp) hz
    have := g5 ha (by omega)
    refine ⟨⟨g1, g2⟩, fun z => ?_, g3⟩
    have z : ts = [] := z
    rw [z] at this
    simp at this
theorem rdT_ok : ∀ (ls : List (List Nat)) (a : Nat) (acc r : List Pt), (∀ p ∈ acc, okP p) → acc.length ≤ 20 → rdT ls a acc = .inr r → (∀ p ∈ r, okP p) ∧ r.length ≤ 20
  | [], a, acc, r, h1, h2, h => by
    rw [rdT] at h
    injection h with h
    subst h
    exact ⟨h1, h2⟩
  | l :: ls, a, acc, r, h1, h2, h => by
    rw [rdT] at h
    split at h
    · exact rdT_ok ls _ acc r h1 h2 h
    · split at h
      · cases h
      · rename_i h20
        cases hz : rdP l with
        | inl p =>
          rw [hz] at h
          cases h
        | inr t =>
          rw [hz] at h
          refine rdT_ok ls _ (acc ++ [t]) r (fun p hp => ?_) (by simp; omega) h
          rcases List.mem_append.mp hp with z | z
          · exact h1 p z
          · rw [List.mem_singleton.mp z]
            exact rdP_ok hz
theorem lt_S1 (a b : Nat) : PySem.W.dataLt (.str (S [a])) (.str (S [b])) = decide (a < b) := by
  refine (PySem.W.DatumOrd.lt_eq (S [a]) (S [b])).trans ?_
  show decide ((S [a]).cps.toList < (S [b]).cps.toList) = _
  rw [S_cps, S_cps]
  refine decide_eq_decide.mpr ?_
  rw [List.cons_lt_cons_iff]
  simp
theorem okC_S1 {a b : Nat} (ha : a < 0x110000) (hb : b < 0x110000) : okC (.str (S [a])) (.str (S [b])) = true := by
  have h : ∀ c, c < 0x110000 → PyData.strOk (S [c]) = true := fun c hc => by
    show ([c].toArray).all (fun c => decide (c < 0x110000)) = true
    rw [List.all_toArray]
    simpa using hc
  unfold okC
  simp only [PySem.W.alike, okD, h a ha, h b hb]
  rfl
theorem oq_le_S1 {a b : Nat} {R : D → Prop} (ha : a < 0x110000) (hb : b < 0x110000) (h : R (.bool (decide (a ≤ b)))) : oq (dLe (.str (S [a])) (.str (S [b]))) R := by
  refine ⟨_, ?_, h⟩
  show (if okC _ _ = true then some (PyData.bool (!PySem.W.dataLt _ _)) else none) = _
  rw [if_pos (okC_S1 ha hb), lt_S1]
  congr 2
  by_cases q : b < a
  · rw [decide_eq_true q, decide_eq_false (by omega)]
    rfl
  · rw [decide_eq_false q, decide_eq_true (by omega)]
    rfl
theorem ix_AL' : ∀ c ∈ AL, ix c = (AL.idxOf c : Int) := by decide +kernel
theorem ix_no {c : Nat} (h : c ∉ AL) : ix c = -1 := by
  unfold ix
  rw [pos_no h]
  rfl
theorem ix_lt1 (c : Nat) : ix c < 1 ↔ c = 45 ∨ c ∉ AL := by
  by_cases h : c ∈ AL
  · have h1 := AL_ix c h
    rw [ix_AL' c h]
    constructor
    · intro z
      by_cases q : c = 45
      · exact .inl q
      · have := h1.2.2.1 q
        omega
    · rintro (rfl | q)
      · decide
      · exact absurd h q
  · rw [ix_no h]
    simp [h]
theorem ix_le' : (AL.all fun c => AL.all fun e => decide ((ix e ≤ ix c) ↔ e ≤ c)) = true := by decide +kernel
theorem ix_le {c e : Nat} (hc : c ∈ AL) : ix e ≤ ix c ↔ e ∉ AL ∨ e ≤ c := by
  by_cases h : e ∈ AL
  · have := of_decide_eq_true (List.all_eq_true.mp (List.all_eq_true.mp ix_le' c hc) e h)
    rw [this]
    simp [h]
  · rw [ix_no h]
    have := (ix_lt c).1
    simp [h, this]
theorem seg_flt' : (AL.all fun c => AL.all fun e => decide (seg (ix c) (ix e) = AL.filter fun x => decide (c ≤ x) && decide (x ≤ e))) = true := by decide +kernel
theorem seg_flt {c e : Nat} (hc : c ∈ AL) (he : e ∈ AL) : seg (ix c) (ix e) = AL.filter fun x => decide (c ≤ x) && decide (x ≤ e) := of_decide_eq_true (List.all_eq_true.mp (List.all_eq_true.mp seg_flt' c hc) e he)
theorem AL_b : ∀ c ∈ AL, c < 0x110000 := by decide
end K42
namespace K42
open PySem L2 Hz
local macro_rules | `(tactic| array_mem_dec) => `(tactic| (repeat' (first | (with_reducible first | refine w_kC ?_ | refine w_bop ?_ | refine w_tst ?_ | refine w_val ?_ | refine w_and ?_ | refine w_or ?_ | refine w_not ?_ | refine w_andV ?_ | refine w_orV ?_ | refine w_chain ?_ | refine w_ifK ?_ | refine w_nil ?_ | refine w_cons ?_ | refine w_tup ?_ | refine w_lst ?_ | refine w_call ?_ | refine w_neg ?_ | refine w_b1 ?_ | refine w_bn ?_ | refine w_isi ?_ | refine w_met ?_ | refine w_pnone ?_ | refine w_psome ?_ | refine w_cut ?_ | refine w_yes ?_ | refine w_list ?_ | refine w_tuple ?_ | refine w_str ?_ | refine w_range1 ?_ | refine w_range2 ?_ | refine w_range3 ?_ | refine w_seq ?_ | refine w_next ?_ | refine w_break ?_ | refine w_cont ?_ | refine w_drop ?_ | refine w_ret ?_ | refine w_retN ?_ | refine w_if ?_ | refine w_asg ?_ | refine w_raise ?_ | refine w_fld ?_ | refine w_seta ?_ | refine w_auga ?_ | refine w_seti ?_ | refine w_mut ?_ | refine w_frz ?_ | refine w_new ?_ | refine w_ext ?_ | refine w_for ?_ | refine w_lc ?_ | refine w_tryA ?_ | refine w_try ?_ | refine tb_b ?_ | refine ti_b ?_ | refine ts_b ?_ | refine we_nx ?_ | refine we_rt ?_ | refine we_ex ?_ | refine wn_nx ?_ | refine wn_rt ?_ | refine wn_bk ?_ | refine wn_ct ?_ | refine wn_ex ?_ | refine wl_nx ?_ | refine wl_rt ?_ | refine wl_bk ?_ | refine wl_ct ?_ | refine wl_ex ?_ | refine wx_nx ?_ | refine wx_rt ?_ | refine wx_bk ?_ | refine wx_ct ?_ | refine wx_ex ?_ | refine wh_nx ?_ | refine wh_rt ?_ | refine wh_bk ?_ | refine wh_ct ?_ | refine vw_i ?_ | refine vw_s ?_ | refine vw_b ?_ | refine vw_n ?_ | refine vw_l ?_ | refine vw_t ?_ | refine vw_sc ?_ | refine vw_o ?_ | refine mv_nil ?_ | refine mv_cons ?_ | refine oq_tgNil ?_ | refine oq_tgCons ?_ | refine it2_t ?_ | refine it2_f ?_ | refine it2_not ?_ | refine tlG_l ?_ | refine ttG_t ?_ | refine oq_add_i ?_ | refine oq_sub ?_ | refine oq_lt ?_ | refine oq_le ?_ | refine oq_gt ?_ | refine oq_ge ?_ | refine oq_eq_i ?_ | refine oq_ne_i ?_ | refine oq_eq_s ?_ | refine oq_ne_s ?_ | refine oq_eq_b ?_ | refine oq_ne_b ?_ | refine oq_is ?_ | refine oq_isNot ?_ | refine oq_in_s ?_ | refine oq_notIn_s ?_ | refine oq_len_l ?_ | refine oq_len_t ?_ | refine oq_int ?_ | refine oq_abs ?_ | refine oq_ord ?_ | refine oq_cut_l ?_ | refine oq_cut_t ?_ | refine oq_list_l ?_ | refine oq_list_t ?_ | refine oq_tuple_l ?_ | refine oq_tuple_t ?_ | refine oq_max2 ?_ | refine oq_min2 ?_ | refine oq_some ?_ | refine oq_len_sc ?_ | refine oq_eq_il ?_ | refine oq_ne_il ?_ | refine oq_eq_it ?_ | refine oq_ne_it ?_ | refine oq_lt_il ?_ | refine oq_lt_it ?_ | refine oq_iadd_i ?_ | refine oq_isT ?_ | refine oq_isNotT ?_ | refine pr2_of ?_ | refine w_par ?_ | refine al_go ?_ | refine oq_in_S ?_ | refine oq_notIn_S ?_ | refine oq_inT_S ?_) | ((with_reducible apply w_kV); exact rfl) | ((with_reducible apply oq_setv2); (simp only [List.set, wipeA]; exact rfl)) | ((with_reducible apply cal_of); exact rfl; (try simp only [List.cons_append, List.nil_append, List.append_nil])) | ((with_reducible apply oq_tgTup); exact rfl) | ((with_reducible apply oq_ix_lk); exact rfl) | ((with_reducible apply oq_ix_tk); exact rfl) | ((with_reducible apply w_aug); exact rfl) | ((with_reducible apply vw_r); (first | assumption | exact aset_same)) | ((with_reducible apply cel_of); (first | assumption | exact aset_same)) | ((with_reducible apply ceo_of); (first | assumption | exact aset_same)) | ((with_reducible apply tlG_r); (first | assumption | exact aset_same)) | ((with_reducible apply fr_of); (first | assumption | exact aset_same)) | ((with_reducible apply fd_cons); exact trivial) | ((with_reducible apply fd_nil); exact trivial) | ((with_reducible apply oq_isiB (b := true)); exact rfl) | ((with_reducible apply oq_isiB (b := false)); exact rfl) | ((with_reducible apply w_xi); exact rfl; exact decide_eq_true rfl; exact if_pos rfl) | ((with_reducible apply w_xf); exact rfl; exact decide_eq_true rfl; exact rfl) | ((with_reducible apply w_frzS); exact rfl; (first | assumption | exact aset_same); (try simp only [List.set])) | ((with_reducible apply oq_ixN_k); exact rfl; (try simp only [List.set, Int.reduceToNat])) | ((with_reducible apply oq_mod); (first | omega | decide)) | ((with_reducible apply oq_div); (first | omega | decide)) | ((with_reducible apply oq_mul); (first | omega | decide)) | ((with_reducible apply oq_pow); (first | omega | decide)) | ((with_reducible apply oq_shl); (first | omega | decide)) | ((with_reducible apply oq_shr); (first | omega | decide)) | ((with_reducible apply oq_add_s); (first | omega | decide)) | ((with_reducible apply oq_len_s); (first | omega | decide)) | ((with_reducible apply oq_cut_s); (first | omega | decide)) | ((with_reducible apply oq_append); (first | omega | decide)) | ((with_reducible apply oq_insert); (first | omega | decide)) | ((with_reducible apply oq_rep); (first | omega | decide)) | ((with_reducible apply oq_cat); (first | omega | decide)) | ((with_reducible apply rg1_of); (first | omega | decide)) | ((with_reducible apply rg2_of); (first | omega | decide)) | ((with_reducible apply lok); exact rfl) | ((with_reducible refine it2_dec ?_ ?_) <;> intro))))
local macro_rules | `(tactic| array_get_dec) => `(tactic| (repeat' (first | (with_reducible first | refine w_kC ?_ | refine w_bop ?_ | refine w_tst ?_ | refine w_val ?_ | refine w_and ?_ | refine w_or ?_ | refine w_not ?_ | refine w_andV ?_ | refine w_orV ?_ | refine w_chain ?_ | refine w_ifK ?_ | refine w_nil ?_ | refine w_cons ?_ | refine w_tup ?_ | refine w_lst ?_ | refine w_call ?_ | refine w_neg ?_ | refine w_b1 ?_ | refine w_bn ?_ | refine w_isi ?_ | refine w_met ?_ | refine w_pnone ?_ | refine w_psome ?_ | refine w_cut ?_ | refine w_yes ?_ | refine w_list ?_ | refine w_tuple ?_ | refine w_str ?_ | refine w_range1 ?_ | refine w_range2 ?_ | refine w_range3 ?_ | refine w_seqB ?_ | refine w_next ?_ | refine w_break ?_ | refine w_cont ?_ | refine w_drop ?_ | refine w_ret ?_ | refine w_retN ?_ | refine w_if ?_ | refine w_asg ?_ | refine w_raise ?_ | refine w_fld ?_ | refine w_seta ?_ | refine w_auga ?_ | refine w_seti ?_ | refine w_mut ?_ | refine w_frz ?_ | refine w_new ?_ | refine w_ext ?_ | refine w_for ?_ | refine w_lc ?_ | refine w_tryA ?_ | refine w_try ?_ | refine tb_b ?_ | refine ti_b ?_ | refine ts_b ?_ | refine we_nx ?_ | refine we_rt ?_ | refine we_ex ?_ | refine wn_nx ?_ | refine wn_rt ?_ | refine wn_bk ?_ | refine wn_ct ?_ | refine wn_ex ?_ | refine wl_nx ?_ | refine wl_rt ?_ | refine wl_bk ?_ | refine wl_ct ?_ | refine wl_ex ?_ | refine wx_nx ?_ | refine wx_rt ?_ | refine wx_bk ?_ | refine wx_ct ?_ | refine wx_ex ?_ | refine wh_nx ?_ | refine wh_rt ?_ | refine wh_bk ?_ | refine wh_ct ?_ | refine vw_i ?_ | refine vw_s ?_ | refine vw_b ?_ | refine vw_n ?_ | refine vw_l ?_ | refine vw_t ?_ | refine vw_sc ?_ | refine vw_o ?_ | refine mv_nil ?_ | refine mv_cons ?_ | refine oq_tgNil ?_ | refine oq_tgCons ?_ | refine it2_t ?_ | refine it2_f ?_ | refine it2_not ?_ | refine tlG_l ?_ | refine ttG_t ?_ | refine oq_add_i ?_ | refine oq_sub ?_ | refine oq_lt ?_ | refine oq_le ?_ | refine oq_gt ?_ | refine oq_ge ?_ | refine oq_eq_i ?_ | refine oq_ne_i ?_ | refine oq_eq_s ?_ | refine oq_ne_s ?_ | refine oq_eq_b ?_ | refine oq_ne_b ?_ | refine oq_is ?_ | refine oq_isNot ?_ | refine oq_in_s ?_ | refine oq_notIn_s ?_ | refine oq_len_l ?_ | refine oq_len_t ?_ | refine oq_int ?_ | refine oq_abs ?_ | refine oq_ord ?_ | refine oq_cut_l ?_ | refine oq_cut_t ?_ | refine oq_list_l ?_ | refine oq_list_t ?_ | refine oq_tuple_l ?_ | refine oq_tuple_t ?_ | refine oq_max2 ?_ | refine oq_min2 ?_ | refine oq_some ?_ | refine oq_len_sc ?_ | refine oq_eq_il ?_ | refine oq_ne_il ?_ | refine oq_eq_it ?_ | refine oq_ne_it ?_ | refine oq_lt_il ?_ | refine oq_lt_it ?_ | refine oq_iadd_i ?_ | refine oq_isT ?_ | refine oq_isNotT ?_ | refine pr2_of ?_ | refine w_par ?_ | refine al_go ?_ | refine oq_in_S ?_ | refine oq_notIn_S ?_ | refine oq_inT_S ?_) | ((with_reducible apply w_kV); exact rfl) | ((with_reducible apply oq_setv2); (simp only [List.set, wipeA]; exact rfl)) | ((with_reducible apply cal_of); exact rfl; (try simp only [List.cons_append, List.nil_append, List.append_nil])) | ((with_reducible apply oq_tgTup); exact rfl) | ((with_reducible apply oq_ix_lk); exact rfl) | ((with_reducible apply oq_ix_tk); exact rfl) | ((with_reducible apply w_aug); exact rfl) | ((with_reducible apply vw_r); (first | assumption | exact aset_same)) | ((with_reducible apply cel_of); (first | assumption | exact aset_same)) | ((with_reducible apply ceo_of); (first | assumption | exact aset_same)) | ((with_reducible apply tlG_r); (first | assumption | exact aset_same)) | ((with_reducible apply fr_of); (first | assumption | exact aset_same)) | ((with_reducible apply fd_cons); exact trivial) | ((with_reducible apply fd_nil); exact trivial) | ((with_reducible apply oq_isiB (b := true)); exact rfl) | ((with_reducible apply oq_isiB (b := false)); exact rfl) | ((with_reducible apply w_xi); exact rfl; exact decide_eq_true rfl; exact if_pos rfl) | ((with_reducible apply w_xf); exact rfl; exact decide_eq_true rfl; exact rfl) | ((with_reducible apply w_frzS); exact rfl; (first | assumption | exact aset_same); (try simp only [List.set])) | ((with_reducible apply oq_ixN_k); exact rfl; (try simp only [List.set, Int.reduceToNat])) | ((with_reducible apply oq_mod); (first | omega | decide)) | ((with_reducible apply oq_div); (first | omega | decide)) | ((with_reducible apply oq_mul); (first | omega | decide)) | ((with_reducible apply oq_pow); (first | omega | decide)) | ((with_reducible apply oq_shl); (first | omega | decide)) | ((with_reducible apply oq_shr); (first | omega | decide)) | ((with_reducible apply oq_add_s); (first | omega | decide)) | ((with_reducible apply oq_len_s); (first | omega | decide)) | ((with_reducible apply oq_cut_s); (first | omega | decide)) | ((with_reducible apply oq_append); (first | omega | decide)) | ((with_reducible apply oq_insert); (first | omega | decide)) | ((with_reducible apply oq_rep); (first | omega | decide)) | ((with_reducible apply oq_cat); (first | omega | decide)) | ((with_reducible apply rg1_of); (first | omega | decide)) | ((with_reducible apply rg2_of); (first | omega | decide)) | ((with_reducible apply lok); exact rfl) | ((with_reducible refine it2_dec ?_ ?_) <;> intro))))
local macro_rules | `(tactic| sizeOf_list_dec) => `(tactic| (try simp only [List.set, Int.reduceToNat, List.map_cons, List.map_nil, Nat.reduceSub, List.reduceReplicate, List.cons_append, List.nil_append, wipeA, aset_aset, List.getElem?_cons_zero, List.getElem?_cons_succ]))
variable {CP CF CI gX : Nat} {α : AH} {Q : QD} {E : QX}
/-- a result of the law's own reader -/
def rl {β : Type} (u : β → D) (r : Nat ⊕ β) (Q : QD) (α : AH) : Prop := match r with
  | .inl p => Q (.int (p : Int)) α
  | .inr b => Q (u b) α
theorem lin_hd (c : Nat) : ∀ l : List Nat, ∃ t, lin c l = (l.takeWhile fun x => !decide (x = c)) :: t
  | [] => ⟨[], rfl⟩
  | x :: l => by
    obtain ⟨t, e⟩ := lin_hd c l
    rw [lin]
    by_cases h : x = c
    · rw [if_pos h]
      exact ⟨_, by rw [List.takeWhile_cons_of_neg (by simpa using h)]⟩
    · rw [if_neg h, e]
      exact ⟨t, by rw [List.takeWhile_cons_of_pos (by simpa using h)]⟩
theorem tw_all {l : List Nat} (h : 93 ∉ l) : (l.takeWhile fun c => !decide (c = 93)) = l := by
  induction l with
  | nil => rfl
  | cons x l ih =>
    simp only [List.mem_cons, not_or] at h
    rw [List.takeWhile_cons_of_pos (by simpa using Ne.symm h.1), ih h.2]
theorem ls_set {line p l : List Nat} (e : line = p ++ 91 :: l) (hb : ∀ c ∈ line, c < 0x110000) (hl : line.length ≤ 4200) (h : rl atiD (rdS l p.length) Q α) : f_law_set CP CF CI gX [.str (S line), .int (p.length : Int)] α Q E := by
  unfold f_law_set m_law_set
  refine w_runP rfl ?_
  have e0 : (PySem.Str.ofString "") = S [] := by decide
  have e1 : (PySem.Str.ofString "]") = S [93] := by decide
  have e2 : (PySem.Str.ofString "!") = S [33] := by decide
  have e3 : (PySem.Str.ofString "-") = S [45] := by decide
  have e4 : (PySem.Str.ofString "/") = S [47] := by decide
  simp only [e0, e1, e2, e3, e4]
  have ll : line.length = p.length + (1 + l.length) := by rw [e]; simp; omega
  sizeOf_list_dec
  array_get_dec
  rw [show (p.length : Int) + 1 = ((p.length + 1 : Nat) : Int) by omega]
  refine oq_cut_s (by rw [S_len]; omega) ?_
  have ed : line.drop (p.length + 1) = l := by rw [e, ← List.drop_drop, List.drop_left]; rfl
  rw [S_cutD, ed]
  array_get_dec
  refine oq_split_S (by decide) (by omega) ?_
  obtain ⟨t, et⟩ := lin_hd 93 l
  rw [et, List.map_cons]
  array_get_dec
  refine oq_ix_0 ?_
  array_get_dec
  have tl : (l.takeWhile fun c => !decide (c = 93)).length ≤ l.length := (List.takeWhile_sublist _).length_le
  by_cases h93 : 93 ∈ l
  rotate_left
  · unfold rdS at h
    rw [if_neg h93] at h
    rw [tw_all h93]
    refine bar_of ?_
    sizeOf_list_dec
    array_get_dec
    refine oq_len_S (by omega) ?_
    array_get_dec
    refine bar_of ?_
    sizeOf_list_dec
    array_get_dec
    refine oq_len_S (by omega) ?_
    array_get_dec
    · rw [arst_self]
      exact h
    · omega
  obtain ⟨r, el, hn⟩ := tw93 h93
  unfold rdS at h
  rw [if_pos h93] at h
  have eh : l.head? = some 33 ↔ (l.takeWhile fun c => !decide (c = 93)).head? = some 33 := by
    conv => lhs; rw [el]
    cases l.takeWhile (fun c => !decide (c = 93)) with
    | nil => simp
    | cons x b => simp
  generalize (l.takeWhile fun c => !decide (c = 93)) = body at *
  have ebl : l.length = body.length + (1 + r.length) := by rw [el]; simp; omega
  refine bar_of ?_
  sizeOf_list_dec
  array_get_dec
  refine oq_len_S (by omega) ?_
  array_get_dec
  refine bar_of ?_
  sizeOf_list_dec
  array_get_dec
  refine oq_len_S (by omega) ?_
  array_get_dec
  · omega
  refine bar_of ?_
  sizeOf_list_dec
  array_get_dec
  refine bar_of ?_
  sizeOf_list_dec
  array_get_dec
  refine oq_cut_s (by rw [S_len]; omega) ?_
  rw [show cutS (S body) none (some 1) = S (body.take 1) from S_cutT body 1]
  array_get_dec
  refine bar_of ?_
  sizeOf_list_dec
  have en : decide (S (body.take 1) = S [33]) = decide (l.head? = some 33) := by
    refine decide_eq_decide.mpr ⟨fun z => ?_, fun z => ?_⟩
    · have := S_inj.mp z
      rw [eh]
      cases body with
      | nil => cases this
      | cons x b =>
        simp at this
        rw [this]
        rfl
    · have := eh.mp z
      cases body with
      | nil => cases this
      | cons x b => rw [Option.some.inj this]; rfl
  rw [en]
  have e33 : (if l.head? = some 33 then 1 else 0) = if decide (l.head? = some 33) = true then 1 else 0 := by simp
  rw [e33] at h
  have en1 : decide (l.head? = some 33) = true → body ≠ [] := fun z q => by
    have := eh.mp (of_decide_eq_true z)
    rw [q] at this
    cases this
  generalize decide (l.head? = some 33) = neg at h en1 ⊢
  -- first
  refine w_seqI (fun ρ α' => α = α' ∧ ρ = [some (.str (S line)), some (.int (p.length : Int)), some (.str (S body)), some (.int ((p.length + 1 + body.length : Nat) : Int)), some (.int ((p.length + 1 + (if neg = true then 1 else 0) : Nat) : Int)), some (.bool neg), none, none, none, none, none, none]) ?_ fun Z hZ => ?_
  rotate_left
  · cases neg with
    | true =>
      array_get_dec
      exact hZ _ _ ⟨rfl, rfl⟩
    | false =>
      array_get_dec
      exact hZ _ _ ⟨rfl, rfl⟩
  rintro _ _ ⟨rfl, rfl⟩
  array_get_dec
  (refine bar_of ?_; sizeOf_list_dec; array_get_dec)
  refine bar_of ?_
  sizeOf_list_dec
  -- behind the first sign
  have l1 : (if neg = true then 1 else 0) ≤ 1 := by cases neg <;> simp
  have l2 : (if neg = true then 1 else 0) ≤ body.length := by
    cases neg with
    | true =>
      have := List.length_pos_iff.mpr (en1 rfl)
      simp
      omega
    | false => simp
  generalize (if neg = true then 1 else 0) = a0 at h l1 l2 ⊢
  have eln : line = (p ++ 91 :: body.take a0) ++ (body.drop a0 ++ 93 :: r) := by
    rw [e, el]
    simp
    rw [← List.append_assoc, List.take_append_drop]
  have elq : (p ++ 91 :: body.take a0).length = p.length + 1 + a0 := by simp [List.length_take]; omega
  have elb : (body.drop a0).length = body.length - a0 := List.length_drop
  generalize body.drop a0 = b1 at eln h elb
  generalize p ++ 91 :: body.take a0 = q0 at eln elq
  rw [← elq] at h ⊢
  have lln : line.length = q0.length + (b1.length + (1 + r.length)) := by rw [eln]; simp; omega
  refine w_seqI (fun ρ α' => α = α' ∧ ∃ (b : Bool) (b2 q : List Nat) (v4 : Option D), line = q ++ (b2 ++ 93 :: r) ∧ q.length + b2.length = q0.length + b1.length ∧ q0.length ≤ q.length ∧ rl atiD (match rdI b2 q.length (if b = true then [45] else []) with
    | .inl p => .inl p
    | .inr ch => if chs neg ch = [] then .inl p.length else .inr ((chs neg ch, false), p.length + 2 + body.length)) Q α ∧ ρ = [some (.str (S line)), some (.int (p.length : Int)), some (.str (S body)), some (.int ((p.length + 1 + body.length : Nat) : Int)), v4, some (.bool neg), some (.str (S (if b = true then [45] else []))), some (.int (q.length : Int)), none, none, none, none]) ?_ fun Z hZ => ?_
  rotate_left
  · array_get_dec
    cases b1 with
    | nil =>
      refine oq_ix_at (p := q0) eln rfl (by omega) ?_
      array_get_dec
      · rename_i h1
        exact absurd (S_inj.mp h1) (by decide)
      · exact hZ _ _ ⟨rfl, false, [], q0, _, eln, rfl, Nat.le_refl _, h, rfl⟩
    | cons c b1 =>
      refine oq_ix_at (p := q0) eln rfl (by omega) ?_
      array_get_dec
      · rename_i h1
        have h1 := S_inj.mp h1
        injection h1 with h1
        subst h1
        (refine bar_of ?_; sizeOf_list_dec; array_get_dec)
        rw [if_pos (show (45 :: b1).head? = some 45 from rfl)] at h
        refine hZ _ _ ⟨rfl, true, b1, q0 ++ [45], some (.int (q0.length : Int)), by rw [eln]; simp, by simp; omega, by simp, ?_, ?_⟩
        · have e5 : (q0 ++ [45]).length = q0.length + 1 := by simp
          rw [e5]
          exact h
        · have e5 : ((q0 ++ [45]).length : Int) = (q0.length : Int) + 1 := by simp
          rw [e5]
          rfl
      · rename_i h1
        rw [if_neg (fun z => h1 (by injection z with z; rw [z]))] at h
        exact hZ _ _ ⟨rfl, false, c :: b1, q0, _, eln, rfl, Nat.le_refl _, h, rfl⟩
  clear h
  rintro _ _ ⟨rfl, b, b2, q1, v4, eq1, lq1, lq2, h, rfl⟩
  refine w_seqI (fun ρ α' => α = α' ∧ ∃ (acc : List Nat) (v7 v8 v9 v10 : Option D), (∀ c ∈ acc, c ∈ AL) ∧ acc.length ≤ 97000 ∧ rl atiD (if chs neg acc = [] then .inl p.length else .inr ((chs neg acc, false), p.length + 2 + body.length)) Q α ∧ ρ = [some (.str (S line)), some (.int (p.length : Int)), some (.str (S body)), some (.int ((p.length + 1 + body.length : Nat) : Int)), v4, some (.bool neg), some (.str (S acc)), v7, v8, v9, v10, none]) ?_ fun Z hZ => ?_
  rotate_left
  · array_get_dec
    refine oq_len_S (by omega) ?_
    array_get_dec
    have stp : p.length + 1 + body.length = q0.length + b1.length := by omega
    refine for_nums (fun j ρ α' => α = α' ∧ ∃ (todo acc q : List Nat) (v8 v9 v10 : Option D), line = q ++ (todo ++ 93 :: r) ∧ q.length + todo.length = q0.length + b1.length ∧ todo.length ≤ body.length - j ∧ acc.length ≤ 1 + 23 * q.length ∧ (∀ c ∈ acc, c ∈ AL) ∧ rl atiD (match rdI todo q.length acc with
      | .inl p => .inl p
      | .inr ch => if chs neg ch = [] then .inl p.length else .inr ((chs neg ch, false), p.length + 2 + body.length)) Q α ∧ ρ = [some (.str (S line)), some (.int (p.length : Int)), some (.str (S body)), some (.int ((p.length + 1 + body.length : Nat) : Int)), v4, some (.bool neg), some (.str (S acc)), some (.int (q.length : Int)), v8, v9, v10, none]) ⟨rfl, b2, if b = true then [45] else [], q1, none, none, none, eq1, lq1, by omega, by cases b <;> simp, (by
        intro c hc
        cases b with
        | true => rw [List.mem_singleton.mp hc]; decide
        | false => cases hc), h, rfl⟩ ?_ ?_
    · rintro _ _ ⟨rfl, todo, acc, q, v8, v9, v10, e2, lq, lt, la, hA, h, rfl⟩
      have : todo = [] := List.eq_nil_of_length_eq_zero (by omega)
      subst this
      have : line.length = q.length + (1 + r.length) := by rw [e2]; simp; omega
      exact hZ _ _ ⟨rfl, acc, _, _, _, _, hA, by omega, h, rfl⟩
    · rintro j hj _ _ ⟨rfl, todo, acc, q, v8, v9, v10, e2, lq, lt, la, hA, h, rfl⟩ X hX
      have lln2 : line.length = q.length + (todo.length + (1 + r.length)) := by rw [e2]; simp; omega
      refine oq_setv ?_
      sizeOf_list_dec
      cases todo with
      | nil =>
        array_get_dec
        · rename_i h1
          simp at lq
          omega
        · exact hX _ _ ⟨rfl, [], acc, q, _, _, _, e2, lq, by simp, la, hA, h, rfl⟩
      | cons c l2 =>
      simp only [List.length_cons] at lq lt lln2
      rw [rdI_step] at h
      array_get_dec
      rotate_left
      · omega
      have badc : ix c < 1 → Q (.int (q.length : Int)) (arst α α) := fun z => by
        rw [if_pos z] at h
        rw [arst_self]
        exact h
      refine oq_ix_at e2 rfl (by omega) ?_
      array_get_dec
      (refine bar_of ?_; sizeOf_list_dec; array_get_dec)
      · rename_i h1
        have := S_inj.mp h1
        injection this with this
        exact badc ((ix_lt1 c).mpr (.inl this))
      rotate_left
      · rename_i h1 h2
        exact badc ((ix_lt1 c).mpr (.inr h2))
      rename_i h1 h2
      have h1 : c ≠ 45 := fun z => h1 (by rw [z])
      have hi : ¬ ix c < 1 := fun z => by
        rcases (ix_lt1 c).mp z with z | z
        · exact h1 z
        · exact absurd h2 z
      rw [if_neg hi] at h
      clear badc
      (refine bar_of ?_; sizeOf_list_dec; array_get_dec)
      refine bar_of ?_
      sizeOf_list_dec
      have i0 : 0 ≤ ix c := by omega
      -- the high end
      refine w_seqI (fun ρ α' => α = α' ∧ ∃ (e : Nat) (k : Nat) (l' : List Nat), e ∈ AL ∧ l2.length = k + l'.length ∧ (acc ++ seg (ix c) (ix e)).length ≤ 1 + 23 * (q.length + 1 + k) ∧ line = (q ++ c :: l2.take k) ++ (l' ++ 93 :: r) ∧ rl atiD (match rdI l' (q.length + 1 + k) (acc ++ seg (ix c) (ix e)) with
        | .inl p => .inl p
        | .inr ch => if chs neg ch = [] then .inl p.length else .inr ((chs neg ch, false), p.length + 2 + body.length)) Q α ∧ ρ = [some (.str (S line)), some (.int (p.length : Int)), some (.str (S body)), some (.int ((p.length + 1 + body.length : Nat) : Int)), v4, some (.bool neg), some (.str (S acc)), some (.int ((q.length + k : Nat) : Int)), some (.int (0 + (j : Int))), some (.str (S [c])), some (.str (S [e])), none]) ?_ fun Z2 hZ2 => ?_
      · rintro _ _ ⟨rfl, e, k, l', he, hk, hl2, e2, h, rfl⟩
        rw [List.length_append] at hl2
        array_get_dec
        rw [S_chars]
        refine lc_fm AL (fun k => .str (S [k])) (fun x => decide (c ≤ x) && decide (x ≤ e)) (fun k => .str (S [k])) rfl (by decide) trivial (fun x hx => ?_) ?_
        · refine ⟨_, rfl, fun R hR => ?_, fun _ R hR => ?_⟩
          · sizeOf_list_dec
            refine w_tst (w_chain (w_kV rfl (w_kV rfl (oq_le_S1 (AL_b c h2) (AL_b x hx) (tb_b ?_)))))
            by_cases h3 : c ≤ x
            · rw [decide_eq_true h3] at hR ⊢
              refine it2_t (w_kV rfl (oq_le_S1 (AL_b x hx) (AL_b e he) (tb_b ?_)))
              exact hR
            · rw [decide_eq_false h3] at hR ⊢
              exact it2_f (tb_b hR)
          · sizeOf_list_dec
            array_mem_dec
            exact hR
        rw [← seg_flt h2 he]
        array_get_dec
        have sl := seg_len (ix c) (ix e)
        refine oq_join_S (by omega) ?_
        array_get_dec
        refine oq_add_S (by omega) ?_
        array_get_dec
        (refine bar_of ?_; sizeOf_list_dec; array_get_dec)
        sizeOf_list_dec
        have e6 : ((q ++ c :: l2.take k).length : Int) = ((q.length + k : Nat) : Int) + 1 := by simp [List.length_take]; omega
        refine hX _ _ ⟨rfl, l', acc ++ seg (ix c) (ix e), q ++ c :: l2.take k, some (.int (0 + (j : Int))), some (.str (S [c])), some (.str (S [e])), e2, ?_, ?_, ?_, ?_, ?_, by rw [e6]⟩
        · simp [List.length_take]; omega
        · omega
        · rw [List.length_append]
          simp [List.length_take]
          omega
        · intro x hx
          rcases List.mem_append.mp hx with z | z
          · exact hA x z
          · rw [seg_flt h2 he] at z
            exact (List.mem_filter.mp z).1
        · have e5 : (q ++ c :: l2.take k).length = q.length + 1 + k := by simp [List.length_take]; omega
          rw [e5]
          exact h
      · have one := seg_one (ix c)
        have plain : rl atiD (match rdI l2 (q.length + 1) (acc ++ seg (ix c) (ix c)) with
          | .inl p => .inl p
          | .inr ch => if chs neg ch = [] then .inl p.length else .inr ((chs neg ch, false), p.length + 2 + body.length)) Q α → Z2 [some (.str (S line)), some (.int (p.length : Int)), some (.str (S body)), some (.int ((p.length + 1 + body.length : Nat) : Int)), v4, some (.bool neg), some (.str (S acc)), some (.int (q.length : Int)), some (.int (0 + (j : Int))), some (.str (S [c])), some (.str (S [c])), none] α := fun h =>
          hZ2 _ _ ⟨rfl, c, 0, l2, h2, by omega, by rw [List.length_append]; omega, by rw [e2]; simp, h, rfl⟩
        array_get_dec
        cases l2 with
        | nil =>
          rw [if_neg (by simp)] at h
          refine oq_ix_at (p := q ++ [c]) (c := 93) (r := r) (by rw [e2]; simp) (by simp) (by omega) ?_
          array_get_dec
          · rename_i h3
            exact absurd (S_inj.mp h3) (by decide)
          · exact plain h
        | cons d l3 =>
          simp only [List.length_cons] at lq lt lln2
          refine oq_ix_at (p := q ++ [c]) (c := d) (r := l3 ++ 93 :: r) (by rw [e2]; simp) (by simp) (by omega) ?_
          array_get_dec
          · rename_i h3
            have h3 := S_inj.mp h3
            injection h3 with h3
            subst h3
            rw [if_pos (show (45 :: l3).head? = some 45 from rfl)] at h
            (refine bar_of ?_; sizeOf_list_dec; array_get_dec)
            cases l3 with
            | nil =>
              have h : Q (.int ((q.length + 2 : Nat) : Int)) α := h
              refine oq_ix_at (p := q ++ [c, 45]) (c := 93) (r := r) (by rw [e2]; simp) (by simp) (by omega) ?_
              array_get_dec
              (refine bar_of ?_; sizeOf_list_dec; array_get_dec)
              · rename_i h4
                exact absurd h4 (by decide)
              · rw [arst_self]
                exact h
            | cons e l4 =>
              have h : rl atiD (match (if ix e ≤ ix c then (.inl (q.length + 2) : Nat ⊕ List Nat) else rdI l4 (q.length + 3) (acc ++ seg (ix c) (ix e))) with
                | .inl p => .inl p
                | .inr ch => if chs neg ch = [] then .inl p.length else .inr ((chs neg ch, false), p.length + 2 + body.length)) Q α := h
              refine oq_ix_at (p := q ++ [c, 45]) (c := e) (r := l4 ++ 93 :: r) (by rw [e2]; simp) (by simp) (by omega) ?_
              array_get_dec
              (refine bar_of ?_; sizeOf_list_dec; array_get_dec)
              · rename_i h4
                refine oq_le_S1 (AL_b e h4) (AL_b c h2) ?_
                array_get_dec
                · rename_i h5
                  rw [if_pos ((ix_le h2).mpr (.inr h5))] at h
                  rw [arst_self]
                  exact h
                · rename_i h5
                  rw [if_neg (fun z => ((ix_le h2).mp z).elim (fun q => q h4) h5)] at h
                  have sl := seg_len (ix c) (ix e)
                  exact hZ2 _ _ ⟨rfl, e, 2, l4, h4, by simp; omega, by rw [List.length_append]; omega, by rw [e2]; simp, h, rfl⟩
              · rename_i h4
                rw [if_pos ((ix_le h2).mpr (.inl h4))] at h
                rw [arst_self]
                exact h
          · rename_i h3
            have h3 : d ≠ 45 := fun z => h3 (by rw [z])
            rw [if_neg (show ¬ (d :: l3).head? = some 45 from fun z => h3 (Option.some.inj z))] at h
            exact plain h
  clear h
  rintro _ _ ⟨rfl, acc, v7, v8, v9, v10, hA, hal, h, rfl⟩
  have cl := chs_len neg acc
  have fin : ∀ cs : List Nat, cs = chs neg acc → ¬ cs = [] → Q (.tuple [.tuple [.str (S cs), .bool false], .int ((p.length + 1 + body.length : Nat) + 1 : Int)]) α := fun cs ec hne => by
    rw [← ec, if_neg hne] at h
    have h : Q (.tuple [.tuple [.str (S cs), .bool false], .int ((p.length + 2 + body.length : Nat) : Int)]) α := h
    rwa [show ((p.length + 2 + body.length : Nat) : Int) = ((p.length + 1 + body.length : Nat) + 1 : Int) by omega] at h
  have nof : ∀ cs : List Nat, cs = chs neg acc → cs = [] → Q (.int (p.length : Int)) α := fun cs ec hne => by
    rw [← ec, if_pos hne] at h
    exact h
  -- the end, the chosen signs known
  have last : ∀ (ch : List Nat) (Y : QX) (v4 v7 v8 v9 v10 : Option D), (ch = [] ↔ chs neg acc = []) → (AL.filter fun k => decide (k ∈ ch)) = chs neg acc → seqS (ifS (tst (bop dEq (Hz.kV 6) (kC (.str (S []))))) (retS (Hz.kV 1)) (nextS)) (retS (tupK (consK (tupK (consK (metK dJoin (kC (.str (S []))) (consK (lcK [11] (strK (callN 0 (f_law_all CP CF CI gX) [] nilK)) (setv 11) (tst (bop dIn (Hz.kV 11) (Hz.kV 6))) (Hz.kV 11)) (nilK))) (consK (kC (.bool false)) (nilK)))) (consK (bop dAdd (Hz.kV 3) (kC (.int 1))) (nilK))))) [some (.str (S line)), some (.int (p.length : Int)), some (.str (S body)), some (.int ((p.length + 1 + body.length : Nat) : Int)), v4, some (.bool neg), some (.str (S ch)), v7, v8, v9, v10, none] α (we (fun d α' => Q d (arst α α')) Y) := by
    intro ch Y v4 v7 v8 v9 v10 h1 h2
    array_get_dec
    · rename_i h3
      rw [arst_self]
      exact nof _ rfl (h1.mp (S_inj.mp h3))
    · rename_i h3
      (refine bar_of ?_; sizeOf_list_dec; array_get_dec)
      rw [S_chars]
      refine lc_fm AL (fun k => .str (S [k])) (fun x => decide (x ∈ ch)) (fun k => .str (S [k])) rfl (by decide) trivial (fun x hx => ?_) ?_
      · refine ⟨_, rfl, fun R hR => ?_, fun _ R hR => ?_⟩
        · sizeOf_list_dec
          array_mem_dec
          exact hR
        · sizeOf_list_dec
          array_mem_dec
          exact hR
      rw [h2]
      array_get_dec
      refine oq_join_S (by omega) ?_
      array_get_dec
      rw [arst_self]
      exact fin _ rfl fun z => h3 (by rw [h1.mpr z])
  cases neg with
  | true =>
    array_get_dec
    rw [S_chars]
    refine lc_fm AL (fun k => .str (S [k])) (fun x => !decide (x ∈ acc ++ [47])) (fun k => .str (S [k])) rfl (by decide) trivial (fun x hx => ?_) ?_
    · refine ⟨_, rfl, fun R hR => ?_, fun _ R hR => ?_⟩
      · sizeOf_list_dec
        array_get_dec
        refine oq_add_S (by simp only [List.length_cons, List.length_nil]; omega) ?_
        array_get_dec
        exact hR
      · sizeOf_list_dec
        array_mem_dec
        exact hR
    have ec : (AL.filter fun x => !decide (x ∈ acc ++ [47])) = chs true acc := by
      show _ = PL.filter fun c => !decide (c ∈ acc)
      unfold PL
      rw [List.filter_filter]
      refine List.filter_congr fun x _ => ?_
      simp
    rw [ec]
    array_get_dec
    refine oq_join_S (by omega) ?_
    array_get_dec
    refine bar_of ?_
    sizeOf_list_dec
    exact last _ _ _ _ _ _ _ Iff.rfl (sub_filter AL_nodup (chs_sub true acc))
  | false =>
    array_get_dec
    refine bar_of ?_
    sizeOf_list_dec
    refine last _ _ _ _ _ _ _ ⟨fun z => ?_, fun z => ?_⟩ rfl
    · rw [z]
      rfl
    · cases acc with
      | nil => rfl
      | cons x acc =>
        have : x ∈ chs false (x :: acc) := List.mem_filter.mpr ⟨hA x (by simp), by simp⟩
        rw [z] at this
        cases this
end K42
namespace K42
open PySem L2 Hz
local macro_rules | `(tactic| array_mem_dec) => `(tactic| (repeat' (first | (with_reducible first | refine w_kC ?_ | refine w_bop ?_ | refine w_tst ?_ | refine w_val ?_ | refine w_and ?_ | refine w_or ?_ | refine w_not ?_ | refine w_andV ?_ | refine w_orV ?_ | refine w_chain ?_ | refine w_ifK ?_ | refine w_nil ?_ | refine w_cons ?_ | refine w_tup ?_ | refine w_lst ?_ | refine w_call ?_ | refine w_neg ?_ | refine w_b1 ?_ | refine w_bn ?_ | refine w_isi ?_ | refine w_met ?_ | refine w_pnone ?_ | refine w_psome ?_ | refine w_cut ?_ | refine w_yes ?_ | refine w_list ?_ | refine w_tuple ?_ | refine w_str ?_ | refine w_range1 ?_ | refine w_range2 ?_ | refine w_range3 ?_ | refine w_seq ?_ | refine w_next ?_ | refine w_break ?_ | refine w_cont ?_ | refine w_drop ?_ | refine w_ret ?_ | refine w_retN ?_ | refine w_if ?_ | refine w_asg ?_ | refine w_raise ?_ | refine w_fld ?_ | refine w_seta ?_ | refine w_auga ?_ | refine w_seti ?_ | refine w_mut ?_ | refine w_frz ?_ | refine w_new ?_ | refine w_ext ?_ | refine w_for ?_ | refine w_lc ?_ | refine w_tryA ?_ | refine w_try ?_ | refine tb_b ?_ | refine ti_b ?_ | refine ts_b ?_ | refine we_nx ?_ | refine we_rt ?_ | refine we_ex ?_ | refine wn_nx ?_ | refine wn_rt ?_ | refine wn_bk ?_ | refine wn_ct ?_ | refine wn_ex ?_ | refine wl_nx ?_ | refine wl_rt ?_ | refine wl_bk ?_ | refine wl_ct ?_ | refine wl_ex ?_ | refine wx_nx ?_ | refine wx_rt ?_ | refine wx_bk ?_ | refine wx_ct ?_ | refine wx_ex ?_ | refine wh_nx ?_ | refine wh_rt ?_ | refine wh_bk ?_ | refine wh_ct ?_ | refine vw_i ?_ | refine vw_s ?_ | refine vw_b ?_ | refine vw_n ?_ | refine vw_l ?_ | refine vw_t ?_ | refine vw_sc ?_ | refine vw_o ?_ | refine mv_nil ?_ | refine mv_cons ?_ | refine oq_tgNil ?_ | refine oq_tgCons ?_ | refine it2_t ?_ | refine it2_f ?_ | refine it2_not ?_ | refine tlG_l ?_ | refine ttG_t ?_ | refine oq_add_i ?_ | refine oq_sub ?_ | refine oq_lt ?_ | refine oq_le ?_ | refine oq_gt ?_ | refine oq_ge ?_ | refine oq_eq_i ?_ | refine oq_ne_i ?_ | refine oq_eq_s ?_ | refine oq_ne_s ?_ | refine oq_eq_b ?_ | refine oq_ne_b ?_ | refine oq_is ?_ | refine oq_isNot ?_ | refine oq_in_s ?_ | refine oq_notIn_s ?_ | refine oq_len_l ?_ | refine oq_len_t ?_ | refine oq_int ?_ | refine oq_abs ?_ | refine oq_ord ?_ | refine oq_cut_l ?_ | refine oq_cut_t ?_ | refine oq_list_l ?_ | refine oq_list_t ?_ | refine oq_tuple_l ?_ | refine oq_tuple_t ?_ | refine oq_max2 ?_ | refine oq_min2 ?_ | refine oq_some ?_ | refine oq_len_sc ?_ | refine oq_eq_il ?_ | refine oq_ne_il ?_ | refine oq_eq_it ?_ | refine oq_ne_it ?_ | refine oq_lt_il ?_ | refine oq_lt_it ?_ | refine oq_iadd_i ?_ | refine oq_isT ?_ | refine oq_isNotT ?_ | refine pr2_of ?_ | refine w_par ?_ | refine al_go ?_ | refine oq_in_S ?_ | refine oq_notIn_S ?_ | refine oq_inT_S ?_) | ((with_reducible apply w_kV); exact rfl) | ((with_reducible apply oq_setv2); (simp only [List.set, wipeA]; exact rfl)) | ((with_reducible apply cal_of); exact rfl; (try simp only [List.cons_append, List.nil_append, List.append_nil])) | ((with_reducible apply oq_tgTup); exact rfl) | ((with_reducible apply oq_ix_lk); exact rfl) | ((with_reducible apply oq_ix_tk); exact rfl) | ((with_reducible apply w_aug); exact rfl) | ((with_reducible apply vw_r); (first | assumption | exact aset_same)) | ((with_reducible apply cel_of); (first | assumption | exact aset_same)) | ((with_reducible apply ceo_of); (first | assumption | exact aset_same)) | ((with_reducible apply tlG_r); (first | assumption | exact aset_same)) | ((with_reducible apply fr_of); (first | assumption | exact aset_same)) | ((with_reducible apply fd_cons); exact trivial) | ((with_reducible apply fd_nil); exact trivial) | ((with_reducible apply oq_isiB (b := true)); exact rfl) | ((with_reducible apply oq_isiB (b := false)); exact rfl) | ((with_reducible apply w_xi); exact rfl; exact decide_eq_true rfl; exact if_pos rfl) | ((with_reducible apply w_xf); exact rfl; exact decide_eq_true rfl; exact rfl) | ((with_reducible apply w_frzS); exact rfl; (first | assumption | exact aset_same); (try simp only [List.set])) | ((with_reducible apply oq_ixN_k); exact rfl; (try simp only [List.set, Int.reduceToNat])) | ((with_reducible apply oq_mod); (first | omega | decide)) | ((with_reducible apply oq_div); (first | omega | decide)) | ((with_reducible apply oq_mul); (first | omega | decide)) | ((with_reducible apply oq_pow); (first | omega | decide)) | ((with_reducible apply oq_shl); (first | omega | decide)) | ((with_reducible apply oq_shr); (first | omega | decide)) | ((with_reducible apply oq_add_s); (first | omega | decide)) | ((with_reducible apply oq_len_s); (first | omega | decide)) | ((with_reducible apply oq_cut_s); (first | omega | decide)) | ((with_reducible apply oq_append); (first | omega | decide)) | ((with_reducible apply oq_insert); (first | omega | decide)) | ((with_reducible apply oq_rep); (first | omega | decide)) | ((with_reducible apply oq_cat); (first | omega | decide)) | ((with_reducible apply rg1_of); (first | omega | decide)) | ((with_reducible apply rg2_of); (first | omega | decide)) | ((with_reducible apply lok); exact rfl) | ((with_reducible refine it2_dec ?_ ?_) <;> intro))))
local macro_rules | `(tactic| array_get_dec) => `(tactic| (repeat' (first | (with_reducible first | refine w_kC ?_ | refine w_bop ?_ | refine w_tst ?_ | refine w_val ?_ | refine w_and ?_ | refine w_or ?_ | refine w_not ?_ | refine w_andV ?_ | refine w_orV ?_ | refine w_chain ?_ | refine w_ifK ?_ | refine w_nil ?_ | refine w_cons ?_ | refine w_tup ?_ | refine w_lst ?_ | refine w_call ?_ | refine w_neg ?_ | refine w_b1 ?_ | refine w_bn ?_ | refine w_isi ?_ | refine w_met ?_ | refine w_pnone ?_ | refine w_psome ?_ | refine w_cut ?_ | refine w_yes ?_ | refine w_list ?_ | refine w_tuple ?_ | refine w_str ?_ | refine w_range1 ?_ | refine w_range2 ?_ | refine w_range3 ?_ | refine w_seqB ?_ | refine w_next ?_ | refine w_break ?_ | refine w_cont ?_ | refine w_drop ?_ | refine w_ret ?_ | refine w_retN ?_ | refine w_if ?_ | refine w_asg ?_ | refine w_raise ?_ | refine w_fld ?_ | refine w_seta ?_ | refine w_auga ?_ | refine w_seti ?_ | refine w_mut ?_ | refine w_frz ?_ | refine w_new ?_ | refine w_ext ?_ | refine w_for ?_ | refine w_lc ?_ | refine w_tryA ?_ | refine w_try ?_ | refine tb_b ?_ | refine ti_b ?_ | refine ts_b ?_ | refine we_nx ?_ | refine we_rt ?_ | refine we_ex ?_ | refine wn_nx ?_ | refine wn_rt ?_ | refine wn_bk ?_ | refine wn_ct ?_ | refine wn_ex ?_ | refine wl_nx ?_ | refine wl_rt ?_ | refine wl_bk ?_ | refine wl_ct ?_ | refine wl_ex ?_ | refine wx_nx ?_ | refine wx_rt ?_ | refine wx_bk ?_ | refine wx_ct ?_ | refine wx_ex ?_ | refine wh_nx ?_ | refine wh_rt ?_ | refine wh_bk ?_ | refine wh_ct ?_ | refine vw_i ?_ | refine vw_s ?_ | refine vw_b ?_ | refine vw_n ?_ | refine vw_l ?_ | refine vw_t ?_ | refine vw_sc ?_ | refine vw_o ?_ | refine mv_nil ?_ | refine mv_cons ?_ | refine oq_tgNil ?_ | refine oq_tgCons ?_ | refine it2_t ?_ | refine it2_f ?_ | refine it2_not ?_ | refine tlG_l ?_ | refine ttG_t ?_ | refine oq_add_i ?_ | refine oq_sub ?_ | refine oq_lt ?_ | refine oq_le ?_ | refine oq_gt ?_ | refine oq_ge ?_ | refine oq_eq_i ?_ | refine oq_ne_i ?_ | refine oq_eq_s ?_ | refine oq_ne_s ?_ | refine oq_eq_b ?_ | refine oq_ne_b ?_ | refine oq_is ?_ | refine oq_isNot ?_ | refine oq_in_s ?_ | refine oq_notIn_s ?_ | refine oq_len_l ?_ | refine oq_len_t ?_ | refine oq_int ?_ | refine oq_abs ?_ | refine oq_ord ?_ | refine oq_cut_l ?_ | refine oq_cut_t ?_ | refine oq_list_l ?_ | refine oq_list_t ?_ | refine oq_tuple_l ?_ | refine oq_tuple_t ?_ | refine oq_max2 ?_ | refine oq_min2 ?_ | refine oq_some ?_ | refine oq_len_sc ?_ | refine oq_eq_il ?_ | refine oq_ne_il ?_ | refine oq_eq_it ?_ | refine oq_ne_it ?_ | refine oq_lt_il ?_ | refine oq_lt_it ?_ | refine oq_iadd_i ?_ | refine oq_isT ?_ | refine oq_isNotT ?_ | refine pr2_of ?_ | refine w_par ?_ | refine al_go ?_ | refine oq_in_S ?_ | refine oq_notIn_S ?_ | refine oq_inT_S ?_) | ((with_reducible apply w_kV); exact rfl) | ((with_reducible apply oq_setv2); (simp only [List.set, wipeA]; exact rfl)) | ((with_reducible apply cal_of); exact rfl; (try simp only [List.cons_append, List.nil_append, List.append_nil])) | ((with_reducible apply oq_tgTup); exact rfl) | ((with_reducible apply oq_ix_lk); exact rfl) | ((with_reducible apply oq_ix_tk); exact rfl) | ((with_reducible apply w_aug); exact rfl) | ((with_reducible apply vw_r); (first | assumption | exact aset_same)) | ((with_reducible apply cel_of); (first | assumption | exact aset_same)) | ((with_reducible apply ceo_of); (first | assumption | exact aset_same)) | ((with_reducible apply tlG_r); (first | assumption | exact aset_same)) | ((with_reducible apply fr_of); (first | assumption | exact aset_same)) | ((with_reducible apply fd_cons); exact trivial) | ((with_reducible apply fd_nil); exact trivial) | ((with_reducible apply oq_isiB (b := true)); exact rfl) | ((with_reducible apply oq_isiB (b := false)); exact rfl) | ((with_reducible apply w_xi); exact rfl; exact decide_eq_true rfl; exact if_pos rfl) | ((with_reducible apply w_xf); exact rfl; exact decide_eq_true rfl; exact rfl) | ((with_reducible apply w_frzS); exact rfl; (first | assumption | exact aset_same); (try simp only [List.set])) | ((with_reducible apply oq_ixN_k); exact rfl; (try simp only [List.set, Int.reduceToNat])) | ((with_reducible apply oq_mod); (first | omega | decide)) | ((with_reducible apply oq_div); (first | omega | decide)) | ((with_reducible apply oq_mul); (first | omega | decide)) | ((with_reducible apply oq_pow); (first | omega | decide)) | ((with_reducible apply oq_shl); (first | omega | decide)) | ((with_reducible apply oq_shr); (first | omega | decide)) | ((with_reducible apply oq_add_s); (first | omega | decide)) | ((with_reducible apply oq_len_s); (first | omega | decide)) | ((with_reducible apply oq_cut_s); (first | omega | decide)) | ((with_reducible apply oq_append); (first | omega | decide)) | ((with_reducible apply oq_insert); (first | omega | decide)) | ((with_reducible apply oq_rep); (first | omega | decide)) | ((with_reducible apply oq_cat); (first | omega | decide)) | ((with_reducible apply rg1_of); (first | omega | decide)) | ((with_reducible apply rg2_of); (first | omega | decide)) | ((with_reducible apply lok); exact rfl) | ((with_reducible refine it2_dec ?_ ?_) <;> intro))))
local macro_rules | `(tactic| sizeOf_list_dec) => `(tactic| (try simp only [List.set, Int.reduceToNat, List.map_cons, List.map_nil, Nat.reduceSub, List.reduceReplicate, List.cons_append, List.nil_append, wipeA, aset_aset, List.getElem?_cons_zero, List.getElem?_cons_succ]))
variable {CP CF CI gX : Nat} {α : AH} {Q : QD} {E : QX}
theorem rl_inl {β : Type} {u : β → D} {p : Nat} (h : Q (.int (p : Int)) α) : rl u (.inl p) Q α := h
theorem rl_inr {β : Type} {u : β → D} {b : β} (h : Q (u b) α) : rl u (.inr b) Q α := h
theorem ls_read {line p l : List Nat} {a : Int} (e : line = p ++ l) (ha : a = (p.length : Int)) (hne : l ≠ []) (hb : ∀ c ∈ line, c < 0x110000) (hl : line.length ≤ 4200) (h : rl atiD (rdA l p.length) Q α) : f_law_read CP CF CI gX [.str (S line), .int a] α Q E := by
  subst ha
  unfold f_law_read m_law_read
  refine w_runP rfl ?_
  have e0 : (PySem.Str.ofString "") = S [] := by decide
  have e1 : (PySem.Str.ofString "**") = S [42, 42] := by decide
  have e2 : (PySem.Str.ofString "*") = S [42] := by decide
  have e3 : (PySem.Str.ofString "?") = S [63] := by decide
  have e4 : (PySem.Str.ofString "[") = S [91] := by decide
  have e5 : (PySem.Str.ofString "/") = S [47] := by decide
  simp only [e0, e1, e2, e3, e4, e5]
  have ll : line.length = p.length + l.length := by rw [e]; simp
  cases l with
  | nil => exact absurd rfl hne
  | cons c l =>
  simp only [List.length_cons] at ll
  sizeOf_list_dec
  array_get_dec
  rw [S_chars]
  refine lc_fm AL (fun k => .str (S [k])) (fun k => !decide (k = 47)) (fun k => .str (S [k])) rfl (by decide) trivial (fun k hk => ?_) ?_
  · refine ⟨_, rfl, fun R hR => ?_, fun _ R hR => ?_⟩
    · sizeOf_list_dec
      array_mem_dec
      have : decide (S [k] = S [47]) = decide (k = 47) := decide_eq_decide.mpr ⟨fun h => by simpa using S_inj.mp h, fun h => by rw [h]⟩
      rw [this]
      exact hR
    · sizeOf_list_dec
      array_mem_dec
      exact hR
  rw [show (AL.filter fun k => !decide (k = 47)) = PL from rfl]
  array_get_dec
  refine oq_join_S (by decide) ?_
  array_get_dec
  refine bar_of ?_
  sizeOf_list_dec
  array_get_dec
  rw [show (p.length : Int) + 2 = ((p.length + 2 : Nat) : Int) by omega]
  refine oq_cut_s (by rw [S_len]; omega) ?_
  rw [S_cut, e, List.drop_left, show p.length + 2 - p.length = 2 by omega, ← e]
  have ix0 : ∀ {R : D → Prop}, R (.str (S [c])) → oq (dIx (.str (S line)) (.int (p.length : Int))) R := fun h => oq_ix_at e rfl (by omega) h
  unfold rdA at h
  by_cases h42 : c = 42
  · subst h42
    rw [if_pos (show (42 :: l).head? = some 42 from rfl)] at h
    by_cases h43 : l.head? = some 42
    · rw [if_pos (show ((42 :: l).drop 1).head? = some 42 from h43)] at h
      obtain ⟨l', rfl⟩ : ∃ l', l = 42 :: l' := by
        cases l with
        | nil => cases h43
        | cons y b' => exact ⟨b', by rw [Option.some.inj h43]⟩
      array_get_dec
      · rw [arst_self]
        exact h
      · rename_i h1
        exact absurd rfl h1
    · rw [if_neg (show ¬ ((42 :: l).drop 1).head? = some 42 from h43)] at h
      have no : ¬ S ((42 :: l).take 2) = S [42, 42] := fun z => by
        have := S_inj.mp z
        cases l with
        | nil => cases this
        | cons y b' =>
          simp at this
          exact h43 (by rw [this]; rfl)
      array_get_dec
      · rename_i h1
        exact absurd h1 no
      (refine bar_of ?_; sizeOf_list_dec; array_get_dec)
      refine ix0 ?_
      array_get_dec
      · rename_i h1
        exact absurd (S_inj.mp h1) (by decide)
      (refine bar_of ?_; sizeOf_list_dec; array_get_dec)
      refine ix0 ?_
      array_get_dec
      · refine ix0 ?_
        array_get_dec
        rw [decide_eq_true (show S [42] = S [42] from rfl), arst_self]
        exact h
      · rename_i h1
        exact absurd rfl h1
  · have no : ¬ S ((c :: l).take 2) = S [42, 42] := fun z => by
      have := S_inj.mp z
      cases l with
      | nil => cases this
      | cons y b' =>
        simp at this
        exact h42 this.1
    have no2 : ¬ S [c] = S [42] := fun z => h42 (by have := S_inj.mp z; injection this)
    rw [if_neg (show ¬ (c :: l).head? = some 42 from fun z => h42 (Option.some.inj z))] at h
    array_get_dec
    · rename_i h1
      exact absurd h1 no
    (refine bar_of ?_; sizeOf_list_dec; array_get_dec)
    refine ix0 ?_
    array_get_dec
    · rename_i h1
      have := S_inj.mp h1
      injection this with this
      subst this
      rw [if_neg (show ¬ (91 :: l).head? = some 63 from fun z => absurd (Option.some.inj z) (by decide)), if_pos (show (91 :: l).head? = some 91 from rfl)] at h
      refine ls_set (p := p) (l := l) e hb hl ?_
      have h : rl atiD (rdS l p.length) Q α := h
      generalize rdS l p.length = z at h
      cases z with
      | inl q =>
        show (Md.rt _ _ _)
        array_mem_dec
        rw [arst_self]
        exact h
      | inr ch =>
        show (Md.rt _ _ _)
        array_mem_dec
        rw [arst_self]
        exact h
    rename_i h91
    have h91 : ¬ (c :: l).head? = some 91 := fun z => h91 (by rw [Option.some.inj z])
    (refine bar_of ?_; sizeOf_list_dec; array_get_dec)
    refine ix0 ?_
    array_get_dec
    · rename_i h1
      exact absurd h1 no2
    refine ix0 ?_
    array_get_dec
    · rename_i h1
      have := S_inj.mp h1
      injection this with this
      rw [if_pos (show (c :: l).head? = some 63 by rw [this]; rfl)] at h
      refine ix0 ?_
      array_get_dec
      rw [decide_eq_false no2, arst_self]
      exact h
    rename_i h63
    rw [if_neg (show ¬ (c :: l).head? = some 63 from fun z => h63 (by rw [Option.some.inj z])), if_neg h91] at h
    (refine bar_of ?_; sizeOf_list_dec; array_get_dec)
    refine ix0 ?_
    array_get_dec
    · rename_i h1
      rw [if_pos (show (c :: l).headD 0 ∈ AL from h1)] at h
      refine ix0 ?_
      array_get_dec
      rw [arst_self]
      exact h
    · rename_i h1
      rw [if_neg (show ¬ (c :: l).headD 0 ∈ AL from h1)] at h
      (refine bar_of ?_; sizeOf_list_dec; array_get_dec)
      rw [arst_self]
      exact h
def lnD2 (p : Pt) : D := .tuple [.list (p.1.map atD), .bool p.2]
theorem ls_line {line : List Nat} (hne : line ≠ []) (hb : ∀ c ∈ line, c < 0x110000) (hl : line.length ≤ 4200) (h : rl lnD2 (rdP line) Q α) : f_law_line CP CF CI gX [.str (S line)] α Q E := by
  unfold f_law_line m_law_line
  refine w_runP rfl ?_
  have e1 : (PySem.Str.ofString "!") = S [33] := by decide
  simp only [e1]
  sizeOf_list_dec
  array_get_dec
  intro c hc
  array_get_dec
  (refine bar_of ?_; sizeOf_list_dec; array_get_dec)
  obtain ⟨x, l, el⟩ : ∃ x l, line = x :: l := by
    cases line with
    | nil => exact absurd rfl hne
    | cons x l => exact ⟨x, l, rfl⟩
  refine oq_ix_at (p := []) el rfl (by omega) ?_
  array_get_dec
  refine bar_of ?_
  sizeOf_list_dec
  have en : decide (S [x] = S [33]) = decide (line.head? = some 33) := by
    rw [el]
    refine decide_eq_decide.mpr ⟨fun z => ?_, fun z => ?_⟩
    · have := S_inj.mp z
      injection this with this
      rw [this]
      rfl
    · rw [show x = 33 from Option.some.inj z]
  have e33 : (if line.head? = some 33 then 1 else 0) = if decide (line.head? = some 33) = true then 1 else 0 := by simp
  have el1 : (if decide (line.head? = some 33) = true then 1 else 0) = line.length ↔ line = [33] := by
    rw [el]
    constructor
    · intro z
      by_cases q : decide ((x :: l).head? = some 33) = true
      · rw [if_pos q] at z
        have : l = [] := by
          simp only [List.length_cons] at z
          exact List.eq_nil_of_length_eq_zero (by omega)
        rw [this, Option.some.inj (of_decide_eq_true q)]
      · rw [if_neg q] at z
        simp at z
    · intro z
      rw [z]
      rfl
  unfold rdP at h
  rw [e33] at h
  rw [en]
  have hlt : (if decide (line.head? = some 33) = true then 1 else 0) ≤ 1 := by split <;> omega
  have h1 : 1 ≤ line.length := by rw [el]; simp
  generalize decide (line.head? = some 33) = neg at h el1 hlt ⊢
  clear el en e33
  refine w_seqI (fun ρ α' => α' = aset α c (.list []) ∧ ρ = [some (.str (S line)), some (dref c), some (.bool neg), some (.int ((if neg = true then 1 else 0 : Nat) : Int)), none, none]) ?_ fun Z hZ => ?_
  rotate_left
  · cases neg with
    | true =>
      array_get_dec
      refine ⟨.int 1, rfl, ?_⟩
      array_get_dec
      exact hZ _ _ ⟨rfl, rfl⟩
    | false =>
      array_get_dec
      refine ⟨.int 0, rfl, ?_⟩
      array_get_dec
      exact hZ _ _ ⟨rfl, rfl⟩
  rintro _ _ ⟨rfl, rfl⟩
  by_cases h0 : line = [33]
  · rw [if_pos (el1.mpr h0), el1.mpr h0, h0] at h
    array_get_dec
    · rw [arst_new hc, arst_self]
      exact h
    · rename_i h2
      exact absurd (by rw [h0]) h2
  rw [if_neg (fun z => h0 (el1.mp z))] at h
  array_get_dec
  · rename_i h2
    exact absurd (S_inj.mp h2) h0
  generalize (if neg = true then 1 else 0) = a0 at h hlt ⊢
  refine bar_of ?_
  refine w_seqI (fun ρ α' => ∃ (ts : List At_) (v3 v4 v5 : Option D), rl lnD2 (.inr (ts, neg)) Q α ∧ ts.length ≤ 40 ∧ α' = aset α c (.list (ts.map atD)) ∧ ρ = [some (.str (S line)), some (dref c), some (.bool neg), v3, v4, v5]) ?_ fun Z hZ => ?_
  · rintro _ _ ⟨ts, v3, v4, v5, h, hts, rfl, rfl⟩
    array_get_dec
    rw [adel_aset hc, arst_self]
    exact h
  array_get_dec
  refine oq_len_S (by omega) ?_
  array_get_dec
  have hr : ∃ r0, rdL line.length line a0 [] = r0 := ⟨_, rfl⟩
  obtain ⟨r0, hr⟩ := hr
  rw [hr] at h
  refine for_nums (fun j ρ α' => ∃ (ts : List At_) (a n : Nat) (v4 v5 : Option D), line.length - a ≤ n ∧ line.length - a ≤ line.length - j ∧ rdL n line a ts = r0 ∧ ts.length ≤ 40 ∧ α' = aset α c (.list (ts.map atD)) ∧ ρ = [some (.str (S line)), some (dref c), some (.bool neg), some (.int (a : Int)), v4, v5]) ⟨[], a0, line.length, none, none, by omega, by omega, hr, by simp, rfl, rfl⟩ ?_ ?_
  · rintro _ _ ⟨ts, a, n, v4, v5, hn, hj, hr, h40, rfl, rfl⟩
    have e : r0 = .inr ts := by
      rw [← hr]
      cases n with
      | zero => rfl
      | succ n => rw [rdL, if_neg (by omega)]
    subst e
    exact hZ _ _ ⟨ts, _, _, _, h, h40, rfl, rfl⟩
  · rintro j hj _ _ ⟨ts, a, n, v4, v5, hn, hj2, hr, h40, rfl, rfl⟩ Y hY
    refine oq_setv ?_
    sizeOf_list_dec
    array_get_dec
    refine oq_len_S (by omega) ?_
    array_get_dec
    rotate_left
    · exact hY _ _ ⟨ts, a, n, _, _, hn, by omega, hr, h40, rfl, rfl⟩
    rename_i h2
    obtain ⟨n, rfl⟩ : ∃ n', n = n' + 1 := ⟨n - 1, by omega⟩
    rw [rdL, if_pos (by omega)] at hr
    refine ls_read (p := line.take a) (l := line.drop a) (List.take_append_drop a line).symm (by simp; omega) (fun z => ?_) hb hl ?_
    · have := congrArg List.length z
      simp at this
      omega
    rw [show (line.take a).length = a by simp; omega]
    cases hz : rdA (line.drop a) a with
    | inl p =>
      rw [hz] at hr
      subst hr
      refine rl_inl ?_
      array_get_dec
      (refine bar_of ?_; sizeOf_list_dec; array_get_dec)
      rw [arst_new hc, arst_self]
      exact h
    | inr tb =>
      obtain ⟨t, b⟩ := tb
      have hgt := rdA_gt hz
      rw [hz] at hr
      have hr : (if bad ts t = true then Sum.inl a else rdL n line b (ts ++ [t])) = r0 := hr
      refine rl_inr ?_
      simp only [atiD]
      array_get_dec
      (refine bar_of ?_; sizeOf_list_dec; array_get_dec)
      refine bar_of ?_
      refine w_seqI (fun ρ α' => bad ts t = false ∧ α' = aset α c (.list (ts.map atD)) ∧ ρ = [some (.str (S line)), some (dref c), some (.bool neg), some (.int (a : Int)), some (.int (0 + (j : Int))), some (.tuple [atD t, .int (b : Int)])]) ?_ fun Z2 hZ2 => ?_
      · rintro _ _ ⟨hb, rfl, rfl⟩
        rw [hb] at hr
        have h40' : ts.length < 40 := by
          unfold bad at hb
          simp at hb
          omega
        array_get_dec
        refine oq_append (by simp; omega) ?_
        array_get_dec
        (refine bar_of ?_; sizeOf_list_dec; array_get_dec)
        exact hY _ _ ⟨ts ++ [t], b, n, _, _, by omega, by omega, hr, by simp; omega, by simp, rfl⟩
      · have fin : bad ts t = false → Z2 [some (.str (S line)), some (dref c), some (.bool neg), some (.int (a : Int)), some (.int (0 + (j : Int))), some (.tuple [atD t, .int (b : Int)])] (aset α c (.list (ts.map atD))) := fun hb => hZ2 _ _ ⟨hb, rfl, rfl⟩
        have err : bad ts t = true → Q (.int (a : Int)) (arst α (aset α c (.list (ts.map atD)))) := fun hb => by
          rw [hb] at hr
          have hr : Sum.inl a = r0 := hr
          subst hr
          rw [arst_new hc, arst_self]
          exact h
        clear hr hZ2 hY
        obtain ⟨cs, r⟩ := t
        simp only [atD] at fin ⊢
        rcases List.eq_nil_or_concat ts with rfl | ⟨ini, u, rfl⟩
        · cases r
          all_goals array_get_dec
          all_goals first | exact fin rfl | (rename_i h2; simp at h2; done)
        · rw [List.concat_eq_append] at *
          have hu : bad (ini ++ [u]) (cs, r) = (decide ((ini ++ [u]).length = 40) || (r && u.2)) := by
            unfold bad
            rw [List.getLast?_concat]
            obtain ⟨uc, ur⟩ := u
            cases ur <;> rfl
          rw [hu] at fin err
          simp only [List.map_append, List.map_cons, List.map_nil] at fin err ⊢
          obtain ⟨uc, ur⟩ := u
          simp only [atD] at fin err ⊢
          cases r
          · array_get_dec
            · rename_i h2
              exact err (by simp at h2 ⊢; omega)
            · rename_i h2
              exact fin (by simp at h2 ⊢; omega)
          · array_get_dec
            · rename_i h2
              exact err (by simp at h2 ⊢; omega)
            · rename_i h2 h3
              refine oq_ix_last ?_
              cases ur
              · array_get_dec
                exact fin (by simp at h2 ⊢; omega)
              · array_get_dec
                exact err (by simp)
            · rename_i h2
              simp at h2
theorem ls_due {text : List Nat} (hb : ∀ c ∈ text, c < 0x110000) (hl : text.length ≤ 4200) (h : rl (fun ps => .list (ps.map lnD2)) (rdT (lin 10 text) 0 []) Q α) : f_law_due CP CF CI gX [.str (S text)] α Q E := by
  unfold f_law_due m_law_due
  refine w_runP rfl ?_
  have e1 : (PySem.Str.ofString "\n") = S [10] := by decide
  have e2 : (PySem.Str.ofString "") = S [] := by decide
  have e3 : (PySem.Str.ofString "#") = S [35] := by decide
  simp only [e1, e2, e3]
  sizeOf_list_dec
  array_get_dec
  intro c hc
  array_get_dec
  (refine bar_of ?_; sizeOf_list_dec; array_get_dec)
  (refine bar_of ?_; sizeOf_list_dec; array_get_dec)
  refine oq_split_S (by decide) (by omega) ?_
  array_get_dec
  have h4 : ∀ l ∈ lin 10 text, l.length ≤ 4200 ∧ ∀ c ∈ l, c < 0x110000 := by
    have mem : ∀ (t l : List Nat), l ∈ lin 10 t → ∀ c ∈ l, c ∈ t := by
      intro t
      induction t with
      | nil =>
        intro l h c hc
        rw [lin] at h
        rw [List.mem_singleton.mp h] at hc
        cases hc
      | cons x t ih =>
        intro l h c hc
        rw [lin] at h
        split at h
        · rcases List.mem_cons.mp h with rfl | h
          · cases hc
          · exact List.mem_cons_of_mem _ (ih l h c hc)
        · obtain ⟨a, r, e⟩ := lin_ne 10 t
          rw [e] at h
          rcases List.mem_cons.mp h with rfl | h
          · rcases List.mem_cons.mp hc with rfl | hc
            · simp
            · exact List.mem_cons_of_mem _ (ih a (by rw [e]; simp) c hc)
          · exact List.mem_cons_of_mem _ (ih l (by rw [e]; simp [h]) c hc)
    intro l hm
    exact ⟨Nat.le_trans (lin_len 10 text l hm) hl, fun c hc => hb c (mem text l hm c hc)⟩
  refine for_inv (fun r ρ α' => ∃ (ls : List (List Nat)) (a : Nat) (acc : List Pt) (v3 v4 : Option D), r = ls.map (fun l => .str (S l)) ∧ (∀ l ∈ ls, l.length ≤ 4200 ∧ ∀ c ∈ l, c < 0x110000) ∧ acc.length ≤ 20 ∧ rl (fun ps => .list (ps.map lnD2)) (rdT ls a acc) Q α ∧ α' = aset α c (.list (acc.map lnD2)) ∧ ρ = [some (.str (S text)), some (dref c), some (.int (a : Int)), v3, v4]) ⟨_, 0, [], none, none, rfl, h4, by simp, h, rfl, rfl⟩ (fun _ _ _ _ => trivial) ?_ ?_
  · rintro _ _ ⟨ls, a, acc, v3, v4, e, _, _, h, rfl, rfl⟩
    cases ls with
    | cons l ls => cases e
    | nil =>
      array_get_dec
      (refine bar_of ?_; sizeOf_list_dec; array_get_dec)
      rw [adel_aset hc, arst_self]
      exact h
  · rintro d r _ _ ⟨ls, a, acc, v3, v4, e, h4, h20, h, rfl, rfl⟩ X hX
    cases ls with
    | nil => cases e
    | cons l ls =>
    injection e with e1 e2
    subst e1 e2
    rw [rdT] at h
    obtain ⟨hl4, hb4⟩ := h4 l (by simp)
    have h4' : ∀ x ∈ ls, x.length ≤ 4200 ∧ ∀ c ∈ x, c < 0x110000 := fun x hx => h4 x (by simp [hx])
    refine oq_setv ?_
    sizeOf_list_dec
    refine w_seqI (fun ρ α' => ∃ (acc : List Pt) (v4 : Option D), acc.length ≤ 20 ∧ rl (fun ps => .list (ps.map lnD2)) (rdT ls (a + l.length + 1) acc) Q α ∧ α' = aset α c (.list (acc.map lnD2)) ∧ ρ = [some (.str (S text)), some (dref c), some (.int (a : Int)), some (.str (S l)), v4]) ?_ fun Z hZ => ?_
    · rintro _ _ ⟨acc, v4, h20, h, rfl, rfl⟩
      array_get_dec
      refine oq_len_S (by omega) ?_
      array_get_dec
      sizeOf_list_dec
      exact hX _ _ ⟨ls, a + l.length + 1, acc, some (.str (S l)), v4, rfl, h4', h20, h, rfl, rfl⟩
    · array_get_dec
      · rename_i h1
        have h1 : l = [] := S_inj.mp h1
        rw [if_pos (.inl h1)] at h
        exact hZ _ _ ⟨acc, v4, h20, h, rfl, rfl⟩
      · rename_i h1
        have h1 : l ≠ [] := fun z => h1 (by rw [z])
        obtain ⟨x, l', el⟩ : ∃ x l', l = x :: l' := by
          cases l with
          | nil => exact absurd rfl h1
          | cons x l => exact ⟨x, l, rfl⟩
        refine oq_ix_at (p := []) el rfl (by omega) ?_
        array_get_dec
        · rename_i h2
          have := S_inj.mp h2
          injection this with this
          rw [if_pos (.inr (by rw [el, this]; rfl))] at h
          exact hZ _ _ ⟨acc, v4, h20, h, rfl, rfl⟩
        all_goals (rename_i h2 h3; rw [if_neg (by
            rintro (z | z)
            · exact h1 z
            · rw [el] at z
              exact h2 (by rw [Option.some.inj z]))] at h)
        · rw [if_pos (by simp at h3; omega)] at h
          rw [arst_new hc, arst_self]
          exact h
        · have h3 : ¬ acc.length = 20 := by simp at h3; omega
          rw [if_neg h3] at h
          (refine bar_of ?_; sizeOf_list_dec; array_get_dec)
          refine ls_line h1 hb4 hl4 ?_
          cases hz : rdP l with
          | inl p =>
            rw [hz] at h
            refine rl_inl ?_
            array_get_dec
            (refine bar_of ?_; sizeOf_list_dec; array_get_dec)
            rw [arst_new hc, arst_self]
            exact h
          | inr t =>
            rw [hz] at h
            refine rl_inr ?_
            array_get_dec
            refine bar_of ?_
            sizeOf_list_dec
            simp only [lnD2]
            array_get_dec
            (refine bar_of ?_; sizeOf_list_dec; array_get_dec)
            refine oq_append (by simp; omega) ?_
            array_get_dec
            rw [aset_aset]
            exact hZ _ _ ⟨acc ++ [t], _, by simp; omega, h, by simp [lnD2], rfl⟩
end K42
namespace K42
open PySem L2 Hz
local macro_rules | `(tactic| array_mem_dec) => `(tactic| (repeat' (first | (with_reducible first | refine w_kC ?_ | refine w_bop ?_ | refine w_tst ?_ | refine w_val ?_ | refine w_and ?_ | refine w_or ?_ | refine w_not ?_ | refine w_andV ?_ | refine w_orV ?_ | refine w_chain ?_ | refine w_ifK ?_ | refine w_nil ?_ | refine w_cons ?_ | refine w_tup ?_ | refine w_lst ?_ | refine w_call ?_ | refine w_neg ?_ | refine w_b1 ?_ | refine w_bn ?_ | refine w_isi ?_ | refine w_met ?_ | refine w_pnone ?_ | refine w_psome ?_ | refine w_cut ?_ | refine w_yes ?_ | refine w_list ?_ | refine w_tuple ?_ | refine w_str ?_ | refine w_range1 ?_ | refine w_range2 ?_ | refine w_range3 ?_ | refine w_seq ?_ | refine w_next ?_ | refine w_break ?_ | refine w_cont ?_ | refine w_drop ?_ | refine w_ret ?_ | refine w_retN ?_ | refine w_if ?_ | refine w_asg ?_ | refine w_raise ?_ | refine w_fld ?_ | refine w_seta ?_ | refine w_auga ?_ | refine w_seti ?_ | refine w_mut ?_ | refine w_frz ?_ | refine w_new ?_ | refine w_ext ?_ | refine w_for ?_ | refine w_lc ?_ | refine w_tryA ?_ | refine w_try ?_ | refine tb_b ?_ | refine ti_b ?_ | refine ts_b ?_ | refine we_nx ?_ | refine we_rt ?_ | refine we_ex ?_ | refine wn_nx ?_ | refine wn_rt ?_ | refine wn_bk ?_ | refine wn_ct ?_ | refine wn_ex ?_ | refine wl_nx ?_ | refine wl_rt ?_ | refine wl_bk ?_ | refine wl_ct ?_ | refine wl_ex ?_ | refine wx_nx ?_ | refine wx_rt ?_ | refine wx_bk ?_ | refine wx_ct ?_ | refine wx_ex ?_ | refine wh_nx ?_ | refine wh_rt ?_ | refine wh_bk ?_ | refine wh_ct ?_ | refine vw_i ?_ | refine vw_s ?_ | refine vw_b ?_ | refine vw_n ?_ | refine vw_l ?_ | refine vw_t ?_ | refine vw_sc ?_ | refine vw_o ?_ | refine mv_nil ?_ | refine mv_cons ?_ | refine oq_tgNil ?_ | refine oq_tgCons ?_ | refine it2_t ?_ | refine it2_f ?_ | refine it2_not ?_ | refine tlG_l ?_ | refine ttG_t ?_ | refine oq_add_i ?_ | refine oq_sub ?_ | refine oq_lt ?_ | refine oq_le ?_ | refine oq_gt ?_ | refine oq_ge ?_ | refine oq_eq_i ?_ | refine oq_ne_i ?_ | refine oq_eq_s ?_ | refine oq_ne_s ?_ | refine oq_eq_b ?_ | refine oq_ne_b ?_ | refine oq_is ?_ | refine oq_isNot ?_ | refine oq_in_s ?_ | refine oq_notIn_s ?_ | refine oq_len_l ?_ | refine oq_len_t ?_ | refine oq_int ?_ | refine oq_abs ?_ | refine oq_ord ?_ | refine oq_cut_l ?_ | refine oq_cut_t ?_ | refine oq_list_l ?_ | refine oq_list_t ?_ | refine oq_tuple_l ?_ | refine oq_tuple_t ?_ | refine oq_max2 ?_ | refine oq_min2 ?_ | refine oq_some ?_ | refine oq_len_sc ?_ | refine oq_eq_il ?_ | refine oq_ne_il ?_ | refine oq_eq_it ?_ | refine oq_ne_it ?_ | refine oq_lt_il ?_ | refine oq_lt_it ?_ | refine oq_iadd_i ?_ | refine oq_isT ?_ | refine oq_isNotT ?_ | refine pr2_of ?_ | refine w_par ?_ | refine al_go ?_ | refine oq_in_S ?_ | refine oq_notIn_S ?_ | refine oq_inT_S ?_) | ((with_reducible apply w_kV); exact rfl) | ((with_reducible apply oq_setv2); (simp only [List.set, wipeA]; exact rfl)) | ((with_reducible apply cal_of); exact rfl; (try simp only [List.cons_append, List.nil_append, List.append_nil])) | ((with_reducible apply oq_tgTup); exact rfl) | ((with_reducible apply oq_ix_lk); exact rfl) | ((with_reducible apply oq_ix_tk); exact rfl) | ((with_reducible apply w_aug); exact rfl) | ((with_reducible apply vw_r); (first | assumption | exact aset_same)) | ((with_reducible apply cel_of); (first | assumption | exact aset_same)) | ((with_reducible apply ceo_of); (first | assumption | exact aset_same)) | ((with_reducible apply tlG_r); (first | assumption | exact aset_same)) | ((with_reducible apply fr_of); (first | assumption | exact aset_same)) | ((with_reducible apply fd_cons); exact trivial) | ((with_reducible apply fd_nil); exact trivial) | ((with_reducible apply oq_isiB (b := true)); exact rfl) | ((with_reducible apply oq_isiB (b := false)); exact rfl) | ((with_reducible apply w_xi); exact rfl; exact decide_eq_true rfl; exact if_pos rfl) | ((with_reducible apply w_xf); exact rfl; exact decide_eq_true rfl; exact rfl) | ((with_reducible apply w_frzS); exact rfl; (first | assumption | exact aset_same); (try simp only [List.set])) | ((with_reducible apply oq_ixN_k); exact rfl; (try simp only [List.set, Int.reduceToNat])) | ((with_reducible apply oq_mod); (first | omega | decide)) | ((with_reducible apply oq_div); (first | omega | decide)) | ((with_reducible apply oq_mul); (first | omega | decide)) | ((with_reducible apply oq_pow); (first | omega | decide)) | ((with_reducible apply oq_shl); (first | omega | decide)) | ((with_reducible apply oq_shr); (first | omega | decide)) | ((with_reducible apply oq_add_s); (first | omega | decide)) | ((with_reducible apply oq_len_s); (first | omega | decide)) | ((with_reducible apply oq_cut_s); (first | omega | decide)) | ((with_reducible apply oq_append); (first | omega | decide)) | ((with_reducible apply oq_insert); (first | omega | decide)) | ((with_reducible apply oq_rep); (first | omega | decide)) | ((with_reducible apply oq_cat); (first | omega | decide)) | ((with_reducible apply rg1_of); (first | omega | decide)) | ((with_reducible apply rg2_of); (first | omega | decide)) | ((with_reducible apply lok); exact rfl) | ((with_reducible refine it2_dec ?_ ?_) <;> intro))))
local macro_rules | `(tactic| array_get_dec) => `(tactic| (repeat' (first | (with_reducible first | refine w_kC ?_ | refine w_bop ?_ | refine w_tst ?_ | refine w_val ?_ | refine w_and ?_ | refine w_or ?_ | refine w_not ?_ | refine w_andV ?_ | refine w_orV ?_ | refine w_chain ?_ | refine w_ifK ?_ | refine w_nil ?_ | refine w_cons ?_ | refine w_tup ?_ | refine w_lst ?_ | refine w_call ?_ | refine w_neg ?_ | refine w_b1 ?_ | refine w_bn ?_ | refine w_isi ?_ | refine w_met ?_ | refine w_pnone ?_ | refine w_psome ?_ | refine w_cut ?_ | refine w_yes ?_ | refine w_list ?_ | refine w_tuple ?_ | refine w_str ?_ | refine w_range1 ?_ | refine w_range2 ?_ | refine w_range3 ?_ | refine w_seqB ?_ | refine w_next ?_ | refine w_break ?_ | refine w_cont ?_ | refine w_drop ?_ | refine w_ret ?_ | refine w_retN ?_ | refine w_if ?_ | refine w_asg ?_ | refine w_raise ?_ | refine w_fld ?_ | refine w_seta ?_ | refine w_auga ?_ | refine w_seti ?_ | refine w_mut ?_ | refine w_frz ?_ | refine w_new ?_ | refine w_ext ?_ | refine w_for ?_ | refine w_lc ?_ | refine w_tryA ?_ | refine w_try ?_ | refine tb_b ?_ | refine ti_b ?_ | refine ts_b ?_ | refine we_nx ?_ | refine we_rt ?_ | refine we_ex ?_ | refine wn_nx ?_ | refine wn_rt ?_ | refine wn_bk ?_ | refine wn_ct ?_ | refine wn_ex ?_ | refine wl_nx ?_ | refine wl_rt ?_ | refine wl_bk ?_ | refine wl_ct ?_ | refine wl_ex ?_ | refine wx_nx ?_ | refine wx_rt ?_ | refine wx_bk ?_ | refine wx_ct ?_ | refine wx_ex ?_ | refine wh_nx ?_ | refine wh_rt ?_ | refine wh_bk ?_ | refine wh_ct ?_ | refine vw_i ?_ | refine vw_s ?_ | refine vw_b ?_ | refine vw_n ?_ | refine vw_l ?_ | refine vw_t ?_ | refine vw_sc ?_ | refine vw_o ?_ | refine mv_nil ?_ | refine mv_cons ?_ | refine oq_tgNil ?_ | refine oq_tgCons ?_ | refine it2_t ?_ | refine it2_f ?_ | refine it2_not ?_ | refine tlG_l ?_ | refine ttG_t ?_ | refine oq_add_i ?_ | refine oq_sub ?_ | refine oq_lt ?_ | refine oq_le ?_ | refine oq_gt ?_ | refine oq_ge ?_ | refine oq_eq_i ?_ | refine oq_ne_i ?_ | refine oq_eq_s ?_ | refine oq_ne_s ?_ | refine oq_eq_b ?_ | refine oq_ne_b ?_ | refine oq_is ?_ | refine oq_isNot ?_ | refine oq_in_s ?_ | refine oq_notIn_s ?_ | refine oq_len_l ?_ | refine oq_len_t ?_ | refine oq_int ?_ | refine oq_abs ?_ | refine oq_ord ?_ | refine oq_cut_l ?_ | refine oq_cut_t ?_ | refine oq_list_l ?_ | refine oq_list_t ?_ | refine oq_tuple_l ?_ | refine oq_tuple_t ?_ | refine oq_max2 ?_ | refine oq_min2 ?_ | refine oq_some ?_ | refine oq_len_sc ?_ | refine oq_eq_il ?_ | refine oq_ne_il ?_ | refine oq_eq_it ?_ | refine oq_ne_it ?_ | refine oq_lt_il ?_ | refine oq_lt_it ?_ | refine oq_iadd_i ?_ | refine oq_isT ?_ | refine oq_isNotT ?_ | refine pr2_of ?_ | refine w_par ?_ | refine al_go ?_ | refine oq_in_S ?_ | refine oq_notIn_S ?_ | refine oq_inT_S ?_) | ((with_reducible apply w_kV); exact rfl) | ((with_reducible apply oq_setv2); (simp only [List.set, wipeA]; exact rfl)) | ((with_reducible apply cal_of); exact rfl; (try simp only [List.cons_append, List.nil_append, List.append_nil])) | ((with_reducible apply oq_tgTup); exact rfl) | ((with_reducible apply oq_ix_lk); exact rfl) | ((with_reducible apply oq_ix_tk); exact rfl) | ((with_reducible apply w_aug); exact rfl) | ((with_reducible apply vw_r); (first | assumption | exact aset_same)) | ((with_reducible apply cel_of); (first | assumption | exact aset_same)) | ((with_reducible apply ceo_of); (first | assumption | exact aset_same)) | ((with_reducible apply tlG_r); (first | assumption | exact aset_same)) | ((with_reducible apply fr_of); (first | assumption | exact aset_same)) | ((with_reducible apply fd_cons); exact trivial) | ((with_reducible apply fd_nil); exact trivial) | ((with_reducible apply oq_isiB (b := true)); exact rfl) | ((with_reducible apply oq_isiB (b := false)); exact rfl) | ((with_reducible apply w_xi); exact rfl; exact decide_eq_true rfl; exact if_pos rfl) | ((with_reducible apply w_xf); exact rfl; exact decide_eq_true rfl; exact rfl) | ((with_reducible apply w_frzS); exact rfl; (first | assumption | exact aset_same); (try simp only [List.set])) | ((with_reducible apply oq_ixN_k); exact rfl; (try simp only [List.set, Int.reduceToNat])) | ((with_reducible apply oq_mod); (first | omega | decide)) | ((with_reducible apply oq_div); (first | omega | decide)) | ((with_reducible apply oq_mul); (first | omega | decide)) | ((with_reducible apply oq_pow); (first | omega | decide)) | ((with_reducible apply oq_shl); (first | omega | decide)) | ((with_reducible apply oq_shr); (first | omega | decide)) | ((with_reducible apply oq_add_s); (first | omega | decide)) | ((with_reducible apply oq_len_s); (first | omega | decide)) | ((with_reducible apply oq_cut_s); (first | omega | decide)) | ((with_reducible apply oq_append); (first | omega | decide)) | ((with_reducible apply oq_insert); (first | omega | decide)) | ((with_reducible apply oq_rep); (first | omega | decide)) | ((with_reducible apply oq_cat); (first | omega | decide)) | ((with_reducible apply rg1_of); (first | omega | decide)) | ((with_reducible apply rg2_of); (first | omega | decide)) | ((with_reducible apply lok); exact rfl) | ((with_reducible refine it2_dec ?_ ?_) <;> intro))))
local macro_rules | `(tactic| sizeOf_list_dec) => `(tactic| (try simp only [List.set, Int.reduceToNat, List.map_cons, List.map_nil, Nat.reduceSub, List.reduceReplicate, List.cons_append, List.nil_append, wipeA, aset_aset, List.getElem?_cons_zero, List.getElem?_cons_succ]))
variable {CP CF CI gX : Nat} {α : AH} {Q : QD} {E : QX}
def PC : List (List Nat) := [[42], [42, 42], [63], [91], [93], [33], [45], [97], [98], [126], [47], [65, 45], [97, 45, 99], [99, 45, 97], [91, 97, 45, 99, 93], [91, 33, 45, 120, 93], [91, 33], [35], [32], [91, 45], [10], [10], [91, 46, 45, 57, 93], [91, 33, 45, 46, 48, 45, 126, 93], [91, 93], [91, 33, 93], [90], [55], [91, 97, 98], [120, 93], [94], [123], [10, 35], [10, 33], [95]]
theorem PC_ok : ∀ l ∈ PC, l.length ≤ 8 ∧ ∀ c ∈ l, c < 128 := by decide
theorem repL_mem {l : List Nat} {c : Nat} : ∀ {n : Nat}, c ∈ repL l n → c ∈ l
  | 0, h => by cases h
  | n + 1, h => by
    rw [repL] at h
    rcases List.mem_append.mp h with z | z
    · exact z
    · exact repL_mem z
theorem tx_go {ns : List Int} {a b : Int} {p : Addr} (hns : ns.length ≤ 63) (hp : α p = some (.list [.int a, .int b])) (q : ∀ (t : List Nat) a' b', t.length ≤ 400 → (∀ c ∈ t, c < 128) → Q (.str (S t)) (aset α p (.list [.int a', .int b']))) : f_law_text CP CF CI gX [dref p, scriptD ns] α Q E := by
  unfold f_law_text m_law_text
  refine w_runP rfl ?_
  have z0 : (PySem.Str.ofString "*") = S [42] := by decide
  have z1 : (PySem.Str.ofString "**") = S [42, 42] := by decide
  have z2 : (PySem.Str.ofString "?") = S [63] := by decide
  have z3 : (PySem.Str.ofString "[") = S [91] := by decide
  have z4 : (PySem.Str.ofString "]") = S [93] := by decide
  have z5 : (PySem.Str.ofString "!") = S [33] := by decide
  have z6 : (PySem.Str.ofString "-") = S [45] := by decide
  have z7 : (PySem.Str.ofString "a") = S [97] := by decide
  have z8 : (PySem.Str.ofString "b") = S [98] := by decide
  have z9 : (PySem.Str.ofString "~") = S [126] := by decide
  have z10 : (PySem.Str.ofString "/") = S [47] := by decide
  have z11 : (PySem.Str.ofString "A-") = S [65, 45] := by decide
  have z12 : (PySem.Str.ofString "a-c") = S [97, 45, 99] := by decide
  have z13 : (PySem.Str.ofString "c-a") = S [99, 45, 97] := by decide
  have z14 : (PySem.Str.ofString "[a-c]") = S [91, 97, 45, 99, 93] := by decide
  have z15 : (PySem.Str.ofString "[!-x]") = S [91, 33, 45, 120, 93] := by decide
  have z16 : (PySem.Str.ofString "[!") = S [91, 33] := by decide
  have z17 : (PySem.Str.ofString "#") = S [35] := by decide
  have z18 : (PySem.Str.ofString " ") = S [32] := by decide
  have z19 : (PySem.Str.ofString "[-") = S [91, 45] := by decide
  have z20 : (PySem.Str.ofString "\n") = S [10] := by decide
  have z21 : (PySem.Str.ofString "[.-9]") = S [91, 46, 45, 57, 93] := by decide
  have z22 : (PySem.Str.ofString "[!-.0-~]") = S [91, 33, 45, 46, 48, 45, 126, 93] := by decide
  have z23 : (PySem.Str.ofString "[]") = S [91, 93] := by decide
  have z24 : (PySem.Str.ofString "[!]") = S [91, 33, 93] := by decide
  have z25 : (PySem.Str.ofString "Z") = S [90] := by decide
  have z26 : (PySem.Str.ofString "7") = S [55] := by decide
  have z27 : (PySem.Str.ofString "[ab") = S [91, 97, 98] := by decide
  have z28 : (PySem.Str.ofString "x]") = S [120, 93] := by decide
  have z29 : (PySem.Str.ofString "^") = S [94] := by decide
  have z30 : (PySem.Str.ofString "{") = S [123] := by decide
  have z31 : (PySem.Str.ofString "\n#") = S [10, 35] := by decide
  have z32 : (PySem.Str.ofString "\n!") = S [10, 33] := by decide
  have z33 : (PySem.Str.ofString "_") = S [95] := by decide
  have z34 : (PySem.Str.ofString "[ab]") = S [91, 97, 98, 93] := by decide
  have z35 : (PySem.Str.ofString "a*\n") = S [97, 42, 10] := by decide
  have z36 : (PySem.Str.ofString "") = S [] := by decide
  simp only [z0, z1, z2, z3, z4, z5, z6, z7, z8, z9, z10, z11, z12, z13, z14, z15, z16, z17, z18, z19, z20, z21, z22, z23, z24, z25, z26, z27, z28, z29, z30, z31, z32, z33, z34, z35, z36]
  sizeOf_list_dec
  array_get_dec
  (refine bar_of ?_; sizeOf_list_dec; array_get_dec)
  refine oq_of (z := .list (PC.map fun l => .str (S l))) rfl ?_
  array_get_dec
  (refine bar_of ?_; sizeOf_list_dec; array_get_dec)
  refine bar_of ?_
  sizeOf_list_dec
  have hl : PC.length = 35 := rfl
  rw [← aset_id hp]
  refine w_seqI (fun ρ α' => ∃ (t : List Nat) (a b : Int) (v4 : Option D), t.length ≤ 192 ∧ (∀ c ∈ t, c < 128) ∧ α' = aset α p (.list [.int a, .int b]) ∧ ρ = [some (dref p), some (scriptD ns), some (.list (PC.map fun l => .str (S l))), some (.str (S t)), v4, none]) ?_ fun Z hZ => ?_
  rotate_left
  · array_get_dec
    refine draw_ok aset_same (by decide) fun d a1 b1 d0 d1 => ?_
    rw [aset_aset]
    array_get_dec
    refine for_nums (fun j ρ α' => ∃ (t : List Nat) (a b : Int) (v4 : Option D), t.length ≤ 8 * j ∧ (∀ c ∈ t, c < 128) ∧ α' = aset α p (.list [.int a, .int b]) ∧ ρ = [some (dref p), some (scriptD ns), some (.list (PC.map fun l => .str (S l))), some (.str (S t)), v4, none]) ⟨[], a1, b1, none, by simp, (by intro c hc; cases hc), rfl, rfl⟩ ?_ ?_
    · rintro _ _ ⟨t, a, b, v4, h1, h2, rfl, rfl⟩
      exact hZ _ _ ⟨t, a, b, v4, by omega, h2, rfl, rfl⟩
    · rintro j hj _ _ ⟨t, a, b, v4, h1, h2, rfl, rfl⟩ X hX
      refine oq_setv ?_
      sizeOf_list_dec
      array_get_dec
      refine draw_ok aset_same (by rw [List.length_map, hl]; decide) fun i a2 b2 i0 i1 => ?_
      rw [aset_aset]
      array_get_dec
      obtain ⟨k, rfl⟩ := Int.eq_ofNat_of_zero_le i0
      have hk : k < PC.length := by
        rw [List.length_map] at i1
        exact Int.ofNat_lt.mp i1
      refine oq_ix_mf (k := k) rfl hk ?_
      obtain ⟨g1, g2⟩ := PC_ok PC[k] (List.getElem_mem hk)
      generalize PC[k] = l at g1 g2 ⊢
      array_get_dec
      refine oq_add_S (by omega) ?_
      array_get_dec
      refine hX _ _ ⟨t ++ l, a2, b2, _, by rw [List.length_append]; omega, fun c hc => ?_, rfl, rfl⟩
      rcases List.mem_append.mp hc with z | z
      · exact h2 c z
      · exact g2 c z
  rintro _ _ ⟨t, a, b, v4, h1, h2, rfl, rfl⟩
  array_get_dec
  refine draw_ok aset_same (by decide) fun k a1 b1 k0 k1 => ?_
  rw [aset_aset]
  array_get_dec
  refine bar_of ?_
  sizeOf_list_dec
  refine w_seqI (fun ρ α' => ∃ (t : List Nat) (a b : Int), t.length ≤ 250 ∧ (∀ c ∈ t, c < 128) ∧ α' = aset α p (.list [.int a, .int b]) ∧ ρ = [some (dref p), some (scriptD ns), some (.list (PC.map fun l => .str (S l))), some (.str (S t)), v4, some (.int k)]) ?_ fun Z hZ => ?_
  rotate_left
  · array_get_dec
    · refine draw_ok aset_same (by decide) fun i a2 b2 i0 i1 => ?_
      rw [aset_aset]
      array_get_dec
      refine oq_rep_S (by simp; omega) ?_
      array_get_dec
      refine draw_ok aset_same (by decide) fun j a3 b3 j0 j1 => ?_
      rw [aset_aset]
      array_get_dec
      refine oq_rep_S (by simp; omega) ?_
      have r1 := repL_len [91, 97, 98, 93] i.toNat
      have r2 := repL_len [97] (38 + j).toNat
      simp only [List.length_cons, List.length_nil] at r1 r2
      array_get_dec
      refine oq_add_S (by omega) ?_
      array_get_dec
      refine oq_add_S (by rw [List.length_append]; omega) ?_
      array_get_dec
      refine hZ _ _ ⟨_, a3, b3, ?_, fun c hc => ?_, rfl, rfl⟩
      · rw [List.length_append, List.length_append]
        omega
      · rcases List.mem_append.mp hc with z | z
        · rcases List.mem_append.mp z with z | z
          · exact (show ∀ c ∈ [91, 97, 98, 93], c < 128 by decide) c (repL_mem z)
          · exact (show ∀ c ∈ [97], c < 128 by decide) c (repL_mem z)
        · exact h2 c z
    · exact hZ _ _ ⟨t, _, _, by omega, h2, rfl, rfl⟩
  clear h1 h2
  rintro _ _ ⟨t, a, b, h1, h2, rfl, rfl⟩
  refine w_seqI (fun ρ α' => ∃ (t : List Nat) (a b : Int), t.length ≤ 400 ∧ (∀ c ∈ t, c < 128) ∧ α' = aset α p (.list [.int a, .int b]) ∧ ρ = [some (dref p), some (scriptD ns), some (.list (PC.map fun l => .str (S l))), some (.str (S t)), v4, some (.int k)]) ?_ fun Z hZ => ?_
  rotate_left
  · array_get_dec
    · refine draw_ok aset_same (by decide) fun i a2 b2 i0 i1 => ?_
      rw [aset_aset]
      array_get_dec
      refine oq_rep_S (by simp; omega) ?_
      have r1 := repL_len [97, 42, 10] (18 + i).toNat
      simp only [List.length_cons, List.length_nil] at r1
      array_get_dec
      refine oq_add_S (by omega) ?_
      array_get_dec
      refine hZ _ _ ⟨_, a2, b2, ?_, fun c hc => ?_, rfl, rfl⟩
      · rw [List.length_append]
        omega
      · rcases List.mem_append.mp hc with z | z
        · exact (show ∀ c ∈ [97, 42, 10], c < 128 by decide) c (repL_mem z)
        · exact h2 c z
    · exact hZ _ _ ⟨t, _, _, by omega, h2, rfl, rfl⟩
  clear h1 h2
  rintro _ _ ⟨t, a, b, h1, h2, rfl, rfl⟩
  array_get_dec
  rw [aset_id hp, arst_old ⟨_, hp⟩, arst_self]
  exact q t a b h1 h2
theorem to_go {text : List Nat} (hl : text.length ≤ 400) (h : rl (fun ps => .list (ps.map (ptD CP))) (rdT (lin 10 text) 0 []) Q α) : f_law_told_of CP CF CI gX [.str (S text)] α Q E := by
  unfold f_law_told_of m_law_told_of
  refine w_runP rfl ?_
  sizeOf_list_dec
  array_get_dec
  refine pp_go (by omega) (fun l hm => Nat.le_trans (lin_len 10 text l hm) (by omega)) ?_
  generalize rdT (lin 10 text) 0 [] = z at h
  cases z with
  | inr ps =>
    refine rs_inr ?_
    array_get_dec
    rw [arst_self]
    exact h
  | inl k =>
    refine rs_inl ?_
    array_get_dec
    refine ⟨true, if_pos rfl, it2_t ?_⟩
    intro a dx
    sizeOf_list_dec
    array_mem_dec
    rw [arst_self, Int.zero_add]
    exact h
end K42
namespace K42
open PySem L2 Hz
local macro_rules | `(tactic| array_mem_dec) => `(tactic| (repeat' (first | (with_reducible first | refine w_kC ?_ | refine w_bop ?_ | refine w_tst ?_ | refine w_val ?_ | refine w_and ?_ | refine w_or ?_ | refine w_not ?_ | refine w_andV ?_ | refine w_orV ?_ | refine w_chain ?_ | refine w_ifK ?_ | refine w_nil ?_ | refine w_cons ?_ | refine w_tup ?_ | refine w_lst ?_ | refine w_call ?_ | refine w_neg ?_ | refine w_b1 ?_ | refine w_bn ?_ | refine w_isi ?_ | refine w_met ?_ | refine w_pnone ?_ | refine w_psome ?_ | refine w_cut ?_ | refine w_yes ?_ | refine w_list ?_ | refine w_tuple ?_ | refine w_str ?_ | refine w_range1 ?_ | refine w_range2 ?_ | refine w_range3 ?_ | refine w_seq ?_ | refine w_next ?_ | refine w_break ?_ | refine w_cont ?_ | refine w_drop ?_ | refine w_ret ?_ | refine w_retN ?_ | refine w_if ?_ | refine w_asg ?_ | refine w_raise ?_ | refine w_fld ?_ | refine w_seta ?_ | refine w_auga ?_ | refine w_seti ?_ | refine w_mut ?_ | refine w_frz ?_ | refine w_new ?_ | refine w_ext ?_ | refine w_for ?_ | refine w_lc ?_ | refine w_tryA ?_ | refine w_try ?_ | refine tb_b ?_ | refine ti_b ?_ | refine ts_b ?_ | refine we_nx ?_ | refine we_rt ?_ | refine we_ex ?_ | refine wn_nx ?_ | refine wn_rt ?_ | refine wn_bk ?_ | refine wn_ct ?_ | refine wn_ex ?_ | refine wl_nx ?_ | refine wl_rt ?_ | refine wl_bk ?_ | refine wl_ct ?_ | refine wl_ex ?_ | refine wx_nx ?_ | refine wx_rt ?_ | refine wx_bk ?_ | refine wx_ct ?_ | refine wx_ex ?_ | refine wh_nx ?_ | refine wh_rt ?_ | refine wh_bk ?_ | refine wh_ct ?_ | refine vw_i ?_ | refine vw_s ?_ | refine vw_b ?_ | refine vw_n ?_ | refine vw_l ?_ | refine vw_t ?_ | refine vw_sc ?_ | refine vw_o ?_ | refine mv_nil ?_ | refine mv_cons ?_ | refine oq_tgNil ?_ | refine oq_tgCons ?_ | refine it2_t ?_ | refine it2_f ?_ | refine it2_not ?_ | refine tlG_l ?_ | refine ttG_t ?_ | refine oq_add_i ?_ | refine oq_sub ?_ | refine oq_lt ?_ | refine oq_le ?_ | refine oq_gt ?_ | refine oq_ge ?_ | refine oq_eq_i ?_ | refine oq_ne_i ?_ | refine oq_eq_s ?_ | refine oq_ne_s ?_ | refine oq_eq_b ?_ | refine oq_ne_b ?_ | refine oq_is ?_ | refine oq_isNot ?_ | refine oq_in_s ?_ | refine oq_notIn_s ?_ | refine oq_len_l ?_ | refine oq_len_t ?_ | refine oq_int ?_ | refine oq_abs ?_ | refine oq_ord ?_ | refine oq_cut_l ?_ | refine oq_cut_t ?_ | refine oq_list_l ?_ | refine oq_list_t ?_ | refine oq_tuple_l ?_ | refine oq_tuple_t ?_ | refine oq_max2 ?_ | refine oq_min2 ?_ | refine oq_some ?_ | refine oq_len_sc ?_ | refine oq_eq_il ?_ | refine oq_ne_il ?_ | refine oq_eq_it ?_ | refine oq_ne_it ?_ | refine oq_lt_il ?_ | refine oq_lt_it ?_ | refine oq_iadd_i ?_ | refine oq_isT ?_ | refine oq_isNotT ?_ | refine pr2_of ?_ | refine w_par ?_ | refine al_go ?_ | refine oq_in_S ?_ | refine oq_notIn_S ?_ | refine oq_inT_S ?_ | refine vw_pt ?_) | ((with_reducible apply w_kV); exact rfl) | ((with_reducible apply oq_setv2); (simp only [List.set, wipeA]; exact rfl)) | ((with_reducible apply cal_of); exact rfl; (try simp only [List.cons_append, List.nil_append, List.append_nil])) | ((with_reducible apply oq_tgTup); exact rfl) | ((with_reducible apply oq_ix_lk); exact rfl) | ((with_reducible apply oq_ix_tk); exact rfl) | ((with_reducible apply w_aug); exact rfl) | ((with_reducible apply vw_r); (first | assumption | exact aset_same)) | ((with_reducible apply cel_of); (first | assumption | exact aset_same)) | ((with_reducible apply ceo_of); (first | assumption | exact aset_same)) | ((with_reducible apply tlG_r); (first | assumption | exact aset_same)) | ((with_reducible apply fr_of); (first | assumption | exact aset_same)) | ((with_reducible apply fd_cons); exact trivial) | ((with_reducible apply fd_nil); exact trivial) | ((with_reducible apply oq_isiB (b := true)); exact rfl) | ((with_reducible apply oq_isiB (b := false)); exact rfl) | ((with_reducible apply w_xi); exact rfl; exact decide_eq_true rfl; exact if_pos rfl) | ((with_reducible apply w_xf); exact rfl; exact decide_eq_true rfl; exact rfl) | ((with_reducible apply w_frzS); exact rfl; (first | assumption | exact aset_same); (try simp only [List.set])) | ((with_reducible apply oq_ixN_k); exact rfl; (try simp only [List.set, Int.reduceToNat])) | ((with_reducible apply oq_mod); (first | omega | decide)) | ((with_reducible apply oq_div); (first | omega | decide)) | ((with_reducible apply oq_mul); (first | omega | decide)) | ((with_reducible apply oq_pow); (first | omega | decide)) | ((with_reducible apply oq_shl); (first | omega | decide)) | ((with_reducible apply oq_shr); (first | omega | decide)) | ((with_reducible apply oq_add_s); (first | omega | decide)) | ((with_reducible apply oq_len_s); (first | omega | decide)) | ((with_reducible apply oq_cut_s); (first | omega | decide)) | ((with_reducible apply oq_append); (first | omega | decide)) | ((with_reducible apply oq_insert); (first | omega | decide)) | ((with_reducible apply oq_rep); (first | omega | decide)) | ((with_reducible apply oq_cat); (first | omega | decide)) | ((with_reducible apply rg1_of); (first | omega | decide)) | ((with_reducible apply rg2_of); (first | omega | decide)) | ((with_reducible apply lok); exact rfl) | ((with_reducible refine it2_dec ?_ ?_) <;> intro))))
local macro_rules | `(tactic| array_get_dec) => `(tactic| (repeat' (first | (with_reducible first | refine w_kC ?_ | refine w_bop ?_ | refine w_tst ?_ | refine w_val ?_ | refine w_and ?_ | refine w_or ?_ | refine w_not ?_ | refine w_andV ?_ | refine w_orV ?_ | refine w_chain ?_ | refine w_ifK ?_ | refine w_nil ?_ | refine w_cons ?_ | refine w_tup ?_ | refine w_lst ?_ | refine w_call ?_ | refine w_neg ?_ | refine w_b1 ?_ | refine w_bn ?_ | refine w_isi ?_ | refine w_met ?_ | refine w_pnone ?_ | refine w_psome ?_ | refine w_cut ?_ | refine w_yes ?_ | refine w_list ?_ | refine w_tuple ?_ | refine w_str ?_ | refine w_range1 ?_ | refine w_range2 ?_ | refine w_range3 ?_ | refine w_seqB ?_ | refine w_next ?_ | refine w_break ?_ | refine w_cont ?_ | refine w_drop ?_ | refine w_ret ?_ | refine w_retN ?_ | refine w_if ?_ | refine w_asg ?_ | refine w_raise ?_ | refine w_fld ?_ | refine w_seta ?_ | refine w_auga ?_ | refine w_seti ?_ | refine w_mut ?_ | refine w_frz ?_ | refine w_new ?_ | refine w_ext ?_ | refine w_for ?_ | refine w_lc ?_ | refine w_tryA ?_ | refine w_try ?_ | refine tb_b ?_ | refine ti_b ?_ | refine ts_b ?_ | refine we_nx ?_ | refine we_rt ?_ | refine we_ex ?_ | refine wn_nx ?_ | refine wn_rt ?_ | refine wn_bk ?_ | refine wn_ct ?_ | refine wn_ex ?_ | refine wl_nx ?_ | refine wl_rt ?_ | refine wl_bk ?_ | refine wl_ct ?_ | refine wl_ex ?_ | refine wx_nx ?_ | refine wx_rt ?_ | refine wx_bk ?_ | refine wx_ct ?_ | refine wx_ex ?_ | refine wh_nx ?_ | refine wh_rt ?_ | refine wh_bk ?_ | refine wh_ct ?_ | refine vw_i ?_ | refine vw_s ?_ | refine vw_b ?_ | refine vw_n ?_ | refine vw_l ?_ | refine vw_t ?_ | refine vw_sc ?_ | refine vw_o ?_ | refine mv_nil ?_ | refine mv_cons ?_ | refine oq_tgNil ?_ | refine oq_tgCons ?_ | refine it2_t ?_ | refine it2_f ?_ | refine it2_not ?_ | refine tlG_l ?_ | refine ttG_t ?_ | refine oq_add_i ?_ | refine oq_sub ?_ | refine oq_lt ?_ | refine oq_le ?_ | refine oq_gt ?_ | refine oq_ge ?_ | refine oq_eq_i ?_ | refine oq_ne_i ?_ | refine oq_eq_s ?_ | refine oq_ne_s ?_ | refine oq_eq_b ?_ | refine oq_ne_b ?_ | refine oq_is ?_ | refine oq_isNot ?_ | refine oq_in_s ?_ | refine oq_notIn_s ?_ | refine oq_len_l ?_ | refine oq_len_t ?_ | refine oq_int ?_ | refine oq_abs ?_ | refine oq_ord ?_ | refine oq_cut_l ?_ | refine oq_cut_t ?_ | refine oq_list_l ?_ | refine oq_list_t ?_ | refine oq_tuple_l ?_ | refine oq_tuple_t ?_ | refine oq_max2 ?_ | refine oq_min2 ?_ | refine oq_some ?_ | refine oq_len_sc ?_ | refine oq_eq_il ?_ | refine oq_ne_il ?_ | refine oq_eq_it ?_ | refine oq_ne_it ?_ | refine oq_lt_il ?_ | refine oq_lt_it ?_ | refine oq_iadd_i ?_ | refine oq_isT ?_ | refine oq_isNotT ?_ | refine pr2_of ?_ | refine w_par ?_ | refine al_go ?_ | refine oq_in_S ?_ | refine oq_notIn_S ?_ | refine oq_inT_S ?_ | refine vw_pt ?_) | ((with_reducible apply w_kV); exact rfl) | ((with_reducible apply oq_setv2); (simp only [List.set, wipeA]; exact rfl)) | ((with_reducible apply cal_of); exact rfl; (try simp only [List.cons_append, List.nil_append, List.append_nil])) | ((with_reducible apply oq_tgTup); exact rfl) | ((with_reducible apply oq_ix_lk); exact rfl) | ((with_reducible apply oq_ix_tk); exact rfl) | ((with_reducible apply w_aug); exact rfl) | ((with_reducible apply vw_r); (first | assumption | exact aset_same)) | ((with_reducible apply cel_of); (first | assumption | exact aset_same)) | ((with_reducible apply ceo_of); (first | assumption | exact aset_same)) | ((with_reducible apply tlG_r); (first | assumption | exact aset_same)) | ((with_reducible apply fr_of); (first | assumption | exact aset_same)) | ((with_reducible apply fd_cons); exact trivial) | ((with_reducible apply fd_nil); exact trivial) | ((with_reducible apply oq_isiB (b := true)); exact rfl) | ((with_reducible apply oq_isiB (b := false)); exact rfl) | ((with_reducible apply w_xi); exact rfl; exact decide_eq_true rfl; exact if_pos rfl) | ((with_reducible apply w_xf); exact rfl; exact decide_eq_true rfl; exact rfl) | ((with_reducible apply w_frzS); exact rfl; (first | assumption | exact aset_same); (try simp only [List.set])) | ((with_reducible apply oq_ixN_k); exact rfl; (try simp only [List.set, Int.reduceToNat])) | ((with_reducible apply oq_mod); (first | omega | decide)) | ((with_reducible apply oq_div); (first | omega | decide)) | ((with_reducible apply oq_mul); (first | omega | decide)) | ((with_reducible apply oq_pow); (first | omega | decide)) | ((with_reducible apply oq_shl); (first | omega | decide)) | ((with_reducible apply oq_shr); (first | omega | decide)) | ((with_reducible apply oq_add_s); (first | omega | decide)) | ((with_reducible apply oq_len_s); (first | omega | decide)) | ((with_reducible apply oq_cut_s); (first | omega | decide)) | ((with_reducible apply oq_append); (first | omega | decide)) | ((with_reducible apply oq_insert); (first | omega | decide)) | ((with_reducible apply oq_rep); (first | omega | decide)) | ((with_reducible apply oq_cat); (first | omega | decide)) | ((with_reducible apply rg1_of); (first | omega | decide)) | ((with_reducible apply rg2_of); (first | omega | decide)) | ((with_reducible apply lok); exact rfl) | ((with_reducible refine it2_dec ?_ ?_) <;> intro))))
local macro_rules | `(tactic| sizeOf_list_dec) => `(tactic| (try simp only [List.set, Int.reduceToNat, List.map_cons, List.map_nil, Nat.reduceSub, List.reduceReplicate, List.cons_append, List.nil_append, wipeA, aset_aset, List.getElem?_cons_zero, List.getElem?_cons_succ]))
variable {CP CF CI gX : Nat} {α : AH} {Q : QD} {E : QX}
theorem law_true (CP CF CI gX : Nat) (ns : List Int) (hns : ns.length ≤ 63) : f_law CP CF CI gX [scriptD ns] (fun _ => none) (fun d _ => d = .bool true) (fun _ _ => False) := by
  unfold f_law m_law
  refine w_runF rfl ?_
  sizeOf_list_dec
  generalize (fun _ => none : AH) = α0
  array_get_dec
  intro p hp
  array_get_dec
  (refine bar_of ?_; sizeOf_list_dec; array_get_dec)
  refine tx_go hns aset_same fun t a b hl hc => ?_
  rw [aset_aset]
  array_get_dec
  (refine bar_of ?_; sizeOf_list_dec; array_get_dec)
  have hc' : ∀ c ∈ t, c < 0x110000 := fun c h => Nat.lt_of_lt_of_le (hc c h) (by decide)
  refine ls_due hc' (by omega) ?_
  cases hr : rdT (lin 10 t) 0 [] with
  | inl k =>
    refine rl_inl ?_
    array_get_dec
    (refine bar_of ?_; sizeOf_list_dec; array_get_dec)
    refine to_go hl ?_
    rw [hr]
    refine rl_inl ?_
    array_get_dec
    (refine bar_of ?_; sizeOf_list_dec; array_get_dec)
    simp
  | inr ps =>
    obtain ⟨hP, hl20⟩ := rdT_ok _ _ _ _ (by intro p hp; cases hp) (by simp) hr
    refine rl_inr ?_
    array_get_dec
    (refine bar_of ?_; sizeOf_list_dec; array_get_dec)
    refine to_go hl ?_
    rw [hr]
    refine rl_inr ?_
    array_get_dec
    (refine bar_of ?_; sizeOf_list_dec; array_get_dec)
    (refine bar_of ?_; sizeOf_list_dec; array_get_dec)
    refine ls_go hP hl20 ?_
    array_get_dec
    (refine bar_of ?_; sizeOf_list_dec; array_get_dec)
    refine fps_go hP hl20 ?_
    array_get_dec
    have rw1 : rws 40 ps (ps.map fun p => (wrP p, some p)) := by
      have : ∀ qs : List Pt, (∀ p ∈ qs, okP p) → rws 40 qs (qs.map fun p => (wrP p, some p)) := by
        intro qs
        induction qs with
        | nil => exact fun _ => rws_nil 40
        | cons x qs ih =>
          intro hq
          obtain ⟨i1, i2, i3⟩ := ih fun p hp => hq p (by simp [hp])
          have hx := hq x (by simp)
          have hpl := fst_pln hx
          refine ⟨fun r hr => ?_, ?_, ?_⟩
          · rcases List.mem_cons.mp hr with rfl | hr
            · exact hpl
            · exact i1 r hr
          · rw [List.map_cons, List.filterMap_cons]
            simp only
            rw [i2]
          · have := pln_len hpl hx.2.2
            simp only [List.map_cons, List.sum_cons, List.length_cons, Nat.add_mul, Nat.one_mul] at i3 ⊢
            omega
      exact this ps hP
    have eg : glue [10] (ps.map wrP) = glue [10] ((ps.map fun p => (wrP p, some p)).map (·.1)) := by rw [List.map_map]; rfl
    rw [eg]
    refine pr_go rw1 hl20 (by omega) (by rw [List.length_map]; omega) ?_
    array_get_dec
    refine ls_go hP hl20 ?_
    array_get_dec
    refine to_go hl ?_
    rw [hr]
    refine rl_inr ?_
    array_get_dec
    refine ls_go hP hl20 ?_
    array_get_dec
    rfl
end K42
open PySem PySem.W PyProof.Rows in
set_option maxRecDepth 100000 in
set_option maxHeartbeats 0 in
theorem PySem.Challenge.cw_folderkin_k42_any_text_as_patterns_holds : PySem.Challenge.rw_folderkin_k42_any_text_as_patterns.Holds := by
  w_on; o_law; k_head; (case hw => w_witness2)
  k_fill
  refine Hz.walk_law (l := PySem.Challenge.rw_folderkin_k42_any_text_as_patterns) (k := 9) (x := "_law_script") rfl rfl ⟨rfl, by decide, by decide⟩ (fun w h Y => PySem.W.kIn_of Y) ?F
  case F =>
    intro w mg fa h KX G hmg
    refine' K42.all_mk KX G hmg ?aC_Pattern ?aC_FolderkinError ?aC_InvalidPattern ?a0 ?i0 ?l0 ?c0 ?k0 ?t0 ?a1 ?l1 ?c1 ?k1 ?a2 ?l2 ?c2 ?k2 ?a3 ?l3 ?c3 ?k3 ?a4 ?l4 ?c4 ?k4 ?a5 ?l5 ?c5 ?k5 ?a6 ?l6 ?c6 ?k6 ?a7 ?l7 ?c7 ?k7 ?a8 ?l8 ?c8 ?k8 ?a9 ?l9 ?c9 ?k9 ?a10 ?l10 ?c10 ?k10 ?a11 ?l11 ?c11 ?k11 ?a12 ?l12 ?c12 ?k12 ?a13 ?l13 ?c13 ?k13 ?a14 ?l14 ?c14 ?k14 ?a15 ?l15 ?c15 ?k15 ?a16 ?l16 ?c16 ?k16 ?a17 ?l17 ?c17 ?k17 ?a18 ?l18 ?c18 ?k18 ?a19 ?l19 ?c19 ?k19 ?a20 ?l20 ?c20 ?k20 ?pg_Pattern ?hd_Pattern ?po_Pattern ?sa_Pattern ?mk_Pattern ?kc_Pattern ?cha_Pattern ?chn_Pattern ?cht_Pattern ?chm_Pattern ?cic_Pattern ?cty_Pattern ?nNoneType_Pattern ?nbool_Pattern ?nint_Pattern ?nstr_Pattern ?nlist_Pattern ?ntuple_Pattern ?na_atoms_Pattern ?na_negated_Pattern ?lX ?cX ?oX ?vX ?fX ?ceX ?dX ?kX ?tX ?tpX ?topX ?suX ?e0_FolderkinError ?ez_FolderkinError ?e1_FolderkinError ?e2_FolderkinError ?e3_FolderkinError ?e4_FolderkinError ?e5_FolderkinError ?e6_FolderkinError ?e7_FolderkinError ?e8_FolderkinError ?e9_FolderkinError ?ea_FolderkinError ?eb_FolderkinError ?ec_FolderkinError ?ed_FolderkinError ?ee_FolderkinError ?ef_FolderkinError ?eg_FolderkinError ?eh_FolderkinError ?e0_InvalidPattern ?ez_InvalidPattern ?e1_InvalidPattern ?e2_InvalidPattern ?e3_InvalidPattern ?e4_InvalidPattern ?e5_InvalidPattern ?e6_InvalidPattern ?e7_InvalidPattern ?e8_InvalidPattern ?e9_InvalidPattern ?ea_InvalidPattern ?eb_InvalidPattern ?ec_InvalidPattern ?ed_InvalidPattern ?ee_InvalidPattern ?ef_InvalidPattern ?eg_InvalidPattern ?eh_InvalidPattern ?es_InvalidPattern_InvalidPattern ?es_InvalidPattern_FolderkinError ?z_ValueError ?z_bool ?z_int ?z_isinstance ?z_len ?z_list ?z_range ?z_tuple ?y_PLAIN ?y_LONGEST_SET ?y_CHARACTERS ?y_LEAST_RANGE ?y_MOST_PATTERNS ?y_MOST_ATOMS K42.law_true
    (case aC_Pattern => k_is)
    (case aC_FolderkinError => k_is)
    (case aC_InvalidPattern => k_is)
    (case ea_FolderkinError => k_is)
    (case ea_InvalidPattern => k_is)
    (case a0 => k_is)
    (case i0 => k_is)
    (case l0 => k_is)
    (case c0 => k_is)
    (case k0 => k_is)
    (case t0 => k_is)
    (case a1 => k_is)
    (case l1 => k_is)
    (case c1 => k_is)
    (case k1 => k_is)
    (case a2 => k_is)
    (case l2 => k_is)
    (case c2 => k_is)
    (case k2 => k_is)
    (case a3 => k_is)
    (case l3 => k_is)
    (case c3 => k_is)
    (case k3 => k_is)
    (case a4 => k_is)
    (case l4 => k_is)
    (case c4 => k_is)
    (case k4 => k_is)
    (case a5 => k_is)
    (case l5 => k_is)
    (case c5 => k_is)
    (case k5 => k_is)
    (case a6 => k_is)
    (case l6 => k_is)
    (case c6 => k_is)
    (case k6 => k_is)
    (case a7 => k_is)
    (case l7 => k_is)
    (case c7 => k_is)
    (case k7 => k_is)
    (case a8 => k_is)
    (case l8 => k_is)
    (case c8 => k_is)
    (case k8 => k_is)
    (case a9 => k_is)
    (case l9 => k_is)
    (case c9 => k_is)
    (case k9 => k_is)
    (case a10 => k_is)
    (case l10 => k_is)
    (case c10 => k_is)
    (case k10 => k_is)
    (case a11 => k_is)
    (case l11 => k_is)
    (case c11 => k_is)
    (case k11 => k_is)
    (case a12 => k_is)
    (case l12 => k_is)
    (case c12 => k_is)
    (case k12 => k_is)
    (case a13 => k_is)
    (case l13 => k_is)
    (case c13 => k_is)
    (case k13 => k_is)
    (case a14 => k_is)
    (case l14 => k_is)
    (case c14 => k_is)
    (case k14 => k_is)
    (case a15 => k_is)
    (case l15 => k_is)
    (case c15 => k_is)
    (case k15 => k_is)
    (case a16 => k_is)
    (case l16 => k_is)
    (case c16 => k_is)
    (case k16 => k_is)
    (case a17 => k_is)
    (case l17 => k_is)
    (case c17 => k_is)
    (case k17 => k_is)
    (case a18 => k_is)
    (case l18 => k_is)
    (case c18 => k_is)
    (case k18 => k_is)
    (case a19 => k_is)
    (case l19 => k_is)
    (case c19 => k_is)
    (case k19 => k_is)
    (case a20 => k_is)
    (case l20 => k_is)
    (case c20 => k_is)
    (case k20 => k_is)
    (case pg_Pattern => k_is)
    (case hd_Pattern => k_is)
    (case po_Pattern => k_is)
    (case sa_Pattern => k_is)
    (case mk_Pattern => k_is)
    (case kc_Pattern => k_is)
    (case cha_Pattern => k_is)
    (case chn_Pattern => k_is)
    (case cht_Pattern => k_is)
    (case chm_Pattern => k_is)
    (case cic_Pattern => k_is)
    (case cty_Pattern => k_is)
    (case nNoneType_Pattern => k_is)
    (case nbool_Pattern => k_is)
    (case nint_Pattern => k_is)
    (case nstr_Pattern => k_is)
    (case nlist_Pattern => k_is)
    (case ntuple_Pattern => k_is)
    (case na_atoms_Pattern => k_is)
    (case na_negated_Pattern => k_is)
    (case lX => k_is)
    (case cX => k_is)
    (case oX => k_is)
    (case vX => rfl)
    (case fX => decide +kernel)
    (case ceX => k_is)
    (case dX => k_is)
    (case kX => k_is)
    (case tX => k_is)
    (case tpX => k_is)
    (case topX => decide +kernel)
    (case suX => k_is)
    (case e0_FolderkinError => k_is)
    (case ez_FolderkinError => rfl)
    (case e1_FolderkinError => k_is)
    (case e2_FolderkinError => k_is)
    (case e3_FolderkinError => k_is)
    (case e4_FolderkinError => k_is)
    (case e5_FolderkinError => k_is)
    (case e6_FolderkinError => k_is)
    (case e7_FolderkinError => ks_is)
    (case e8_FolderkinError => k_is)
    (case e9_FolderkinError => k_is)
    (case eb_FolderkinError => k_is)
    (case ec_FolderkinError => k_is)
    (case ed_FolderkinError => k_is)
    (case ee_FolderkinError => k_is)
    (case ef_FolderkinError => k_is)
    (case eg_FolderkinError => k_is)
    (case eh_FolderkinError => k_is)
    (case e0_InvalidPattern => k_is)
    (case ez_InvalidPattern => rfl)
    (case e1_InvalidPattern => k_is)
    (case e2_InvalidPattern => k_is)
    (case e3_InvalidPattern => k_is)
    (case e4_InvalidPattern => k_is)
    (case e5_InvalidPattern => k_is)
    (case e6_InvalidPattern => k_is)
    (case e7_InvalidPattern => ks_is)
    (case e8_InvalidPattern => k_is)
    (case e9_InvalidPattern => k_is)
    (case eb_InvalidPattern => k_is)
    (case ec_InvalidPattern => k_is)
    (case ed_InvalidPattern => k_is)
    (case ee_InvalidPattern => k_is)
    (case ef_InvalidPattern => k_is)
    (case eg_InvalidPattern => k_is)
    (case eh_InvalidPattern => k_is)
    (case es_InvalidPattern_InvalidPattern => k_is)
    (case es_InvalidPattern_FolderkinError => k_is)
    (case z_ValueError => k_is)
    (case z_bool => k_is)
    (case z_int => k_is)
    (case z_isinstance => k_is)
    (case z_len => k_is)
    (case z_list => k_is)
    (case z_range => k_is)
    (case z_tuple => k_is)
    (case y_PLAIN => k_is)
    (case y_LONGEST_SET => k_is)
    (case y_CHARACTERS => k_is)
    (case y_LEAST_RANGE => k_is)
    (case y_MOST_PATTERNS => k_is)
    (case y_MOST_ATOMS => k_is)
