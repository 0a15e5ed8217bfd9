import PyProof.Rows.All
import Wide.All
import OpenK.AllK
import Wide.FinOn
import HandS.ForMost
import HandS.ForExc
import HandS.IsInst
import HandS.TupAny
import HandS.TupMul
import HandS.Deep
import HandS.Wide
import KE.SortData
import KE.LtData
import KE.KDictPairs
import KE.DataCmp
import HandS.Text
import HandS.StrMore
import HandS.Replace
import HandS.Small
import HandS.Style
import HandS.Set
import HandS.SetFor
import KE.KStateDown
import Lean
import HandS.More
import HandS.Defaults
import HandS.Head0
import HandS.Head1
import HandS.Head2
import HandS.HeadEnd
import HandS.HeadHook1
import HandS.HeadHook2
import KE.DatumOrd
import PySem.Challenge.RW_weave_k01_names_and_stocks
set_option Elab.async false
set_option linter.all false
set_option maxRecDepth 100000
/-! VW: what stands in the heap, told as plain values. D: data that nobody changes any more; M: what a name holds (data, or a list, a dict of its own). -/
namespace VW
open PySem L2

inductive D where
  | non | bl (b : Bool) | int (i : Int) | str (s : Str) | ty (n : String) | opq | scr (ns : List Int)
  | tup (ds : List D) | lst (ds : List D)
  | dK (kvs : List (Key × D)) | dT (kvs : List (List Key × D))
  deriving Inhabited

/-- a key's text or number -/
def isKeyV : V → Bool
  | .int _ => true
  | .str _ => true
  | _ => false
/-- a tuple that may be a dict's key -/
def keyish (vs : List V) : Bool := !vs.isEmpty && vs.all isKeyV
/-- how a tuple is known: one that may be a key by its items, any other one with its object -/
inductive TupO (vs : List V) : HO → Prop
  | key (k : keyish vs = true) : TupO vs (.tup vs)
  | frz {o : Obj} (k : keyish vs = false) (c : o.cls = .type "tuple") (d : o.dict = none) {its : Array Value} {n : Nat} (e : o.data = .seq its n) : TupO vs (.frz o (.tup vs))
def TupAt (G : Hp) (a : Addr) (vs : List V) : Prop := ∃ o, G a = some o ∧ TupO vs o

section
variable (K : PySem.W.Frag) (G : Hp)
mutual
inductive Rep : V → D → Prop
  | non : Rep .non .non
  | bl (b : Bool) : Rep (.bl b) (.bl b)
  | int (i : Int) : Rep (.int i) (.int i)
  | str (s : Str) : Rep (.str s) (.str s)
  | ty (n : String) : Rep (.ty n) (.ty n)
  | opq (v : V) : Rep v .opq
  | tup {a : Addr} {vs : List V} {ds : List D} (h : TupAt G a vs) (r : Reps vs ds) : Rep (.ref a) (.tup ds)
  | lst {a : Addr} {vs : List V} {ds : List D} (h : G a = some (.lst vs)) (r : Reps vs ds) : Rep (.ref a) (.lst ds)
  | scr {a : Addr} {ns : List Int} (h : SqL K G a (ns.map V.int)) : Rep (.ref a) (.scr ns)
  | dK {a : Addr} {kvs : List (Key × V)} {kds : List (Key × D)} (h : G a = some (.dK kvs)) (r : RepK kvs kds) : Rep (.ref a) (.dK kds)
  | dT {a : Addr} {kvs : List (List Key × V)} {kds : List (List Key × D)} (h : G a = some (.dT kvs)) (r : RepT kvs kds) : Rep (.ref a) (.dT kds)
inductive Reps : List V → List D → Prop
  | nil : Reps [] []
  | cons {v : V} {d : D} {vs : List V} {ds : List D} (h : Rep v d) (r : Reps vs ds) : Reps (v :: vs) (d :: ds)
inductive RepK : List (Key × V) → List (Key × D) → Prop
  | nil : RepK [] []
  | cons {k : Key} {v : V} {d : D} {vs : List (Key × V)} {ds : List (Key × D)} (h : Rep v d) (r : RepK vs ds) : RepK ((k, v) :: vs) ((k, d) :: ds)
inductive RepT : List (List Key × V) → List (List Key × D) → Prop
  | nil : RepT [] []
  | cons {k : List Key} {v : V} {d : D} {vs : List (List Key × V)} {ds : List (List Key × D)} (h : Rep v d) (r : RepT vs ds) : RepT ((k, v) :: vs) ((k, d) :: ds)
end
end

/-- what stands stays -/
def Ex (H H' : Hp) : Prop := ∀ a o, H a = some o → H' a = some o
theorem Ex.refl (H : Hp) : Ex H H := fun _ _ h => h
theorem Ex.trans {H H1 H2 : Hp} (a : Ex H H1) (b : Ex H1 H2) : Ex H H2 := fun x o h => b x o (a x o h)
theorem Ex.new {H : Hp} {p : Addr} {o : HO} (h : H p = none) : Ex H (upd H p o) := fun a u e => by
  rw [upd_ne (ne_of_none e h)]
  exact e
theorem Ex.rd {H H' : Hp} {a : Addr} {u : HO} (e : Ex H H') (h : Rd H a u) : Rd H' a u := by
  rcases h with h | ⟨o, h⟩
  · exact Or.inl (e a _ h)
  · exact Or.inr ⟨o, e a _ h⟩
theorem Ex.sqL {K : PySem.W.Frag} {H H' : Hp} {a : Addr} {xs : List V} (e : Ex H H') (h : SqL K H a xs) : SqL K H' a xs := by
  rcases h with h | h
  · exact Or.inl (e.rd h)
  · exact Or.inr h
theorem Ex.sqT {K : PySem.W.Frag} {H H' : Hp} {a : Addr} {xs : List V} (e : Ex H H') (h : SqT K H a xs) : SqT K H' a xs := by
  rcases h with h | h
  · exact Or.inl (e.rd h)
  · exact Or.inr h

theorem TupO.rd {H : Hp} {a : Addr} {vs : List V} {o : HO} (t : TupO vs o) (h : H a = some o) : Rd H a (.tup vs) := by
  cases t with
  | key k => exact .inl h
  | frz k c d e => exact .inr ⟨_, h⟩
theorem TupAt.rd {H : Hp} {a : Addr} {vs : List V} (t : TupAt H a vs) : Rd H a (.tup vs) := by
  obtain ⟨o, h, t⟩ := t
  exact t.rd h
theorem TupAt.sqT {K : PySem.W.Frag} {H : Hp} {a : Addr} {vs : List V} (t : TupAt H a vs) : SqT K H a vs := .inl t.rd
theorem TupAt.mono {G H : Hp} {a : Addr} {vs : List V} (t : TupAt G a vs) (e : Ex G H) : TupAt H a vs := by
  obtain ⟨o, h, t⟩ := t
  exact ⟨o, e _ _ h, t⟩
theorem TupAt.key {H : Hp} {a : Addr} {vs : List V} (t : TupAt H a vs) (k : keyish vs = true) : H a = some (.tup vs) := by
  obtain ⟨o, h, t⟩ := t
  cases t with
  | key _ => exact h
  | frz k' => rw [k] at k'; cases k'
theorem TupAt.frz {H : Hp} {a : Addr} {vs : List V} (t : TupAt H a vs) (k : keyish vs = false) : ∃ o its n, H a = some (.frz o (.tup vs)) ∧ o.cls = .type "tuple" ∧ o.dict = none ∧ o.data = .seq its n := by
  obtain ⟨o, h, t⟩ := t
  cases t with
  | key k' => rw [k] at k'; cases k'
  | frz _ c d e => exact ⟨_, _, _, h, c, d, e⟩
theorem TupO.any (vs : List V) : ∀ {o : Obj} {its : Array Value} {n : Nat}, o.cls = .type "tuple" → o.dict = none → o.data = .seq its n → TupO vs (if keyish vs = true then .tup vs else .frz o (.tup vs)) := fun {o its n} c d e => by
  by_cases k : keyish vs = true
  · rw [if_pos k]
    exact .key k
  · rw [if_neg k]
    exact .frz (by simpa using k) c d e
/-- a new tuple -/
theorem laid_tup {X : Cx} {pins : List (Addr × Obj)} {σ : L2.St} {H : Hp} {s : Shared} {xs : List V} {its : List Value} (I : Inv X pins σ H s) (z : xs.length ≤ sizeLine) (r : Vals xs its) :
    ∃ o, TupO xs o ∧ Inv X pins σ (upd H s.heap.objs.size o) { s with heap := s.heap.push { cls := .type "tuple", data := .seq its.toArray } } := by
  refine ⟨_, TupO.any xs (o := { cls := .type "tuple", data := .seq its.toArray }) rfl rfl rfl, I.laid (t' := s.toks) (fun b u e => Heap.get?_push_of_some _ e) (Nat.le_refl _) ?_⟩
  by_cases k : keyish xs = true
  · rw [if_pos k]
    exact ⟨z, its, r, PyProof.Rows.IsTup.new _ _⟩
  · rw [if_neg k]
    exact ⟨Heap.get?_push_size _ rfl, z, its, r, PyProof.Rows.IsTup.new _ _⟩

section
variable {K : PySem.W.Frag} {G G' : Hp}
mutual
theorem Rep.mono (e : Ex G G') : ∀ {v : V} {d : D}, Rep K G v d → Rep K G' v d
  | _, _, .non => .non
  | _, _, .bl b => .bl b
  | _, _, .int i => .int i
  | _, _, .str s => .str s
  | _, _, .ty n => .ty n
  | _, _, .opq v => .opq v
  | _, _, .tup h r => .tup (h.mono e) (Reps.mono e r)
  | _, _, .lst h r => .lst (e _ _ h) (Reps.mono e r)
  | _, _, .scr h => .scr (e.sqL h)
  | _, _, .dK h r => .dK (e _ _ h) (RepK.mono e r)
  | _, _, .dT h r => .dT (e _ _ h) (RepT.mono e r)
theorem Reps.mono (e : Ex G G') : ∀ {vs : List V} {ds : List D}, Reps K G vs ds → Reps K G' vs ds
  | _, _, .nil => .nil
  | _, _, .cons h r => .cons (Rep.mono e h) (Reps.mono e r)
theorem RepK.mono (e : Ex G G') : ∀ {vs : List (Key × V)} {ds : List (Key × D)}, RepK K G vs ds → RepK K G' vs ds
  | _, _, .nil => .nil
  | _, _, .cons h r => .cons (Rep.mono e h) (RepK.mono e r)
theorem RepT.mono (e : Ex G G') : ∀ {vs : List (List Key × V)} {ds : List (List Key × D)}, RepT K G vs ds → RepT K G' vs ds
  | _, _, .nil => .nil
  | _, _, .cons h r => .cons (Rep.mono e h) (RepT.mono e r)
end

theorem Reps.length : ∀ {vs : List V} {ds : List D}, Reps K G vs ds → vs.length = ds.length
  | _, _, .nil => rfl
  | _, _, .cons _ r => congrArg (· + 1) (Reps.length r)
theorem RepK.length : ∀ {vs : List (Key × V)} {ds : List (Key × D)}, RepK K G vs ds → vs.length = ds.length
  | _, _, .nil => rfl
  | _, _, .cons _ r => congrArg (· + 1) (RepK.length r)
theorem RepT.length : ∀ {vs : List (List Key × V)} {ds : List (List Key × D)}, RepT K G vs ds → vs.length = ds.length
  | _, _, .nil => rfl
  | _, _, .cons _ r => congrArg (· + 1) (RepT.length r)
theorem Reps.at : ∀ {vs : List V} {ds : List D} {i : Nat} {d : D}, Reps K G vs ds → ds[i]? = some d → ∃ v, vs[i]? = some v ∧ Rep K G v d
  | _, _, _, _, .nil, h => by simp at h
  | _, _, 0, _, .cons h r, e => by
    simp at e
    subst e
    exact ⟨_, rfl, h⟩
  | _, _, i + 1, _, .cons _ r, e => by
    obtain ⟨v, e1, h1⟩ := Reps.at (i := i) r (by simpa using e)
    exact ⟨v, by simpa using e1, h1⟩
theorem Reps.at' : ∀ {vs : List V} {ds : List D} {i : Nat} {v : V}, Reps K G vs ds → vs[i]? = some v → ∃ d, ds[i]? = some d ∧ Rep K G v d
  | _, _, _, _, .nil, h => by simp at h
  | _, _, 0, _, .cons h r, e => by
    simp at e
    subst e
    exact ⟨_, rfl, h⟩
  | _, _, i + 1, _, .cons _ r, e => by
    obtain ⟨v, e1, h1⟩ := Reps.at' (i := i) r (by simpa using e)
    exact ⟨v, by simpa using e1, h1⟩
theorem Reps.append : ∀ {vs us : List V} {ds es : List D}, Reps K G vs ds → Reps K G us es → Reps K G (vs ++ us) (ds ++ es)
  | _, _, _, _, .nil, s => s
  | _, _, _, _, .cons h r, s => .cons h (Reps.append r s)
theorem Reps.take : ∀ {vs : List V} {ds : List D} (n : Nat), Reps K G vs ds → Reps K G (vs.take n) (ds.take n)
  | _, _, 0, _ => .nil
  | _, _, _ + 1, .nil => .nil
  | _, _, n + 1, .cons h r => .cons h (Reps.take n r)
theorem Reps.drop : ∀ {vs : List V} {ds : List D} (n : Nat), Reps K G vs ds → Reps K G (vs.drop n) (ds.drop n)
  | _, _, 0, r => r
  | _, _, _ + 1, .nil => .nil
  | _, _, n + 1, .cons _ r => Reps.drop n r
theorem Reps.set {v : V} {d : D} (h : Rep K G v d) : ∀ {vs : List V} {ds : List D} (n : Nat), Reps K G vs ds → Reps K G (vs.set n v) (ds.set n d)
  | _, _, _, .nil => .nil
  | _, _, 0, .cons _ r => .cons h r
  | _, _, n + 1, .cons q r => .cons q (Reps.set h n r)
theorem Reps.one {v : V} {d : D} (h : Rep K G v d) : Reps K G [v] [d] := .cons h .nil
theorem Reps.reverse : ∀ {vs : List V} {ds : List D}, Reps K G vs ds → Reps K G vs.reverse ds.reverse
  | _, _, .nil => .nil
  | _, _, .cons h r => by
    rw [List.reverse_cons, List.reverse_cons]
    exact (Reps.reverse r).append (.one h)
theorem Reps.ints : ∀ {vs : List V} {ns : List Int}, Reps K G vs (ns.map D.int) → vs = ns.map V.int
  | _, [], .nil => rfl
  | _, n :: ns, .cons (.int _) r => congrArg (V.int n :: ·) (Reps.ints r)
theorem Reps.ofInts : ∀ (ns : List Int), Reps K G (ns.map V.int) (ns.map D.int)
  | [] => .nil
  | n :: ns => .cons (.int n) (Reps.ofInts ns)
theorem Reps.strs : ∀ {vs : List V} {ns : List Str}, Reps K G vs (ns.map D.str) → vs = ns.map V.str
  | _, [], .nil => rfl
  | _, n :: ns, .cons (.str _) r => congrArg (V.str n :: ·) (Reps.strs r)
theorem Reps.ofStrs : ∀ (ns : List Str), Reps K G (ns.map V.str) (ns.map D.str)
  | [] => .nil
  | n :: ns => .cons (.str n) (Reps.ofStrs ns)
theorem Reps.bls : ∀ {vs : List V} {ns : List Bool}, Reps K G vs (ns.map D.bl) → vs = ns.map V.bl
  | _, [], .nil => rfl
  | _, n :: ns, .cons (.bl _) r => congrArg (V.bl n :: ·) (Reps.bls r)
end

/-! ### what a name holds -/
inductive M where
  | fz (d : D) | lst (ds : List D) | dK (kvs : List (Key × D)) | dT (kvs : List (List Key × D))
  deriving Inhabited
def M.d : M → D
  | .fz d => d
  | .lst ds => .lst ds
  | .dK kvs => .dK kvs
  | .dT kvs => .dT kvs

/-- H without what stands at F -/
def hid (H : Hp) (F : List Addr) : Hp := fun a => if a ∈ F then none else H a
theorem hid_ex {H : Hp} {F : List Addr} : Ex (hid H F) H := fun a o h => by
  unfold hid at h
  split at h
  · cases h
  · exact h
theorem hid_of {H : Hp} {F : List Addr} {a : Addr} (h : a ∉ F) : hid H F a = H a := if_neg h
theorem hid_in {H : Hp} {F : List Addr} {a : Addr} (h : a ∈ F) : hid H F a = none := if_pos h
theorem hid_congr {H : Hp} {F F' : List Addr} (h : ∀ a, a ∈ F ↔ a ∈ F') : hid H F = hid H F' := by
  funext a
  unfold hid
  by_cases e : a ∈ F
  · rw [if_pos e, if_pos ((h a).mp e)]
  · rw [if_neg e, if_neg fun z => e ((h a).mpr z)]
theorem hid_less {H : Hp} {F F' : List Addr} (h : ∀ a, a ∈ F' → a ∈ F) : Ex (hid H F) (hid H F') := fun a o e => by
  by_cases z : a ∈ F
  · rw [hid_in z] at e
    cases e
  · rw [hid_of z] at e
    rw [hid_of fun y => z (h a y)]
    exact e

section
variable (K : PySem.W.Frag) (G H : Hp)
inductive Own : V → M → List Addr → Prop
  | fz {v : V} {d : D} (h : Rep K G v d) : Own v (.fz d) []
  | lst {p : Addr} {vs : List V} {ds : List D} (h : H p = some (.lst vs)) (r : Reps K G vs ds) : Own (.ref p) (.lst ds) [p]
  | dK {p : Addr} {kvs : List (Key × V)} {kds : List (Key × D)} (h : H p = some (.dK kvs)) (r : RepK K G kvs kds) : Own (.ref p) (.dK kds) [p]
  | dT {p : Addr} {kvs : List (List Key × V)} {kds : List (List Key × D)} (h : H p = some (.dT kvs)) (r : RepT K G kvs kds) : Own (.ref p) (.dT kds) [p]
inductive Helds : List (V × M) → List Addr → Prop
  | nil : Helds [] []
  | cons {v : V} {m : M} {L : List (V × M)} {F1 F2 : List Addr} (h : Own K G H v m F1) (r : Helds L F2) : Helds ((v, m) :: L) (F1 ++ F2)
end
section
variable {K : PySem.W.Frag} {G G' H H' : Hp}
theorem Own.mono {v : V} {m : M} {F : List Addr} (h : Own K G H v m F) (e : Ex G G') (k : ∀ a ∈ F, H' a = H a) : Own K G' H' v m F := by
  cases h with
  | fz h => exact .fz (h.mono e)
  | lst h r => exact .lst (by rw [k _ (by simp)]; exact h) (r.mono e)
  | dK h r => exact .dK (by rw [k _ (by simp)]; exact h) (r.mono e)
  | dT h r => exact .dT (by rw [k _ (by simp)]; exact h) (r.mono e)
theorem Own.there {v : V} {m : M} {F : List Addr} (h : Own K G H v m F) : ∀ a ∈ F, ∃ o, H a = some o := by
  cases h with
  | fz h => exact fun _ z => nomatch z
  | lst h r => exact fun a z => by simp at z; exact ⟨_, z ▸ h⟩
  | dK h r => exact fun a z => by simp at z; exact ⟨_, z ▸ h⟩
  | dT h r => exact fun a z => by simp at z; exact ⟨_, z ▸ h⟩
theorem Helds.mono {L : List (V × M)} {F : List Addr} (h : Helds K G H L F) (e : Ex G G') : (∀ a ∈ F, H' a = H a) → Helds K G' H' L F := by
  induction h with
  | nil => exact fun _ => .nil
  | cons h r ih => exact fun k => .cons (h.mono e fun a z => k a (List.mem_append_left _ z)) (ih fun a z => k a (List.mem_append_right _ z))
theorem Helds.there {L : List (V × M)} {F : List Addr} (h : Helds K G H L F) : ∀ a ∈ F, ∃ o, H a = some o := by
  induction h with
  | nil => exact fun _ z => nomatch z
  | cons h r ih => exact fun a z => (List.mem_append.mp z).elim (h.there a) (ih a)
theorem Helds.perm {L L' : List (V × M)} (p : L.Perm L') : ∀ {F : List Addr}, Helds K G H L F → ∃ F', F.Perm F' ∧ Helds K G H L' F' := by
  induction p with
  | nil => exact fun h => ⟨_, .refl _, h⟩
  | cons x p ih =>
    intro F h
    cases h with
    | cons h r =>
      obtain ⟨F', q, r'⟩ := ih r
      exact ⟨_, q.append_left _, .cons h r'⟩
  | swap x y l =>
    intro F h
    cases h with
    | cons h r =>
      cases r with
      | cons h' r =>
        refine ⟨_, ?_, .cons h' (.cons h r)⟩
        rw [← List.append_assoc, ← List.append_assoc]
        exact List.perm_append_comm.append_right _
  | trans _ _ ih1 ih2 =>
    intro F h
    obtain ⟨F1, q1, h1⟩ := ih1 h
    obtain ⟨F2, q2, h2⟩ := ih2 h1
    exact ⟨F2, q1.trans q2, h2⟩
theorem Helds.append {L L' : List (V × M)} {F F' : List Addr} (h : Helds K G H L F) (h' : Helds K G H L' F') : Helds K G H (L ++ L') (F ++ F') := by
  induction h with
  | nil => exact h'
  | cons h r ih =>
    rw [List.append_assoc]
    exact .cons h ih
theorem Helds.split {L L' : List (V × M)} : ∀ {F : List Addr}, Helds K G H (L ++ L') F → ∃ F1 F2, F = F1 ++ F2 ∧ Helds K G H L F1 ∧ Helds K G H L' F2 := by
  induction L with
  | nil => exact fun h => ⟨[], _, rfl, .nil, h⟩
  | cons x L ih =>
    intro F h
    cases h with
    | cons h r =>
      obtain ⟨F1, F2, e, h1, h2⟩ := ih r
      subst e
      exact ⟨_, _, (List.append_assoc _ _ _).symm, .cons h h1, h2⟩
end

/-- the values of L stand in H, the own things apart from one another and from all else -/
def Sep (K : PySem.W.Frag) (H : Hp) (L : List (V × M)) : Prop := ∃ F : List Addr, F.Nodup ∧ Helds K (hid H F) H L F
section
variable {K : PySem.W.Frag} {H : Hp} {L L' : List (V × M)}
theorem Sep.perm (h : Sep K H L) (p : L.Perm L') : Sep K H L' := by
  obtain ⟨F, nd, q⟩ := h
  obtain ⟨F', e, q'⟩ := q.perm p
  refine ⟨F', e.nodup nd, ?_⟩
  rw [← hid_congr fun a => e.mem_iff]
  exact q'
/-- forget the values behind -/
theorem Sep.left (h : Sep K H (L ++ L')) : Sep K H L := by
  obtain ⟨F, nd, q⟩ := h
  obtain ⟨F1, F2, e, q1, _⟩ := q.split
  subst e
  exact ⟨F1, (List.nodup_append.mp nd).1, q1.mono (hid_less fun a z => List.mem_append_left _ z) fun _ _ => rfl⟩
theorem Sep.right (h : Sep K H (L ++ L')) : Sep K H L' := (h.perm List.perm_append_comm).left
theorem Sep.tail {x : V × M} (h : Sep K H (x :: L)) : Sep K H L := Sep.right (L := [x]) h
theorem Sep.of_perm (h : Sep K H L) {L2 R : List (V × M)} (p : L.Perm (L2 ++ R)) : Sep K H L2 := (h.perm p).left
end

theorem Helds.mem {K : PySem.W.Frag} {G H : Hp} {L : List (V × M)} {F : List Addr} (h : Helds K G H L F) : ∀ p ∈ L, ∃ F1, Own K G H p.1 p.2 F1 ∧ ∀ a ∈ F1, a ∈ F := by
  induction h with
  | nil => exact fun _ z => nomatch z
  | cons h r ih =>
    intro p z
    rcases List.mem_cons.mp z with e | z
    · subst e
      exact ⟨_, h, fun a y => List.mem_append_left _ y⟩
    · obtain ⟨F1, h1, h2⟩ := ih p z
      exact ⟨F1, h1, fun a y => List.mem_append_right _ (h2 a y)⟩

/-- what an operation may come to: a thing that stands, or a new one -/
inductive ResOk (K : PySem.W.Frag) (G H : Hp) : M → V → Hp → Prop
  | same {v : V} {d : D} (h : Rep K G v d) : ResOk K G H (.fz d) v H
  | tup {p : Addr} {vs : List V} {ds : List D} {o : HO} (n : H p = none) (t : TupO vs o) (r : Reps K G vs ds) : ResOk K G H (.fz (.tup ds)) (.ref p) (upd H p o)
  | lst {p : Addr} {vs : List V} {ds : List D} (n : H p = none) (r : Reps K G vs ds) : ResOk K G H (.lst ds) (.ref p) (upd H p (.lst vs))
  | dK {p : Addr} {kvs : List (Key × V)} {kds : List (Key × D)} (n : H p = none) (r : RepK K G kvs kds) : ResOk K G H (.dK kds) (.ref p) (upd H p (.dK kvs))
  | dT {p : Addr} {kvs : List (List Key × V)} {kds : List (List Key × D)} (n : H p = none) (r : RepT K G kvs kds) : ResOk K G H (.dT kds) (.ref p) (upd H p (.dT kvs))

/-- a new cell at p: what stood stands -/
theorem Helds.fresh {K : PySem.W.Frag} {G G' H : Hp} {L : List (V × M)} {F : List Addr} {p : Addr} {o : HO} (h : Helds K G H L F) (n : H p = none) (e : Ex G G') : Helds K G' (upd H p o) L F :=
  h.mono e fun a z => by
    obtain ⟨u, hu⟩ := h.there a z
    rw [upd_ne (ne_of_none hu n)]
theorem not_own {K : PySem.W.Frag} {G H : Hp} {L : List (V × M)} {F : List Addr} {p : Addr} (h : Helds K G H L F) (n : H p = none) : p ∉ F := fun z => by
  obtain ⟨u, hu⟩ := h.there p z
  rw [n] at hu
  cases hu
structure Opn (K : PySem.W.Frag) (H : Hp) (L : List (V × M)) (G : Hp) : Prop where
  ex : Ex G H
  own : ∀ p ∈ L, ∃ F, Own K G H p.1 p.2 F
  res : ∀ m v H', ResOk K G H m v H' → Sep K H' ((v, m) :: L)
theorem Sep.opn {K : PySem.W.Frag} {H : Hp} {L : List (V × M)} (h : Sep K H L) : ∃ G, Opn K H L G := by
  obtain ⟨F, nd, q⟩ := h
  refine ⟨hid H F, hid_ex, fun p z => ?_, fun m v H' r => ?_⟩
  · obtain ⟨F1, h1, _⟩ := q.mem p z
    exact ⟨F1, h1⟩
  · have up : ∀ {p : Addr} {o : HO}, H p = none → Ex (hid H F) (hid (upd H p o) F) := fun {p o} n a u e => by
      by_cases z : a ∈ F
      · rw [hid_in z] at e
        cases e
      · rw [hid_of z] at e ⊢
        rw [upd_ne (ne_of_none e n)]
        exact e
    have up2 : ∀ {p : Addr} {o : HO}, H p = none → Ex (hid H F) (hid (upd H p o) ([p] ++ F)) := fun {p o} n a u e => by
      by_cases z : a ∈ F
      · rw [hid_in z] at e
        cases e
      · rw [hid_of z] at e
        have ap : a ≠ p := ne_of_none e n
        rw [hid_of (by simp [ap, z]), upd_ne ap]
        exact e
    cases r with
    | same h => exact ⟨[] ++ F, nd, .cons (.fz h) q⟩
    | tup n t r =>
      rename_i p vs ds o
      have pF := not_own q n
      refine ⟨[] ++ F, nd, .cons (.fz (.tup ⟨o, ?_, t⟩ (r.mono (up n)))) (q.fresh n (up n))⟩
      show hid _ F p = _
      rw [hid_of pF]
      exact upd_same
    | lst n r =>
      rename_i p vs ds
      have pF := not_own q n
      exact ⟨[p] ++ F, List.nodup_cons.mpr ⟨pF, nd⟩, .cons (.lst upd_same (r.mono (up2 n))) (q.fresh n (up2 n))⟩
    | dK n r =>
      rename_i p vs ds
      have pF := not_own q n
      exact ⟨[p] ++ F, List.nodup_cons.mpr ⟨pF, nd⟩, .cons (.dK upd_same (r.mono (up2 n))) (q.fresh n (up2 n))⟩
    | dT n r =>
      rename_i p vs ds
      have pF := not_own q n
      exact ⟨[p] ++ F, List.nodup_cons.mpr ⟨pF, nd⟩, .cons (.dT upd_same (r.mono (up2 n))) (q.fresh n (up2 n))⟩

theorem Own.rep {K : PySem.W.Frag} {G H G' : Hp} {v : V} {m : M} {F : List Addr} (h : Own K G H v m F) (e : Ex G G') (k : ∀ a ∈ F, ∀ o, H a = some o → G' a = some o) : Rep K G' v m.d := by
  cases h with
  | fz h => exact h.mono e
  | lst h r => exact .lst (k _ (by simp) _ h) (r.mono e)
  | dK h r => exact .dK (k _ (by simp) _ h) (r.mono e)
  | dT h r => exact .dT (k _ (by simp) _ h) (r.mono e)
/-- from now on nobody changes it -/
theorem Sep.freeze {K : PySem.W.Frag} {H : Hp} {L : List (V × M)} {v : V} {m : M} (h : Sep K H ((v, m) :: L)) : Sep K H ((v, .fz m.d) :: L) := by
  obtain ⟨F, nd, q⟩ := h
  cases q with
  | cons h r =>
    rename_i F1 F2
    obtain ⟨n1, n2, n3⟩ := List.nodup_append.mp nd
    have e : Ex (hid H (F1 ++ F2)) (hid H F2) := hid_less fun a z => List.mem_append_right _ z
    refine ⟨[] ++ F2, n2, .cons (.fz (h.rep e fun a z o y => ?_)) (r.mono e fun _ _ => rfl)⟩
    show hid H F2 a = _
    rw [hid_of fun w => n3 a z a w rfl]
    exact y
/-- a thing of one's own is changed -/
theorem Sep.mut {K : PySem.W.Frag} {H : Hp} {L : List (V × M)} {v : V} {m : M} (h : Sep K H ((v, m) :: L)) (hm : ∀ d, m ≠ .fz d) : ∃ G p F, v = .ref p ∧ Own K G H v m F ∧ Ex G H ∧ (∀ q ∈ L, ∃ F, Own K G H q.1 q.2 F) ∧
    (∀ vs ds, Reps K G vs ds → Sep K (upd H p (.lst vs)) ((v, .lst ds) :: L)) ∧ (∀ vs ds, RepK K G vs ds → Sep K (upd H p (.dK vs)) ((v, .dK ds) :: L)) ∧ (∀ vs ds, RepT K G vs ds → Sep K (upd H p (.dT vs)) ((v, .dT ds) :: L)) := by
  obtain ⟨F, nd, q⟩ := h
  cases q with
  | cons h r =>
    rename_i F1 F2
    obtain ⟨p, rfl, rfl⟩ : ∃ p, v = .ref p ∧ F1 = [p] := by
      cases h with
      | fz h => exact absurd rfl (hm _)
      | lst h r => exact ⟨_, rfl, rfl⟩
      | dK h r => exact ⟨_, rfl, rfl⟩
      | dT h r => exact ⟨_, rfl, rfl⟩
    have pF : p ∉ F2 := (List.nodup_cons.mp nd).1
    have same : ∀ o, hid (upd H p o) ([p] ++ F2) = hid H ([p] ++ F2) := fun o => by
      funext a
      by_cases z : a ∈ [p] ++ F2
      · rw [hid_in z, hid_in z]
      · rw [hid_of z, hid_of z, upd_ne (by simp at z; exact z.1)]
    have rest : ∀ o, Helds K (hid (upd H p o) ([p] ++ F2)) (upd H p o) L F2 := fun o => by
      rw [same o]
      exact r.mono (Ex.refl _) fun a z => upd_ne fun y => pF (y ▸ z)
    refine ⟨hid H ([p] ++ F2), p, [p], rfl, h, hid_ex, fun q z => ?_, fun vs ds r => ⟨[p] ++ F2, nd, .cons (.lst upd_same ?_) (rest _)⟩, fun vs ds r => ⟨[p] ++ F2, nd, .cons (.dK upd_same ?_) (rest _)⟩, fun vs ds r => ⟨[p] ++ F2, nd, .cons (.dT upd_same ?_) (rest _)⟩⟩
    · obtain ⟨F1, h1, _⟩ := r.mem q z
      exact ⟨F1, h1⟩
    all_goals
      rw [same]
      exact r

/-- what a thing of one's own at p may become -/
inductive MutOk (K : PySem.W.Frag) (G H : Hp) (p : Addr) : M → Hp → Prop
  | lst {vs : List V} {ds : List D} (r : Reps K G vs ds) : MutOk K G H p (.lst ds) (upd H p (.lst vs))
  | dK {vs : List (Key × V)} {ds : List (Key × D)} (r : RepK K G vs ds) : MutOk K G H p (.dK ds) (upd H p (.dK vs))
  | dT {vs : List (List Key × V)} {ds : List (List Key × D)} (r : RepT K G vs ds) : MutOk K G H p (.dT ds) (upd H p (.dT vs))
/-- .. and the rest stands, with a value that stood in the known part -/
theorem Sep.mutR {K : PySem.W.Frag} {H : Hp} {L : List (V × M)} {v : V} {m : M} (h : Sep K H ((v, m) :: L)) (hm : ∀ d, m ≠ .fz d) : ∃ G p F, v = .ref p ∧ Own K G H v m F ∧ Ex G H ∧ (∀ q ∈ L, ∃ F, Own K G H q.1 q.2 F) ∧
    ∀ m' H', MutOk K G H p m' H' → ∀ x d, Rep K G x d → Sep K H' ((x, .fz d) :: (v, m') :: L) := by
  obtain ⟨F, nd, q⟩ := h
  cases q with
  | cons h r =>
    rename_i F1 F2
    obtain ⟨p, rfl, rfl⟩ : ∃ p, v = .ref p ∧ F1 = [p] := by
      cases h with
      | fz h => exact absurd rfl (hm _)
      | lst h r => exact ⟨_, rfl, rfl⟩
      | dK h r => exact ⟨_, rfl, rfl⟩
      | dT h r => exact ⟨_, rfl, rfl⟩
    have pF : p ∉ F2 := (List.nodup_cons.mp nd).1
    have same : ∀ o, hid (upd H p o) ([p] ++ F2) = hid H ([p] ++ F2) := fun o => by
      funext a
      by_cases z : a ∈ [p] ++ F2
      · rw [hid_in z, hid_in z]
      · rw [hid_of z, hid_of z, upd_ne (by simp at z; exact z.1)]
    have rest : ∀ o, Helds K (hid (upd H p o) ([p] ++ F2)) (upd H p o) L F2 := fun o => by
      rw [same o]
      exact r.mono (Ex.refl _) fun a z => upd_ne fun y => pF (y ▸ z)
    refine ⟨hid H ([p] ++ F2), p, [p], rfl, h, hid_ex, fun q z => ?_, fun m' H' mo x d rx => ?_⟩
    · obtain ⟨F1, h1, _⟩ := r.mem q z
      exact ⟨F1, h1⟩
    · cases mo with
      | lst r' => exact ⟨[] ++ ([p] ++ F2), nd, .cons (.fz (by show Rep K (hid _ ([p] ++ F2)) x d; rw [same]; exact rx)) (.cons (.lst upd_same (by show Reps K (hid _ ([p] ++ F2)) _ _; rw [same]; exact r')) (rest _))⟩
      | dK r' => exact ⟨[] ++ ([p] ++ F2), nd, .cons (.fz (by show Rep K (hid _ ([p] ++ F2)) x d; rw [same]; exact rx)) (.cons (.dK upd_same (by show RepK K (hid _ ([p] ++ F2)) _ _; rw [same]; exact r')) (rest _))⟩
      | dT r' => exact ⟨[] ++ ([p] ++ F2), nd, .cons (.fz (by show Rep K (hid _ ([p] ++ F2)) x d; rw [same]; exact rx)) (.cons (.dT upd_same (by show RepT K (hid _ ([p] ++ F2)) _ _; rw [same]; exact r')) (rest _))⟩

/-! ### a def's places -/
abbrev En := List (Option M)
def prs : List (Option V) → En → List (V × M)
  | some v :: σ, some m :: e => (v, m) :: prs σ e
  | none :: σ, some _ :: e => prs σ e
  | _ :: σ, none :: e => prs σ e
  | [], _ => []
  | _ :: _, [] => []
/-- a known place holds something -/
def Al : List (Option V) → En → Prop
  | [], [] => True
  | _ :: σ, none :: e => Al σ e
  | some _ :: σ, some _ :: e => Al σ e
  | _, _ => False
theorem Al.length : ∀ {σ : List (Option V)} {e : En}, Al σ e → e.length = σ.length
  | [], [], _ => rfl
  | _ :: σ, none :: e, h => congrArg (· + 1) (Al.length (σ := σ) (e := e) h)
  | some _ :: σ, some _ :: e, h => congrArg (· + 1) (Al.length (σ := σ) (e := e) h)
  | [], _ :: _, h => h.elim
  | _ :: _, [], h => by
    unfold Al at h
    first | exact h.elim | cases h
  | none :: _, some _ :: _, h => h.elim
theorem prs_none (x : Option V) (σ : List (Option V)) (e : En) : prs (x :: σ) (none :: e) = prs σ e := by cases x <;> rfl
theorem al_none (x : Option V) (σ : List (Option V)) (e : En) : Al (x :: σ) (none :: e) = Al σ e := by cases x <;> rfl
theorem Al.get : ∀ {σ : List (Option V)} {e : En} {i : Nat} {m : M}, Al σ e → e[i]? = some (some m) → ∃ v, σ[i]? = some (some v) ∧ (prs σ e).Perm ((v, m) :: prs σ (e.set i none)) ∧ Al σ (e.set i none)
  | [], [], i, m, h, g => by simp at g
  | [], _ :: _, _, _, h, _ => h.elim
  | _ :: _, [], _, _, h, g => by simp at g
  | none :: _, some _ :: _, _, _, h, _ => h.elim
  | x :: σ, none :: e, 0, m, h, g => by simp at g
  | x :: σ, none :: e, i + 1, m, h, g => by
    rw [al_none] at h
    obtain ⟨v, e1, p, a⟩ := Al.get (i := i) h (by simpa using g)
    refine ⟨v, by simpa using e1, ?_, ?_⟩
    · rw [List.set_cons_succ, prs_none, prs_none]
      exact p
    · rw [List.set_cons_succ, al_none]
      exact a
  | some x :: σ, some y :: e, 0, m, h, g => by
    simp at g
    subst g
    exact ⟨x, rfl, .refl _, h⟩
  | some x :: σ, some y :: e, i + 1, m, h, g => by
    obtain ⟨v, e1, p, a⟩ := Al.get (σ := σ) (e := e) (i := i) h (by simpa using g)
    refine ⟨v, by simpa using e1, ?_, a⟩
    show ((x, y) :: prs σ e).Perm ((v, m) :: (x, y) :: prs σ (e.set i none))
    exact (p.cons _).trans (.swap _ _ _)
theorem Al.put : ∀ {σ : List (Option V)} {e : En} {i : Nat} {v : V} {m : M}, Al σ e → i < e.length → (prs (σ.set i (some v)) (e.set i (some m))).Perm ((v, m) :: prs σ (e.set i none)) ∧ Al (σ.set i (some v)) (e.set i (some m))
  | [], [], i, v, m, h, g => by simp at g
  | [], _ :: _, _, _, _, h, _ => h.elim
  | _ :: _, [], _, _, _, h, g => by simp at g
  | none :: _, some _ :: _, _, _, _, h, _ => h.elim
  | x :: σ, none :: e, 0, v, m, h, g => by
    rw [al_none] at h
    rw [List.set_cons_zero, List.set_cons_zero, List.set_cons_zero, prs_none]
    exact ⟨.refl _, h⟩
  | some x :: σ, some y :: e, 0, v, m, h, g => ⟨.refl _, h⟩
  | x :: σ, none :: e, i + 1, v, m, h, g => by
    rw [al_none] at h
    obtain ⟨p, a⟩ := Al.put (σ := σ) (e := e) (i := i) (v := v) (m := m) h (by simpa using g)
    rw [List.set_cons_succ, List.set_cons_succ, List.set_cons_succ, prs_none, prs_none, al_none]
    exact ⟨p, a⟩
  | some x :: σ, some y :: e, i + 1, v, m, h, g => by
    obtain ⟨p, a⟩ := Al.put (σ := σ) (e := e) (i := i) (v := v) (m := m) h (by simpa using g)
    refine ⟨?_, a⟩
    show ((x, y) :: prs (σ.set i (some v)) (e.set i (some m))).Perm ((v, m) :: (x, y) :: prs σ (e.set i none))
    exact (p.cons _).trans (.swap _ _ _)
theorem Al.drop : ∀ {σ : List (Option V)} {e : En} (i : Nat) (x : Option V), Al σ e → Al (σ.set i x) (e.set i none) ∧ ∃ R, (prs σ e).Perm (prs (σ.set i x) (e.set i none) ++ R)
  | [], [], i, x, h => ⟨h, [], .refl _⟩
  | [], _ :: _, _, _, h => h.elim
  | _ :: _, [], _, _, h => by
    unfold Al at h
    first | exact h.elim | cases h
  | none :: _, some _ :: _, _, _, h => h.elim
  | y :: σ, none :: e, 0, x, h => by
    rw [al_none] at h
    rw [List.set_cons_zero, List.set_cons_zero, prs_none, prs_none, al_none]
    exact ⟨h, [], by simp⟩
  | some y :: σ, some z :: e, 0, x, h => by
    rw [List.set_cons_zero, List.set_cons_zero, prs_none, al_none]
    refine ⟨h, [(y, z)], ?_⟩
    show ((y, z) :: prs σ e).Perm (prs σ e ++ [(y, z)])
    exact List.perm_append_comm (l₁ := [(y, z)])
  | y :: σ, none :: e, i + 1, x, h => by
    rw [al_none] at h
    obtain ⟨a, R, p⟩ := Al.drop (σ := σ) (e := e) i x h
    rw [List.set_cons_succ, List.set_cons_succ, prs_none, prs_none, al_none]
    exact ⟨a, R, p⟩
  | some y :: σ, some z :: e, i + 1, x, h => by
    obtain ⟨a, R, p⟩ := Al.drop (σ := σ) (e := e) i x h
    exact ⟨a, R, p.cons _⟩

/-- THE STATE: what the places hold (e), what is carried besides (P) -/
def Ok (K : PySem.W.Frag) (H : Hp) (σ : List (Option V)) (e : En) (P : List (V × M)) : Prop := Al σ e ∧ Sep K H (prs σ e ++ P)
section
variable {K : PySem.W.Frag} {H H' : Hp} {σ : List (Option V)} {e : En} {P P' : List (V × M)} {v : V} {m : M} {i : Nat}
theorem perm_mid {α : Type} {A B R P : List α} (q : A.Perm (B ++ R)) : (A ++ P).Perm ((B ++ P) ++ R) := by
  refine (q.append_right P).trans ?_
  rw [List.append_assoc, List.append_assoc]
  exact List.perm_append_comm.append_left _
theorem Ok.perm (h : Ok K H σ e P) (p : P.Perm P') : Ok K H σ e P' := ⟨h.1, h.2.perm (p.append_left _)⟩
theorem Ok.pop {x : V × M} (h : Ok K H σ e (x :: P)) : Ok K H σ e P := ⟨h.1, (h.2.perm (List.perm_middle)).tail⟩
theorem Ok.pops (h : Ok K H σ e (P ++ P')) : Ok K H σ e P' := by
  induction P with
  | nil => exact h
  | cons x P ih => exact ih h.pop
theorem Ok.peek (h : Ok K H σ e P) (g : e[i]? = some (some m)) : ∃ v, σ[i]? = some (some v) ∧ (v, m) ∈ prs σ e ++ P := by
  obtain ⟨v, e1, p, _⟩ := h.1.get g
  exact ⟨v, e1, List.mem_append_left _ (p.mem_iff.mpr List.mem_cons_self)⟩
theorem Ok.take (h : Ok K H σ e P) (g : e[i]? = some (some m)) : ∃ v, σ[i]? = some (some v) ∧ Ok K H σ (e.set i none) ((v, m) :: P) := by
  obtain ⟨v, e1, p, a⟩ := h.1.get g
  exact ⟨v, e1, a, h.2.perm ((p.append_right P).trans List.perm_middle.symm)⟩
theorem Ok.give (h : Ok K H σ e ((v, m) :: P)) (g : σ[i]? = some (some v)) : Ok K H σ (e.set i (some m)) P := by
  have hi : i < e.length := by
    rw [h.1.length]
    exact (List.getElem?_eq_some_iff.mp g).1
  obtain ⟨p, a⟩ := h.1.put (v := v) (m := m) hi
  have es : σ.set i (some v) = σ := by
    apply List.ext_getElem?
    intro j
    by_cases z : i = j
    · subst z
      rw [List.getElem?_set_self (by rw [← h.1.length]; exact hi), g]
    · rw [List.getElem?_set_ne z]
  rw [es] at p a
  obtain ⟨_, R, q⟩ := h.1.drop i (some v)
  rw [es] at q
  refine ⟨a, ?_⟩
  have h2 : Sep K H (((v, m) :: prs σ (e.set i none)) ++ P) := by
    exact h.2.of_perm (R := R) (List.perm_middle.trans (List.Perm.cons _ (perm_mid q)))
  exact h2.perm (p.symm.append_right P)
theorem Ok.store (h : Ok K H σ e ((v, m) :: P)) (hi : i < e.length) : Ok K H (σ.set i (some v)) (e.set i (some m)) P := by
  obtain ⟨p, a⟩ := h.1.put (v := v) (m := m) hi
  refine ⟨a, ?_⟩
  obtain ⟨_, R, q⟩ := h.1.drop (σ := σ) i (σ.getD i none)
  have es : prs (σ.set i (σ.getD i none)) (e.set i none) = prs σ (e.set i none) := by
    congr 1
    apply List.ext_getElem?
    intro j
    by_cases z : i = j
    · subst z
      by_cases y : i < σ.length
      · rw [List.getElem?_set_self y, List.getD_eq_getElem?_getD, List.getElem?_eq_getElem y]
        rfl
      · rw [List.set_eq_of_length_le (by omega)]
    · rw [List.getElem?_set_ne z]
  rw [es] at q
  have h2 : Sep K H (((v, m) :: prs σ (e.set i none)) ++ P) := by
    exact h.2.of_perm (R := R) (List.perm_middle.trans (List.Perm.cons _ (perm_mid q)))
  exact h2.perm (p.symm.append_right P)
theorem Ok.forget (h : Ok K H σ e P) (i : Nat) (x : Option V) : Ok K H (σ.set i x) (e.set i none) P := by
  obtain ⟨a, R, q⟩ := h.1.drop i x
  exact ⟨a, h.2.of_perm (R := R) (perm_mid q)⟩
end
end VW

set_option Elab.async false
set_option linter.all false
set_option maxRecDepth 100000
/-! VW1: what an expression, a test, an operand, an argument list, a statement does with plain values; how that is read off the layer's rules. -/
namespace VW
open PySem L2

/-- an exception: its class, its field -/
structure Xn where
  cls : Str
  fld : Option (Str × D) := none
abbrev XQ := Xn → En → Prop
abbrev WE := En → (M → En → Prop) → XQ → Prop
abbrev WT := En → (Bool → En → Prop) → XQ → Prop
/-- an operand: what place i holds then, or a value -/
inductive Opd where
  | pk (i : Nat) | vl (m : M)
abbrev WO := En → (Opd → En → Prop) → XQ → Prop
abbrev WA := En → (List Opd → En → Prop) → XQ → Prop
structure WEnds where
  nx : En → Prop
  rt : M → En → Prop
  bk : En → Prop
  ct : En → Prop
  ex : XQ
abbrev WS := WEnds → En → Prop
/-- a target takes a value -/
abbrev WG := M → En → (En → Prop) → XQ → Prop
/-- what is walked: its items -/
abbrev WI := En → (List D → En → Prop) → XQ → Prop

def MonoE (w : WE) : Prop := ∀ e Q Q' X X', (∀ m e, Q m e → Q' m e) → (∀ x e, X x e → X' x e) → w e Q X → w e Q' X'
def MonoT (w : WT) : Prop := ∀ e Q Q' X X', (∀ m e, Q m e → Q' m e) → (∀ x e, X x e → X' x e) → w e Q X → w e Q' X'
def MonoO (w : WO) : Prop := ∀ e Q Q' X X', (∀ m e, Q m e → Q' m e) → (∀ x e, X x e → X' x e) → w e Q X → w e Q' X'
def MonoA (w : WA) : Prop := ∀ e Q Q' X X', (∀ m e, Q m e → Q' m e) → (∀ x e, X x e → X' x e) → w e Q X → w e Q' X'
def MonoI (w : WI) : Prop := ∀ e Q Q' X X', (∀ m e, Q m e → Q' m e) → (∀ x e, X x e → X' x e) → w e Q X → w e Q' X'
def MonoG (w : WG) : Prop := ∀ m e (Q Q' : En → Prop) X X', (∀ e, Q e → Q' e) → (∀ x e, X x e → X' x e) → w m e Q X → w m e Q' X'
structure WEnds.Le (E E' : WEnds) : Prop where
  nx : ∀ e, E.nx e → E'.nx e
  rt : ∀ m e, E.rt m e → E'.rt m e
  bk : ∀ e, E.bk e → E'.bk e
  ct : ∀ e, E.ct e → E'.ct e
  ex : ∀ x e, E.ex x e → E'.ex x e
def MonoS (w : WS) : Prop := ∀ E E' e, E.Le E' → w E e → w E' e

/-- the context: X, how exceptions stand in the heap, what is wished of one -/
structure Y where
  X : Cx
  xr : Xn → Value → Option Addr → Hp → Prop
  W : WX

def pend : Opd → V → List (V × M)
  | .vl m, v => [(v, m)]
  | .pk _, _ => []
def pkOk (σ : L2.St) : Opd → V → Prop
  | .vl _, _ => True
  | .pk i, v => σ[i]? = some (some v)
def pends : List Opd → List V → List (V × M)
  | a :: as, v :: vs => pends as vs ++ pend a v
  | _, _ => []
def pksOk (σ : L2.St) : List Opd → List V → Prop
  | a :: as, v :: vs => pkOk σ a v ∧ pksOk σ as vs
  | [], [] => True
  | _, _ => False
def OkO (K : PySem.W.Frag) (H : Hp) (σ : L2.St) (e : En) (a : Opd) (v : V) (P : List (V × M)) : Prop := Ok K H σ e (pend a v ++ P) ∧ pkOk σ a v
def OkA (K : PySem.W.Frag) (H : Hp) (σ : L2.St) (e : En) (as : List Opd) (vs : List V) (P : List (V × M)) : Prop := Ok K H σ e (pends as vs ++ P) ∧ pksOk σ as vs

section
variable (y : Y)
def xpost (σ : L2.St) (P : List (V × M)) : XQ := fun x e' => ∀ c d H', y.xr x c d H' → Ok y.X.K H' σ e' P → y.W c d σ H'
def liftE (w : WE) : TE := fun σ H Q => ∃ e P, Ok y.X.K H σ e P ∧ w e (fun m e' => ∀ v H', Ok y.X.K H' σ e' ((v, m) :: P) → Q v H') (xpost y σ P)
def liftT (w : WT) : TT := fun σ H Q => ∃ e P, Ok y.X.K H σ e P ∧ w e (fun b e' => ∀ H', Ok y.X.K H' σ e' P → Q b H') (xpost y σ P)
def liftO (w : WO) : TE := fun σ H Q => ∃ e P, Ok y.X.K H σ e P ∧ w e (fun a e' => ∀ v H', OkO y.X.K H' σ e' a v P → Q v H') (xpost y σ P)
def liftA (w : WA) : TA := fun σ H Q => ∃ e P, Ok y.X.K H σ e P ∧ w e (fun as e' => ∀ vs H', OkA y.X.K H' σ e' as vs P → Q vs H') (xpost y σ P)
end
structure SE (y : Y) (e : Expr) (w : WE) : Prop where
  run : PE y.X e (liftE y w)
  mono : MonoE w
structure ST (y : Y) (e : Expr) (w : WT) : Prop where
  run : PT y.X e (liftT y w)
  mono : MonoT w
/-- a test within and, or -/
structure STw (y : Y) (e : Expr) (w : WT) : Prop where
  run : PW y.X e (liftT y w)
  mono : MonoT w
structure SO (y : Y) (e : Expr) (w : WO) : Prop where
  run : PE y.X e (liftO y w)
  mono : MonoO w
structure SA (y : Y) (es : List Expr) (w : WA) : Prop where
  run : PA y.X es (liftA y w)
  mono : MonoA w

theorem PE_imp {X : Cx} {e : Expr} {t t' : TE} (h : PE X e t) (i : ∀ σ H Q, t' σ H Q → t σ H Q) : PE X e t' := ⟨fun pins s σ H Q I q => h.run pins s σ H Q I (i _ _ _ q)⟩
theorem PT_imp {X : Cx} {e : Expr} {t t' : TT} (h : PT X e t) (i : ∀ σ H Q, t' σ H Q → t σ H Q) : PT X e t' := ⟨fun pins s σ H Q I q => h.run pins s σ H Q I (i _ _ _ q)⟩
theorem PW_imp {X : Cx} {e : Expr} {t t' : TT} (h : PW X e t) (i : ∀ σ H Q, t' σ H Q → t σ H Q) : PW X e t' := ⟨fun wh pins s σ H Q I q => h.run wh pins s σ H Q I (i _ _ _ q)⟩
theorem PA_imp {X : Cx} {e : List Expr} {t t' : TA} (h : PA X e t) (i : ∀ σ H Q, t' σ H Q → t σ H Q) : PA X e t' := ⟨fun pos pins s σ H Q I q => h.run pos pins s σ H Q I (i _ _ _ q)⟩
theorem PS_imp {X : Cx} {e : Stmt} {t t' : TS} (h : PS X e t) (i : ∀ D σ H, t' D σ H → t D σ H) : PS X e t' := ⟨fun pins s σ H D I q => h.run pins s σ H D I (i _ _ _ q)⟩
theorem PSs_imp {X : Cx} {e : List Stmt} {t t' : TS} (h : PSs X e t) (i : ∀ D σ H, t' D σ H → t D σ H) : PSs X e t' := ⟨fun pins s σ H D I q => h.run pins s σ H D I (i _ _ _ q)⟩
theorem PG_imp {X : Cx} {e : Expr} {t t' : TG} (h : PG X e t) (i : ∀ v σ H Q, t' v σ H Q → t v σ H Q) : PG X e t' := ⟨fun pins s σ H v u Q I r q => h.run pins s σ H v u Q I r (i _ _ _ _ q)⟩
theorem PI_imp {X : Cx} {tg e : Expr} {t t' : TI} (h : PI X tg e t) (i : ∀ σ H R, t' σ H R → t σ H R) : PI X tg e t' := ⟨fun pins s σ H R I q => h.run pins s σ H R I (i _ _ _ q)⟩

/-! ### operations on values -/
def Owns (K : PySem.W.Frag) (G H : Hp) : List V → List M → Prop
  | v :: vs, m :: ms => (∃ F, Own K G H v m F) ∧ Owns K G H vs ms
  | [], [] => True
  | _, _ => False
abbrev OP1 := M → (M → Prop) → Prop
abbrev OP2 := M → M → (M → Prop) → Prop
abbrev OPN := List M → (M → Prop) → Prop
structure Snd1 (K : PySem.W.Frag) (r : V → Hp → VK → Prop) (op : OP1) : Prop where
  run : ∀ G H x mx F (Q : VK), Ex G H → Own K G H x mx F → op mx (fun m => ∀ v H', ResOk K G H m v H' → Q v H') → r x H Q
  mono : ∀ a (q q' : M → Prop), (∀ m, q m → q' m) → op a q → op a q'
structure Snd2 (K : PySem.W.Frag) (r : R2) (op : OP2) : Prop where
  run : ∀ G H x y mx my F F' (Q : VK), Ex G H → Own K G H x mx F → Own K G H y my F' → op mx my (fun m => ∀ v H', ResOk K G H m v H' → Q v H') → r x y H Q
  mono : ∀ a b (q q' : M → Prop), (∀ m, q m → q' m) → op a b q → op a b q'
structure SndN (K : PySem.W.Frag) (r : List V → Hp → VK → Prop) (op : OPN) : Prop where
  run : ∀ G H xs ms (Q : VK), Ex G H → Owns K G H xs ms → op ms (fun m => ∀ v H', ResOk K G H m v H' → Q v H') → r xs H Q
  mono : ∀ a (q q' : M → Prop), (∀ m, q m → q' m) → op a q → op a q'

def withO (a : Opd) (e : En) (k : M → Prop) : Prop :=
  match a with
  | .vl m => k m
  | .pk i => match e[i]? with
    | some (some m) => k m
    | _ => False
def withAs : List Opd → En → (List M → Prop) → Prop
  | [], _, k => k []
  | a :: as, e, k => withO a e fun m => withAs as e fun ms => k (m :: ms)
theorem withO_mono {a : Opd} {e : En} {k k' : M → Prop} (h : ∀ m, k m → k' m) (q : withO a e k) : withO a e k' := by
  cases a with
  | vl m => exact h m q
  | pk i =>
    unfold withO at *
    dsimp only at *
    split at q
    · rename_i e1
      exact h _ q
    · exact q.elim
theorem withAs_mono : ∀ {as : List Opd} {e : En} {k k' : List M → Prop}, (∀ m, k m → k' m) → withAs as e k → withAs as e k'
  | [], _, _, _, h, q => h _ q
  | a :: as, _, _, _, h, q => withO_mono (fun m q => withAs_mono (fun ms q => h _ q) q) q
section
variable {K : PySem.W.Frag} {H : Hp} {σ : L2.St} {e : En} {P : List (V × M)} {y : Y}
theorem withO_mem {a : Opd} {v : V} {k : M → Prop} (h : Ok K H σ e (pend a v ++ P)) (hp : pkOk σ a v) (q : withO a e k) : ∃ m, (v, m) ∈ prs σ e ++ (pend a v ++ P) ∧ k m := by
  cases a with
  | vl m => exact ⟨m, List.mem_append_right _ (List.mem_append_left _ List.mem_cons_self), q⟩
  | pk i =>
    unfold withO at q
    dsimp only at q
    split at q
    · rename_i m e1
      obtain ⟨v', e2, hm⟩ := h.peek e1
      have e3 : some (some v) = some (some v') := hp.symm.trans e2
      cases e3
      exact ⟨m, hm, q⟩
    · exact q.elim
/-- .. where more is carried -/
theorem withO_mem' {a : Opd} {v : V} {k : M → Prop} {R : List (V × M)} (h : Ok K H σ e R) (hs : ∀ p ∈ pend a v, p ∈ R) (hp : pkOk σ a v) (q : withO a e k) : ∃ m, (v, m) ∈ prs σ e ++ R ∧ k m := by
  cases a with
  | vl m => exact ⟨m, List.mem_append_right _ (hs _ List.mem_cons_self), q⟩
  | pk i =>
    unfold withO at q
    dsimp only at q
    split at q
    · rename_i m e1
      obtain ⟨v', e2, hm⟩ := h.peek e1
      have e3 : some (some v) = some (some v') := hp.symm.trans e2
      cases e3
      exact ⟨m, hm, q⟩
    · exact q.elim
theorem withAs_mem : ∀ {as : List Opd} {vs : List V} {k : List M → Prop} {R : List (V × M)} {G : Hp}, Ok K H σ e R → Opn K H (prs σ e ++ R) G → (∀ p ∈ pends as vs, p ∈ R) → pksOk σ as vs → withAs as e k → ∃ ms, Owns K G H vs ms ∧ k ms
  | [], [], _, _, _, _, _, _, _, q => ⟨[], trivial, q⟩
  | [], _ :: _, _, _, _, _, _, _, hp, _ => hp.elim
  | _ :: _, [], _, _, _, _, _, _, hp, _ => hp.elim
  | a :: as, v :: vs, k, R, G, h, g, hs, hp, q => by
    obtain ⟨m, hm, q⟩ := withO_mem' h (fun p z => hs p (List.mem_append_right _ z)) hp.1 q
    obtain ⟨ms, ho, q⟩ := withAs_mem h g (fun p z => hs p (List.mem_append_left _ z)) hp.2 q
    exact ⟨m :: ms, ⟨g.own _ hm, ho⟩, q⟩
/-- the result stands, what was pending goes -/
theorem Opn.fin {G H' : Hp} {R : List (V × M)} {m : M} {v : V} (g : Opn K H (prs σ e ++ (R ++ P)) G) (a : Al σ e) (r : ResOk K G H m v H') : Ok K H' σ e ((v, m) :: P) := by
  refine ⟨a, (g.res m v H' r).of_perm (R := R) ?_⟩
  refine List.Perm.trans ?_ ((List.perm_middle.symm.append_right R))
  refine List.Perm.cons _ ?_
  show List.Perm _ ((prs σ e ++ P) ++ R)
  rw [List.append_assoc]
  exact (List.perm_append_comm).append_left _
end

def w1 (op : OP1) (o : WO) : WE := fun e Q X => o e (fun a e1 => withO a e1 fun ma => op ma fun m => Q m e1) X
def w2 (op : OP2) (o1 o2 : WO) : WE := fun e Q X => o1 e (fun a e1 => o2 e1 (fun b e2 => withO a e2 fun ma => withO b e2 fun mb => op ma mb fun m => Q m e2) X) X
def wN (op : OPN) (wa : WA) : WE := fun e Q X => wa e (fun as e1 => withAs as e1 fun ms => op ms fun m => Q m e1) X
section
variable {y : Y} {a b : Expr} {oa ob : WO} {op : OP2} {r : R2}
theorem mono_w1 {op : OP1} {o : WO} {K : PySem.W.Frag} {r : V → Hp → VK → Prop} (hs : Snd1 K r op) (ho : MonoO o) : MonoE (w1 op o) := fun e Q Q' X X' hq hx q =>
  ho e _ _ _ _ (fun a e1 q => withO_mono (fun ma q => hs.mono _ _ _ (fun m q => hq m e1 q) q) q) hx q
theorem mono_w2 {K : PySem.W.Frag} (hs : Snd2 K r op) (ha : MonoO oa) (hb : MonoO ob) : MonoE (w2 op oa ob) := fun e Q Q' X X' hq hx q =>
  ha e _ _ _ _ (fun a e1 q => hb e1 _ _ _ _ (fun b e2 q => withO_mono (fun ma q => withO_mono (fun mb q => hs.mono _ _ _ _ (fun m q => hq m e2 q) q) q) q) hx q) hx q
theorem mono_wN {op : OPN} {wa : WA} {K : PySem.W.Frag} {r : List V → Hp → VK → Prop} (hs : SndN K r op) (ho : MonoA wa) : MonoE (wN op wa) := fun e Q Q' X X' hq hx q =>
  ho e _ _ _ _ (fun a e1 q => withAs_mono (fun ma q => hs.mono _ _ _ (fun m q => hq m e1 q) q) q) hx q
theorem xpost_pend {a : Opd} {v : V} {σ : L2.St} {P : List (V × M)} {x : Xn} {e' : En} (h : xpost y σ P x e') : xpost y σ (pend a v ++ P) x e' := fun c d H' r o => h c d H' r o.pops
theorem lift1 {op : OP1} {o : WO} {r : V → Hp → VK → Prop} (hs : Snd1 y.X.K r op) (ho : MonoO o) (σ : L2.St) (H : Hp) (Q : VK) (h : liftE y (w1 op o) σ H Q) : liftO y o σ H fun x H1 => r x H1 Q := by
  obtain ⟨e, P, h0, h⟩ := h
  refine ⟨e, P, h0, ho e _ _ _ _ (fun a e1 q v H1 o1 => ?_) (fun _ _ q => q) h⟩
  obtain ⟨o1, p1⟩ := o1
  obtain ⟨ma, m1, q⟩ := withO_mem o1 p1 q
  obtain ⟨G, g⟩ := o1.2.opn
  obtain ⟨F1, w1⟩ := g.own _ m1
  exact hs.run G H1 v ma F1 Q g.ex w1 (hs.mono _ _ _ (fun m q v' H' r' => q v' H' (g.fin o1.1 r')) q)
theorem lift2 (hs : Snd2 y.X.K r op) (ha : MonoO oa) (hb : MonoO ob) (σ : L2.St) (H : Hp) (Q : VK) (h : liftE y (w2 op oa ob) σ H Q) : tOp r (liftO y oa) (liftO y ob) σ H Q := by
  obtain ⟨e, P, h0, h⟩ := h
  refine ⟨e, P, h0, ha e _ _ _ _ (fun a e1 q v H1 o1 => ?_) (fun _ _ q => q) h⟩
  obtain ⟨o1, p1⟩ := o1
  refine ⟨e1, pend a v ++ P, o1, hb e1 _ _ _ _ (fun b e2 q u H2 o2 => ?_) (fun _ _ q => xpost_pend q) q⟩
  obtain ⟨o2, p2⟩ := o2
  obtain ⟨ma, m1, q⟩ := withO_mem' o2 (fun p z => List.mem_append_right _ (List.mem_append_left _ z)) p1 q
  obtain ⟨mb, m2, q⟩ := withO_mem o2 p2 q
  obtain ⟨G, g⟩ := o2.2.opn
  obtain ⟨F1, w1⟩ := g.own _ m1
  obtain ⟨F2, w2⟩ := g.own _ m2
  rw [show pend b u ++ (pend a v ++ P) = (pend b u ++ pend a v) ++ P from (List.append_assoc _ _ _).symm] at g
  exact hs.run G H2 v u ma mb F1 F2 Q g.ex w1 w2 (hs.mono _ _ _ _ (fun m q v' H' r' => q v' H' (g.fin o2.1 r')) q)
theorem liftN {op : OPN} {wa : WA} {r : List V → Hp → VK → Prop} (hs : SndN y.X.K r op) (ho : MonoA wa) (σ : L2.St) (H : Hp) (Q : VK) (h : liftE y (wN op wa) σ H Q) : liftA y wa σ H fun xs H1 => r xs H1 Q := by
  obtain ⟨e, P, h0, h⟩ := h
  refine ⟨e, P, h0, ho e _ _ _ _ (fun as e1 q vs H1 o1 => ?_) (fun _ _ q => q) h⟩
  obtain ⟨o1, p1⟩ := o1
  obtain ⟨G, g⟩ := o1.2.opn
  obtain ⟨ms, m1, q⟩ := withAs_mem o1 g (fun p z => List.mem_append_left _ z) p1 q
  exact hs.run G H1 vs ms Q g.ex m1 (hs.mono _ _ _ (fun m q v' H' r' => q v' H' (g.fin o1.1 r')) q)
end

/-! ### operands, arguments -/
def oVal (w : WE) : WO := fun e Q X => w e (fun m e' => Q (.vl m) e') X
def oFz (w : WE) : WO := fun e Q X => w e (fun m e' => Q (.vl (.fz m.d)) e') X
def oPk (i : Nat) : WO := fun e Q _ => match e[i]? with
  | some (some _) => Q (.pk i) e
  | _ => False
def wVar (i : Nat) : WE := fun e Q _ => match e[i]? with
  | some (some m) => Q (.fz m.d) (e.set i (some (.fz m.d)))
  | _ => False
def wC (d : D) : WE := fun e Q _ => Q (.fz d) e
def aNil : WA := fun e Q _ => Q [] e
def aCons (o : WO) (r : WA) : WA := fun e Q X => o e (fun a e1 => r e1 (fun as e2 => Q (a :: as) e2) X) X
section
variable {y : Y} {e : Expr} {es : List Expr} {w : WE}
theorem so_val (h : SE y e w) : SO y e (oVal w) where
  run := PE_imp h.run fun σ H Q ⟨e, P, h0, q⟩ => ⟨e, P, h0, h.mono _ _ _ _ _ (fun m e' q v H' o => q v H' ⟨o, trivial⟩) (fun _ _ q => q) q⟩
  mono := fun e Q Q' X X' hq hx q => h.mono _ _ _ _ _ (fun m e' q => hq _ _ q) hx q
theorem Ok.freeze {K : PySem.W.Frag} {H : Hp} {σ : L2.St} {e : En} {P : List (V × M)} {v : V} {m : M} (h : Ok K H σ e ((v, m) :: P)) : Ok K H σ e ((v, .fz m.d) :: P) :=
  ⟨h.1, (h.2.perm List.perm_middle).freeze.perm List.perm_middle.symm⟩
theorem so_fz (h : SE y e w) : SO y e (oFz w) where
  run := PE_imp h.run fun σ H Q ⟨e, P, h0, q⟩ => ⟨e, P, h0, h.mono _ _ _ _ _ (fun m e' q v H' o => q v H' ⟨o.freeze, trivial⟩) (fun _ _ q => q) q⟩
  mono := fun e Q Q' X X' hq hx q => h.mono _ _ _ _ _ (fun m e' q => hq _ _ q) hx q
theorem sa_nil : SA y [] aNil where
  run := PA_imp pa_nil fun σ H Q ⟨e, P, h0, q⟩ => q [] H ⟨h0, trivial⟩
  mono := fun e Q Q' X X' hq hx q => hq _ _ q
theorem sa_cons {o : WO} {r : WA} (h : SO y e o) (hr : SA y es r) (hs : starEach (e :: es) y.X.env = (false, eval e y.X.env) :: starEach es y.X.env) : SA y (e :: es) (aCons o r) where
  run := PA_imp (pa_cons h.run hr.run hs) fun σ H Q ⟨e, P, h0, q⟩ => by
    refine ⟨e, P, h0, h.mono _ _ _ _ _ (fun a e1 q v H1 o1 => ?_) (fun _ _ q => q) q⟩
    obtain ⟨o1, p1⟩ := o1
    refine ⟨e1, pend a v ++ P, o1, hr.mono _ _ _ _ _ (fun as e2 q vs H2 o2 => ?_) (fun _ _ q => xpost_pend q) q⟩
    obtain ⟨o2, p2⟩ := o2
    refine q (v :: vs) H2 ⟨?_, p1, p2⟩
    show Ok y.X.K H2 σ e2 ((pends as vs ++ pend a v) ++ P)
    rw [List.append_assoc]
    exact o2
  mono := fun e Q Q' X X' hq hx q => h.mono _ _ _ _ _ (fun a e1 q => hr.mono _ _ _ _ _ (fun as e2 q => hq _ _ q) hx q) hx q
theorem so_pk {i : Nat} {x : Str} {pos : Pos} (hN : y.X.N[i]? = some x) (hv : Vis y.X.env.scope x) (hd : (x == ("__debug__" : Str)) = false) (hcd : (x == ("__classdict__" : Str)) = false) : SO y (.Name x pos) (oPk i) where
  run := PE_imp (pe_var hN hv hd hcd) fun σ H Q ⟨e, P, h0, q⟩ => by
    unfold oPk at q
    split at q
    · rename_i m e1
      obtain ⟨v, e2, _⟩ := h0.peek e1
      exact ⟨v, e2, q v H ⟨h0, e2⟩⟩
    · exact q.elim
  mono := fun e Q Q' X X' hq hx q => by
    unfold oPk at *
    split at q
    · exact hq _ _ q
    · exact q.elim
theorem se_var {i : Nat} {x : Str} {pos : Pos} (hN : y.X.N[i]? = some x) (hv : Vis y.X.env.scope x) (hd : (x == ("__debug__" : Str)) = false) (hcd : (x == ("__classdict__" : Str)) = false) : SE y (.Name x pos) (wVar i) where
  run := PE_imp (pe_var hN hv hd hcd) fun σ H Q ⟨e, P, h0, q⟩ => by
    unfold wVar at q
    split at q
    · rename_i m e1
      obtain ⟨v, e2, o⟩ := h0.take e1
      refine ⟨v, e2, q v H ?_⟩
      have o := o.freeze
      have c : Ok y.X.K H σ (e.set i none) ((v, .fz m.d) :: (v, .fz m.d) :: P) := by
        obtain ⟨G, g⟩ := o.2.opn
        obtain ⟨F, w⟩ := g.own (v, .fz m.d) (List.mem_append_right _ List.mem_cons_self)
        cases w with
        | fz w => exact ⟨o.1, (g.res _ _ _ (.same w)).perm List.perm_middle.symm⟩
      have c := Ok.give (i := i) c e2
      rw [List.set_set] at c
      exact c
    · exact q.elim
  mono := fun e Q Q' X X' hq hx q => by
    unfold wVar at *
    split at q
    · exact hq _ _ q
    · exact q.elim
theorem se_const {v : V} {d : D} (h : PE y.X e (tC v)) (r : ∀ G, Rep y.X.K G v d) : SE y e (wC d) where
  run := PE_imp h fun σ H Q ⟨e, P, h0, q⟩ => by
    refine q v H ?_
    obtain ⟨G, g⟩ := h0.2.opn
    exact ⟨h0.1, (g.res _ _ _ (.same (r G))).perm List.perm_middle.symm⟩
  mono := fun e Q Q' X X' hq hx q => hq _ _ q
end

/-! ### operators -/
section
variable {y : Y} {a b : Expr} {oa ob : WO} {op : OP2} {r : R2} {pos : Pos}
theorem se_bin {o : Operator} (ho : OpR y.X (binaryOp o) r) (hs : Snd2 y.X.K r op) (ha : SO y a oa) (hb : SO y b ob) : SE y (.BinOp a o b pos) (w2 op oa ob) :=
  ⟨PE_imp (pe_op ho ha.run hb.run) (lift2 hs ha.mono hb.mono), mono_w2 hs ha.mono hb.mono⟩
theorem se_un {o : UnaryOp} {r : V → Hp → VK → Prop} {op : OP1} (ho : UnR y.X (unaryOp o) r) (hs : Snd1 y.X.K r op) (ha : SO y a oa) : SE y (.UnaryOp o a pos) (w1 op oa) :=
  ⟨PE_imp (pe_un ho ha.run) (lift1 hs ha.mono), mono_w1 hs ha.mono⟩
theorem se_cmp {o : CmpOp} (ho : OpR y.X (compareOp o) r) (hs : Snd2 y.X.K r op) (ha : SO y a oa) (hb : SO y b ob) (hm : behindInMarks o b = false) : SE y (.Compare a [o] [b] pos) (w2 op oa ob) :=
  ⟨PE_imp (pe_cmpR ho ha.run hb.run hm) (lift2 hs ha.mono hb.mono), mono_w2 hs ha.mono hb.mono⟩
theorem se_ix (ho : IxR y.X r) (hs : Snd2 y.X.K r op) (ha : SO y a oa) (hb : SO y b ob) (hp : PlainIx b) : SE y (.Subscript a b pos) (w2 op oa ob) :=
  ⟨PE_imp (pe_ix ho ha.run hb.run hp) (lift2 hs ha.mono hb.mono), mono_w2 hs ha.mono hb.mono⟩
/-- a value that is True or False, as a test -/
def tVal (w : WE) : WT := fun e Q X => w e (fun m e' => match m with
  | .fz (.bl b) => Q b e'
  | _ => False) X
theorem ok_bl {K : PySem.W.Frag} {H : Hp} {σ : L2.St} {e : En} {P : List (V × M)} {v : V} {b : Bool} (h : Ok K H σ e ((v, .fz (.bl b)) :: P)) : v = .bl b := by
  obtain ⟨G, g⟩ := h.2.opn
  obtain ⟨F, w⟩ := g.own (v, .fz (.bl b)) (List.mem_append_right _ List.mem_cons_self)
  cases w with
  | fz w =>
    cases w
    rfl
theorem mono_tVal {w : WE} (h : MonoE w) : MonoT (tVal w) := fun e Q Q' X X' hq hx q => h _ _ _ _ _ (fun m e' q => by
    split at q
    · exact hq _ _ q
    · exact q.elim) hx q
theorem st_val {e : Expr} {w : WE} (h : SE y e w) (he : ∀ whole, isTrue e y.X.env whole = (do let v ← whole; standAt e.pos; holding [v] (truthy v))) : ST y e (tVal w) where
  run := PT_imp (pt_val h.run he) fun σ H Q ⟨e, P, h0, q⟩ => ⟨e, P, h0, h.mono _ _ _ _ _ (fun m e' q v H' o => by
    dsimp only at q
    split at q
    · exact ⟨_, ok_bl o, q H' o.pop⟩
    · exact q.elim) (fun _ _ q => q) q⟩
  mono := mono_tVal h.mono
theorem st_cmp {o : CmpOp} (ho : OpR y.X (compareOp o) r) (hs : Snd2 y.X.K r op) (ha : SO y a oa) (hb : SO y b ob) (hm : behindInMarks o b = false) : ST y (.Compare a [o] [b] pos) (tVal (w2 op oa ob)) where
  run := PT_imp (pt_cmpR ho ha.run hb.run hm) fun σ H Q ⟨e, P, h0, q⟩ => by
    refine lift2 hs ha.mono hb.mono σ H (fun x H' => ∃ k, x = .bl k ∧ Q k H') ⟨e, P, h0, mono_w2 hs ha.mono hb.mono _ _ _ _ _ (fun m e' q v H' o => ?_) (fun _ _ q => q) q⟩
    dsimp only at q
    split at q
    · exact ⟨_, ok_bl o, q H' o.pop⟩
    · exact q.elim
  mono := mono_tVal (mono_w2 hs ha.mono hb.mono)
/-- a value of any kind, by its truth -/
def truD : D → Option Bool
  | .non => some false
  | .bl b => some b
  | .int i => some (i != 0)
  | .str s => if s.length ≤ sizeLine then some ((s.length : Int) != 0) else none
  | .tup ds => some !ds.isEmpty
  | .lst ds => some !ds.isEmpty
  | .dK kvs => some !kvs.isEmpty
  | _ => none
def tTru (o : WO) : WT := fun e Q X => o e (fun a e1 => withO a e1 fun m => match truD m.d with
  | some b => Q b e1
  | none => False) X
theorem Reps.isEmpty {K : PySem.W.Frag} {G : Hp} {vs : List V} {ds : List D} (r : Reps K G vs ds) : vs.isEmpty = ds.isEmpty := by
  cases r <;> rfl
theorem RepK.isEmpty {K : PySem.W.Frag} {G : Hp} {vs : List (Key × V)} {ds : List (Key × D)} (r : RepK K G vs ds) : vs.isEmpty = ds.isEmpty := by
  cases r <;> rfl
theorem tru_own {K : PySem.W.Frag} {G H : Hp} {x : V} {m : M} {F : List Addr} {b : Bool} (ex : Ex G H) (h : Own K G H x m F) (e : truD m.d = some b) : TruV K x H b := by
  cases h with
  | fz h =>
    cases h with
    | non => cases e; rfl
    | bl _ => cases e; rfl
    | int _ => cases e; rfl
    | str s =>
      simp only [M.d, truD] at e
      split at e
      · cases e
        exact ⟨by assumption, rfl⟩
      · cases e
    | ty _ => cases e
    | scr _ => cases e
    | opq _ => cases e
    | tup h r => cases e; exact .inr (.inl ⟨_, (h.mono ex).sqT, by rw [r.isEmpty]⟩)
    | lst h r => cases e; exact .inl ⟨_, .of (ex _ _ h), by rw [r.isEmpty]⟩
    | dK h r => cases e; exact .inr (.inr ⟨_, ex _ _ h, by rw [r.isEmpty]⟩)
    | dT h r => cases e
  | lst h r => cases e; exact .inl ⟨_, .of h, by rw [r.isEmpty]⟩
  | dK h r => cases e; exact .inr (.inr ⟨_, h, by rw [r.isEmpty]⟩)
  | dT h r => cases e
theorem st_tru (h : SO y a oa) (he : ∀ whole, isTrue a y.X.env whole = (do let v ← whole; standAt a.pos; holding [v] (truthy v))) : ST y a (tTru oa) where
  run := PT_imp (pt_truth h.run he) fun σ H Q ⟨e, P, h0, q⟩ => ⟨e, P, h0, h.mono _ _ _ _ _ (fun a e1 q v H1 o1 => by
    obtain ⟨o1, p1⟩ := o1
    obtain ⟨ma, m1, q⟩ := withO_mem o1 p1 q
    obtain ⟨G, g⟩ := o1.2.opn
    obtain ⟨F1, w1⟩ := g.own _ m1
    split at q
    · rename_i e
      exact ⟨_, tru_own g.ex w1 e, q H1 o1.pops⟩
    · exact q.elim) (fun _ _ q => q) q⟩
  mono := fun e Q Q' X X' hq hx q => h.mono _ _ _ _ _ (fun a e1 q => withO_mono (fun m q => by
    split at q
    · exact hq _ _ q
    · exact q.elim) q) hx q

/-! ### and, or, not, if else -/
def tAndW (t u : WT) : WT := fun e Q X => t e (fun b e1 => if b = true then u e1 Q X else Q false e1) X
def tOrW (t u : WT) : WT := fun e Q X => t e (fun b e1 => if b = true then Q true e1 else u e1 Q X) X
def tNotW (t : WT) : WT := fun e Q X => t e (fun b e1 => Q (!b) e1) X
def wIf (t : WT) (a b : WE) : WE := fun e Q X => t e (fun c e1 => if c = true then a e1 Q X else b e1 Q X) X
/-- a test as a value -/
def wOfT (t : WT) : WE := fun e Q X => t e (fun b e1 => Q (.fz (.bl b)) e1) X
variable {t u : WT} {rest : List Expr}
theorem STw.st {e : Expr} (h : STw y e t) : ST y e t := ⟨h.run.pt, h.mono⟩
theorem stw_and1 (h : ST y a t) : STw y (.BoolOp .And [a] pos) t := ⟨pw_and1 h.run, h.mono⟩
theorem stw_or1 (h : ST y a t) : STw y (.BoolOp .Or [a] pos) t := ⟨pw_or1 h.run, h.mono⟩
theorem mono_tAnd (h : MonoT t) (h' : MonoT u) : MonoT (tAndW t u) := fun e Q Q' X X' hq hx q => h _ _ _ _ _ (fun b e1 q => by
    cases b with
    | true => exact iteT (h' _ _ _ _ _ hq hx (by simpa using q))
    | false => exact iteF (hq _ _ (by simpa using q))) hx q
theorem mono_tOr (h : MonoT t) (h' : MonoT u) : MonoT (tOrW t u) := fun e Q Q' X X' hq hx q => h _ _ _ _ _ (fun b e1 q => by
    cases b with
    | true => exact iteT (hq _ _ (by simpa using q))
    | false => exact iteF (h' _ _ _ _ _ hq hx (by simpa using q))) hx q
theorem stw_and (h : ST y a t) (h' : STw y (.BoolOp .And (b :: rest) pos) u) : STw y (.BoolOp .And (a :: b :: rest) pos) (tAndW t u) where
  run := PW_imp (pw_and h.run h'.run) fun σ H Q ⟨e, P, h0, q⟩ => ⟨e, P, h0, h.mono _ _ _ _ _ (fun b e1 q H1 o => by
    cases b with
    | true => exact iteT ⟨e1, P, o, by simpa using q⟩
    | false =>
      rw [if_neg Bool.false_ne_true] at q
      exact iteF (q H1 o)) (fun _ _ q => q) q⟩
  mono := mono_tAnd h.mono h'.mono
theorem stw_or (h : ST y a t) (h' : STw y (.BoolOp .Or (b :: rest) pos) u) : STw y (.BoolOp .Or (a :: b :: rest) pos) (tOrW t u) where
  run := PW_imp (pw_or h.run h'.run) fun σ H Q ⟨e, P, h0, q⟩ => ⟨e, P, h0, h.mono _ _ _ _ _ (fun b e1 q H1 o => by
    cases b with
    | true =>
      rw [if_pos rfl] at q
      exact iteT (q H1 o)
    | false => exact iteF ⟨e1, P, o, by simpa using q⟩) (fun _ _ q => q) q⟩
  mono := mono_tOr h.mono h'.mono
theorem st_not (h : ST y a t) : ST y (.UnaryOp .Not a pos) (tNotW t) where
  run := PT_imp (pt_not h.run) fun σ H Q ⟨e, P, h0, q⟩ => ⟨e, P, h0, q⟩
  mono := fun e Q Q' X X' hq hx q => h.mono _ _ _ _ _ (fun b e1 q => hq _ _ q) hx q
theorem mono_wIf {wa wb : WE} (h : MonoT t) (ha : MonoE wa) (hb : MonoE wb) : MonoE (wIf t wa wb) := fun e Q Q' X X' hq hx q => h _ _ _ _ _ (fun b e1 q => by
    cases b with
    | true => exact iteT (ha _ _ _ _ _ hq hx (by simpa using q))
    | false => exact iteF (hb _ _ _ _ _ hq hx (by simpa using q))) hx q
theorem se_if {c : Expr} {wa wb : WE} (h : ST y c t) (ha : SE y a wa) (hb : SE y b wb) : SE y (.IfExp c a b pos) (wIf t wa wb) where
  run := PE_imp (pe_ifExp h.run ha.run hb.run) fun σ H Q ⟨e, P, h0, q⟩ => ⟨e, P, h0, h.mono _ _ _ _ _ (fun b e1 q H1 o => by
    cases b with
    | true => exact iteT ⟨e1, P, o, by simpa using q⟩
    | false => exact iteF ⟨e1, P, o, by simpa using q⟩) (fun _ _ q => q) q⟩
  mono := mono_wIf h.mono ha.mono hb.mono
/-- x and y, x or y as values, x True or False -/
def wAnd (a b : WE) : WE := fun e Q X => a e (fun m e1 => match m with
  | .fz (.bl true) => b e1 Q X
  | .fz (.bl false) => Q (.fz (.bl false)) e1
  | _ => False) X
def wOr (a b : WE) : WE := fun e Q X => a e (fun m e1 => match m with
  | .fz (.bl true) => Q (.fz (.bl true)) e1
  | .fz (.bl false) => b e1 Q X
  | _ => False) X
def wNot (a : WE) : WE := fun e Q X => a e (fun m e1 => match m with
  | .fz (.bl b) => Q (.fz (.bl !b)) e1
  | _ => False) X
variable {wa wb : WE}
theorem ok_newbl {K : PySem.W.Frag} {H : Hp} {σ : L2.St} {e : En} {P : List (V × M)} (b : Bool) (h : Ok K H σ e P) : Ok K H σ e ((.bl b, .fz (.bl b)) :: P) := by
  obtain ⟨G, g⟩ := h.2.opn
  exact ⟨h.1, (g.res _ _ _ (.same (.bl b))).perm List.perm_middle.symm⟩
theorem se_and (ha : SE y a wa) (hb : SE y (.BoolOp .And (b :: rest) pos) wb) : SE y (.BoolOp .And (a :: b :: rest) pos) (wAnd wa wb) where
  run := PE_imp (pe_and ha.run hb.run) fun σ H Q ⟨e, P, h0, q⟩ => ⟨e, P, h0, ha.mono _ _ _ _ _ (fun m e1 q v H1 o => by
    dsimp only at q
    split at q
    · exact ⟨_, ok_bl o, iteT ⟨e1, P, o.pop, q⟩⟩
    · exact ⟨_, ok_bl o, iteF (q _ _ (ok_newbl false o.pop))⟩
    · exact q.elim) (fun _ _ q => q) q⟩
  mono := fun e Q Q' X X' hq hx q => ha.mono _ _ _ _ _ (fun m e1 q => by
    split at q
    · exact hb.mono _ _ _ _ _ hq hx q
    · exact hq _ _ q
    · exact q.elim) hx q
theorem se_or (ha : SE y a wa) (hb : SE y (.BoolOp .Or (b :: rest) pos) wb) : SE y (.BoolOp .Or (a :: b :: rest) pos) (wOr wa wb) where
  run := PE_imp (pe_or ha.run hb.run) fun σ H Q ⟨e, P, h0, q⟩ => ⟨e, P, h0, ha.mono _ _ _ _ _ (fun m e1 q v H1 o => by
    dsimp only at q
    split at q
    · exact ⟨_, ok_bl o, iteT (q _ _ (ok_newbl true o.pop))⟩
    · exact ⟨_, ok_bl o, iteF ⟨e1, P, o.pop, q⟩⟩
    · exact q.elim) (fun _ _ q => q) q⟩
  mono := fun e Q Q' X X' hq hx q => ha.mono _ _ _ _ _ (fun m e1 q => by
    split at q
    · exact hq _ _ q
    · exact hb.mono _ _ _ _ _ hq hx q
    · exact q.elim) hx q
theorem se_one {o : BoolOp} (ha : SE y a wa) : SE y (.BoolOp o [a] pos) wa := ⟨pe_one ha.run, ha.mono⟩
theorem se_not (ha : SE y a wa) : SE y (.UnaryOp .Not a pos) (wNot wa) where
  run := PE_imp (pe_not ha.run) fun σ H Q ⟨e, P, h0, q⟩ => ⟨e, P, h0, ha.mono _ _ _ _ _ (fun m e1 q v H1 o => by
    dsimp only at q
    split at q
    · exact ⟨_, ok_bl o, q _ _ (ok_newbl _ o.pop)⟩
    · exact q.elim) (fun _ _ q => q) q⟩
  mono := fun e Q Q' X X' hq hx q => ha.mono _ _ _ _ _ (fun m e1 q => by
    split at q
    · exact hq _ _ q
    · exact q.elim) hx q
end
end VW

set_option Elab.async false
set_option linter.all false
set_option maxRecDepth 100000
/-! VW2: displays, slices, what is walked, targets, statements. -/
namespace VW
open PySem PySem.Spec PyProof.Rows L2

/-! ### displays -/
def fzs : List M → Option (List D)
  | [] => some []
  | .fz d :: ms => (fzs ms).map (d :: ·)
  | _ :: _ => none
def dsl (es : List D) (k : Prop) : Prop := match Nat.ble es.length 4096 with
  | true => k
  | false => False
theorem dsl_of {es : List D} {k : Prop} (h : dsl es k) : es.length ≤ sizeLine ∧ k := by
  unfold dsl at h
  split at h
  · rename_i e
    exact ⟨Nat.le_trans (Nat.le_of_ble_eq_true e) (by decide), h⟩
  · exact h.elim
theorem dsl_mono {es : List D} {k k' : Prop} (i : k → k') (h : dsl es k) : dsl es k' := by
  unfold dsl at *
  split at h
  · exact i h
  · exact h.elim
def opTup : OPN := fun ms q => match fzs ms with
  | some ds => dsl ds (q (.fz (.tup ds)))
  | none => False
def opLst : OPN := fun ms q => match fzs ms with
  | some ds => dsl ds (q (.lst ds))
  | none => False
theorem owns_fzs {K : PySem.W.Frag} {G H : Hp} : ∀ {vs : List V} {ms : List M} {ds : List D}, Owns K G H vs ms → fzs ms = some ds → Reps K G vs ds
  | [], [], _, _, e => by
    cases e
    exact .nil
  | v :: vs, .fz d :: ms, ds, h, e => by
    unfold fzs at e
    cases e1 : fzs ms with
    | none => rw [e1] at e; cases e
    | some es =>
      rw [e1] at e
      cases e
      obtain ⟨⟨F, w⟩, h⟩ := h
      cases w with
      | fz w => exact .cons w (owns_fzs h e1)
  | _ :: _, .lst _ :: _, _, _, e => by cases e
  | _ :: _, .dK _ :: _, _, _, e => by cases e
  | _ :: _, .dT _ :: _, _, _, e => by cases e
  | [], _ :: _, _, h, _ => h.elim
  | _ :: _, [], _, h, _ => h.elim
theorem snd_tup {K : PySem.W.Frag} : SndN K (fun xs H Q => xs.length ≤ sizeLine ∧ ∀ p o, H p = none → TupO xs o → Q (.ref p) (upd H p o)) opTup where
  run := fun G H xs ms Q ex ow q => by
    unfold opTup at q
    split at q
    · rename_i ds e
      have r := owns_fzs ow e
      obtain ⟨h1, q⟩ := dsl_of q
      exact ⟨by rw [r.length]; exact h1, fun p o n t => q _ _ (.tup n t r)⟩
    · exact q.elim
  mono := fun a q q' h k => by
    unfold opTup at *
    split at k
    · exact dsl_mono (h _) k
    · exact k.elim
theorem snd_lst {K : PySem.W.Frag} : SndN K (fun xs H Q => xs.length ≤ sizeLine ∧ ∀ p, H p = none → Q (.ref p) (upd H p (.lst xs))) opLst where
  run := fun G H xs ms Q ex ow q => by
    unfold opLst at q
    split at q
    · rename_i ds e
      have r := owns_fzs ow e
      obtain ⟨h1, q⟩ := dsl_of q
      exact ⟨by rw [r.length]; exact h1, fun p n => q _ _ (.lst n r)⟩
    · exact q.elim
  mono := fun a q q' h k => by
    unfold opLst at *
    split at k
    · exact dsl_mono (h _) k
    · exact k.elim
def tTupF (t : TA) : TE := fun σ H Q => t σ H fun xs H1 => xs.length ≤ sizeLine ∧ ∀ p o, H1 p = none → TupO xs o → Q (.ref p) (upd H1 p o)
theorem pe_tupF {X : Cx} {es : List Expr} {t : TA} {pos : Pos} {x1} (h : PA X es t) : PE X (.Tuple es x1 pos) (tTupF t) := by
  refine ⟨fun pins s σ H Q I hq => ?_⟩
  refine wpAny_Tuple_spliced (thn (h.run pos pins s σ H _ I hq) fun us s1 ⟨xs, H1, I1, r, z, q⟩ => ⟨by rw [← r.length]; exact z, ?_⟩)
  obtain ⟨o, t, I'⟩ := laid_tup I1 z r
  exact ⟨.ref s1.heap.objs.size, _, I', rfl, q _ _ (I1.hok.fresh (Nat.le_refl _)) t⟩
section
variable {y : Y} {es : List Expr} {wa : WA} {pos : Pos}
theorem se_tup {k : Nat} (h : SA y es wa) : SE y (.Tuple es k pos) (wN opTup wa) :=
  ⟨PE_imp (pe_tupF h.run) (liftN snd_tup h.mono), mono_wN (K := y.X.K) snd_tup h.mono⟩
theorem se_lst (h : SA y es wa) : SE y (.List es pos) (wN opLst wa) :=
  ⟨PE_imp (pe_lst h.run) (liftN snd_lst h.mono), mono_wN (K := y.X.K) snd_lst h.mono⟩
/-- {}: which keys it will have is the prover's to say -/
def wDict : WE := fun e Q _ => Q (.dK []) e ∨ Q (.dT []) e
theorem se_dict : SE y (.Dict [] [] pos) wDict where
  run := ⟨fun pins s σ H Q I ⟨e, P, h0, q⟩ => by
    obtain ⟨G, g⟩ := h0.2.opn
    rcases q with q | q
    · exact (pe_dnewK (X := y.X)).run pins s σ H Q I fun p hp => q _ _ ⟨h0.1, (g.res _ _ _ (.dK hp .nil)).perm List.perm_middle.symm⟩
    · exact (pe_dnewT (X := y.X)).run pins s σ H Q I fun p hp => q _ _ ⟨h0.1, (g.res _ _ _ (.dT hp .nil)).perm List.perm_middle.symm⟩⟩
  mono := fun e Q Q' X X' hq hx q => q.imp (hq _ _) (hq _ _)
end

/-! ### calls of built-ins -/
section
variable {y : Y} {e : Expr} {es : List Expr} {wa : WA} {p pos : Pos} {x : Str} {op : OPN} {r : List V → Hp → VK → Prop}
theorem se_callB {id : String} (hc : CallR y.X (.builtin id) r) (hs : SndN y.X.K r op) (hg : Gl y.X x) (hm : y.X.mg x = none) (hv : bootBuiltins x = some (.builtin id)) (ha : SA y (e :: es) wa)
    (hn : x ≠ "__name__") (hdb : (x == ("__debug__" : Str)) = false) (he : starEach (e :: es) y.X.env = (false, eval e y.X.env) :: starEach es y.X.env) (hpl : (backTo pos (starEach es y.X.env)).any (·.1) = false) :
    SE y (.Call (.Name x p) (e :: es) [] pos) (wN op wa) :=
  ⟨PE_imp (pe_callB hc hg hm hv ha.run hn hdb he hpl) (liftN hs ha.mono), mono_wN hs ha.mono⟩
theorem se_callTy {T : String} (hc : CallR y.X (.type T) r) (hs : SndN y.X.K r op) (hg : Gl y.X x) (hm : y.X.mg x = none) (hv : bootBuiltins x = some (.type T)) (ha : SA y (e :: es) wa)
    (hn : x ≠ "__name__") (hdb : (x == ("__debug__" : Str)) = false) (he : starEach (e :: es) y.X.env = (false, eval e y.X.env) :: starEach es y.X.env) (hpl : (backTo pos (starEach es y.X.env)).any (·.1) = false) :
    SE y (.Call (.Name x p) (e :: es) [] pos) (wN op wa) :=
  ⟨PE_imp (pe_callTy hc hg hm hv ha.run hn hdb he hpl) (liftN hs ha.mono), mono_wN hs ha.mono⟩
end

/-! ### slices -/
/-- a part of a slice: left out, or a whole number -/
abbrev WP := En → (Option Int → En → Prop) → XQ → Prop
def pNo : WP := fun e Q _ => Q none e
def pInt (w : WE) : WP := fun e Q X => w e (fun m e' => match m with
  | .fz (.int i) => Q (some i) e'
  | _ => False) X
def liftP (y : Y) (w : WP) : TO := fun σ H Q => ∃ e P, Ok y.X.K H σ e P ∧ w e (fun o e' => ∀ H', Ok y.X.K H' σ e' P → Q o H') (xpost y σ P)
structure SP' (y : Y) (e : Option Expr) (w : WP) : Prop where
  run : PO y.X e (liftP y w)
  mono : ∀ e Q Q' X X', (∀ m e, Q m e → Q' m e) → (∀ x e, X x e → X' x e) → w e Q X → w e Q' X'
theorem PO_imp {X : Cx} {e : Option Expr} {t t' : TO} (h : PO X e t) (i : ∀ σ H Q, t' σ H Q → t σ H Q) : PO X e t' := ⟨fun pins s σ H Q I q => h.run pins s σ H Q I (i _ _ _ q)⟩
theorem ok_int {K : PySem.W.Frag} {H : Hp} {σ : L2.St} {e : En} {P : List (V × M)} {v : V} {b : Int} (h : Ok K H σ e ((v, .fz (.int b)) :: P)) : v = .int b := by
  obtain ⟨G, g⟩ := h.2.opn
  obtain ⟨F, w⟩ := g.own (v, .fz (.int b)) (List.mem_append_right _ List.mem_cons_self)
  cases w with
  | fz w =>
    cases w
    rfl
theorem sp_no {y : Y} : SP' y none pNo := ⟨PO_imp po_none fun σ H Q ⟨e, P, h0, q⟩ => q H h0, fun e Q Q' X X' hq hx q => hq _ _ q⟩
theorem sp_int {y : Y} {e : Expr} {w : WE} (h : SE y e w) : SP' y (some e) (pInt w) where
  run := PO_imp (po_some h.run) fun σ H Q ⟨e, P, h0, q⟩ => ⟨e, P, h0, h.mono _ _ _ _ _ (fun m e' q v H' o => by
    split at q
    · exact ⟨_, ok_int o, q H' o.pop⟩
    · exact q.elim) (fun _ _ q => q) q⟩
  mono := fun e Q Q' X X' hq hx q => h.mono _ _ _ _ _ (fun m e' q => by
    split at q
    · exact hq _ _ q
    · exact q.elim) hx q
abbrev OPS := M → Option Int → Option Int → (M → Prop) → Prop
structure SndS (K : PySem.W.Frag) (r : V → Option Int → Option Int → Hp → VK → Prop) (op : OPS) : Prop where
  run : ∀ G H x mx F lo hi (Q : VK), Ex G H → Own K G H x mx F → op mx lo hi (fun m => ∀ v H', ResOk K G H m v H' → Q v H') → r x lo hi H Q
  mono : ∀ a lo hi (q q' : M → Prop), (∀ m, q m → q' m) → op a lo hi q → op a lo hi q'
def wSl (op : OPS) (o : WO) (lo hi : WP) : WE := fun e Q X => o e (fun a e1 => lo e1 (fun l e2 => hi e2 (fun h e3 => withO a e3 fun ma => op ma l h fun m => Q m e3) X) X) X
theorem se_slice {y : Y} {e : Expr} {lo hi : Option Expr} {p2 pos : Pos} {o : WO} {wl wh : WP} {op : OPS} {r : V → Option Int → Option Int → Hp → VK → Prop} (hr : SlR y.X r) (hs : SndS y.X.K r op) (he : SO y e o) (hl : SP' y lo wl) (hh : SP' y hi wh) :
    SE y (.Subscript e (.Slice lo hi none p2) pos) (wSl op o wl wh) where
  run := PE_imp (pe_slice hr he.run hl.run hh.run) fun σ H Q ⟨e, P, h0, q⟩ => ⟨e, P, h0, he.mono _ _ _ _ _ (fun a e1 q v H1 o1 => by
    obtain ⟨o1, p1⟩ := o1
    refine ⟨e1, pend a v ++ P, o1, hl.mono _ _ _ _ _ (fun l e2 q H2 o2 => ?_) (fun _ _ q => xpost_pend q) q⟩
    refine ⟨e2, pend a v ++ P, o2, hh.mono _ _ _ _ _ (fun h e3 q H3 o3 => ?_) (fun _ _ q => xpost_pend q) q⟩
    obtain ⟨ma, m1, q⟩ := withO_mem o3 p1 q
    obtain ⟨G, g⟩ := o3.2.opn
    obtain ⟨F1, w1⟩ := g.own _ m1
    exact hs.run G H3 v ma F1 l h Q g.ex w1 (hs.mono _ _ _ _ _ (fun m q v' H' r' => q v' H' (g.fin o3.1 r')) q)) (fun _ _ q => q) q⟩
  mono := fun e Q Q' X X' hq hx q => he.mono _ _ _ _ _ (fun a e1 q => hl.mono _ _ _ _ _ (fun l e2 q => hh.mono _ _ _ _ _ (fun h e3 q => withO_mono (fun ma q => hs.mono _ _ _ _ _ (fun m q => hq _ _ q) q) q) hx q) hx q) hx q

/-! ### what is walked -/
/-- a target of several names -/
def isTp : Expr → Bool
  | .Tuple _ _ _ => true
  | _ => false
/-- what a turn gives: a thing, or (to a target of several names) a pair that is taken apart at once -/
def Gvn (K : PySem.W.Frag) (tp : Bool) (H' : Hp) (x : V) (d : D) (L : List (V × M)) : Prop :=
  Sep K H' ((x, .fz d) :: L) ∨ (tp = true ∧ ∃ p vs es, x = .ref p ∧ d = .tup es ∧ SqT K H' p vs ∧ vs.length = es.length ∧ Sep K H' (vs.zip (es.map M.fz) ++ L))
structure Walks (K : PySem.W.Frag) (tp : Bool) (J : It) (ds : List D) (R : List (V × M)) : Prop where
  go : ∀ i H L d, Sep K H (R ++ L) → ds[i]? = some d → J.go i H ∧ ∀ x H', J.yld i H x H' → Gvn K tp H' x d (R ++ L)
  stop : ∀ i H L, Sep K H (R ++ L) → ds.length ≤ i → J.stop i H
def liftI (y : Y) (tg : Expr) (w : WI) : TI := fun σ H R' => ∃ e P, Ok y.X.K H σ e P ∧ w e (fun ds e' => ∀ J H1 R, Walks y.X.K (isTp tg) J ds R → Ok y.X.K H1 σ e' (R ++ P) → R' J H1) (xpost y σ P)
structure SI (y : Y) (tg iter : Expr) (w : WI) : Prop where
  run : PI y.X tg iter (liftI y tg w)
  mono : MonoI w

/-! ### targets of loops -/
inductive Tg where
  | nm (i : Nat) | tp (ts : List Tg)
mutual
def Tg.asg : Tg → M → En → Option En
  | .nm i, m, e => some (e.set i (some m))
  | .tp ts, m, e => match m.d with
    | .tup ds => Tg.asgs ts ds e
    | _ => none
def Tg.asgs : List Tg → List D → En → Option En
  | [], [], e => some e
  | t :: ts, d :: ds, e => (t.asg (.fz d) e).bind fun e' => Tg.asgs ts ds e'
  | _, _, _ => none
end
mutual
def Tg.slots : Tg → List Nat
  | .nm i => [i]
  | .tp ts => Tg.slotss ts
def Tg.slotss : List Tg → List Nat
  | [] => []
  | t :: ts => t.slots ++ Tg.slotss ts
end
mutual
def Tg.tg (K : PySem.W.Frag) : Tg → TG
  | .nm i => gName i
  | .tp ts => gTup K ts.length (Tg.tgs K ts)
def Tg.tgs (K : PySem.W.Frag) : List Tg → TGs
  | [] => gNil
  | t :: ts => gCons (t.tg K) (Tg.tgs K ts)
end
theorem ok_tup {K : PySem.W.Frag} {H : Hp} {σ : L2.St} {e : En} {P : List (V × M)} {v : V} {m : M} {ds : List D} (h : Ok K H σ e ((v, m) :: P)) (em : m.d = .tup ds) : ∃ a vs, v = .ref a ∧ SqT K H a vs ∧ vs.length = ds.length ∧ Ok K H σ e (vs.zip (ds.map M.fz) ++ P) := by
  obtain ⟨F, nd, q⟩ := h.2
  obtain ⟨F', pm, q'⟩ := q.perm List.perm_middle
  have nd' := pm.nodup nd
  cases q' with
  | cons w r =>
    rename_i F1 F2
    cases w with
    | fz w =>
      have em : _ = D.tup ds := em
      subst em
      cases w with
      | tup hs rs =>
        rename_i a vs
        refine ⟨a, vs, rfl, (hs.mono hid_ex).sqT, rs.length, h.1, ?_⟩
        have build : ∀ {vs : List V} {ds : List D}, Reps K (hid H F) vs ds → Helds K (hid H F) H (vs.zip (ds.map M.fz)) [] := by
          intro vs ds rs
          induction vs generalizing ds with
          | nil =>
            cases rs
            exact .nil
          | cons v vs ih =>
            cases rs with
            | cons r rs => exact .cons (F1 := []) (F2 := []) (.fz r) (ih rs)
        have hF : hid H F = hid H F2 := hid_congr fun a => pm.mem_iff
        have b := build rs
        have t : Helds K (hid H F2) H (vs.zip (ds.map M.fz) ++ (prs σ e ++ P)) F2 := by
          rw [← hF]
          exact b.append r
        have t : Sep K H (vs.zip (ds.map M.fz) ++ (prs σ e ++ P)) := ⟨F2, nd', t⟩
        refine t.perm ?_
        rw [← List.append_assoc, ← List.append_assoc]
        exact List.perm_append_comm.append_right _
    | lst _ _ => cases em
    | dK _ _ => cases em
    | dT _ _ => cases em
/-- σ' differs from σ at these places alone -/
def But (ss : List Nat) (σ σ' : L2.St) : Prop := σ'.length = σ.length ∧ ∀ i, i ∉ ss → σ'[i]? = σ[i]?
theorem But.refl (ss : List Nat) (σ : L2.St) : But ss σ σ := ⟨rfl, fun _ _ => rfl⟩
theorem But.trans {a b : List Nat} {σ σ1 σ2 : L2.St} (h : But a σ σ1) (h' : But b σ1 σ2) : But (a ++ b) σ σ2 := ⟨h'.1.trans h.1, fun i z => (h'.2 i fun w => z (List.mem_append_right _ w)).trans (h.2 i fun w => z (List.mem_append_left _ w))⟩
theorem store_any {K : PySem.W.Frag} {H : Hp} {σ : L2.St} {e : En} {P : List (V × M)} {v : V} {m : M} (i : Nat) (h : Ok K H σ e ((v, m) :: P)) : Ok K H (σ.set i (some v)) (e.set i (some m)) P := by
  by_cases z : i < e.length
  · exact h.store z
  · have z' : e.length ≤ i := by omega
    rw [List.set_eq_of_length_le z', List.set_eq_of_length_le (by rw [← h.1.length]; exact z')]
    exact h.pop
mutual
theorem Tg.ok {K : PySem.W.Frag} : ∀ (t : Tg) {H : Hp} {σ : L2.St} {e e' : En} {P : List (V × M)} {v : V} {m : M} {Q : L2.St → Hp → Prop}, Ok K H σ e ((v, m) :: P) → t.asg m e = some e' → (∀ σ', Ok K H σ' e' P → But t.slots σ σ' → Q σ' H) → t.tg K v σ H Q
  | .nm i, H, σ, e, e', P, v, m, Q, h, a, q => by
    unfold Tg.asg at a
    cases a
    unfold Tg.tg
    refine q _ (store_any i h) ⟨by rw [List.length_set], fun j z => ?_⟩
    unfold Tg.slots at z
    rw [List.getElem?_set_ne fun w => z (by simp [w])]
  | .tp ts, H, σ, e, e', P, v, m, Q, h, a, q => by
    unfold Tg.asg at a
    split at a
    · rename_i ds em
      obtain ⟨p, vs, rfl, hs, hl, o⟩ := ok_tup h em
      unfold Tg.tg
      have hn : ts.length = ds.length := Tg.asgs_len ts a
      exact ⟨p, vs, rfl, hs, by rw [hl, hn], Tg.oks ts hl o a q⟩
    · cases a
theorem Tg.oks {K : PySem.W.Frag} : ∀ (ts : List Tg) {H : Hp} {σ : L2.St} {e e' : En} {P : List (V × M)} {vs : List V} {ds : List D} {Q : L2.St → Hp → Prop}, vs.length = ds.length → Ok K H σ e (vs.zip (ds.map M.fz) ++ P) → Tg.asgs ts ds e = some e' → (∀ σ', Ok K H σ' e' P → But (Tg.slotss ts) σ σ' → Q σ' H) → Tg.tgs K ts vs σ H Q
  | [], H, σ, e, e', P, vs, ds, Q, hl, h, a, q => by
    cases ds with
    | nil =>
      cases vs with
      | nil =>
        unfold Tg.asgs at a
        cases a
        unfold Tg.tgs
        exact ⟨rfl, q _ h (But.refl _ _)⟩
      | cons v vs => cases hl
    | cons d ds => unfold Tg.asgs at a; cases a
  | t :: ts, H, σ, e, e', P, vs, ds, Q, hl, h, a, q => by
    cases ds with
    | nil => unfold Tg.asgs at a; cases a
    | cons d ds =>
      cases vs with
      | nil => cases hl
      | cons v vs =>
        unfold Tg.asgs at a
        obtain ⟨e1, a1, a2⟩ := Option.bind_eq_some_iff.mp a
        unfold Tg.tgs
        refine ⟨v, vs, rfl, Tg.ok t (P := vs.zip (ds.map M.fz) ++ P) h a1 fun σ1 o1 b1 => ?_⟩
        refine Tg.oks ts (Nat.succ.inj hl) o1 a2 fun σ2 o2 b2 => q σ2 o2 ?_
        unfold Tg.slotss
        exact b1.trans b2
theorem Tg.asgs_len : ∀ (ts : List Tg) {ds : List D} {e e' : En}, Tg.asgs ts ds e = some e' → ts.length = ds.length
  | [], [], _, _, _ => rfl
  | [], _ :: _, _, _, h => by unfold Tg.asgs at h; cases h
  | _ :: _, [], _, _, h => by unfold Tg.asgs at h; cases h
  | t :: ts, d :: ds, e, e', h => by
    unfold Tg.asgs at h
    obtain ⟨e1, _, h2⟩ := Option.bind_eq_some_iff.mp h
    exact congrArg (· + 1) (Tg.asgs_len ts h2)
end

def Tg.isTp : Tg → Bool
  | .tp _ => true
  | _ => false
theorem Tg.okG {K : PySem.W.Frag} (t : Tg) {tp : Bool} {H : Hp} {x : V} {d : D} {L : List (V × M)} {σ : L2.St} {e e' : En} {P : List (V × M)} {Q : L2.St → Hp → Prop} (g : Gvn K tp H x d L) (al : Al σ e) (pm : L.Perm (prs σ e ++ P)) (htp : (tp && !t.isTp) = false)
    (a : t.asg (.fz d) e = some e') (q : ∀ σ', Ok K H σ' e' P → But t.slots σ σ' → Q σ' H) : t.tg K x σ H Q := by
  rcases g with s | ⟨ht, p, vs, es, rfl, rfl, hs, hl, s⟩
  · exact t.ok (P := P) ⟨al, s.perm ((pm.cons _).trans List.perm_middle.symm)⟩ a q
  · cases t with
    | nm i =>
      rw [ht] at htp
      cases htp
    | tp ts =>
      unfold Tg.asg at a
      have a : Tg.asgs ts es e = some e' := a
      unfold Tg.tg
      refine ⟨p, vs, rfl, hs, by rw [hl, Tg.asgs_len ts a], Tg.oks ts (P := P) hl ⟨al, s.perm ?_⟩ a q⟩
      refine (pm.append_left _).trans ?_
      rw [← List.append_assoc, ← List.append_assoc]
      exact List.perm_append_comm.append_right _

/-! ### statements -/
/-- places that are never stored to -/
def Kept (κ : List (Nat × V)) (σ : L2.St) : Prop := ∀ p ∈ κ, σ[p.1]? = some (some p.2)
def lend (y : Y) (κ : List (Nat × V)) (P : List (V × M)) (D : Ends) : WEnds where
  nx := fun e' => ∀ σ' H', Kept κ σ' → Ok y.X.K H' σ' e' P → D.nx σ' H'
  rt := fun m e' => ∀ σ' v H', Kept κ σ' → Ok y.X.K H' σ' e' ((v, m) :: P) → D.rt v H'
  bk := fun e' => ∀ σ' H', Kept κ σ' → Ok y.X.K H' σ' e' P → D.bk σ' H'
  ct := fun e' => ∀ σ' H', Kept κ σ' → Ok y.X.K H' σ' e' P → D.ct σ' H'
  ex := fun x e' => ∀ σ' c d H', Kept κ σ' → y.xr x c d H' → Ok y.X.K H' σ' e' P → y.W c d σ' H'
def liftS (y : Y) (κ : List (Nat × V)) (w : WS) : TS := fun D σ H => ∃ e P, Kept κ σ ∧ Ok y.X.K H σ e P ∧ w (lend y κ P D) e
structure SS (y : Y) (κ : List (Nat × V)) (st : Stmt) (w : WS) : Prop where
  run : PS y.X st (liftS y κ w)
  mono : MonoS w
structure SSs (y : Y) (κ : List (Nat × V)) (st : List Stmt) (w : WS) : Prop where
  run : PSs y.X st (liftS y κ w)
  mono : MonoS w
def sNx : WS := fun E e => E.nx e
def sSeq (a b : WS) : WS := fun E e => a { E with nx := fun e' => b E e' } e
def sExpr (w : WE) : WS := fun E e => w e (fun _ e1 => E.nx e1) E.ex
def sRet (o : WO) : WS := fun E e => o e (fun a e1 => match a with
  | .vl m => E.rt m e1
  | .pk i => match e1[i]? with
    | some (some m) => E.rt m (e1.set i none)
    | _ => False) E.ex
def sRetN : WS := fun E e => E.rt (.fz .non) e
def sIf (t : WT) (a b : WS) : WS := fun E e => t e (fun c e1 => if c = true then a E e1 else b E e1) E.ex
def sBrk : WS := fun E e => E.bk e
def sCnt : WS := fun E e => E.ct e
def sSet (i : Nat) (w : WE) : WS := fun E e => w e (fun m e1 => E.nx (e1.set i (some m))) E.ex
def sAsg (t : Tg) (w : WE) : WS := fun E e => w e (fun m e1 => match t.asg m e1 with
  | some e2 => E.nx e2
  | none => False) E.ex
def forGo (t : Tg) (b : WS) (E : WEnds) : List D → En → Prop
  | [], e => E.nx e
  | d :: ds, e => match t.asg (.fz d) e with
    | some e1 => b { nx := forGo t b E ds, rt := E.rt, bk := E.nx, ct := forGo t b E ds, ex := E.ex } e1
    | none => False
def sFor (wi : WI) (t : Tg) (b : WS) : WS := fun E e => wi e (fun ds e1 => forGo t b E ds e1) E.ex
def sWhile (t : WT) (b : WS) : WS := fun E e => ∃ I : Nat → En → Prop, (∃ m, I m e) ∧ ∀ m e, I m e →
  t e (fun c e1 => if c = true then b { nx := fun e' => ∃ m', m' < m ∧ I m' e', rt := E.rt, bk := E.nx, ct := fun e' => ∃ m', m' < m ∧ I m' e', ex := E.ex } e1 else E.nx e1) E.ex

section
variable {y : Y} {κ : List (Nat × V)} {st : Stmt} {rest : List Stmt} {e : Expr} {w : WE} {a b : WS} {t : WT} {pos : Pos}
/-- what an expression's ways out are to a statement -/
theorem xp_of {E : XQ} {σ : L2.St} {P : List (V × M)} {x : Xn} {e' : En} (hk : Kept κ σ) (h : ∀ σ' c d H', Kept κ σ' → y.xr x c d H' → Ok y.X.K H' σ' e' P → y.W c d σ' H') : xpost y σ P x e' := fun c d H' r o => h σ c d H' hk r o
theorem sss_nil : SSs y κ [] sNx := ⟨PSs_imp pss_nil fun D σ H ⟨e, P, hk, h0, q⟩ => q σ H hk h0, fun E E' e l q => l.nx _ q⟩
theorem mono_seq (ha : MonoS a) (hb : MonoS b) : MonoS (sSeq a b) := fun E E' e l q => ha { E with nx := fun e' => b E e' } { E' with nx := fun e' => b E' e' } e ⟨fun e q => hb E E' e l q, l.rt, l.bk, l.ct, l.ex⟩ q
theorem sss_cons (h1 : SS y κ st a) (h2 : SSs y κ rest b) : SSs y κ (st :: rest) (sSeq a b) where
  run := PSs_imp (pss_cons h1.run h2.run) fun D σ H ⟨e, P, hk, h0, q⟩ => ⟨e, P, hk, h0, h1.mono { lend y κ P D with nx := fun e' => b (lend y κ P D) e' } (lend y κ P { D with nx := liftS y κ b D }) _ ⟨fun e' q σ' H' hk' o => ⟨e', P, hk', o, q⟩, fun _ _ q => q, fun _ q => q, fun _ q => q, fun _ _ q => q⟩ q⟩
  mono := mono_seq h1.mono h2.mono
theorem sss_one (h1 : SS y κ st a) : SSs y κ [st] a := ⟨PSs_imp (pss_one h1.run) fun D σ H q => q, h1.mono⟩
theorem ss_pass : SS y κ (.Pass pos) sNx := ⟨PS_imp ps_pass fun D σ H ⟨e, P, hk, h0, q⟩ => q σ H hk h0, fun E E' e l q => l.nx _ q⟩
theorem ss_break : SS y κ (.Break pos) sBrk := ⟨PS_imp ps_break fun D σ H ⟨e, P, hk, h0, q⟩ => q σ H hk h0, fun E E' e l q => l.bk _ q⟩
theorem ss_continue : SS y κ (.Continue pos) sCnt := ⟨PS_imp ps_continue fun D σ H ⟨e, P, hk, h0, q⟩ => q σ H hk h0, fun E E' e l q => l.ct _ q⟩
theorem ss_expr (h : SE y e w) (hs : swapsWith e none pos.line y.X.env = pure false) : SS y κ (.Expr e pos) (sExpr w) where
  run := PS_imp (ps_expr h.run hs) fun D σ H ⟨e, P, hk, h0, q⟩ => ⟨e, P, h0, h.mono _ _ _ _ _ (fun m e1 q v H1 o => q σ H1 hk o.pop) (fun _ _ q c d H' r o => q σ c d H' hk r o) q⟩
  mono := fun E E' e l q => h.mono _ _ _ _ _ (fun _ _ q => l.nx _ q) l.ex q
theorem ss_ret {o : WO} (h : SO y e o) : SS y κ (.Return (some e) pos) (sRet o) where
  run := PS_imp (ps_ret h.run) fun D σ H ⟨e, P, hk, h0, q⟩ => ⟨e, P, h0, h.mono _ _ _ _ _ (fun a e1 q v H1 o => by
    obtain ⟨o, p⟩ := o
    cases a with
    | vl m => exact q σ v H1 hk o
    | pk i =>
      dsimp only at q
      split at q
      · rename_i m e1
        obtain ⟨v', e2, o'⟩ := Ok.take (P := P) o e1
        have e3 : some (some v) = some (some v') := p.symm.trans e2
        cases e3
        exact q σ v H1 hk o'
      · exact q.elim) (fun _ _ q c d H' r o => q σ c d H' hk r o) q⟩
  mono := fun E E' e l q => h.mono _ _ _ _ _ (fun a e1 q => by
    cases a with
    | vl m => exact l.rt _ _ q
    | pk i =>
      dsimp only at q ⊢
      split at q
      · exact l.rt _ _ q
      · exact q.elim) l.ex q
theorem ss_retN : SS y κ (.Return none pos) sRetN where
  run := PS_imp ps_retN fun D σ H ⟨e, P, hk, h0, q⟩ => q σ .non H hk (by
    obtain ⟨G, g⟩ := h0.2.opn
    exact ⟨h0.1, (g.res _ _ _ (.same .non)).perm List.perm_middle.symm⟩)
  mono := fun E E' e l q => l.rt _ _ q
theorem mono_sIf (h : MonoT t) (ha : MonoS a) (hb : MonoS b) : MonoS (sIf t a b) := fun E E' e l q => h _ _ _ _ _ (fun c e1 q => by
    cases c with
    | true => exact iteT (ha _ _ _ l (by simpa using q))
    | false => exact iteF (hb _ _ _ l (by simpa using q))) l.ex q
theorem ss_if {c : Expr} {xs ys : List Stmt} (h : ST y c t) (ha : SSs y κ xs a) (hb : SSs y κ ys b) : SS y κ (.If c xs ys pos) (sIf t a b) where
  run := PS_imp (ps_if h.run ha.run hb.run) fun D σ H ⟨e, P, hk, h0, q⟩ => ⟨e, P, h0, h.mono _ _ _ _ _ (fun c e1 q H1 o => by
    cases c with
    | true => exact iteT ⟨e1, P, hk, o, by simpa using q⟩
    | false => exact iteF ⟨e1, P, hk, o, by simpa using q⟩) (fun _ _ q c d H' r o => q σ c d H' hk r o) q⟩
  mono := mono_sIf h.mono ha.mono hb.mono
theorem Kept.but {ss : List Nat} {σ σ' : L2.St} (h : Kept κ σ) (b : But ss σ σ') (hs : ∀ p ∈ κ, p.1 ∉ ss) : Kept κ σ' := fun p z => (b.2 p.1 (hs p z)).trans (h p z)
theorem Kept.set {σ : L2.St} {i : Nat} {x : Option V} (h : Kept κ σ) (hi : ∀ p ∈ κ, p.1 ≠ i) : Kept κ (σ.set i x) := fun p z => by
  rw [List.getElem?_set_ne (Ne.symm (hi p z))]
  exact h p z
theorem ss_set {i : Nat} {x : Str} {pos' : Pos} (hN : y.X.N.Nodup) (hi : y.X.N[i]? = some x) (hx : Loc y.X.env.scope x) (h : SE y e w) (hs : swapsWith e (some (.Name x pos')) pos.line y.X.env = pure false) (hf : y.X.fn x = true ∨ y.X.env.scope.names.lookup x = some .local)
    (hκ : ∀ p ∈ κ, p.1 ≠ i) : SS y κ (.Assign [.Name x pos'] e pos) (sSet i w) where
  run := PS_imp (ps_set hN hi hx h.run hs hf) fun D σ H ⟨e, P, hk, h0, q⟩ => ⟨e, P, h0, h.mono _ _ _ _ _ (fun m e1 q v H1 o => q _ H1 (hk.set hκ) (store_any i o)) (fun _ _ q c d H' r o => q σ c d H' hk r o) q⟩
  mono := fun E E' e l q => h.mono _ _ _ _ _ (fun _ _ q => l.nx _ q) l.ex q
theorem mono_sAsg {tg : Tg} (h : MonoE w) : MonoS (sAsg tg w) := fun E E' e l q => h _ _ _ _ _ (fun _ _ q => by
    split at q
    · exact l.nx _ q
    · exact q.elim) l.ex q
theorem ss_asg {tg : Tg} {target : Expr} (hg : PG y.X target (tg.tg y.X.K)) (h : SE y e w) (hs : swapsWithSole [target] e pos.line y.X.env = pure false) (hw : swappedStores [target] e y.X.env = pure none)
    (h1 : (assignEach [target] y.X.env).map (·.2) = [assign target y.X.env]) (hκ : ∀ p ∈ κ, p.1 ∉ tg.slots) : SS y κ (.Assign [target] e pos) (sAsg tg w) where
  run := PS_imp (ps_asg h.run hg hs hw h1) fun D σ H ⟨e, P, hk, h0, q⟩ => ⟨e, P, h0, h.mono _ _ _ _ _ (fun m e1 q v H1 o => by
    split at q
    · rename_i e2 a
      exact tg.ok o a fun σ' o' bt => q σ' H1 (hk.but bt hκ) o'
    · exact q.elim) (fun _ _ q c d H' r o => q σ c d H' hk r o) q⟩
  mono := mono_sAsg h.mono
theorem mono_forGo {tg : Tg} (hb : MonoS b) {E E' : WEnds} (l : E.Le E') : ∀ (ds : List D) (e : En), forGo tg b E ds e → forGo tg b E' ds e
  | [], e, q => l.nx _ q
  | d :: ds, e, q => by
    unfold forGo at *
    split at q
    · rename_i e1 a
      exact hb { nx := forGo tg b E ds, rt := E.rt, bk := E.nx, ct := forGo tg b E ds, ex := E.ex } { nx := forGo tg b E' ds, rt := E'.rt, bk := E'.nx, ct := forGo tg b E' ds, ex := E'.ex } _
        ⟨fun e q => mono_forGo hb l ds e q, l.rt, l.nx, fun e q => mono_forGo hb l ds e q, l.ex⟩ q
    · exact q.elim
theorem ss_for {tg : Tg} {target iter : Expr} {body : List Stmt} {wi : WI} (hp : PassesOwn (model y.X.prog y.X.w) y.X.A y.X.env y.X.xe) (hc : y.X.calm = true) (hi : SI y target iter wi) (hg : PG y.X target (tg.tg y.X.K)) (hb : SSs y κ body b)
    (hs : ∀ x, foldedSetIterable iter y.X.env x = pure x) (hκ : ∀ p ∈ κ, p.1 ∉ tg.slots) (htp : (isTp target && !tg.isTp) = false) : SS y κ (.For target iter body [] pos) (sFor wi tg b) where
  run := PS_imp (ps_for hp hc hi.run hg hb.run hs) fun D σ H ⟨e, P, hk, h0, q⟩ => ⟨e, P, h0, hi.mono _ _ _ _ _ (fun ds e1 q J H1 R wk o => by
    refine ⟨fun i m σ' H' => m = ds.length - i ∧ i ≤ ds.length ∧ ∃ e', Kept κ σ' ∧ Ok y.X.K H' σ' e' (R ++ P) ∧ forGo tg b (lend y κ P D) (ds.drop i) e', ⟨ds.length, by simp, Nat.zero_le _, e1, hk, o, q⟩, ?_⟩
    rintro i m σ' H' ⟨rfl, hi, e', hk', o', q'⟩
    have hsep : Sep y.X.K H' (R ++ (prs σ' e' ++ P)) := o'.2.perm (by
      rw [← List.append_assoc, ← List.append_assoc]
      exact List.perm_append_comm.append_right _)
    by_cases hlt : i < ds.length
    · rw [List.drop_eq_getElem_cons hlt] at q'
      obtain ⟨g1, g2⟩ := wk.go i H' _ ds[i] hsep (List.getElem?_eq_getElem hlt)
      unfold forGo at q'
      split at q'
      · rename_i e2 ea
        refine .inr ⟨g1, fun σ2 H2 => ∃ e3, Kept κ σ2 ∧ Ok y.X.K H2 σ2 e3 (R ++ P) ∧ forGo tg b (lend y κ P D) (ds.drop (i + 1)) e3, fun σ2 H2 n => ?_, fun x H2 yl => ?_⟩
        · exact ⟨ds.length - (i + 1), by omega, rfl, hlt, n⟩
        · have sx := g2 x H2 yl
          refine tg.okG (P := R ++ P) sx o'.1 (by
            rw [← List.append_assoc, ← List.append_assoc]
            exact List.perm_append_comm.append_right _) htp ea fun σ3 o3 bt => ?_
          refine ⟨e2, R ++ P, hk'.but bt hκ, o3, hb.mono { nx := forGo tg b (lend y κ P D) (ds.drop (i + 1)), rt := (lend y κ P D).rt, bk := (lend y κ P D).nx, ct := forGo tg b (lend y κ P D) (ds.drop (i + 1)), ex := (lend y κ P D).ex } _ _ ⟨fun e4 q σ4 H4 k4 o4 => ⟨e4, k4, o4, q⟩, fun m e4 q σ4 v H4 k4 o4 => q σ4 v H4 k4 (Ok.pops (P := R) (o4.perm List.perm_middle.symm)), fun e4 q σ4 H4 k4 o4 => q σ4 H4 k4 o4.pops, fun e4 q σ4 H4 k4 o4 => ⟨e4, k4, o4, q⟩, fun x e4 q σ4 c d H4 k4 r o4 => q σ4 c d H4 k4 r o4.pops⟩ q'⟩
      · exact q'.elim
    · have e0 : i = ds.length := by omega
      subst e0
      rw [List.drop_length] at q'
      exact .inl ⟨wk.stop _ H' _ hsep (Nat.le_refl _), q' σ' H' hk' o'.pops⟩) (fun _ _ q c d H' r o => q σ c d H' hk r o) q⟩
  mono := fun E E' e l q => hi.mono _ _ _ _ _ (fun ds e1 q => mono_forGo hb.mono l ds e1 q) l.ex q
theorem ss_while {c : Expr} {body : List Stmt} (hp : PassesOwn (model y.X.prog y.X.w) y.X.A y.X.env y.X.xe) (h : ST y c t) (hb : SSs y κ body b) : SS y κ (.While c body [] pos) (sWhile t b) where
  run := PS_imp (ps_while hp h.run hb.run) fun D σ H ⟨e, P, hk, h0, q⟩ => by
    obtain ⟨I, ⟨m0, i0⟩, turn⟩ := q
    refine ⟨fun m σ' H' => ∃ e', Kept κ σ' ∧ Ok y.X.K H' σ' e' P ∧ I m e', ⟨m0, e, hk, h0, i0⟩, ?_⟩
    rintro m σ' H' ⟨e', hk', o', i'⟩
    refine ⟨e', P, o', h.mono _ _ _ _ _ (fun c e1 q H1 o1 => ?_) (fun _ _ q c d H' r o => q σ' c d H' hk' r o) (turn m e' i')⟩
    cases c with
    | true =>
      rw [if_pos rfl] at q
      refine iteT ⟨fun σ2 H2 => ∃ m', m' < m ∧ ∃ e2, Kept κ σ2 ∧ Ok y.X.K H2 σ2 e2 P ∧ I m' e2, fun σ2 H2 ⟨m', hm, n⟩ => ⟨m', hm, n⟩, ?_⟩
      exact ⟨e1, P, hk', o1, hb.mono { nx := fun e' => ∃ m', m' < m ∧ I m' e', rt := (lend y κ P D).rt, bk := (lend y κ P D).nx, ct := fun e' => ∃ m', m' < m ∧ I m' e', ex := (lend y κ P D).ex } _ _ ⟨fun e2 ⟨m', hm, i2⟩ σ2 H2 k2 o2 => ⟨m', hm, e2, k2, o2, i2⟩, fun _ _ q => q, fun _ q => q, fun e2 ⟨m', hm, i2⟩ σ2 H2 k2 o2 => ⟨m', hm, e2, k2, o2, i2⟩, fun _ _ q => q⟩ q⟩
    | false =>
      rw [if_neg Bool.false_ne_true] at q
      exact iteF (q σ' H1 hk' o1)
  mono := fun E E' e l ⟨I, i0, turn⟩ => ⟨I, i0, fun m e im => h.mono _ _ _ _ _ (fun c e1 q => by
    cases c with
    | true =>
      rw [if_pos rfl] at q
      exact iteT (hb.mono { nx := fun e' => ∃ m', m' < m ∧ I m' e', rt := E.rt, bk := E.nx, ct := fun e' => ∃ m', m' < m ∧ I m' e', ex := E.ex } { nx := fun e' => ∃ m', m' < m ∧ I m' e', rt := E'.rt, bk := E'.nx, ct := fun e' => ∃ m', m' < m ∧ I m' e', ex := E'.ex } _ ⟨fun _ q => q, l.rt, l.nx, fun _ q => q, l.ex⟩ q)
    | false => exact iteF (l.nx _ (by simpa using q))) l.ex (turn m e im)⟩
end
end VW

set_option Elab.async false
set_option linter.all false
set_option maxRecDepth 100000
/-! VW3: comprehensions, calls of defs, what a def is worth. -/
namespace VW
open PySem PySem.Spec PyProof.Rows L2

/-! ### comprehensions -/
def wipeE (e : En) : List Nat → En
  | [] => e
  | i :: is => (wipeE e is).set i none
/-- the places of a block's own names as they were -/
def unwipe (e0 : En) : List Nat → En → En
  | [], e => e
  | i :: is, e => (unwipe e0 is e).set i (e0.getD i none)
def noX : XQ := fun _ _ => False
def lcGo (t : Tg) (tt : WT) (te : WE) (own : List Nat) : List D → List D → En → (List D → En → Prop) → Prop
  | [], acc, e, k => k acc e
  | d :: ds, acc, e, k => match t.asg (.fz d) e with
    | some e1 => tt e1 (fun b e2 => if b = true then te e2 (fun m e3 => lcGo t tt te own ds (acc ++ [m.d]) (wipeE e3 own) k) noX else lcGo t tt te own ds acc (wipeE e2 own) k) noX
    | none => False
def wLc (wi : WI) (t : Tg) (tt : WT) (te : WE) (own : List Nat) : WE := fun e Q X => wi e (fun ds e1 => ds.length ≤ sizeLine ∧ lcGo t tt te own ds [] (wipeE e1 own) fun acc e2 => Q (.lst acc) (unwipe e1 own e2)) X
def tYesW : WT := fun e Q _ => Q true e
theorem mono_lcGo {t : Tg} {tt : WT} {te : WE} {own : List Nat} (ht : MonoT tt) (he : MonoE te) : ∀ (ds acc : List D) (e : En) (k k' : List D → En → Prop), (∀ a e, k a e → k' a e) → lcGo t tt te own ds acc e k → lcGo t tt te own ds acc e k'
  | [], acc, e, k, k', h, q => h _ _ q
  | d :: ds, acc, e, k, k', h, q => by
    unfold lcGo at *
    split at q
    · refine ht _ _ _ _ _ (fun b e2 q => ?_) (fun _ _ q => q) q
      cases b with
      | true =>
        rw [if_pos rfl] at q ⊢
        exact he _ _ _ _ _ (fun m e3 q => mono_lcGo ht he _ _ _ _ _ h q) (fun _ _ q => q) q
      | false =>
        rw [if_neg Bool.false_ne_true] at q ⊢
        exact mono_lcGo ht he _ _ _ _ _ h q
    · exact q.elim
theorem mono_wLc {wi : WI} {t : Tg} {tt : WT} {te : WE} {own : List Nat} (hi : MonoI wi) (ht : MonoT tt) (he : MonoE te) : MonoE (wLc wi t tt te own) := fun e Q Q' X X' hq hx q =>
  hi _ _ _ _ _ (fun ds e1 q => ⟨q.1, mono_lcGo ht he _ _ _ _ _ (fun _ _ q => hq _ _ q) q.2⟩) hx q
structure STs (y : Y) (ifs : List Expr) (w : WT) : Prop where
  run : PTs y.X ifs (liftT y w)
  mono : MonoT w
theorem PTs_imp {X : Cx} {e : List Expr} {t t' : TT} (h : PTs X e t) (i : ∀ σ H Q, t' σ H Q → t σ H Q) : PTs X e t' := ⟨fun pins s σ H Q I q => h.run pins s σ H Q I (i _ _ _ q)⟩
theorem sts_nil {y : Y} : STs y [] tYesW := ⟨PTs_imp pts_nil fun σ H Q ⟨e, P, h0, q⟩ => q H h0, fun _ _ _ _ _ hq _ q => hq _ _ q⟩
theorem sts_one {y : Y} {c : Expr} {w : WT} (h : ST y c w) : STs y [c] w := ⟨PTs_imp (pts_one h.run) fun σ H Q q => q, h.mono⟩
/-- within a block nothing is raised -/
abbrev Y.blk (y : Y) (s : Shared) (H : Hp) (scope : Scope) (C : Addr) (cl : List (Str × Addr)) (fp : List Addr) : Y := ⟨y.X.blk s H scope (compEnvC scope cl C y.X.env) fp, y.xr, fun _ _ _ _ => False⟩
theorem wipe_but {own : List Nat} {σ σ' : L2.St} : ∀ {vs : List Nat}, But own σ σ' → (∀ i ∈ own, i ∈ vs) → wipe σ' vs = wipe σ vs := fun {vs} b hs => by
  have key : ∀ (vs : List Nat) (τ : L2.St) (j : Nat), (wipe τ vs)[j]? = if j ∈ vs ∧ j < τ.length then some none else τ[j]? := by
    intro vs τ j
    induction vs with
    | nil => simp [wipe]
    | cons v vs ih =>
      unfold wipe
      by_cases e : v = j
      · subst e
        by_cases l : v < τ.length
        · rw [List.getElem?_set_self (by rw [wipe_length]; exact l), if_pos ⟨by simp, l⟩]
        · rw [List.getElem?_eq_none (by rw [List.length_set, wipe_length]; omega), if_neg fun z => l z.2, List.getElem?_eq_none (by omega)]
      · rw [List.getElem?_set_ne e, ih]
        have : (j ∈ v :: vs) ↔ j ∈ vs := by simp [Ne.symm e]
        simp only [this]
  apply List.ext_getElem?
  intro j
  rw [key, key, b.1]
  by_cases z : j ∈ vs
  · by_cases l : j < σ.length
    · rw [if_pos ⟨z, l⟩, if_pos ⟨z, l⟩]
    · rw [if_neg fun w => l w.2, if_neg fun w => l w.2, List.getElem?_eq_none (by rw [b.1]; omega), List.getElem?_eq_none (by omega)]
  · rw [if_neg fun w => z w.1, if_neg fun w => z w.1, b.2 j fun w => z (hs j w)]
section
variable {K : PySem.W.Frag} {H : Hp} {σ : L2.St} {e : En} {P : List (V × M)}
theorem Ok.wiped (h : Ok K H σ e P) : ∀ own : List Nat, Ok K H (wipe σ own) (wipeE e own) P
  | [] => h
  | i :: is => (Ok.wiped h is).forget i none
/-- the block's own places leave the places, and come back -/
theorem Ok.hide (h : Ok K H σ e P) : ∀ own : List Nat, ∃ R : List (V × M), Ok K H (wipe σ own) (wipeE e own) (R ++ P) ∧ ∀ H' e' P', e'.length = e.length → Ok K H' (wipe σ own) e' (R ++ P') → Ok K H' σ (unwipe e own e') P'
  | [] => ⟨[], h, fun H' e' P' _ o => o⟩
  | i :: is => by
    obtain ⟨R, o, back⟩ := Ok.hide h is
    by_cases hm : ∃ m, (wipeE e is)[i]? = some (some m)
    · obtain ⟨m, hm⟩ := hm
      obtain ⟨v, hv, o1⟩ := o.take hm
      have o2 : Ok K H (wipe σ (i :: is)) (wipeE e (i :: is)) ((v, m) :: (R ++ P)) := by
        have z := Ok.forget o1 i none
        rw [List.set_set] at z
        exact z
      refine ⟨(v, m) :: R, o2, fun H' e' P' hl o' => ?_⟩
      have hi : i < (wipe σ is).length := (List.getElem?_eq_some_iff.mp hv).1
      have el : e'.length = σ.length := by rw [hl, h.1.length]
      have o3 : Ok K H' (wipe σ (i :: is)) e' ((v, m) :: (R ++ P')) := o'
      have o4 := o3.store (by rw [el]; rw [wipe_length] at hi; exact hi)
      have es : (wipe σ (i :: is)).set i (some v) = wipe σ is := by
        show ((wipe σ is).set i none).set i (some v) = wipe σ is
        rw [List.set_set]
        apply List.ext_getElem?
        intro j
        by_cases z : i = j
        · subst z
          rw [List.getElem?_set_self hi, hv]
        · rw [List.getElem?_set_ne z]
      rw [es] at o4
      have o5 := back H' _ P' (by rw [List.length_set, hl]) o4
      have em : e.getD i none = some m := by
        have hw : ∀ (is : List Nat) (m : M), (wipeE e is)[i]? = some (some m) → e[i]? = some (some m) := by
          intro is
          induction is with
          | nil => exact fun m z => z
          | cons k is ih =>
            intro m z
            unfold wipeE at z
            by_cases e1 : k = i
            · subst e1
              by_cases l : k < (wipeE e is).length
              · rw [List.getElem?_set_self l] at z
                cases z
              · rw [List.getElem?_eq_none (by rw [List.length_set]; omega)] at z
                cases z
            · rw [List.getElem?_set_ne e1] at z
              exact ih m z
        rw [List.getD_eq_getElem?_getD, hw is m hm]
        rfl
      have uw : unwipe e (i :: is) e' = unwipe e is (e'.set i (some m)) := by
        show (unwipe e is e').set i (e.getD i none) = _
        rw [em]
        have comm : ∀ (is : List Nat) (x : En), i ∉ is → (unwipe e is x).set i (some m) = unwipe e is (x.set i (some m)) := by
          intro is
          induction is with
          | nil => intro x _; rfl
          | cons k is ih =>
            intro x hn
            have hk : i ≠ k := fun z => hn (by simp [z])
            unfold unwipe
            rw [List.set_comm _ _ (Ne.symm hk), ih x fun z => hn (List.mem_cons_of_mem _ z)]
        refine comm is e' fun z => ?_
        have wn : ∀ (is : List Nat), i ∈ is → ∀ m, (wipeE e is)[i]? ≠ some (some m) := by
          intro is
          induction is with
          | nil => exact fun z => nomatch z
          | cons k is ih =>
            intro z m w
            unfold wipeE at w
            by_cases e1 : k = i
            · subst e1
              by_cases l : k < (wipeE e is).length
              · rw [List.getElem?_set_self l] at w
                cases w
              · rw [List.getElem?_eq_none (by rw [List.length_set]; omega)] at w
                cases w
            · rw [List.getElem?_set_ne e1] at w
              exact ih ((List.mem_cons.mp z).resolve_left (Ne.symm e1)) m w
        exact wn is z m hm
      rw [uw]
      exact o5
    · have o2 : Ok K H (wipe σ (i :: is)) (wipeE e (i :: is)) (R ++ P) := o.forget i none
      refine ⟨R, o2, fun H' e' P' hl o' => ?_⟩
      have o3 := Ok.forget o' i ((wipe σ is).getD i none)
      have es : (wipe σ (i :: is)).set i ((wipe σ is).getD i none) = wipe σ is := by
        show ((wipe σ is).set i none).set i ((wipe σ is).getD i none) = wipe σ is
        rw [List.set_set]
        apply List.ext_getElem?
        intro j
        by_cases z : i = j
        · subst z
          by_cases l : i < (wipe σ is).length
          · rw [List.getElem?_set_self l, List.getD_eq_getElem?_getD, List.getElem?_eq_getElem l]
            rfl
          · rw [List.set_eq_of_length_le (by omega)]
        · rw [List.getElem?_set_ne z]
      rw [es] at o3
      have o4 := back H' _ P' (by rw [List.length_set, hl]) o3
      by_cases him : i ∈ is
      · -- the place is one of the others, too: it is set back by them
        have dup : ∀ (is : List Nat) (x : En), i ∈ is → unwipe e is (x.set i none) = unwipe e is x := by
          intro is
          induction is with
          | nil => exact fun x z => nomatch z
          | cons k is ih =>
            intro x z
            unfold unwipe
            by_cases e1 : i = k
            · subst e1
              by_cases him : i ∈ is
              · rw [ih x him]
              · have comm : ∀ (is : List Nat) (x : En), i ∉ is → unwipe e is (x.set i none) = (unwipe e is x).set i none := by
                  intro is
                  induction is with
                  | nil => intro x _; rfl
                  | cons k is ih =>
                    intro x hn
                    have hk : i ≠ k := fun z => hn (by simp [z])
                    unfold unwipe
                    rw [ih x fun z => hn (List.mem_cons_of_mem _ z), List.set_comm _ _ hk]
                rw [comm is x him, List.set_set]
            · rw [ih x ((List.mem_cons.mp z).resolve_left e1)]
        have same : ∀ (is : List Nat) (x : En), i ∈ is → (unwipe e is x).set i (e.getD i none) = unwipe e is x := by
          intro is
          induction is with
          | nil => exact fun x z => nomatch z
          | cons k is ih =>
            intro x z
            unfold unwipe
            by_cases e1 : i = k
            · subst e1
              rw [List.set_set]
            · rw [List.set_comm _ _ (Ne.symm e1), ih x ((List.mem_cons.mp z).resolve_left e1)]
        show Ok K H' σ ((unwipe e is e').set i (e.getD i none)) P'
        rw [same is e' him, ← dup is e' him]
        exact o4
      · have comm : ∀ (is : List Nat) (x : En), i ∉ is → unwipe e is (x.set i none) = (unwipe e is x).set i none := by
          intro is
          induction is with
          | nil => intro x _; rfl
          | cons k is ih =>
            intro x hn
            have hk : i ≠ k := fun z => hn (by simp [z])
            unfold unwipe
            rw [ih x fun z => hn (List.mem_cons_of_mem _ z), List.set_comm _ _ hk]
        have eg : e.getD i none = none := by
          cases q : e.getD i none with
          | none => rfl
          | some m =>
            exfalso
            refine hm ⟨m, ?_⟩
            have q' : e[i]? = some (some m) := by
              rw [List.getD_eq_getElem?_getD] at q
              cases r : e[i]? with
              | none => rw [r] at q; cases q
              | some z => rw [r] at q; exact congrArg some q
            have wk : ∀ is : List Nat, i ∉ is → (wipeE e is)[i]? = e[i]? := by
              intro is
              induction is with
              | nil => intro _; rfl
              | cons k is ih =>
                intro hn
                unfold wipeE
                rw [List.getElem?_set_ne fun z => hn (by simp [z])]
                exact ih fun z => hn (List.mem_cons_of_mem _ z)
            rw [wk is him]
            exact q'
        show Ok K H' σ ((unwipe e is e').set i (e.getD i none)) P'
        rw [eg, ← comm is e' him]
        exact o4
end
theorem wipeE_length (e : En) : ∀ own : List Nat, (wipeE e own).length = e.length
  | [] => rfl
  | i :: is => by
    unfold wipeE
    rw [List.length_set, wipeE_length e is]
theorem perm_in {α : Type} (A R B : List α) : (A ++ (R ++ B)).Perm (R ++ (A ++ B)) := by
  have e1 : A ++ (R ++ B) = (A ++ R) ++ B := (List.append_assoc _ _ _).symm
  have e2 : R ++ (A ++ B) = (R ++ A) ++ B := (List.append_assoc _ _ _).symm
  rw [e1, e2]
  exact List.perm_append_comm.append_right _
/-- the reading of a comprehension -/
theorem lc_read {y : Y} {tge : Expr} {wi : WI} {t : Tg} {tt : WT} {te : WE} {own : List Nat} {σ : L2.St} {H : Hp} {Q : VK} (htp : (isTp tge && !t.isTp) = false) (hi : MonoI wi) (ht : MonoT tt) (he : MonoE te) (hs : ∀ i ∈ t.slots, i ∈ own)
    (h : liftE y (wLc wi t tt te own) σ H Q) : tLc (liftI y tge wi) (t.tg y.X.K) (liftT ⟨y.X, y.xr, fun _ _ _ _ => False⟩ tt) (liftE ⟨y.X, y.xr, fun _ _ _ _ => False⟩ te) own σ H Q := by
  obtain ⟨e, P, h0, q⟩ := h
  refine ⟨e, P, h0, hi _ _ _ _ _ (fun ds e1 q J H1 R wk o dd hD => ?_) (fun _ _ q => q) q⟩
  obtain ⟨hlen, q⟩ := q
  obtain ⟨G, g⟩ := o.2.opn
  have oD : Ok y.X.K (upd H1 dd (.lst [])) σ e1 ((.ref dd, .lst []) :: (R ++ P)) := ⟨o.1, (g.res _ _ _ (.lst hD .nil)).perm List.perm_middle.symm⟩
  obtain ⟨S, oS, back⟩ := oD.hide own
  let Bd := fun (i : Nat) (H' : Hp) => ∃ (e' : En) (acc : List D), e'.length = e1.length ∧ acc.length ≤ i ∧ Ok y.X.K H' (wipe σ own) e' (S ++ ((.ref dd, .lst acc) :: (R ++ P))) ∧
    lcGo t tt te own (ds.drop i) acc e' fun acc e2 => ∀ v H', Ok y.X.K H' σ (unwipe e1 own e2) ((v, .lst acc) :: P) → Q v H'
  refine ⟨fun i m H' => m = ds.length - i ∧ i ≤ ds.length ∧ Bd i H', ⟨ds.length, by simp, Nat.zero_le _, _, [], wipeE_length _ _, Nat.le_refl _, oS, q⟩, ?_⟩
  rintro i m H' ⟨rfl, hi, e', acc, el, al, o', q'⟩
  have hsep : Sep y.X.K H' (R ++ (prs (wipe σ own) e' ++ (S ++ ((.ref dd, .lst acc) :: P)))) := o'.2.perm (by
    have p1 : (S ++ ((V.ref dd, M.lst acc) :: (R ++ P))).Perm (R ++ (S ++ ((V.ref dd, M.lst acc) :: P))) := by
      refine (List.perm_middle (l₁ := S)).trans ?_
      refine List.Perm.trans ?_ ((List.perm_middle (l₁ := S)).symm.append_left R)
      refine List.Perm.trans ?_ List.perm_middle.symm
      refine List.Perm.cons _ ?_
      rw [← List.append_assoc, ← List.append_assoc]
      exact List.perm_append_comm.append_right _
    exact (p1.append_left _).trans (perm_in _ _ _))
  by_cases hlt : i < ds.length
  · rw [List.drop_eq_getElem_cons hlt] at q'
    obtain ⟨g1, g2⟩ := wk.go i H' _ ds[i] hsep (List.getElem?_eq_getElem hlt)
    refine .inr ⟨g1, fun H2 => Bd (i + 1) H2, fun H2 n => ⟨ds.length - (i + 1), by omega, rfl, hlt, n⟩, fun x H2 yl => ?_⟩
    have sx := g2 x H2 yl
    unfold lcGo at q'
    split at q'
    · rename_i e2 ea
      have pm : (R ++ (prs (wipe σ own) e' ++ (S ++ ((V.ref dd, M.lst acc) :: P)))).Perm (prs (wipe σ own) e' ++ (S ++ ((V.ref dd, M.lst acc) :: (R ++ P)))) := by
        have p1 : (R ++ (S ++ ((V.ref dd, M.lst acc) :: P))).Perm (S ++ ((V.ref dd, M.lst acc) :: (R ++ P))) := by
          refine List.Perm.trans ?_ (List.perm_middle (l₁ := S)).symm
          refine ((List.perm_middle (l₁ := S)).append_left R).trans ?_
          refine List.perm_middle.trans ?_
          refine List.Perm.cons _ ?_
          rw [← List.append_assoc, ← List.append_assoc]
          exact List.perm_append_comm.append_right _
        exact List.Perm.trans (perm_in _ _ _) (p1.append_left _)
      refine t.okG sx o'.1 pm htp ea fun σ3 o3 bt => ?_
      have w3 : wipe σ3 own = wipe (wipe σ own) own := wipe_but bt hs
      have ww : wipe (wipe σ own) own = wipe σ own := wipe_but (own := own) ⟨wipe_length _ _, fun j z => by
        have k2 : ∀ vs : List Nat, j ∉ vs → (wipe σ vs)[j]? = σ[j]? := by
          intro vs
          induction vs with
          | nil => intro _; rfl
          | cons k vs ih =>
            intro hn
            unfold wipe
            rw [List.getElem?_set_ne fun z => hn (by simp [z])]
            exact ih fun z => hn (List.mem_cons_of_mem _ z)
        exact k2 own z⟩ fun _ z => z
      refine ⟨w3.trans ww, ?_⟩
      refine ⟨e2, _, o3, ht _ _ _ _ _ (fun b e3 q H3 o4 => ?_) (fun _ _ q => q.elim) q'⟩
      cases b with
      | true =>
        rw [if_pos rfl] at q ⊢
        refine ⟨e3, _, o4, he _ _ _ _ _ (fun m e4 q v H4 o5 => ?_) (fun _ _ q => q.elim) q⟩
        -- the list at D
        have o6 : Ok y.X.K H4 σ3 e4 ((.ref dd, .lst acc) :: (v, .fz m.d) :: (S ++ (R ++ P))) := (Ok.freeze o5).perm (by
          refine List.Perm.trans ?_ (List.Perm.swap _ _ _)
          exact List.Perm.cons _ List.perm_middle)
        obtain ⟨G, p, F, ep, w, ex, oth, up, _, _⟩ := (o6.2.perm List.perm_middle).mut (fun _ z => nomatch z)
        cases ep
        cases w with
        | lst hp rs =>
          refine ⟨_, hp, ?_, e4.length |> fun _ => ?_⟩
          · rw [rs.length]
            exact Nat.lt_of_lt_of_le (Nat.lt_of_le_of_lt al hlt) hlen
          · obtain ⟨F2, w2⟩ := oth (v, .fz m.d) (List.mem_append_right _ List.mem_cons_self)
            cases w2 with
            | fz w2 =>
              have z := up _ _ (rs.append (.one w2))
              have o7 : Ok y.X.K (upd H4 dd (.lst (_ ++ [v]))) σ3 e4 ((.ref dd, .lst (acc ++ [m.d])) :: (v, .fz m.d) :: (S ++ (R ++ P))) := ⟨o6.1, z.perm List.perm_middle.symm⟩
              have o8 : Ok y.X.K (upd H4 dd (.lst (_ ++ [v]))) σ3 e4 (S ++ ((.ref dd, .lst (acc ++ [m.d])) :: (R ++ P))) := Ok.perm (Ok.pop (Ok.perm o7 (List.Perm.swap _ _ _))) List.perm_middle.symm
              refine ⟨wipeE e4 own, acc ++ [m.d], ?_, by simp; exact al, ?_, q⟩
              · rw [wipeE_length, o8.1.length, bt.1, ← o'.1.length, el]
              · have o9 := o8.wiped own
                rw [w3, ww] at o9
                exact o9
      | false =>
        rw [if_neg Bool.false_ne_true] at q ⊢
        refine ⟨wipeE e3 own, acc, ?_, Nat.le_succ_of_le al, ?_, q⟩
        · rw [wipeE_length, o4.1.length, bt.1, ← o'.1.length, el]
        · have o9 := o4.wiped own
          rw [w3, ww] at o9
          exact o9
    · exact q'.elim
  · have e0 : i = ds.length := by omega
    subst e0
    rw [List.drop_length] at q'
    refine .inl ⟨wk.stop _ H' _ hsep (Nat.le_refl _), ?_⟩
    refine q' (.ref dd) H' ?_
    have o9 := back H' e' ((.ref dd, .lst acc) :: (R ++ P)) el o'
    exact Ok.pops (P := R) (o9.perm List.perm_middle.symm)
end VW

set_option Elab.async false
set_option linter.all false
set_option maxRecDepth 100000
/-! VW4: comprehensions as expressions, calls of defs, what a def is worth. -/
namespace VW
open PySem PySem.Spec PyProof.Rows L2

section
variable {y : Y} {κ : List (Nat × V)} {elt tg iter : Expr} {ifs : List Expr} {scope : Scope} {own : List (Str × Nat)} {pos : Pos} {wi : WI} {t : Tg} {tt : WT} {te : WE}
theorem se_lc (hc : y.X.calm = true) (hN : y.X.N.Nodup) (hi : SI y tg iter wi) (ok : BlkOk y.X.N y.X.env.scope scope own)
    (hg : ∀ s H C cl fp, PG (y.blk s H scope C cl fp).X tg (t.tg y.X.K)) (ht : ∀ s H C cl fp, STs (y.blk s H scope C cl fp) ifs tt) (he : ∀ s H C cl fp, SE (y.blk s H scope C cl fp) elt te)
    (hs : ∀ x, foldedSetIterable iter y.X.env x = pure x) (ho : ∀ i ∈ t.slots, i ∈ own.map (·.2)) (mt : MonoT tt) (me : MonoE te) (htp : (isTp tg && !t.isTp) = false) : SE y (.ListComp elt [⟨tg, iter, ifs, 0⟩] scope pos) (wLc wi t tt te (own.map (·.2))) where
  run := PE_imp (pe_lc hc hN hi.run ok (fun s H C cl fp => hg s H C cl fp) (fun s H C cl fp => (ht s H C cl fp).run) (fun s H C cl fp => (he s H C cl fp).run) hs) fun σ H Q q => lc_read htp hi.mono mt me ho q
  mono := mono_wLc hi.mono mt me
theorem ss_setLc {i : Nat} {x : Str} {py spos : Pos} (hc : y.X.calm = true) (hN : y.X.N.Nodup) (hy : y.X.N[i]? = some x) (hyl : y.X.env.scope.names.lookup x = some .local)
    (hsw : swapsWith (.ListComp elt [⟨tg, iter, ifs, 0⟩] scope pos) (some (.Name x py)) spos.line y.X.env = pure true) (hi : SI y tg iter wi) (ok : BlkOk y.X.N y.X.env.scope scope own)
    (hg : ∀ s H C cl fp, PG (y.blk s H scope C cl fp).X tg (t.tg y.X.K)) (ht : ∀ s H C cl fp, STs (y.blk s H scope C cl fp) ifs tt) (he : ∀ s H C cl fp, SE (y.blk s H scope C cl fp) elt te)
    (hs : ∀ x, foldedSetIterable iter y.X.env x = pure x) (ho : ∀ i ∈ t.slots, i ∈ own.map (·.2)) (mt : MonoT tt) (me : MonoE te) (hκ : ∀ p ∈ κ, p.1 ≠ i) (htp : (isTp tg && !t.isTp) = false) : SS y κ (.Assign [.Name x py] (.ListComp elt [⟨tg, iter, ifs, 0⟩] scope pos) spos) (sSet i (wLc wi t tt te (own.map (·.2)))) where
  run := PS_imp (ps_setLc hc hN hy hyl hsw hi.run ok (fun s H C cl fp => hg s H C cl fp) (fun s H C cl fp => (ht s H C cl fp).run) (fun s H C cl fp => (he s H C cl fp).run) hs) fun D σ H ⟨e, P, hk, h0, q⟩ =>
    lc_read htp hi.mono mt me ho ⟨e, P, h0, mono_wLc hi.mono mt me _ _ _ _ _ (fun m e1 q v H1 o => q _ H1 (hk.set hκ) (store_any i o)) (fun _ _ q c d H' r o => q σ c d H' hk r o) q⟩
  mono := fun E E' e l q => mono_wLc hi.mono mt me _ _ _ _ _ (fun _ _ q => l.nx _ q) l.ex q
end

/-! ### defs and their calls -/
/-- a def: how many parameters, which of them it hands back, what it does -/
structure Fn where
  n : Nat
  kp : List Nat
  sp : List M → (M → En → Prop) → (Xn → Prop) → Prop
def MonoF (sp : List M → (M → En → Prop) → (Xn → Prop) → Prop) : Prop := ∀ ms Q Q' X X', (∀ m e, Q m e → Q' m e) → (∀ x, X x → X' x) → sp ms Q X → sp ms Q' X'
/-- the def's promise, as the layer has it -/
def spOf (K : PySem.W.Frag) (xr : Xn → Value → Option Addr → Hp → Prop) (fn : Fn) : Sp := fun vs H Q E => vs.length = fn.n ∧ ∃ ms P, ms.length = vs.length ∧ Sep K H (vs.zip ms ++ P) ∧
  fn.sp ms (fun m ms' => ∀ v H', Sep K H' ((v, m) :: (prs (vs.map some) ms' ++ P)) → Q v H') (fun x => ∀ c d H', xr x c d H' → Sep K H' P → E c d H')
/-- the arguments go over: what a place holds leaves it -/
def mvAs : List Opd → En → (List M → En → Prop) → Prop
  | [], e, k => k [] e
  | .vl m :: as, e, k => mvAs as e fun ms e' => k (m :: ms) e'
  | .pk i :: as, e, k => match e[i]? with
    | some (some m) => mvAs as (e.set i none) fun ms e' => k (m :: ms) e'
    | _ => False
/-- .. and comes back -/
def bkAs : List Opd → En → En → En
  | .pk i :: as, m :: ms, e => bkAs as ms (e.set i m)
  | .vl _ :: as, _ :: ms, e => bkAs as ms e
  | _, _, e => e
def wCall (fn : Fn) (wa : WA) : WE := fun e Q X => wa e (fun as e1 => mvAs as e1 fun ms e2 => ms.length = fn.n ∧ fn.sp ms (fun m ms' => Q m (bkAs as ms' e2)) (fun x => X x e2)) X
theorem mvAs_mono : ∀ {as : List Opd} {e : En} {k k' : List M → En → Prop}, (∀ m e, k m e → k' m e) → mvAs as e k → mvAs as e k'
  | [], _, _, _, h, q => h _ _ q
  | .vl m :: as, _, _, _, h, q => mvAs_mono (as := as) (fun ms e' q => h _ _ q) q
  | .pk i :: as, e, _, _, h, q => by
    unfold mvAs at *
    split at q
    · exact mvAs_mono (fun ms e' q => h _ _ q) q
    · exact q.elim
theorem mono_wCall {fn : Fn} {wa : WA} (hf : MonoF fn.sp) (ha : MonoA wa) : MonoE (wCall fn wa) := fun e Q Q' X X' hq hx q =>
  ha _ _ _ _ _ (fun as e1 q => mvAs_mono (fun ms e2 q => ⟨q.1, hf _ _ _ _ _ (fun m e q => hq _ _ q) (fun x q => hx _ _ q) q.2⟩) q) hx q
section
variable {K : PySem.W.Frag} {H : Hp} {σ : L2.St}
theorem mvAs_ok : ∀ {as : List Opd} {vs : List V} {e : En} {P : List (V × M)} {k : List M → En → Prop}, Ok K H σ e (pends as vs ++ P) → pksOk σ as vs → mvAs as e k → ∃ ms e2, ms.length = vs.length ∧ Ok K H σ e2 (vs.zip ms ++ P) ∧ k ms e2
  | [], [], e, P, k, h, _, q => ⟨[], e, rfl, h, q⟩
  | [], _ :: _, _, _, _, _, p, _ => p.elim
  | _ :: _, [], _, _, _, _, p, _ => p.elim
  | .vl m :: as, v :: vs, e, P, k, h, p, q => by
    have h' : Ok K H σ e (pends as vs ++ ((v, m) :: P)) := by
      have e1 : pends (.vl m :: as) (v :: vs) ++ P = pends as vs ++ ((v, m) :: P) := by
        show (pends as vs ++ [(v, m)]) ++ P = _
        rw [List.append_assoc]
        rfl
      rw [← e1]
      exact h
    obtain ⟨ms, e2, l, o, q⟩ := mvAs_ok (as := as) h' p.2 q
    exact ⟨m :: ms, e2, congrArg (· + 1) l, o.perm List.perm_middle, q⟩
  | .pk i :: as, v :: vs, e, P, k, h, p, q => by
    unfold mvAs at q
    split at q
    · rename_i m e1
      have h' : Ok K H σ e (pends as vs ++ P) := by
        have e2 : pends (.pk i :: as) (v :: vs) ++ P = pends as vs ++ P := by
          show (pends as vs ++ []) ++ P = _
          rw [List.append_nil]
        rw [← e2]
        exact h
      obtain ⟨v', ev, o1⟩ := h'.take e1
      have e3 : some (some v) = some (some v') := p.1.symm.trans ev
      cases e3
      obtain ⟨ms, e2, l, o, q⟩ := mvAs_ok (as := as) (o1.perm List.perm_middle.symm) p.2 q
      exact ⟨m :: ms, e2, congrArg (· + 1) l, o.perm List.perm_middle, q⟩
    · exact q.elim
theorem set_same {σ : L2.St} {i : Nat} {v : V} (g : σ[i]? = some (some v)) : σ.set i (some v) = σ := by
  have hi := (List.getElem?_eq_some_iff.mp g).1
  apply List.ext_getElem?
  intro j
  by_cases z : i = j
  · subst z
    rw [List.getElem?_set_self hi, g]
  · rw [List.getElem?_set_ne z]
theorem prs_cons (v : V) (vs : List V) (m : Option M) (ms : En) : prs ((v :: vs).map some) (m :: ms) = (match m with
    | some m => [(v, m)]
    | none => []) ++ prs (vs.map some) ms := by cases m <;> rfl
theorem bkAs_ok : ∀ {as : List Opd} {vs : List V} {ms : En} {e : En} {R : List (V × M)}, Ok K H σ e (prs (vs.map some) ms ++ R) → pksOk σ as vs → Ok K H σ (bkAs as ms e) R
  | [], [], ms, e, R, h, _ => by
    have h' := Ok.pops h
    cases ms <;> exact h'
  | [], _ :: _, _, _, _, _, p => p.elim
  | _ :: _, [], _, _, _, _, p => p.elim
  | a :: as, v :: vs, [], e, R, h, p => by
    have h' := Ok.pops h
    cases a <;> exact h'
  | .vl m :: as, v :: vs, m' :: ms, e, R, h, p => by
    rw [prs_cons, List.append_assoc] at h
    exact bkAs_ok (as := as) h.pops p.2
  | .pk i :: as, v :: vs, some m :: ms, e, R, h, p => by
    rw [prs_cons, List.append_assoc] at h
    exact bkAs_ok (as := as) (Ok.give h p.1) p.2
  | .pk i :: as, v :: vs, none :: ms, e, R, h, p => by
    rw [prs_cons, List.append_assoc] at h
    have h' := Ok.forget h i (some v)
    rw [set_same p.1] at h'
    exact bkAs_ok (as := as) h' p.2
end
/-- how a call reads -/
theorem call_read {y : Y} {fn : Fn} {wa : WA} {σ : L2.St} {H : Hp} {Q : VK} (hf : MonoF fn.sp) (ha : MonoA wa) (h : liftE y (wCall fn wa) σ H Q) :
    tCallS (spOf y.X.K y.xr fn) (fun σ c d H => y.W c d σ H) (liftA y wa) σ H Q := by
  obtain ⟨e, P, h0, q⟩ := h
  refine ⟨e, P, h0, ha _ _ _ _ _ (fun as e1 q vs H1 o => ?_) (fun _ _ q => q) q⟩
  obtain ⟨o, p⟩ := o
  obtain ⟨ms, e2, l, o2, hn, q⟩ := mvAs_ok o p q
  have sp : Sep y.X.K H1 (vs.zip ms ++ (prs σ e2 ++ P)) := o2.2.perm (perm_in _ _ _)
  refine ⟨by rw [← l, hn], ms, prs σ e2 ++ P, l, sp, hf _ _ _ _ _ (fun m ms' q v H' s => q v H' ?_) (fun x q c d H' r s => q c d H' r ⟨o2.1, s⟩) q⟩
  have s' : Sep y.X.K H' (prs σ e2 ++ (prs (vs.map some) ms' ++ ((v, m) :: P))) := s.perm (by
    have p1 : ((v, m) :: (prs (vs.map some) ms' ++ (prs σ e2 ++ P))).Perm (prs (vs.map some) ms' ++ (prs σ e2 ++ ((v, m) :: P))) := by
      refine List.Perm.trans ?_ ((List.perm_middle.symm).append_left _)
      exact List.perm_middle.symm
    exact p1.trans (perm_in _ _ _))
  exact bkAs_ok (as := as) ⟨o2.1, s'⟩ p
section
variable {y : Y} {CX : CXT} {k : Nat} {f : Addr} {fd : FuncData} {ps : List Str} {fn : Fn} {x : Str} {p pos : Pos} {e : Expr} {es : List Expr} {wa : WA}
theorem se_call (F : FnOk y.X.prog y.X.w y.X.K y.X.mg y.X.base CX k f fd ps (spOf y.X.K y.xr fn)) (hr : Room k y.X.A) (hg : Gl y.X x) (hm : y.X.mg x = some (.ref f)) (hk : PySem.W.keepIn y.X.K (.ref f) = true) (hb : Binds y.X.K fd ps [])
    (hx : ∀ σ, PassesAt CX y.X σ (fun c d H => y.W c d σ H)) (hf : MonoF fn.sp) (ha : SA y (e :: es) wa) (hdb : (x == ("__debug__" : Str)) = false) (he : starEach (e :: es) y.X.env = (false, eval e y.X.env) :: starEach es y.X.env) (hpl : (backTo pos (starEach es y.X.env)).any (·.1) = false) :
    SE y (.Call (.Name x p) (e :: es) [] pos) (wCall fn wa) where
  run := PE_imp (pe_callS (E := fun σ c d H => y.W c d σ H) F hr hg hm hk hb hx ha.run hdb he hpl) fun σ H Q q => call_read hf ha.mono q
  mono := mono_wCall hf ha.mono
end

/-! ### what a def's body makes of it -/
def giv (kp : List Nat) (n : Nat) (e : En) : En := (List.range n).map fun i => if i ∈ kp then (e[i]?).join else none
def wFn (N n : Nat) (kp : List Nat) (w : WS) : List M → (M → En → Prop) → (Xn → Prop) → Prop := fun ms Q X =>
  w { nx := fun e' => Q (.fz .non) (giv kp n e'), rt := fun m e' => Q m (giv kp n e'), bk := fun _ => False, ct := fun _ => False, ex := fun x _ => X x } (ms.map some ++ List.replicate (N - n) none)
theorem mono_wFn {N n : Nat} {kp : List Nat} {w : WS} (h : MonoS w) : MonoF (wFn N n kp w) := fun ms Q Q' X X' hq hx q =>
  h { nx := fun e' => Q (.fz .non) (giv kp n e'), rt := fun m e' => Q m (giv kp n e'), bk := fun _ => False, ct := fun _ => False, ex := fun x _ => X x } _ _ ⟨fun _ q => hq _ _ q, fun _ _ q => hq _ _ q, fun _ q => q, fun _ q => q, fun _ _ q => hx _ q⟩ q
theorem prs_start : ∀ {vs : List V} {ms : List M} (k : Nat), ms.length = vs.length → prs (vs.map some ++ List.replicate k none) (ms.map some ++ List.replicate k none) = vs.zip ms ∧ Al (vs.map some ++ List.replicate k none) (ms.map some ++ List.replicate k none)
  | [], [], k, _ => by
    show prs (List.replicate k none) (List.replicate k none) = [] ∧ Al (List.replicate k none) (List.replicate k none)
    induction k with
    | zero => exact ⟨rfl, trivial⟩
    | succ k ih => exact ih
  | v :: vs, m :: ms, k, h => by
    obtain ⟨h1, h2⟩ := prs_start (vs := vs) (ms := ms) k (Nat.succ.inj h)
    exact ⟨congrArg ((v, m) :: ·) h1, h2⟩
  | [], _ :: _, _, h => by cases h
  | _ :: _, [], _, h => by cases h
/-- the pinned places: the parameters that are handed back -/
def pinOf (kp : List Nat) (vs : List V) : List (Nat × V) := (kp.filter (· < vs.length)).map fun i => (i, vs.getD i .non)
theorem kept_start {kp : List Nat} {vs : List V} {k : Nat} : Kept (pinOf kp vs) (vs.map some ++ List.replicate k none) := fun p hp => by
  obtain ⟨i, hi, rfl⟩ := List.mem_map.mp hp
  have hl : i < vs.length := of_decide_eq_true (List.mem_filter.mp hi).2
  show (vs.map some ++ List.replicate k none)[i]? = some (some (vs.getD i .non))
  rw [List.getElem?_append_left (by simpa using hl), List.getElem?_map, List.getElem?_eq_getElem hl, List.getD_eq_getElem?_getD, List.getElem?_eq_getElem hl]
  rfl
theorem Ok.zero {K : PySem.W.Frag} {H : Hp} {σ : L2.St} {e : En} {P : List (V × M)} (h : Ok K H σ e P) : Sep K H P := Sep.right h.2
/-- what stands at the pinned places goes back -/
theorem giv_ok {K : PySem.W.Frag} {H : Hp} {P : List (V × M)} {σ : L2.St} {e : En} {kp : List Nat} {vs : List V} (h : Ok K H σ e P) (hk : Kept (pinOf kp vs) σ) : Sep K H (prs (vs.map some) (giv kp vs.length e) ++ P) := by
  -- take the places out, the last first
  have key : ∀ (n : Nat), n ≤ vs.length → ∃ e2, (∀ i, i < vs.length - n → e2[i]? = e[i]?) ∧ Ok K H σ e2 (prs ((vs.drop (vs.length - n)).map some) ((giv kp vs.length e).drop (vs.length - n)) ++ P) := by
    intro n
    induction n with
    | zero =>
      intro _
      refine ⟨e, fun _ _ => rfl, ?_⟩
      rw [Nat.sub_zero, List.drop_length]
      exact h
    | succ n ih =>
      intro hn
      obtain ⟨e2, he, o⟩ := ih (by omega)
      obtain ⟨j, hj⟩ : ∃ j, j = vs.length - (n + 1) := ⟨_, rfl⟩
      have hj1 : vs.length - n = j + 1 := by omega
      have hjl : j < vs.length := by omega
      rw [← hj]
      rw [hj1] at o he
      have hgl : j < (giv kp vs.length e).length := by unfold giv; simp; exact hjl
      have hg : (giv kp vs.length e)[j] = if j ∈ kp then (e[j]?).join else none := by
        have z : (giv kp vs.length e)[j]? = some (if j ∈ kp then (e[j]?).join else none) := by
          unfold giv
          rw [List.getElem?_map, List.getElem?_range hjl]
          rfl
        rw [List.getElem?_eq_getElem hgl] at z
        exact Option.some.inj z
      rw [List.drop_eq_getElem_cons hjl, List.drop_eq_getElem_cons hgl, prs_cons, hg]
      by_cases hkp : j ∈ kp
      · rw [if_pos hkp]
        cases q : (e[j]?).join with
        | none =>
          exact ⟨e2, fun i hi => he i (by omega), o⟩
        | some m =>
          have e1 : e2[j]? = some (some m) := by
            rw [he j (by omega)]
            cases r : e[j]? with
            | none => rw [r] at q; cases q
            | some z => rw [r] at q; exact congrArg some q
          obtain ⟨v, ev, o2⟩ := o.take e1
          have hp : (j, vs.getD j .non) ∈ pinOf kp vs := List.mem_map.mpr ⟨j, List.mem_filter.mpr ⟨hkp, decide_eq_true hjl⟩, rfl⟩
          have kv : σ[j]? = some (some (vs.getD j .non)) := hk _ hp
          have ee : some (some v) = some (some (vs.getD j .non)) := ev.symm.trans kv
          cases ee
          have eg : vs.getD j .non = vs[j] := by
            rw [List.getD_eq_getElem?_getD, List.getElem?_eq_getElem hjl]
            rfl
          rw [eg] at o2
          refine ⟨e2.set j none, fun i hi => ?_, o2⟩
          rw [List.getElem?_set_ne (by omega)]
          exact he i (by omega)
      · rw [if_neg hkp]
        exact ⟨e2, fun i hi => he i (by omega), o⟩
  obtain ⟨e2, _, o⟩ := key vs.length (Nat.le_refl _)
  rw [Nat.sub_self] at o
  exact o.zero
section
variable {P : Program} {w : World} {K : PySem.W.Frag} {mg : Str → Option Value} {base : Heap}
/-- the context of a def's body -/
abbrev yOf (P : Program) (w : World) (K : PySem.W.Frag) (mg : Str → Option Value) (base : Heap) (xr : Xn → Value → Option Addr → Hp → Prop) (N : List Str) (qual : Str) (scope : Scope) (f : Addr) (cdv : Value) (A : Around) (outer : List Env) (s : Shared) (H : Hp) (E : XK) : Y :=
  ⟨cxOf (L2.CX P w) P w K mg base N qual scope f cdv A outer s H E, xr, fun c d _ H => E c d H⟩
theorem fn_ok {x qual : Str} {st : Stmt} {f : Addr} {fd : FuncData} {N ps : List Str} {k : Nat} {kp : List Nat} {wb : WS} {xr : Xn → Value → Option Addr → Hp → Prop} (F : Fun K x qual st f fd) (S : FnScope N ps (defScope st))
    (hb : ∀ cdv A outer s H E vs, Room k (A.deeper (envOfC qual (defScope st) s.heap.objs.size f cdv)) → SSs (yOf P w K mg base xr N qual (defScope st) f cdv A outer s H E) (pinOf kp vs) (defBody st) wb) :
    FnOk P w K mg base (L2.CX P w) (k + 1) f fd ps (spOf K xr ⟨ps.length, kp, wFn N.length ps.length kp wb⟩) := by
  refine F.okX S (fun vs H Q E h => h.1) (fun cdv A outer s H vs Q E hr h => ?_)
  obtain ⟨hl, ms, R, hm, sp, q⟩ := h
  have hl : vs.length = ps.length := hl
  have B := hb cdv A outer s H E vs hr
  refine ⟨_, B.run, ?_⟩
  obtain ⟨p1, p2⟩ := prs_start (vs := vs) (ms := ms) (N.length - vs.length) hm
  have ok : Ok K H (start N vs) (ms.map some ++ List.replicate (N.length - ps.length) none) R := by
    rw [← hl]
    refine ⟨p2, ?_⟩
    show Sep K H (prs (vs.map some ++ List.replicate (N.length - vs.length) none) (ms.map some ++ List.replicate (N.length - vs.length) none) ++ R)
    rw [p1]
    exact sp
  refine ⟨_, R, kept_start, ok, ?_⟩
  refine B.mono { nx := fun e' => _, rt := fun m e' => _, bk := fun _ => False, ct := fun _ => False, ex := fun x _ => _ } _ _ ⟨fun e' q σ' H' hk o => ?_, fun m e' q σ' v H' hk o => ?_, fun _ z => z.elim, fun _ z => z.elim, fun x e' q σ' c d H' hk r o => ?_⟩ q
  · have o' : Ok K H' σ' e' ((.non, .fz .non) :: R) := by
      obtain ⟨G, g⟩ := o.2.opn
      exact ⟨o.1, (g.res _ _ _ (.same .non)).perm List.perm_middle.symm⟩
    refine q .non H' ?_
    have z := giv_ok o' hk
    rw [hl] at z
    exact z.perm List.perm_middle
  · refine q v H' ?_
    have z := giv_ok o hk
    rw [hl] at z
    exact z.perm List.perm_middle
  · exact q c d H' r o.zero
end
end VW

set_option Elab.async false
set_option linter.all false
set_option maxRecDepth 100000
/-! VW5: what is walked; what changes a place. -/
namespace VW
open PySem PySem.Spec PyProof.Rows L2

/-! ### lists, tuples, texts walked -/
def sgn (c : Nat) : D := .str ⟨#[c]⟩
def itemsD : D → Option (List D)
  | .tup ds => some ds
  | .lst ds => some ds
  | .str s => some (s.cps.toList.map sgn)
  | _ => none
def iSeq (w : WE) : WI := fun e Q X => w e (fun m e1 => match itemsD m.d with
  | some ds => Q ds e1
  | none => False) X
section
variable {K : PySem.W.Frag}
theorem sep_head {H : Hp} {x : V} {d : D} {L : List (V × M)} (h : Sep K H ((x, .fz d) :: L)) : ∃ G, Ex G H ∧ Rep K G x d ∧ ∀ v d, Rep K G v d → Sep K H ((v, .fz d) :: (x, .fz d) :: L) ∨ True := by
  obtain ⟨G, g⟩ := h.opn
  obtain ⟨F, w⟩ := g.own (x, .fz d) List.mem_cons_self
  cases w with
  | fz w => exact ⟨G, g.ex, w, fun _ _ _ => .inr trivial⟩
theorem sep_item {H : Hp} {x : V} {d d' : D} {v : V} {L : List (V × M)} (h : Sep K H ((x, .fz d) :: L)) (f : ∀ G, Ex G H → Rep K G x d → Rep K G v d') : Sep K H ((v, .fz d') :: (x, .fz d) :: L) := by
  obtain ⟨G, g⟩ := h.opn
  obtain ⟨F, w⟩ := g.own (x, .fz d) List.mem_cons_self
  cases w with
  | fz w => exact g.res _ _ _ (.same (f G g.ex w))
theorem walks_tup {tp : Bool} {a : Addr} {ds : List D} : Walks K tp (Itt K a) ds [(.ref a, .fz (.tup ds))] where
  go := fun i H L d h e => by
    have h : Sep K H ((.ref a, .fz (.tup ds)) :: L) := h
    obtain ⟨G, ex, r, _⟩ := sep_head h
    cases r with
    | tup hs rs =>
      obtain ⟨v, hv, _⟩ := rs.at e
      refine ⟨⟨_, v, (hs.mono ex).sqT, hv⟩, fun x H' yl => ?_⟩
      obtain ⟨rfl, hx⟩ := yl
      refine .inl (sep_item h fun G' ex' r' => ?_)
      cases r' with
      | tup hs' rs' =>
        obtain ⟨v', hv', rv'⟩ := rs'.at e
        have := hx _ (hs'.mono ex').sqT
        rw [hv'] at this
        cases this
        exact rv'
  stop := fun i H L h hl => by
    have h : Sep K H ((.ref a, .fz (.tup ds)) :: L) := h
    obtain ⟨G, ex, r, _⟩ := sep_head h
    cases r with
    | tup hs rs => exact ⟨_, (hs.mono ex).sqT, by rw [rs.length]; exact hl⟩
theorem walks_lst {tp : Bool} {a : Addr} {ds : List D} : Walks K tp (Itl K a) ds [(.ref a, .fz (.lst ds))] where
  go := fun i H L d h e => by
    have h : Sep K H ((.ref a, .fz (.lst ds)) :: L) := h
    obtain ⟨G, ex, r, _⟩ := sep_head h
    cases r with
    | lst hs rs =>
      obtain ⟨v, hv, _⟩ := rs.at e
      refine ⟨⟨_, v, (SqL.of (ex _ _ hs)), hv⟩, fun x H' yl => ?_⟩
      obtain ⟨rfl, hx⟩ := yl
      refine .inl (sep_item h fun G' ex' r' => ?_)
      cases r' with
      | lst hs' rs' =>
        obtain ⟨v', hv', rv'⟩ := rs'.at e
        have := hx _ (SqL.of (ex' _ _ hs'))
        rw [hv'] at this
        cases this
        exact rv'
  stop := fun i H L h hl => by
    have h : Sep K H ((.ref a, .fz (.lst ds)) :: L) := h
    obtain ⟨G, ex, r, _⟩ := sep_head h
    cases r with
    | lst hs rs => exact ⟨_, (SqL.of (ex _ _ hs)), by rw [rs.length]; exact hl⟩
/-- what asks nothing of the heap -/
theorem sep_new {H : Hp} {L : List (V × M)} {v : V} {d : D} (h : Sep K H L) (r : ∀ G, Rep K G v d) : Sep K H ((v, .fz d) :: L) := by
  obtain ⟨G, g⟩ := h.opn
  exact g.res _ _ _ (.same (r G))
theorem walks_str {tp : Bool} {s : Str} : Walks K tp (Its s) (s.cps.toList.map sgn) [] where
  go := fun i H L d h e => by
    rw [List.getElem?_map] at e
    cases q : s.cps.toList[i]? with
    | none => rw [q] at e; cases e
    | some c =>
      rw [q] at e
      cases e
      have hi : i < s.cps.size := by
        have := (List.getElem?_eq_some_iff.mp q).1
        rwa [Array.length_toList] at this
      refine ⟨hi, fun x H' yl => ?_⟩
      obtain ⟨rfl, c', hc, rfl⟩ := yl
      rw [Array.getElem?_toList, hc] at q
      cases q
      exact .inl (sep_new h fun G => .str _)
  stop := fun i H L h hl => by
    rw [List.length_map, Array.length_toList] at hl
    exact hl
def rngD (lo : Int) (n : Nat) : List D := (List.range n).map fun (k : Nat) => D.int (lo + (k : Int))
theorem walks_rng {tp : Bool} {lo : Int} {n : Nat} : Walks K tp (Itr lo n) (rngD lo n) [] where
  go := fun i H L d h e => by
    have hi : i < n := by
      have := (List.getElem?_eq_some_iff.mp e).1
      unfold rngD at this
      simpa using this
    unfold rngD at e
    rw [List.getElem?_map, List.getElem?_range hi] at e
    cases e
    refine ⟨hi, fun x H' yl => ?_⟩
    obtain ⟨rfl, rfl⟩ := yl
    exact .inl (sep_new h fun G => .int _)
  stop := fun i H L h hl => by
    unfold rngD at hl
    have z : n ≤ i := by simpa using hl
    exact z
end
section
variable {X : Cx} {pins : List (Addr × Obj)} {σ : L2.St} {H : Hp} {s : Shared} {tg : Expr} {R : It → Hp → Prop} {a : Addr} {xs : List V}
theorem iterL (I : Inv X pins σ H s) (hq : SqL X.K H a xs) (q : R (Itl X.K a) H) : wpAny (model X.prog X.w) X.A (pyIter (.ref a)) (PIE X pins σ tg R) X.xe s := by
  obtain ⟨its, _, p, _⟩ := I.list hq
  refine wpAny_pyIter_list p.isList ⟨_, [s.heap.objs.size], _, _, H, rfl, I.kept (t' := s.toks) ?_, turn_list a _, ⟨_, Heap.get?_push_size _ rfl, rfl, rfl⟩, ?_, q⟩
  · exact fun b o e => Heap.get?_push_of_some _ e
  · intro b hb
    have e : b = s.heap.objs.size := by simpa using hb
    rw [e]
    exact I.fpOk (Nat.le_refl _) (I.hok.fresh (Nat.le_refl _))
theorem iterT (I : Inv X pins σ H s) (hq : SqT X.K H a xs) (q : R (Itt X.K a) H) : wpAny (model X.prog X.w) X.A (pyIter (.ref a)) (PIE X pins σ tg R) X.xe s := by
  obtain ⟨its, _, p, _⟩ := I.tuple hq
  refine wpAny_pyIter_tuple (show s.heap.IsTuple a its.toArray from p) ⟨_, [s.heap.objs.size], _, _, H, rfl, I.kept (t' := s.toks) ?_, turn_tuple a _, ⟨_, Heap.get?_push_size _ rfl, rfl, rfl⟩, ?_, q⟩
  · exact fun b o e => Heap.get?_push_of_some _ e
  · intro b hb
    have e : b = s.heap.objs.size := by simpa using hb
    rw [e]
    exact I.fpOk (Nat.le_refl _) (I.hok.fresh (Nat.le_refl _))
end
section
variable {X : Cx} {pins : List (Addr × Obj)} {σ : L2.St} {H : Hp} {s : Shared} {tg : Expr} {R : It → Hp → Prop}
theorem iterS {x : Str} {t : Tok} (I : Inv X pins σ H s) (q : R (Its x) H) : wpAny (model X.prog X.w) X.A (pyIter (.str x t)) (PIE X pins σ tg R) X.xe s := by
  cases ha : x.cps.all (· < 128) with
  | false => exact wpAny_pyIter_wide ha (pi_one (tk := s.toks) I _ (turn_str _ x t "str_iterator" (.inr rfl)) ⟨_, Heap.get?_push_size _ rfl, rfl, rfl⟩ q)
  | true => exact wpAny_pyIter_ascii ha (pi_one (tk := s.toks) I _ (turn_str _ x t "str_ascii_iterator" (.inl rfl)) ⟨_, Heap.get?_push_size _ rfl, rfl, rfl⟩ q)
end
section
variable {y : Y} {tg iter : Expr} {w : WE}
theorem si_seq (h : SE y iter w) : SI y tg iter (iSeq w) where
  run := ⟨fun pins s σ H R I ⟨e, P, h0, q⟩ => by
    refine thn (h.run.run pins s σ H (fun v H1 => ∃ (m : M) (ds : List D) (e1 : En), itemsD m.d = some ds ∧ Ok y.X.K H1 σ e1 ((v, .fz m.d) :: P) ∧ ∀ J H1 R', Walks y.X.K (isTp tg) J ds R' → Ok y.X.K H1 σ e1 (R' ++ P) → R J H1) I ⟨e, P, h0, h.mono _ _ _ _ _ (fun m e1 q v H1 o => ?_) (fun _ _ q => q) q⟩) fun v s1 ⟨x, H1, I1, r1, m, ds, e1, em, o, q⟩ => ?_
    · split at q
      · rename_i ds em
        exact ⟨m, ds, e1, em, o.freeze, q⟩
      · exact q.elim
    · obtain ⟨G, g⟩ := o.2.opn
      obtain ⟨F, w⟩ := g.own (x, .fz m.d) (List.mem_append_right _ List.mem_cons_self)
      cases w with
      | fz w =>
        generalize m.d = d at w em o
        cases w with
        | tup hs rs =>
          cases em
          cases r1
          exact iterT I1 ((hs.mono g.ex).sqT) (q _ H1 _ walks_tup o)
        | lst hs rs =>
          cases em
          cases r1
          exact iterL I1 (SqL.of (g.ex _ _ hs)) (q _ H1 _ walks_lst o)
        | str x =>
          cases em
          obtain ⟨t, rfl⟩ := r1
          exact iterS I1 (q _ H1 _ walks_str o.pop)
        | non => cases em
        | bl _ => cases em
        | int _ => cases em
        | ty _ => cases em
        | opq _ => cases em
        | scr _ => cases em
        | dK _ _ => cases em
        | dT _ _ => cases em⟩
  mono := fun e Q Q' X X' hq hx q => h.mono _ _ _ _ _ (fun m e1 q => by
    split at q
    · exact hq _ _ q
    · exact q.elim) hx q
end

/-! ### range -/
def rngB (i : Int) : Prop := -(2 ^ 62) ≤ i ∧ i < 2 ^ 62
def isInt (m : M) (k : Int → Prop) : Prop := match m with
  | .fz (.int j) => k j
  | _ => False
theorem isInt_mono {m : M} {k k' : Int → Prop} (h : ∀ i, k i → k' i) (q : isInt m k) : isInt m k' := by
  unfold isInt at *
  split at q
  · exact h _ q
  · exact q.elim
theorem isInt_own {K : PySem.W.Frag} {G H : Hp} {v : V} {m : M} {k : Int → Prop} (w : ∃ F, Own K G H v m F) (q : isInt m k) : ∃ i, v = .int i ∧ k i := by
  unfold isInt at q
  split at q
  · obtain ⟨F, w⟩ := w
    cases w with
    | fz w =>
      cases w
      exact ⟨_, rfl, q⟩
  · exact q.elim
def iR1 (o : WO) : WI := fun e Q X => o e (fun a e1 => withO a e1 fun m => isInt m fun j => rngB j ∧ Q (rngD 0 j.toNat) e1) X
def iR2 (o o' : WO) : WI := fun e Q X => o e (fun a e1 => o' e1 (fun b e2 => withO a e2 fun m => withO b e2 fun m' => isInt m fun i => isInt m' fun j => rngB i ∧ rngB j ∧ Q (rngD i (j - i).toNat) e2) X) X
def rngC (i c : Int) (n : Nat) : List D := (List.range n).map fun (k : Nat) => D.int (i + (k : Int) * c)
/-- range(i, j, c): n turns, as the prover says -/
def iR3 (o o' o'' : WO) : WI := fun e Q X => o e (fun a e1 => o' e1 (fun b e2 => o'' e2 (fun c e3 => withO a e3 fun m => withO b e3 fun m' => withO c e3 fun m'' => isInt m fun i => isInt m' fun j => isInt m'' fun c => ∃ n, RgC i j c n ∧ Q (rngC i c n) e3) X) X) X
theorem walks_rngC {K : PySem.W.Frag} {tp : Bool} {i c : Int} {n : Nat} : Walks K tp (Itc i c n) (rngC i c n) [] where
  go := fun k H L d h e => by
    have hi : k < n := by
      have := (List.getElem?_eq_some_iff.mp e).1
      unfold rngC at this
      simpa using this
    unfold rngC at e
    rw [List.getElem?_map, List.getElem?_range hi] at e
    cases e
    refine ⟨hi, fun x H' yl => ?_⟩
    obtain ⟨rfl, rfl⟩ := yl
    exact .inl (sep_new h fun G => .int _)
  stop := fun k H L h hl => by
    unfold rngC at hl
    have z : n ≤ k := by simpa using hl
    exact z
section
variable {y : Y} {tg a b c : Expr} {o o' o'' : WO} {p pos : Pos}
theorem si_range1 (hg : Gl y.X "range") (hm : y.X.mg "range" = none) (ha : SO y a o) (hs : starEach [a] y.X.env = [(false, eval a y.X.env)]) : SI y tg (.Call (.Name "range" p) [a] [] pos) (iR1 o) where
  run := PI_imp (pi_range1 hg hm (sa_cons ha sa_nil hs).run hs) fun σ H R ⟨e, P, h0, q⟩ => by
    refine ⟨e, P, h0, ha.mono _ _ _ _ _ (fun a e1 q vs H1 o => ?_) (fun _ _ q => q) q⟩
    obtain ⟨o, p⟩ := o
    match vs, p with
    | [v], p =>
      obtain ⟨G, g⟩ := o.2.opn
      obtain ⟨m, m1, q⟩ := withO_mem' o (fun p z => List.mem_append_left _ (List.mem_append_right _ z)) p.1 q
      obtain ⟨j, rfl, q1, q2⟩ := isInt_own (g.own _ m1) q
      exact ⟨j, rfl, q1.1, q1.2, q2 _ H1 [] walks_rng o.pops⟩
  mono := fun e Q Q' X X' hq hx q => ha.mono _ _ _ _ _ (fun a e1 q => withO_mono (fun m q => isInt_mono (fun j q => ⟨q.1, hq _ _ q.2⟩) q) q) hx q
theorem si_range2 (hg : Gl y.X "range") (hm : y.X.mg "range" = none) (ha : SO y a o) (hb : SO y b o') (hs : starEach [a, b] y.X.env = [(false, eval a y.X.env), (false, eval b y.X.env)]) (hs2 : starEach [b] y.X.env = [(false, eval b y.X.env)]) :
    SI y tg (.Call (.Name "range" p) [a, b] [] pos) (iR2 o o') where
  run := PI_imp (pi_range2 hg hm (sa_cons ha (sa_cons hb sa_nil hs2) (by rw [hs, hs2])).run hs hs2) fun σ H R ⟨e, P, h0, q⟩ => by
    refine ⟨e, P, h0, ha.mono _ _ _ _ _ (fun a e1 q => show o' e1 (fun b e2 => ∀ vs H', OkA y.X.K H' σ e2 [a, b] vs P → _) _ from hb.mono _ _ _ _ _ (fun b e2 q vs H1 o => ?_) (fun _ _ q => q) q) (fun _ _ q => q) q⟩
    obtain ⟨o, p⟩ := o
    match vs, p with
    | [v, u], p =>
      obtain ⟨G, g⟩ := o.2.opn
      obtain ⟨m, m1, q⟩ := withO_mem' o (fun p z => List.mem_append_left _ (List.mem_append_right _ z)) p.1 q
      obtain ⟨m', m2, q⟩ := withO_mem' o (fun p z => List.mem_append_left _ (List.mem_append_left _ (List.mem_append_right _ z))) p.2.1 q
      obtain ⟨i, rfl, q⟩ := isInt_own (g.own _ m1) q
      obtain ⟨j, rfl, q1, q2, q3⟩ := isInt_own (g.own _ m2) q
      exact ⟨i, j, rfl, ⟨q1.1, q1.2, q2.1, q2.2⟩, q3 _ H1 [] walks_rng o.pops⟩
  mono := fun e Q Q' X X' hq hx q => ha.mono _ _ _ _ _ (fun a e1 q => hb.mono _ _ _ _ _ (fun b e2 q => withO_mono (fun m q => withO_mono (fun m q => isInt_mono (fun j q => isInt_mono (fun j q => ⟨q.1, q.2.1, hq _ _ q.2.2⟩) q) q) q) q) hx q) hx q
theorem si_range3 (hg : Gl y.X "range") (hm : y.X.mg "range" = none) (ha : SO y a o) (hb : SO y b o') (hc : SO y c o'') (hs : starEach [a, b, c] y.X.env = [(false, eval a y.X.env), (false, eval b y.X.env), (false, eval c y.X.env)]) (hs2 : starEach [b, c] y.X.env = [(false, eval b y.X.env), (false, eval c y.X.env)])
    (hs3 : starEach [c] y.X.env = [(false, eval c y.X.env)]) : SI y tg (.Call (.Name "range" p) [a, b, c] [] pos) (iR3 o o' o'') where
  run := PI_imp (pi_range3 hg hm (sa_cons ha (sa_cons hb (sa_cons hc sa_nil hs3) (by rw [hs2, hs3])) (by rw [hs, hs2])).run (by rw [hs, hs2]) (by rw [hs2]; rfl)) fun σ H R ⟨e, P, h0, q⟩ => by
    refine ⟨e, P, h0, ha.mono _ _ _ _ _ (fun a e1 q => show o' e1 (fun b e2 => o'' e2 (fun c e3 => ∀ vs H', OkA y.X.K H' σ e3 [a, b, c] vs P → _) _) _ from hb.mono _ _ _ _ _ (fun b e2 q => hc.mono _ _ _ _ _ (fun c e3 q vs H1 o => ?_) (fun _ _ q => q) q) (fun _ _ q => q) q) (fun _ _ q => q) q⟩
    obtain ⟨o, p⟩ := o
    match vs, p with
    | [v, u, t], p =>
      obtain ⟨G, g⟩ := o.2.opn
      obtain ⟨m, m1, q⟩ := withO_mem' o (fun p z => List.mem_append_left _ (List.mem_append_right _ z)) p.1 q
      obtain ⟨m', m2, q⟩ := withO_mem' o (fun p z => List.mem_append_left _ (List.mem_append_left _ (List.mem_append_right _ z))) p.2.1 q
      obtain ⟨m'', m3, q⟩ := withO_mem' o (fun p z => List.mem_append_left _ (List.mem_append_left _ (List.mem_append_left _ (List.mem_append_right _ z)))) p.2.2.1 q
      obtain ⟨i, rfl, q⟩ := isInt_own (g.own _ m1) q
      obtain ⟨j, rfl, q⟩ := isInt_own (g.own _ m2) q
      obtain ⟨c, rfl, n, q1, q2⟩ := isInt_own (g.own _ m3) q
      exact ⟨i, j, c, n, rfl, q1, q2 _ H1 [] walks_rngC o.pops⟩
  mono := fun e Q Q' X X' hq hx q => ha.mono _ _ _ _ _ (fun a e1 q => hb.mono _ _ _ _ _ (fun b e2 q => hc.mono _ _ _ _ _ (fun c e3 q => withO_mono (fun m q => withO_mono (fun m q => withO_mono (fun m q => isInt_mono (fun j q => isInt_mono (fun j q => isInt_mono (fun j ⟨n, q1, q2⟩ => ⟨n, q1, hq _ _ q2⟩) q) q) q) q) q) q) hx q) hx q) hx q
end

/-! ### methods that change what a place holds -/
/-- m.f(ms): the answer, what m is behind -/
abbrev OPM := M → List M → (D → M → Prop) → Prop
structure SndM (K : PySem.W.Frag) (T : String) (r : V → List V → Hp → VK → Prop) (op : OPM) : Prop where
  run : ∀ G H p m F xs ms (Q : VK), Ex G H → Own K G H (.ref p) m F → Owns K G H xs ms → op m ms (fun d m' => ∀ v H', Rep K G v d → MutOk K G H p m' H' → Q v H') → r (.ref p) xs H Q
  mono : ∀ a b (q q' : D → M → Prop), (∀ d m, q d m → q' d m) → op a b q → op a b q'
/-- which kinds of things have such a method -/
def isTy (T : String) : M → Bool
  | .lst _ => T == "list"
  | .dK _ => T == "dict"
  | .dT _ => T == "dict"
  | _ => false
def wMut (T : String) (op : OPM) (i : Nat) (wa : WA) : WE := fun e Q X => match e[i]? with
  | some (some m0) => isTy T m0 = true ∧ wa e (fun as e1 => match e1[i]? with
    | some (some m) => isTy T m = true ∧ withAs as (e1.set i none) fun ms => op m ms fun d m' => Q (.fz d) (e1.set i (some m'))
    | _ => False) X
  | _ => False
def Ins (L : List (V × M)) : List V → List M → Prop
  | v :: vs, m :: ms => (v, m) ∈ L ∧ Ins L vs ms
  | [], [] => True
  | _, _ => False
theorem Ins.owns {K : PySem.W.Frag} {G H : Hp} {L : List (V × M)} (o : ∀ q ∈ L, ∃ F, Own K G H q.1 q.2 F) : ∀ {vs : List V} {ms : List M}, Ins L vs ms → Owns K G H vs ms
  | [], [], _ => trivial
  | _ :: _, _ :: _, h => ⟨o _ h.1, Ins.owns o h.2⟩
  | [], _ :: _, h => h.elim
  | _ :: _, [], h => h.elim
theorem withAs_in {K : PySem.W.Frag} {H : Hp} {σ : L2.St} {e : En} : ∀ {as : List Opd} {vs : List V} {k : List M → Prop} {R : List (V × M)}, Ok K H σ e R → (∀ p ∈ pends as vs, p ∈ R) → pksOk σ as vs → withAs as e k → ∃ ms, Ins (prs σ e ++ R) vs ms ∧ k ms
  | [], [], _, _, _, _, _, q => ⟨[], trivial, q⟩
  | [], _ :: _, _, _, _, _, hp, _ => hp.elim
  | _ :: _, [], _, _, _, _, hp, _ => hp.elim
  | a :: as, v :: vs, k, R, h, hs, hp, q => by
    obtain ⟨m, hm, q⟩ := withO_mem' h (fun p z => hs p (List.mem_append_right _ z)) hp.1 q
    obtain ⟨ms, ho, q⟩ := withAs_in h (fun p z => hs p (List.mem_append_left _ z)) hp.2 q
    exact ⟨m :: ms, ⟨hm, ho⟩, q⟩
theorem isTy_nf {T : String} {m : M} (h : isTy T m = true) : ∀ d, m ≠ .fz d := fun d e => by
  subst e
  cases h
theorem isTy_tyV {K : PySem.W.Frag} {G H : Hp} {T : String} {v : V} {m : M} {F : List Addr} (h : isTy T m = true) (w : Own K G H v m F) : tyV K T v H := by
  cases w with
  | fz w => cases h
  | lst w r => exact .inl ⟨by simpa [isTy] using h, _, .of w⟩
  | dK w r => exact .inr (.inr (.inl ⟨by simpa [isTy] using h, .inl ⟨_, w⟩⟩))
  | dT w r => exact .inr (.inr (.inl ⟨by simpa [isTy] using h, .inr ⟨_, w⟩⟩))
theorem mono_wMut {T : String} {op : OPM} {i : Nat} {wa : WA} {K : PySem.W.Frag} {r : V → List V → Hp → VK → Prop} (hs : SndM K T r op) (ha : MonoA wa) : MonoE (wMut T op i wa) := fun e Q Q' X X' hq hx q => by
  unfold wMut at *
  split at q
  · refine ⟨q.1, ha _ _ _ _ _ (fun as e1 q => ?_) hx q.2⟩
    split at q
    · exact ⟨q.1, withAs_mono (fun ms q => hs.mono _ _ _ _ (fun d m q => hq _ _ q) q) q.2⟩
    · exact q.elim
  · exact q.elim
section
variable {y : Y} {T : String} {op : OPM} {i : Nat} {wa : WA} {r : V → List V → Hp → VK → Prop}
theorem mut_read (hs : SndM y.X.K T r op) (ha : MonoA wa) (σ : L2.St) (H : Hp) (Q : VK) (h : liftE y (wMut T op i wa) σ H Q) : tVar i σ H fun x H1 => tyV y.X.K T x H1 ∧ liftA y wa σ H1 fun xs H2 => r x xs H2 Q := by
  obtain ⟨e, P, h0, q⟩ := h
  unfold wMut at q
  split at q
  · rename_i m0 e0
    obtain ⟨t0, q⟩ := q
    obtain ⟨v, ev, mem⟩ := h0.peek e0
    obtain ⟨G, g⟩ := h0.2.opn
    obtain ⟨F, w⟩ := g.own _ mem
    refine ⟨v, ev, isTy_tyV t0 w, e, P, h0, ha _ _ _ _ _ (fun as e1 q vs H1 o => ?_) (fun _ _ q => q) q⟩
    obtain ⟨o, p⟩ := o
    split at q
    · rename_i m em
      obtain ⟨tm, q⟩ := q
      -- the place's own thing leaves the places
      have o' : Ok y.X.K H1 σ e1 (pends as vs ++ P) := o
      obtain ⟨v', ev', om⟩ := o'.take em
      have e3 : some (some v) = some (some v') := ev.symm.trans ev'
      cases e3
      obtain ⟨G1, p1, F1, rfl, w1, ex1, oth, up⟩ := (om.2.perm List.perm_middle).mutR (isTy_nf tm)
      obtain ⟨ms, ins, q⟩ := withAs_in om (fun p z => List.mem_cons_of_mem _ (List.mem_append_left _ z)) p q
      have ow : Owns y.X.K G1 H1 vs ms := by
        refine Ins.owns (L := prs σ (e1.set i none) ++ ((.ref p1, m) :: (pends as vs ++ P))) (fun q z => ?_) ins
        rcases List.mem_cons.mp ((List.perm_middle (l₁ := prs σ (e1.set i none))).mem_iff.mp z) with z | z
        · exact ⟨F1, z ▸ w1⟩
        · exact oth q z
      refine hs.run G1 H1 p1 m F1 vs ms Q ex1 w1 ow (hs.mono _ _ _ _ (fun d m' q v' H' rv mo => q v' H' ?_) q)
      have z := up _ _ mo _ _ rv
      have z' : Ok y.X.K H' σ (e1.set i none) ((.ref p1, m') :: (v', .fz d) :: (pends as vs ++ P)) := ⟨om.1, z.perm (by
        refine (List.Perm.swap _ _ _).trans ?_
        refine List.Perm.trans ?_ List.perm_middle.symm
        refine List.Perm.cons _ ?_
        exact List.perm_middle.symm)⟩
      have z2 := z'.give ev
      rw [List.set_set] at z2
      exact Ok.pops (P := pends as vs) (z2.perm (List.perm_middle (l₁ := pends as vs)).symm)
    · exact q.elim
  · exact q.elim
end
end VW

set_option Elab.async false
set_option linter.all false
set_option maxRecDepth 100000
/-! VW6: what the operators do with plain values. -/
namespace VW
open PySem PySem.Spec PyProof.Rows L2

/-! ### data as the library has it -/
mutual
def D.py : D → Option PyData
  | .non => some .none
  | .bl b => some (.bool b)
  | .int i => some (.int i)
  | .str s => some (.str s)
  | .tup ds => (D.pys ds).map .tuple
  | .lst ds => (D.pys ds).map .list
  | _ => none
def D.pys : List D → Option (List PyData)
  | [] => some []
  | d :: ds => match d.py, D.pys ds with
    | some p, some ps => some (p :: ps)
    | _, _ => none
end
section
variable {K : PySem.W.Frag} {G H : Hp}
mutual
theorem Rep.dp (ex : Ex G H) : ∀ {v : V} {d : D} {p : PyData}, Rep K G v d → d.py = some p → Dp K H v p
  | _, _, _, .non, e => by cases e; exact .non
  | _, _, _, .bl b, e => by cases e; exact .bl b
  | _, _, _, .int i, e => by cases e; exact .int i
  | _, _, _, .str s, e => by cases e; exact .str s
  | _, _, _, .tup (ds := ds) h r, e => by
    unfold D.py at e
    obtain ⟨ps, e1, rfl⟩ := Option.map_eq_some_iff.mp e
    exact .tup (h.mono ex).sqT (Reps.dp ex r e1)
  | _, _, _, .lst (ds := ds) h r, e => by
    unfold D.py at e
    obtain ⟨ps, e1, rfl⟩ := Option.map_eq_some_iff.mp e
    exact .lst (.of (ex _ _ h)) (Reps.dp ex r e1)
  | _, _, _, .ty n, e => by cases e
  | _, _, _, .opq v, e => by cases e
  | _, _, _, .scr h, e => by cases e
  | _, _, _, .dK h r, e => by cases e
  | _, _, _, .dT h r, e => by cases e
theorem Reps.dp (ex : Ex G H) : ∀ {vs : List V} {ds : List D} {ps : List PyData}, Reps K G vs ds → D.pys ds = some ps → DpAll K H vs ps
  | _, _, _, .nil, e => by cases e; exact .nil
  | _, _, _, .cons (d := d) (ds := ds) h r, e => by
    unfold D.pys at e
    split at e
    · rename_i p ps e1 e2
      cases e
      exact .cons (Rep.dp ex h e1) (Reps.dp ex r e2)
    · cases e
end
theorem Own.dp {v : V} {m : M} {F : List Addr} {p : PyData} (ex : Ex G H) (h : Own K G H v m F) (e : m.d.py = some p) : Dp K H v p := by
  cases h with
  | fz h => exact h.dp ex e
  | lst h r =>
    have e : (D.lst _).py = some p := e
    unfold D.py at e
    obtain ⟨ps, e1, rfl⟩ := Option.map_eq_some_iff.mp e
    exact .lst (.of h) (r.dp ex e1)
  | dK h r => cases e
  | dT h r => cases e
end

/-! ### whole numbers -/
def opII (C : Int → Int → Prop) (f : Int → Int → D) : OP2 := fun a b q => isInt a fun i => isInt b fun j => C i j ∧ q (.fz (f i j))
def plainV : D → Option V
  | .int i => some (.int i)
  | .bl b => some (.bl b)
  | .str s => some (.str s)
  | .non => some .non
  | _ => none
theorem plain_rep {K : PySem.W.Frag} {G : Hp} {d : D} {v : V} (e : plainV d = some v) : Rep K G v d := by
  cases d with
  | int i => cases e; exact .int _
  | bl i => cases e; exact .bl _
  | str i => cases e; exact .str _
  | non => cases e; exact .non
  | _ => cases e
theorem snd_II {K : PySem.W.Frag} {C : Int → Int → Prop} {f : Int → Int → D} {g : Int → Int → V} (e : ∀ i j, plainV (f i j) = some (g i j)) : Snd2 K (rI C g) (opII C f) where
  run := fun G H x y mx my F F' Q ex w w' q => by
    obtain ⟨i, rfl, q⟩ := isInt_own ⟨F, w⟩ q
    obtain ⟨j, rfl, c, q⟩ := isInt_own ⟨F', w'⟩ q
    exact ⟨i, j, rfl, rfl, c, q _ _ (.same (plain_rep (e i j)))⟩
  mono := fun a b q q' h k => isInt_mono (fun i k => isInt_mono (fun j k => ⟨k.1, h _ k.2⟩) k) k
theorem snd_II0 {K : PySem.W.Frag} {f : Int → Int → D} {g : Int → Int → V} (e : ∀ i j, plainV (f i j) = some (g i j)) : Snd2 K (rI0 g) (opII (fun _ _ => True) f) where
  run := fun G H x y mx my F F' Q ex w w' q => by
    obtain ⟨i, rfl, q⟩ := isInt_own ⟨F, w⟩ q
    obtain ⟨j, rfl, c, q⟩ := isInt_own ⟨F', w'⟩ q
    exact ⟨i, j, rfl, rfl, q _ _ (.same (plain_rep (e i j)))⟩
  mono := fun a b q q' h k => isInt_mono (fun i k => isInt_mono (fun j k => ⟨k.1, h _ k.2⟩) k) k
def opOr (a b : OP2) : OP2 := fun x y q => a x y q ∨ b x y q
theorem Snd2.or {K : PySem.W.Frag} {r r' : R2} {a b : OP2} (h : Snd2 K r a) (h' : Snd2 K r' b) : Snd2 K (fun x y H Q => r x y H Q ∨ r' x y H Q) (opOr a b) where
  run := fun G H x y mx my F F' Q ex w w' q => q.imp (h.run _ _ _ _ _ _ _ _ _ ex w w') (h'.run _ _ _ _ _ _ _ _ _ ex w w')
  mono := fun a b q q' i k => k.imp (h.mono _ _ _ _ i) (h'.mono _ _ _ _ i)
/-- one operation by the kinds of its operands: which rule is due -/
theorem Snd2.imp {K : PySem.W.Frag} {r : R2} {a b : OP2} (h : Snd2 K r a) (i : ∀ x y q, b x y q → a x y q) (m : ∀ a b' (q q' : M → Prop), (∀ m, q m → q' m) → b a b' q → b a b' q') : Snd2 K r b where
  run := fun G H x y mx my F F' Q ex w w' q => h.run _ _ _ _ _ _ _ _ _ ex w w' (i _ _ _ q)
  mono := m

/-! ### + -/
def opAddS : OP2 := fun a b q => match a, b with
  | .fz (.str s), .fz (.str t) => s.length + t.length ≤ sizeLine ∧ q (.fz (.str (s ++ t)))
  | _, _ => False
def opAddT : OP2 := fun a b q => match a, b with
  | .fz (.tup s), .fz (.tup t) => s.length + t.length ≤ sizeLine ∧ q (.fz (.tup (s ++ t)))
  | _, _ => False
def opAddL : OP2 := fun a b q => match a.d, b.d with
  | .lst s, .lst t => s.length + t.length ≤ sizeLine ∧ q (.lst (s ++ t))
  | _, _ => False
def opAdd : OP2 := fun a b q => match a, b with
  | .fz (.int i), .fz (.int j) => q (.fz (.int (i + j)))
  | .fz (.str s), .fz (.str t) => s.length + t.length ≤ sizeLine ∧ q (.fz (.str (s ++ t)))
  | .fz (.tup s), .fz (.tup t) => s.length + t.length ≤ sizeLine ∧ q (.fz (.tup (s ++ t)))
  | a, b => opAddL a b q
section
variable {K : PySem.W.Frag}
theorem snd_addS : Snd2 K (fun x y H Q => ∃ i j, x = .str i ∧ y = .str j ∧ i.length + j.length ≤ sizeLine ∧ Q (.str (i ++ j)) H) opAddS where
  run := fun G H x y mx my F F' Q ex w w' q => by
    unfold opAddS at q
    split at q
    · cases w with
      | fz w =>
        cases w
        cases w' with
        | fz w' =>
          cases w'
          exact ⟨_, _, rfl, rfl, q.1, q.2 _ _ (.same (.str _))⟩
    · exact q.elim
  mono := fun a b q q' h k => by
    unfold opAddS at *
    split at k
    · exact ⟨k.1, h _ k.2⟩
    · exact k.elim
theorem own_fztup {G H : Hp} {x : V} {ds : List D} {F : List Addr} (w : Own K G H x (.fz (.tup ds)) F) : ∃ a vs, x = .ref a ∧ TupAt G a vs ∧ Reps K G vs ds := by
  cases w with
  | fz w =>
    cases w with
    | tup h r => exact ⟨_, _, rfl, h, r⟩
/-- t + u -/
def rCatF (K : PySem.W.Frag) : R2 := fun x y H Q => ∃ a b xs ys, x = .ref a ∧ y = .ref b ∧ SqT K H a xs ∧ SqT K H b ys ∧ xs.length + ys.length ≤ sizeLine ∧
  (xs = [] → Q (.ref b) H) ∧ (xs ≠ [] → ys = [] → Q (.ref a) H) ∧ (xs ≠ [] → ys ≠ [] → ∀ p o, H p = none → TupO (xs ++ ys) o → Q (.ref p) (upd H p o))
theorem op_catF {X : Cx} : OpR X (binaryOp .Add) (rCatF X.K) := by
  intro pins s σ H x y v u Q I rx ry h
  obtain ⟨a, b, xs, ys, rfl, rfl, ha, hb, hz, q0, q1, q2⟩ := h
  by_cases hx : xs = []
  · subst hx
    cases rx
    cases ry
    obtain ⟨its, r1, p1, _⟩ := I.tuple ha
    obtain ⟨its2, r2, p2, _⟩ := I.tuple hb
    cases r1
    exact cat_tup0 p1 p2 ⟨.ref b, H, I, rfl, q0 rfl⟩
  · cases rx
    cases ry
    obtain ⟨its, r1, p1, _⟩ := I.tuple ha
    obtain ⟨its2, r2, p2, _⟩ := I.tuple hb
    refine HT.cat_tup p1 p2 (fun z => hx (L2.Vals.nil_iff r1 |>.mp z)) (fun z => ⟨.ref a, H, I, rfl, q1 hx (L2.Vals.nil_iff r2 |>.mp z)⟩) (fun z => ?_) (by rw [← r1.length, ← r2.length]; exact hz)
    obtain ⟨o, t, I'⟩ := laid_tup I (xs := xs ++ ys) (by rw [List.length_append]; exact hz) (r1.append r2)
    exact ⟨.ref s.heap.objs.size, _, I', rfl, q2 hx (fun w => z (L2.Vals.nil_iff r2 |>.mpr w)) _ _ (I.hok.fresh (Nat.le_refl _)) t⟩
theorem snd_addT : Snd2 K (rCatF K) opAddT where
  run := fun G H x y mx my F F' Q ex w w' q => by
    unfold opAddT at q
    split at q
    · obtain ⟨a, vs, rfl, h1, r1⟩ := own_fztup w
      obtain ⟨b, us, rfl, h2, r2⟩ := own_fztup w'
      refine ⟨a, b, vs, us, rfl, rfl, (h1.mono ex).sqT, (h2.mono ex).sqT, by rw [r1.length, r2.length]; exact q.1, fun e => ?_, fun e e' => ?_, fun _ _ p o n t => q.2 _ _ (.tup n t (r1.append r2))⟩
      · subst e
        cases r1
        exact q.2 _ _ (.same (.tup h2 r2))
      · subst e'
        cases r2
        exact q.2 _ _ (.same (by rw [List.append_nil]; exact .tup h1 r1))
    · exact q.elim
  mono := fun a b q q' h k => by
    unfold opAddT at *
    split at k
    · exact ⟨k.1, h _ k.2⟩
    · exact k.elim
theorem own_lst {G H : Hp} {x : V} {m : M} {ds : List D} {F : List Addr} (ex : Ex G H) (w : Own K G H x m F) (e : m.d = .lst ds) : ∃ a vs, x = .ref a ∧ H a = some (.lst vs) ∧ Reps K G vs ds := by
  cases w with
  | fz w =>
    have e : _ = D.lst ds := e
    subst e
    cases w with
    | lst h r => exact ⟨_, _, rfl, ex _ _ h, r⟩
  | lst h r =>
    cases e
    exact ⟨_, _, rfl, h, r⟩
  | dK h r => cases e
  | dT h r => cases e
theorem snd_addL : Snd2 K rCat opAddL where
  run := fun G H x y mx my F F' Q ex w w' q => by
    unfold opAddL at q
    split at q
    · rename_i s t e1 e2
      obtain ⟨a, vs, rfl, h1, r1⟩ := own_lst ex w e1
      obtain ⟨b, us, rfl, h2, r2⟩ := own_lst ex w' e2
      exact ⟨a, b, vs, us, rfl, rfl, h1, h2, by rw [r1.length, r2.length]; exact q.1, fun p n => q.2 _ _ (.lst n (r1.append r2))⟩
    · exact q.elim
  mono := fun a b q q' h k => by
    unfold opAddL at *
    split at k
    · exact ⟨k.1, h _ k.2⟩
    · exact k.elim
abbrev rAddAll (K : PySem.W.Frag) : R2 := fun x y H Q => (fun x y H Q => rI0 (fun i j => V.int (i + j)) x y H Q ∨ (∃ i j, x = .str i ∧ y = .str j ∧ i.length + j.length ≤ sizeLine ∧ Q (.str (i ++ j)) H)) x y H Q ∨ (fun x y H Q => rCatF K x y H Q ∨ rCat x y H Q) x y H Q
theorem op_addAll {X : Cx} : OpR X (binaryOp .Add) (rAddAll X.K) := OpR.or (OpR.or op_add op_add_str) (OpR.or op_catF op_cat)
theorem mono_add (a b : M) (q q' : M → Prop) (h : ∀ m, q m → q' m) (k : opAdd a b q) : opAdd a b q' := by
  unfold opAdd opAddL at *
  split at k
  · exact h _ k
  · exact ⟨k.1, h _ k.2⟩
  · exact ⟨k.1, h _ k.2⟩
  · split at k
    · exact ⟨k.1, h _ k.2⟩
    · exact k.elim
theorem snd_add : Snd2 K (rAddAll K) opAdd := Snd2.imp (((snd_II0 (f := fun i j => .int (i + j)) fun _ _ => rfl).or snd_addS).or (snd_addT.or snd_addL)) (fun x y q k => by
  unfold opAdd at k
  split at k
  · exact .inl (.inl ⟨trivial, k⟩)
  · exact .inl (.inr k)
  · exact .inr (.inl k)
  · exact .inr (.inr k)) mono_add

/-! ### - * // % ** -/
def opSub : OP2 := opII (fun _ _ => True) fun i j => .int (i - j)
theorem snd_sub : Snd2 K (rI0 fun i j => .int (i - j)) opSub := snd_II0 fun _ _ => rfl
def opDiv : OP2 := opII CDiv fun i j => .int (i / j)
theorem snd_div : Snd2 K (rI CDiv fun i j => .int (i / j)) opDiv := snd_II fun _ _ => rfl
def opMod : OP2 := opII (fun _ j => 0 < j) fun i j => .int (i % j)
theorem snd_mod : Snd2 K (rI (fun _ j => 0 < j) fun i j => .int (i % j)) opMod := snd_II fun _ _ => rfl
def opPow : OP2 := opII CPow fun i j => .int (i ^ j.toNat)
theorem snd_pow : Snd2 K (rI CPow fun i j => .int (i ^ j.toNat)) opPow := snd_II fun _ _ => rfl
def repD (ds : List D) (k : Int) : List D := (List.replicate k.toNat ds).flatten
theorem reps_rep {G : Hp} {vs : List V} {ds : List D} (r : Reps K G vs ds) : ∀ n : Nat, Reps K G (List.replicate n vs).flatten (List.replicate n ds).flatten
  | 0 => .nil
  | n + 1 => by
    rw [List.replicate_succ, List.replicate_succ, List.flatten_cons, List.flatten_cons]
    exact r.append (reps_rep r n)
/-- t * k -/
def rRepF (K : PySem.W.Frag) : R2 := fun x y H Q => ∃ l k xs, x = .ref l ∧ y = .int k ∧ SqT K H l xs ∧ xs ≠ [] ∧ 2 ≤ k ∧ k ≤ 1000 ∧ xs.length ≤ 1000 ∧ ∀ p o, H p = none → TupO (List.replicate k.toNat xs).flatten o → Q (.ref p) (upd H p o)
theorem len_rep (n : Nat) {α : Type} (l : List α) : ((List.replicate n l).flatten).length = n * l.length := by
  induction n with
  | zero => simp
  | succ n ih => rw [List.replicate_succ, List.flatten_cons, List.length_append, ih, Nat.succ_mul, Nat.add_comm]
theorem op_repF {X : Cx} : OpR X (binaryOp .Mult) (rRepF X.K) := by
  intro pins s σ H x y v u Q I rx ry ⟨l, k, xs, ex, ey, hT, hne, h1, h2, hz, q⟩
  subst ex ey
  cases rx
  obtain ⟨t, rfl⟩ := ry
  obtain ⟨its, r, ⟨⟨cls, dd, data, sl⟩, ho, hc, n, hd⟩, hs⟩ := I.tuple hT
  simp only at hc hd
  subst hc hd
  have hl := r.length
  have hn : its ≠ [] := fun e => hne (List.eq_nil_of_length_eq_zero (by rw [hl, e]; rfl))
  have small : k.toNat * xs.length ≤ 1000000 := Nat.le_trans (Nat.mul_le_mul (show k.toNat ≤ 1000 by omega) hz) (by decide)
  have small2 : ((its.toArray.size : Nat) : Int) * k ≤ 1000000 := by
    rw [List.size_toArray, ← hl]
    refine Int.le_trans (Int.mul_le_mul_of_nonneg_right (show ((xs.length : Nat) : Int) ≤ 1000 by omega) (by omega)) ?_
    omega
  have isz : its.toArray.isEmpty = false := by
    cases its with
    | nil => exact absurd rfl hn
    | cons a b => rfl
  have room : (List.foldl (fun x1 x2 => x1 ++ x2) #[] (List.replicate k.toNat its.toArray)).size ≤ sizeLine := by
    rw [size_rep, List.size_toArray, len_rep, ← hl, sizeLine_eq]
    omega
  have few : Builtin.Tuple.tupleTooMany (((its.toArray.size : Nat) : Int) * k) = false := by
    unfold Builtin.Tuple.tupleTooMany
    exact decide_eq_false (by rw [sizeLine_eq]; omega)
  have r1 : (decide (k < -(2 ^ 63)) || decide (k ≥ 2 ^ 63)) = false := by simp; omega
  have r2 : (its.toArray.isEmpty || k == 1) = false := by simp [isz]; omega
  have r3 : (decide (k ≤ 0) || its.toArray.isEmpty) = false := by simp [isz]; omega
  refine wpAny_binaryOp_repeat_ref (T := "tuple") (U := "int") (by decide) ⟨_, ho, rfl⟩ (fun s' => typeIs_int s' k t) noFill_tuple_mul F.fills_int_mul F.slot_int_rmul repeat_tuple F.slot_int_index.lookup ?_
  refine call_meets F.slot_int_rmul (typeIs_int s k t) F.entry_int_rmul (F.args_int_rmul_2 _ _) (int_rmul_tuple k t l its.toArray n dd sl) ⟨ho, rfl, ⟨_, ho, rfl⟩, ?_⟩
  refine call_meets F.slot_tuple_mul ⟨_, ho, rfl⟩ F.entry_tuple_mul (F.args_tuple_mul_2 _ _) (tuple_mulW l its.toArray n dd sl k t r1 r2 r3 (by omega) few room) ⟨ho, ?_⟩
  rw [size_rep]
  obtain ⟨o, t', I'⟩ := laid_tup I (xs := (List.replicate k.toNat xs).flatten) (by rw [len_rep, sizeLine_eq]; omega) (r.rep k.toNat)
  exact ⟨.ref s.heap.objs.size, _, I', rfl, q _ _ (I.hok.fresh (Nat.le_refl _)) t'⟩
def opMulT : OP2 := fun a b q => match a, b with
  | .fz (.tup ds), .fz (.int k) => ds ≠ [] ∧ 2 ≤ k ∧ k ≤ 1000 ∧ ds.length ≤ 1000 ∧ q (.fz (.tup (repD ds k)))
  | _, _ => False
def opMulL : OP2 := fun a b q => match a.d, b.d with
  | .lst ds, .int k => -(2 ^ 63) ≤ k ∧ k < 2 ^ 63 ∧ ds.length * k.toNat ≤ sizeLine ∧ q (.lst (repD ds k))
  | _, _ => False
theorem snd_mulT : Snd2 K (rRepF K) opMulT where
  run := fun G H x y mx my F F' Q ex w w' q => by
    unfold opMulT at q
    split at q
    · obtain ⟨a, vs, rfl, h1, r1⟩ := own_fztup w
      cases w' with
      | fz w' =>
        cases w'
        refine ⟨a, _, vs, rfl, rfl, (h1.mono ex).sqT, fun e => ?_, q.2.1, q.2.2.1, by rw [r1.length]; exact q.2.2.2.1, fun p o n t => q.2.2.2.2 _ _ (.tup n t (reps_rep r1 _))⟩
        subst e
        cases r1
        exact q.1 rfl
    · exact q.elim
  mono := fun a b q q' h k => by
    unfold opMulT at *
    split at k
    · exact ⟨k.1, k.2.1, k.2.2.1, k.2.2.2.1, h _ k.2.2.2.2⟩
    · exact k.elim
theorem snd_mulL : Snd2 K rRep opMulL where
  run := fun G H x y mx my F F' Q ex w w' q => by
    unfold opMulL at q
    split at q
    · rename_i ds k e1 e2
      obtain ⟨a, vs, rfl, h1, r1⟩ := own_lst ex w e1
      have : y = .int k := by
        cases w' with
        | fz w' =>
          have e2 : _ = D.int k := e2
          subst e2
          cases w'
          rfl
        | lst _ _ => cases e2
        | dK _ _ => cases e2
        | dT _ _ => cases e2
      subst this
      exact ⟨a, k, vs, rfl, rfl, h1, q.1, q.2.1, by rw [r1.length]; exact q.2.2.1, fun p n => q.2.2.2 _ _ (.lst n (reps_rep r1 _))⟩
    · exact q.elim
  mono := fun a b q q' h k => by
    unfold opMulL at *
    split at k
    · exact ⟨k.1, k.2.1, k.2.2.1, h _ k.2.2.2⟩
    · exact k.elim
def opMul : OP2 := fun a b q => match a, b with
  | .fz (.int i), .fz (.int j) => CMul i j ∧ q (.fz (.int (i * j)))
  | .fz (.tup ds), .fz (.int k) => ds ≠ [] ∧ 2 ≤ k ∧ k ≤ 1000 ∧ ds.length ≤ 1000 ∧ q (.fz (.tup (repD ds k)))
  | a, b => opMulL a b q
theorem mono_mul (a b : M) (q q' : M → Prop) (h : ∀ m, q m → q' m) (k : opMul a b q) : opMul a b q' := by
  unfold opMul opMulL at *
  split at k
  · exact ⟨k.1, h _ k.2⟩
  · exact ⟨k.1, k.2.1, k.2.2.1, k.2.2.2.1, h _ k.2.2.2.2⟩
  · split at k
    · exact ⟨k.1, k.2.1, k.2.2.1, h _ k.2.2.2⟩
    · exact k.elim
abbrev rMulAll (K : PySem.W.Frag) : R2 := fun x y H Q => rI CMul (fun i j => V.int (i * j)) x y H Q ∨ (fun x y H Q => rRepF K x y H Q ∨ rRep x y H Q) x y H Q
theorem op_mulAll {X : Cx} : OpR X (binaryOp .Mult) (rMulAll X.K) := OpR.or op_mul (OpR.or op_repF op_rep)
theorem snd_mul : Snd2 K (rMulAll K) opMul := Snd2.imp ((snd_II (f := fun i j => .int (i * j)) fun _ _ => rfl).or (snd_mulT.or snd_mulL)) (fun x y q k => by
  unfold opMul at k
  split at k
  · exact .inl k
  · exact .inr (.inl k)
  · exact .inr (.inr k)) mono_mul
def opNeg : OP1 := fun a q => isInt a fun i => q (.fz (.int (-i)))
theorem snd_neg : Snd1 K (rU fun i => .int (-i)) opNeg where
  run := fun G H x mx F Q ex w q => by
    obtain ⟨i, rfl, q⟩ := isInt_own ⟨F, w⟩ q
    exact ⟨i, rfl, q _ _ (.same (.int _))⟩
  mono := fun a q q' h k => isInt_mono (fun i k => h _ k) k
end
end VW

set_option Elab.async false
set_option linter.all false
set_option maxRecDepth 100000
/-! VW7: comparisons, items, slices. -/
namespace VW
open PySem PySem.Spec PyProof.Rows L2

/-! ### == -/
def eqD (x y : D) : Bool := match x.py, y.py with
  | some p, some q => PyData.eqv p q
  | _, _ => false
def canD (x : D) : Bool := match x.py with
  | some p => SeqAt.shaped p
  | none => false
/-- == may be asked of them -/
def eqOk : D → D → Bool
  | .int _, .int _ => true
  | .str _, .str _ => true
  | .bl _, .bl _ => true
  | .non, .int _ => true
  | .non, .str _ => true
  | .non, .bl _ => true
  | .int _, .non => true
  | .str _, .non => true
  | .bl _, .non => true
  | .int _, .str _ => true
  | .str _, .int _ => true
  | .bl _, .str _ => true
  | .str _, .bl _ => true
  | .non, .non => true
  | x, y => canD x && canD y
def opEq (neg : Bool) : OP2 := fun a b q => eqOk a.d b.d = true ∧ q (.fz (.bl (if neg then !eqD a.d b.d else eqD a.d b.d)))
abbrev rEqAll (K : PySem.W.Frag) : R2 := fun x y H Q => rEq x y H Q ∨ rEqD K x y H Q
abbrev rNeAll (K : PySem.W.Frag) : R2 := fun x y H Q => rNe x y H Q ∨ rNeD K x y H Q
section
variable {X : Cx} {K : PySem.W.Frag}
theorem op_eqAll (hu : X.A.units + 64 < cLine) : OpR X (compareOp .Eq) (rEqAll X.K) := OpR.or op_eq (op_eqD hu)
theorem op_neAll (hu : X.A.units + 64 < cLine) : OpR X (compareOp .NotEq) (rNeAll X.K) := OpR.or op_ne (op_neD hu)
theorem canD_py {x : D} (h : canD x = true) : ∃ p, x.py = some p ∧ SeqAt.shaped p = true := by
  unfold canD at h
  split at h
  · rename_i p e
    exact ⟨p, e, h⟩
  · cases h
/-- == by the scalars' rule, or by the data's -/
theorem eq_cases {G H : Hp} {x y : V} {a b : M} {F F' : List Addr} (ex : Ex G H) (w : Own K G H x a F) (w' : Own K G H y b F') (h : eqOk a.d b.d = true) :
    (scal x y = true ∧ decide (x = y) = eqD a.d b.d) ∨ ∃ d e, Dp K H x d ∧ Dp K H y e ∧ SeqAt.shaped d = true ∧ SeqAt.shaped e = true ∧ PyData.eqv d e = eqD a.d b.d := by
  have data : canD a.d = true → canD b.d = true → ∃ d e, Dp K H x d ∧ Dp K H y e ∧ SeqAt.shaped d = true ∧ SeqAt.shaped e = true ∧ PyData.eqv d e = eqD a.d b.d := fun h1 h2 => by
    obtain ⟨p, e1, s1⟩ := canD_py h1
    obtain ⟨q, e2, s2⟩ := canD_py h2
    exact ⟨p, q, w.dp ex e1, w'.dp ex e2, s1, s2, by unfold eqD; rw [e1, e2]⟩
  have fz : ∀ {v : V} {m : M} {F : List Addr} {u : V}, Own K G H v m F → plainV m.d = some u → v = u := fun {v m F u} w e => by
    cases w with
    | fz w =>
      cases w with
      | non => cases e; rfl
      | bl _ => cases e; rfl
      | int _ => cases e; rfl
      | str _ => cases e; rfl
      | _ => cases e
    | lst _ _ => cases e
    | dK _ _ => cases e
    | dT _ _ => cases e
  unfold eqOk at h
  split at h
  case h_15 => exact .inr (data (Bool.and_eq_true_iff.mp h).1 (Bool.and_eq_true_iff.mp h).2)
  all_goals
    rename_i e1 e2
    have h1 := fz (u := _) w (by rw [e1]; rfl)
    have h2 := fz (u := _) w' (by rw [e2]; rfl)
    subst h1 h2
    rw [e1, e2]
    refine .inl ⟨rfl, ?_⟩
    first
      | rfl
      | (simp only [eqD, D.py, PyData.eqv]; first | rfl | (rw [Bool.eq_iff_iff]; simp))
theorem mono_eq (neg : Bool) (a b : M) (q q' : M → Prop) (h : ∀ m, q m → q' m) (k : opEq neg a b q) : opEq neg a b q' := ⟨k.1, h _ k.2⟩
theorem snd_eq : Snd2 K (rEqAll K) (opEq false) where
  run := fun G H x y mx my F F' Q ex w w' q => by
    rcases eq_cases ex w w' q.1 with ⟨h1, h2⟩ | ⟨d, e, h1, h2, h3, h4, h5⟩
    · refine .inl ⟨h1, ?_⟩
      rw [h2]
      exact q.2 _ _ (.same (.bl _))
    · refine .inr ⟨d, e, h1, h2, h3, h4, ?_⟩
      rw [h5]
      exact q.2 _ _ (.same (.bl _))
  mono := mono_eq false
theorem snd_ne : Snd2 K (rNeAll K) (opEq true) where
  run := fun G H x y mx my F F' Q ex w w' q => by
    rcases eq_cases ex w w' q.1 with ⟨h1, h2⟩ | ⟨d, e, h1, h2, h3, h4, h5⟩
    · refine .inl ⟨h1, ?_⟩
      rw [h2]
      exact q.2 _ _ (.same (.bl _))
    · refine .inr ⟨d, e, h1, h2, h3, h4, ?_⟩
      rw [h5]
      exact q.2 _ _ (.same (.bl _))
  mono := mono_eq true
end

/-! ### the order -/
def ltD (x y : D) : Bool := match x.py, y.py with
  | some p, some q => PySem.W.dataLt p q
  | _, _ => false
/-- they can be ordered -/
def ordOk (x y : D) : Bool := match x.py, y.py with
  | some p, some q => PySem.W.alike p q && decide (p.depth ≤ 60) && (match p with
    | .none => false
    | _ => true)
  | _, _ => false
inductive Od where
  | lt | le | gt | ge
def Od.op : Od → CmpOp
  | .lt => .Lt
  | .le => .LtE
  | .gt => .Gt
  | .ge => .GtE
def Od.ans (o : Od) (lt gt : Bool) : Bool := match o with
  | .lt => lt
  | .le => !gt
  | .gt => gt
  | .ge => !lt
def Od.int (o : Od) (i j : Int) : Bool := match o with
  | .lt => decide (i < j)
  | .le => decide (i ≤ j)
  | .gt => decide (j < i)
  | .ge => decide (j ≤ i)
def opOrd (o : Od) : OP2 := fun a b q => match a.d, b.d with
  | .int i, .int j => q (.fz (.bl (o.int i j)))
  | .str s, .str t => q (.fz (.bl (o.ans (decide (s.cps.toList < t.cps.toList)) (decide (t.cps.toList < s.cps.toList)))))
  | x, y => ordOk x y = true ∧ q (.fz (.bl (o.ans (ltD x y) (ltD y x))))
def rOrdI (o : Od) : R2 := rI0 fun i j => .bl (o.int i j)
def rOrdS (o : Od) : R2 := fun x y H Q => ∃ i j, x = .str i ∧ y = .str j ∧ Q (.bl (o.ans (decide (i.cps.toList < j.cps.toList)) (decide (j.cps.toList < i.cps.toList)))) H
def rOrdD (K : PySem.W.Frag) (o : Od) : R2 := fun x y H Q => ∃ d e, Dp K H x d ∧ Dp K H y e ∧ PySem.W.alike d e = true ∧ d ≠ .none ∧ d.depth ≤ 60 ∧ Q (.bl (o.ans (PySem.W.dataLt d e) (PySem.W.dataLt e d))) H
section
variable {X : Cx} {K : PySem.W.Frag}
theorem op_ordI (o : Od) : OpR X (compareOp o.op) (rOrdI o) := by
  cases o
  · exact op_lt
  · exact op_le
  · exact op_gt
  · exact op_ge
theorem op_ordS (o : Od) : OpR X (compareOp o.op) (rOrdS o) := by
  cases o
  · exact op_lt_str
  · exact op_le_str
  · exact op_gt_str
  · exact op_ge_str
theorem op_ordD (hu : X.A.units + 64 < cLine) (o : Od) : OpR X (compareOp o.op) (rOrdD X.K o) := by
  intro pins s σ H x y v u Q I rx ry h
  obtain ⟨d, e, hd, he, al, nn, dp, q⟩ := h
  obtain ⟨as, r1⟩ := Dp.reads I d x v hd rx
  obtain ⟨bs, r2⟩ := Dp.reads I e y u he ry
  have room : X.A.units + min d.depth e.depth < cLine := by
    have := Nat.min_le_left d.depth e.depth
    omega
  cases o
  · exact PySem.W.lt_data r1 r2 al nn room ⟨.bl _, H, I, rfl, q⟩
  · exact PySem.W.le_data r1 r2 al nn room ⟨.bl _, H, I, rfl, q⟩
  · exact PySem.W.gt_data r1 r2 al nn room ⟨.bl _, H, I, rfl, q⟩
  · exact PySem.W.ge_data r1 r2 al nn room ⟨.bl _, H, I, rfl, q⟩
abbrev rOrdAll (K : PySem.W.Frag) (o : Od) : R2 := fun x y H Q => rOrdI o x y H Q ∨ (fun x y H Q => rOrdS o x y H Q ∨ rOrdD K o x y H Q) x y H Q
theorem op_ordAll (hu : X.A.units + 64 < cLine) (o : Od) : OpR X (compareOp o.op) (rOrdAll X.K o) := OpR.or (op_ordI o) (OpR.or (op_ordS o) (op_ordD hu o))
theorem own_plain {G H : Hp} {v : V} {m : M} {F : List Addr} {u : V} (w : Own K G H v m F) (e : plainV m.d = some u) : v = u := by
  cases w with
  | fz w =>
    cases w with
    | non => cases e; rfl
    | bl _ => cases e; rfl
    | int _ => cases e; rfl
    | str _ => cases e; rfl
    | _ => cases e
  | lst _ _ => cases e
  | dK _ _ => cases e
  | dT _ _ => cases e
theorem snd_ord (o : Od) : Snd2 K (rOrdAll K o) (opOrd o) where
  run := fun G H x y mx my F F' Q ex w w' q => by
    unfold opOrd at q
    split at q
    · rename_i i j e1 e2
      have h1 := own_plain (u := .int i) w (by rw [e1]; rfl)
      have h2 := own_plain (u := .int j) w' (by rw [e2]; rfl)
      subst h1 h2
      exact .inl ⟨i, j, rfl, rfl, q _ _ (.same (.bl _))⟩
    · rename_i i j e1 e2
      have h1 := own_plain (u := .str i) w (by rw [e1]; rfl)
      have h2 := own_plain (u := .str j) w' (by rw [e2]; rfl)
      subst h1 h2
      exact .inr (.inl ⟨i, j, rfl, rfl, q _ _ (.same (.bl _))⟩)
    · obtain ⟨h, q⟩ := q
      unfold ordOk at h
      split at h
      · rename_i p r e1 e2
        obtain ⟨h, h3⟩ := Bool.and_eq_true_iff.mp h
        obtain ⟨h1, h2⟩ := Bool.and_eq_true_iff.mp h
        refine .inr (.inr ⟨p, r, w.dp ex e1, w'.dp ex e2, h1, (fun z => by rw [z] at h3; cases h3), of_decide_eq_true h2, ?_⟩)
        have t1 : ltD mx.d my.d = PySem.W.dataLt p r := by unfold ltD; rw [e1, e2]
        have t2 : ltD my.d mx.d = PySem.W.dataLt r p := by unfold ltD; rw [e1, e2]
        rw [t1, t2] at q
        exact q _ _ (.same (.bl _))
      · cases h
  mono := fun a b q q' h k => by
    unfold opOrd at *
    split at k
    · exact h _ k
    · exact h _ k
    · exact ⟨k.1, h _ k.2⟩
end

/-! ### is None -/
def isNon : D → Bool
  | .non => true
  | _ => false
def opIs (neg : Bool) : OP2 := fun a b q => match b with
  | .fz .non => (match a.d with
    | .opq => False
    | _ => True) ∧ q (.fz (.bl (if neg then !isNon a.d else isNon a.d)))
  | _ => False
section
variable {X : Cx} {K : PySem.W.Frag}
theorem own_isN {G H : Hp} {x : V} {m : M} {F : List Addr} (w : Own K G H x m F) (h : m.d ≠ .opq) : decide (x = .non) = isNon m.d := by
  cases w with
  | fz w =>
    cases w with
    | opq _ => exact absurd rfl h
    | _ => rfl
  | lst _ _ => rfl
  | dK _ _ => rfl
  | dT _ _ => rfl
theorem mono_is (neg : Bool) (a b : M) (q q' : M → Prop) (h : ∀ m, q m → q' m) (k : opIs neg a b q) : opIs neg a b q' := by
  unfold opIs at *
  split at k
  · exact ⟨k.1, h _ k.2⟩
  · exact k.elim
theorem snd_isN : Snd2 K (fun x y H Q => y = .non ∧ Q (.bl (decide (x = .non))) H) (opIs false) where
  run := fun G H x y mx my F F' Q ex w w' q => by
    unfold opIs at q
    split at q
    · have h2 := own_plain (u := .non) w' rfl
      refine ⟨h2, ?_⟩
      rw [own_isN w fun z => by rw [z] at q; exact q.1]
      exact q.2 _ _ (.same (.bl _))
    · exact q.elim
  mono := mono_is false
theorem snd_notN : Snd2 K (fun x y H Q => y = .non ∧ Q (.bl (!decide (x = .non))) H) (opIs true) where
  run := fun G H x y mx my F F' Q ex w w' q => by
    unfold opIs at q
    split at q
    · have h2 := own_plain (u := .non) w' rfl
      refine ⟨h2, ?_⟩
      rw [own_isN w fun z => by rw [z] at q; exact q.1]
      exact q.2 _ _ (.same (.bl _))
    · exact q.elim
  mono := mono_is true
end

/-! ### keys, what a dict holds -/
def keyK : D → Option Key
  | .int i => some (.inl i)
  | .str s => some (.inr s)
  | _ => none
def keysK : List D → Option (List Key)
  | [] => some []
  | d :: ds => match keyK d, keysK ds with
    | some k, some ks => some (k :: ks)
    | _, _ => none
def keyT : D → Option (List Key)
  | .tup [] => none
  | .tup (d :: ds) => keysK (d :: ds)
  | _ => none
section
variable {κ : Type} [DecidableEq κ]
def getK (kvs : List (κ × D)) (k : κ) : Option D := (kvs.find? fun kv => decide (kv.1 = k)).map (·.2)
def setK (kvs : List (κ × D)) (k : κ) (v : D) : List (κ × D) := if (kvs.any fun kv => decide (kv.1 = k)) = true then kvs.map (fun kv => if kv.1 = k then (kv.1, v) else kv) else kvs ++ [(k, v)]
def remK (kvs : List (κ × D)) (k : κ) : List (κ × D) := kvs.filter fun kv => decide (kv.1 ≠ k)
end
section
variable {K : PySem.W.Frag} {G H : Hp}
theorem keyK_own {v : V} {m : M} {F : List Addr} {k : Key} (w : Own K G H v m F) (e : keyK m.d = some k) : v = kV k := by
  cases w with
  | fz w =>
    cases w with
    | int i => cases e; rfl
    | str i => cases e; rfl
    | _ => cases e
  | lst _ _ => cases e
  | dK _ _ => cases e
  | dT _ _ => cases e
theorem keysK_reps : ∀ {vs : List V} {ds : List D} {ks : List Key}, Reps K G vs ds → keysK ds = some ks → vs = ks.map kV
  | _, _, _, .nil, e => by cases e; rfl
  | _, _, _, .cons (d := d) (ds := ds) h r, e => by
    unfold keysK at e
    split at e
    · rename_i k ks e1 e2
      cases e
      have h1 := keyK_own (H := G) (Own.fz h) e1
      rw [h1, keysK_reps r e2]
      rfl
    · cases e
theorem keyT_own {v : V} {m : M} {F : List Addr} {ks : List Key} (ex : Ex G H) (w : Own K G H v m F) (e : keyT m.d = some ks) : ∃ b, v = .ref b ∧ H b = some (.tup (ks.map kV)) := by
  cases w with
  | fz w =>
    cases w with
    | tup h r =>
      rename_i a vs ds
      cases ds with
      | nil => cases e
      | cons d ds =>
        have e : keysK (d :: ds) = some ks := e
        have ev := keysK_reps r e
        refine ⟨_, rfl, ?_⟩
        rw [← ev]
        refine (h.mono ex).key ?_
        rw [ev]
        unfold keyish
        rw [Bool.and_eq_true]
        refine ⟨?_, ?_⟩
        · cases ks with
          | nil =>
            cases r with
            | cons _ _ => cases ev
          | cons k ks => rfl
        · rw [List.all_map, List.all_eq_true]
          intro k _
          cases k <;> rfl
    | _ => cases e
  | lst _ _ => cases e
  | dK _ _ => cases e
  | dT _ _ => cases e
theorem repK_get {k : Key} : ∀ {vs : List (Key × V)} {ds : List (Key × D)}, RepK K G vs ds → (∀ d, getK ds k = some d → ∃ v, valV vs k = some v ∧ Rep K G v d) ∧ (getK ds k = none → valV vs k = none)
  | _, _, .nil => ⟨(fun d e => nomatch e), fun _ => rfl⟩
  | _, _, .cons (k := k') (v := v) (d := d) (vs := vs) (ds := ds) h r => by
    obtain ⟨h1, h2⟩ := repK_get r (k := k)
    by_cases z : k' = k
    · subst z
      refine ⟨fun d' e => ?_, fun e => ?_⟩
      · simp only [getK, List.find?_cons, decide_true, Option.map_some, Option.some.injEq] at e
        subst e
        exact ⟨v, valV_pos rfl, h⟩
      · simp [getK, List.find?_cons] at e
    · have eg : getK ((k', d) :: ds) k = getK ds k := by simp only [getK, List.find?_cons, z, decide_false]
      have ev : valV ((k', v) :: vs) k = valV vs k := valV_neg z
      rw [eg, ev]
      exact ⟨h1, h2⟩
theorem repT_get {k : List Key} : ∀ {vs : List (List Key × V)} {ds : List (List Key × D)}, RepT K G vs ds → (∀ d, getK ds k = some d → ∃ v, valV vs k = some v ∧ Rep K G v d) ∧ (getK ds k = none → valV vs k = none)
  | _, _, .nil => ⟨(fun d e => nomatch e), fun _ => rfl⟩
  | _, _, .cons (k := k') (v := v) (d := d) (vs := vs) (ds := ds) h r => by
    obtain ⟨h1, h2⟩ := repT_get r (k := k)
    by_cases z : k' = k
    · subst z
      refine ⟨fun d' e => ?_, fun e => ?_⟩
      · simp only [getK, List.find?_cons, decide_true, Option.map_some, Option.some.injEq] at e
        subst e
        exact ⟨v, valV_pos rfl, h⟩
      · simp [getK, List.find?_cons] at e
    · have eg : getK ((k', d) :: ds) k = getK ds k := by simp only [getK, List.find?_cons, z, decide_false]
      have ev : valV ((k', v) :: vs) k = valV vs k := valV_neg z
      rw [eg, ev]
      exact ⟨h1, h2⟩
theorem repK_isSome {k : Key} {vs : List (Key × V)} {ds : List (Key × D)} (r : RepK K G vs ds) : (valV vs k).isSome = (getK ds k).isSome := by
  obtain ⟨h1, h2⟩ := repK_get r (k := k)
  cases e : getK ds k with
  | none =>
    rw [h2 e]
    rfl
  | some d =>
    obtain ⟨v, e1, _⟩ := h1 d e
    rw [e1]
    rfl
theorem repT_isSome {k : List Key} {vs : List (List Key × V)} {ds : List (List Key × D)} (r : RepT K G vs ds) : (valV vs k).isSome = (getK ds k).isSome := by
  obtain ⟨h1, h2⟩ := repT_get r (k := k)
  cases e : getK ds k with
  | none =>
    rw [h2 e]
    rfl
  | some d =>
    obtain ⟨v, e1, _⟩ := h1 d e
    rw [e1]
    rfl
theorem repK_any {k : Key} : ∀ {vs : List (Key × V)} {ds : List (Key × D)}, RepK K G vs ds → (vs.any fun kv => decide (kv.1 = k)) = ds.any fun kv => decide (kv.1 = k)
  | _, _, .nil => rfl
  | _, _, .cons h r => by rw [List.any_cons, List.any_cons, repK_any r]
theorem repT_any {k : List Key} : ∀ {vs : List (List Key × V)} {ds : List (List Key × D)}, RepT K G vs ds → (vs.any fun kv => decide (kv.1 = k)) = ds.any fun kv => decide (kv.1 = k)
  | _, _, .nil => rfl
  | _, _, .cons h r => by rw [List.any_cons, List.any_cons, repT_any r]
theorem repK_map {k : Key} {v : V} {d : D} (h : Rep K G v d) : ∀ {vs : List (Key × V)} {ds : List (Key × D)}, RepK K G vs ds → RepK K G (vs.map fun kv => if kv.1 = k then (kv.1, v) else kv) (ds.map fun kv => if kv.1 = k then (kv.1, d) else kv)
  | _, _, .nil => .nil
  | _, _, .cons (k := k') h' r => by
    rw [List.map_cons, List.map_cons]
    by_cases z : k' = k
    · rw [if_pos z, if_pos z]
      exact .cons h (repK_map h r)
    · rw [if_neg z, if_neg z]
      exact .cons h' (repK_map h r)
theorem repT_map {k : List Key} {v : V} {d : D} (h : Rep K G v d) : ∀ {vs : List (List Key × V)} {ds : List (List Key × D)}, RepT K G vs ds → RepT K G (vs.map fun kv => if kv.1 = k then (kv.1, v) else kv) (ds.map fun kv => if kv.1 = k then (kv.1, d) else kv)
  | _, _, .nil => .nil
  | _, _, .cons (k := k') h' r => by
    rw [List.map_cons, List.map_cons]
    by_cases z : k' = k
    · rw [if_pos z, if_pos z]
      exact .cons h (repT_map h r)
    · rw [if_neg z, if_neg z]
      exact .cons h' (repT_map h r)
theorem repK_snoc {k : Key} {v : V} {d : D} (h : Rep K G v d) : ∀ {vs : List (Key × V)} {ds : List (Key × D)}, RepK K G vs ds → RepK K G (vs ++ [(k, v)]) (ds ++ [(k, d)])
  | _, _, .nil => .cons h .nil
  | _, _, .cons h' r => .cons h' (repK_snoc h r)
theorem repT_snoc {k : List Key} {v : V} {d : D} (h : Rep K G v d) : ∀ {vs : List (List Key × V)} {ds : List (List Key × D)}, RepT K G vs ds → RepT K G (vs ++ [(k, v)]) (ds ++ [(k, d)])
  | _, _, .nil => .cons h .nil
  | _, _, .cons h' r => .cons h' (repT_snoc h r)
theorem repK_set {k : Key} {v : V} {d : D} (h : Rep K G v d) {vs : List (Key × V)} {ds : List (Key × D)} (r : RepK K G vs ds) : RepK K G (putK vs k v) (setK ds k d) := by
  unfold putK setK
  rw [repK_any r]
  split
  · exact repK_map h r
  · exact repK_snoc h r
theorem repT_set {k : List Key} {v : V} {d : D} (h : Rep K G v d) {vs : List (List Key × V)} {ds : List (List Key × D)} (r : RepT K G vs ds) : RepT K G (putK vs k v) (setK ds k d) := by
  unfold putK setK
  rw [repT_any r]
  split
  · exact repT_map h r
  · exact repT_snoc h r
theorem own_dK {x : V} {m : M} {ds : List (Key × D)} {F : List Addr} (ex : Ex G H) (w : Own K G H x m F) (e : m.d = .dK ds) : ∃ a vs, x = .ref a ∧ H a = some (.dK vs) ∧ RepK K G vs ds := by
  cases w with
  | fz w =>
    have e : _ = D.dK ds := e
    subst e
    cases w with
    | dK h r => exact ⟨_, _, rfl, ex _ _ h, r⟩
  | dK h r =>
    cases e
    exact ⟨_, _, rfl, h, r⟩
  | lst h r => cases e
  | dT h r => cases e
theorem own_dT {x : V} {m : M} {ds : List (List Key × D)} {F : List Addr} (ex : Ex G H) (w : Own K G H x m F) (e : m.d = .dT ds) : ∃ a vs, x = .ref a ∧ H a = some (.dT vs) ∧ RepT K G vs ds := by
  cases w with
  | fz w =>
    have e : _ = D.dT ds := e
    subst e
    cases w with
    | dT h r => exact ⟨_, _, rfl, ex _ _ h, r⟩
  | dT h r =>
    cases e
    exact ⟨_, _, rfl, h, r⟩
  | lst h r => cases e
  | dK h r => cases e
theorem own_tup {x : V} {m : M} {ds : List D} {F : List Addr} (ex : Ex G H) (w : Own K G H x m F) (e : m.d = .tup ds) : ∃ a vs, x = .ref a ∧ TupAt H a vs ∧ Reps K G vs ds := by
  cases w with
  | fz w =>
    have e : _ = D.tup ds := e
    subst e
    cases w with
    | tup h r => exact ⟨_, _, rfl, h.mono ex, r⟩
  | lst h r => cases e
  | dK h r => cases e
  | dT h r => cases e
theorem own_scr {x : V} {m : M} {ns : List Int} {F : List Addr} (ex : Ex G H) (w : Own K G H x m F) (e : m.d = .scr ns) : ∃ a, x = .ref a ∧ SqL K H a (ns.map V.int) := by
  cases w with
  | fz w =>
    have e : _ = D.scr ns := e
    subst e
    cases w with
    | scr h => exact ⟨_, rfl, ex.sqL h⟩
  | lst h r => cases e
  | dK h r => cases e
  | dT h r => cases e
end
end VW

set_option Elab.async false
set_option linter.all false
set_option maxRecDepth 100000
/-! VW8: in, items, slices, built-ins. -/
namespace VW
open PySem PySem.Spec PyProof.Rows L2

/-! ### in -/
def plainVs : List D → Option (List V)
  | [] => some []
  | d :: ds => match plainV d, plainVs ds with
    | some v, some vs => some (v :: vs)
    | _, _ => none
def xorB (neg b : Bool) : Bool := if neg then !b else b
def inOk (p : PyData) (ps : List PyData) : Bool := p.canLay0 && PyData.canLayAll0 ps && decide (p.depth ≤ 60)
def opInS (neg : Bool) (x : D) (ds : List D) (q : M → Prop) : Prop := match plainV x, plainVs ds with
  | some v, some vs => q (.fz (.bl (xorB neg (inV v vs))))
  | _, _ => match x.py, D.pys ds with
    | some p, some ps => inOk p ps = true ∧ q (.fz (.bl (xorB neg (ps.any fun z => PyData.eqv z p))))
    | _, _ => False
def opIn (neg : Bool) : OP2 := fun a b q => match b.d with
  | .str t => match a.d with
    | .str s => (match s.cps.toList with
      | [c] => q (.fz (.bl (xorB neg (decide (c ∈ t.cps.toList)))))
      | _ => False)
    | _ => False
  | .dK kvs => match keyK a.d with
    | some k => q (.fz (.bl (xorB neg (getK kvs k).isSome)))
    | none => False
  | .dT kvs => match keyT a.d with
    | some k => q (.fz (.bl (xorB neg (getK kvs k).isSome)))
    | none => False
  | .tup ds => opInS neg a.d ds q
  | .lst ds => opInS neg a.d ds q
  | _ => False
def inCmp (neg : Bool) : CmpOp := if neg then .NotIn else .In
abbrev rInSg (neg : Bool) : R2 := fun x y H Q => ∃ (c : Nat) (z : Str), x = .str ⟨#[c]⟩ ∧ y = .str z ∧ Q (.bl (xorB neg (decide (c ∈ z.cps.toList)))) H
abbrev rInDc (neg : Bool) : R2 := fun x y H Q => ∃ a o, y = .ref a ∧ DGet H a x o ∧ Q (.bl (xorB neg o.isSome)) H
abbrev rInFl (K : PySem.W.Frag) (neg : Bool) : R2 := fun x y H Q => ∃ p xs, y = .ref p ∧ (SqL K H p xs ∨ SqT K H p xs) ∧ flatV x = true ∧ xs.all flatV = true ∧ Q (.bl (xorB neg (inV x xs))) H
abbrev rInDt (K : PySem.W.Frag) (neg : Bool) : R2 := fun x y H Q => ∃ d ds, Dp K H x d ∧ (Dp K H y (.list ds) ∨ Dp K H y (.tuple ds)) ∧ inOk d ds = true ∧ Q (.bl (xorB neg (ds.any fun z => PyData.eqv z d))) H
abbrev rInAll (K : PySem.W.Frag) (neg : Bool) : R2 := fun x y H Q => (fun x y H Q => rInSg neg x y H Q ∨ rInDc neg x y H Q) x y H Q ∨ (fun x y H Q => rInFl K neg x y H Q ∨ rInDt K neg x y H Q) x y H Q
section
variable {X : Cx} {K : PySem.W.Frag}
theorem op_inAll (hu : X.A.units + 64 < cLine) (neg : Bool) : OpR X (compareOp (inCmp neg)) (rInAll X.K neg) := by
  refine OpR.or (OpR.or ?_ ?_) (OpR.or ?_ ?_)
  · cases neg
    · exact op_in_sign
    · exact op_notIn_sign
  · intro pins s σ H x y v u Q I rx ry ⟨a, o, ey, g, q⟩
    subst ey
    obtain rfl : u = Value.ref a := ry
    cases neg
    · exact d_in (by omega) I g rx fun s' I' => ⟨.bl _, H, I', rfl, q⟩
    · exact d_notIn (by omega) I g rx fun s' I' => ⟨.bl _, H, I', rfl, q⟩
  · cases neg
    · exact op_in_seq
    · exact op_notIn_seq
  · intro pins s σ H x y v u Q I rx ry ⟨d, ds, hd, he, ok, q⟩
    obtain ⟨as, r1⟩ := Dp.reads I d x v hd rx
    unfold inOk at ok
    obtain ⟨ok, o3⟩ := Bool.and_eq_true_iff.mp ok
    obtain ⟨o1, o2⟩ := Bool.and_eq_true_iff.mp ok
    have o3 : d.depth ≤ 60 := of_decide_eq_true o3
    have room : X.A.units + 1 + min (PyData.depthAll ds) d.depth < cLine := by
      have := Nat.min_le_right (PyData.depthAll ds) d.depth
      omega
    rcases he with he | he
    · obtain ⟨bs, r2⟩ := Dp.reads I (.list ds) y u he ry
      cases neg
      · exact SeqAt.in_list_reads r2 r1 o2 o1 room ⟨.bl _, H, I, rfl, q⟩
      · exact SeqAt.notIn_list_reads r2 r1 o2 o1 room ⟨.bl _, H, I, rfl, q⟩
    · obtain ⟨bs, r2⟩ := Dp.reads I (.tuple ds) y u he ry
      cases neg
      · exact SeqAt.in_tuple_reads r2 r1 o2 o1 room ⟨.bl _, H, I, rfl, q⟩
      · exact SeqAt.notIn_tuple_reads r2 r1 o2 o1 room ⟨.bl _, H, I, rfl, q⟩
theorem plain_flat {d : D} {v : V} (e : plainV d = some v) : flatV v = true := by
  cases d with
  | int i => cases e; rfl
  | bl i => cases e; rfl
  | str i => cases e; rfl
  | non => cases e; rfl
  | _ => cases e
theorem plainVs_reps {G : Hp} : ∀ {vs : List V} {ds : List D} {us : List V}, Reps K G vs ds → plainVs ds = some us → vs = us ∧ us.all flatV = true
  | _, _, _, .nil, e => by cases e; exact ⟨rfl, rfl⟩
  | _, _, _, .cons (d := d) (ds := ds) h r, e => by
    unfold plainVs at e
    split at e
    · rename_i u us e1 e2
      cases e
      have h1 := own_plain (H := G) (Own.fz h) e1
      obtain ⟨h2, h3⟩ := plainVs_reps r e2
      refine ⟨by rw [h1, h2], ?_⟩
      rw [List.all_cons, h3, plain_flat e1]
      rfl
    · cases e
theorem mono_inS {neg : Bool} {x : D} {ds : List D} {q q' : M → Prop} (h : ∀ m, q m → q' m) (k : opInS neg x ds q) : opInS neg x ds q' := by
  unfold opInS at *
  split at k
  · exact h _ k
  · split at k
    · exact ⟨k.1, h _ k.2⟩
    · exact k.elim
theorem snd_in (neg : Bool) : Snd2 K (rInAll K neg) (opIn neg) where
  run := fun G H x y mx my F F' Q ex w w' q => by
    have seq : ∀ {p : Addr} {vs : List V} {ds : List D}, (SqL K H p vs ∨ SqT K H p vs) → Reps K G vs ds → opInS neg mx.d ds (fun m => ∀ v H', ResOk K G H m v H' → Q v H') → (∀ ps, DpAll K H vs ps → Dp K H (.ref p) (.list ps) ∨ Dp K H (.ref p) (.tuple ps)) → rInAll K neg x (.ref p) H Q := by
      intro p vs ds hs rs q dp
      unfold opInS at q
      split at q
      · rename_i v us e1 e2
        have h1 := own_plain w e1
        obtain ⟨h2, h3⟩ := plainVs_reps rs e2
        subst h1 h2
        exact .inr (.inl ⟨p, _, rfl, hs, plain_flat e1, h3, q _ _ (.same (.bl _))⟩)
      · split at q
        · rename_i d ps e1 e2
          exact .inr (.inr ⟨d, ps, w.dp ex e1, dp _ (Reps.dp ex rs e2), q.1, q.2 _ _ (.same (.bl _))⟩)
        · exact q.elim
    unfold opIn at q
    split at q
    · rename_i t e2
      have h2 := own_plain (u := .str t) w' (by rw [e2]; rfl)
      subst h2
      split at q
      · rename_i s e1
        have h1 := own_plain (u := .str s) w (by rw [e1]; rfl)
        subst h1
        split at q
        · rename_i c ec
          refine .inl (.inl ⟨c, t, ?_, rfl, q _ _ (.same (.bl _))⟩)
          congr 1
          exact PySem.W.str_of_cps ec
        · exact q.elim
      · exact q.elim
    · rename_i kvs e2
      obtain ⟨a, vs, rfl, h1, r1⟩ := own_dK ex w' e2
      split at q
      · rename_i k ek
        refine .inl (.inr ⟨a, _, rfl, .inl ⟨vs, k, .of h1, keyK_own w ek, rfl⟩, ?_⟩)
        rw [repK_isSome r1]
        exact q _ _ (.same (.bl _))
      · exact q.elim
    · rename_i kvs e2
      obtain ⟨a, vs, rfl, h1, r1⟩ := own_dT ex w' e2
      split at q
      · rename_i k ek
        obtain ⟨b, eb, hb⟩ := keyT_own ex w ek
        refine .inl (.inr ⟨a, _, rfl, .inr ⟨vs, k, b, .of h1, eb, hb, rfl⟩, ?_⟩)
        rw [repT_isSome r1]
        exact q _ _ (.same (.bl _))
      · exact q.elim
    · rename_i ds e2
      obtain ⟨a, vs, rfl, h1, r1⟩ := own_tup ex w' e2
      exact seq (.inr h1.sqT) r1 q fun ps dp => .inr (.tup h1.sqT dp)
    · rename_i ds e2
      obtain ⟨a, vs, rfl, h1, r1⟩ := own_lst ex w' e2
      exact seq (.inl (.of h1)) r1 q fun ps dp => .inl (.lst (.of h1) dp)
    · exact q.elim
  mono := fun a b q q' h k => by
    unfold opIn at *
    split at k
    · split at k
      · split at k
        · exact h _ k
        · exact k.elim
      · exact k.elim
    · split at k
      · exact h _ k
      · exact k.elim
    · split at k
      · exact h _ k
      · exact k.elim
    · exact mono_inS h k
    · exact mono_inS h k
    · exact k.elim
end

/-! ### items -/
def opIx : OP2 := fun a b q => match a.d with
  | .tup ds => isInt b fun i => match atI ds i with
    | some d => q (.fz d)
    | none => False
  | .lst ds => isInt b fun i => match atI ds i with
    | some d => q (.fz d)
    | none => False
  | .scr ns => isInt b fun i => match atI ns i with
    | some n => q (.fz (.int n))
    | none => False
  | .str s => isInt b fun i => match atI s.cps.toList i with
    | some c => s.length ≤ sizeLine ∧ q (.fz (sgn c))
    | none => False
  | .dK kvs => match keyK b.d with
    | some k => (match getK kvs k with
      | some d => q (.fz d)
      | none => False)
    | none => False
  | .dT kvs => match keyT b.d with
    | some k => (match getK kvs k with
      | some d => q (.fz d)
      | none => False)
    | none => False
  | _ => False
abbrev rIxDc : R2 := fun x y H Q => ∃ a v, x = .ref a ∧ DGet H a y (some v) ∧ Q v H
abbrev rIxAll (K : PySem.W.Frag) : R2 := fun x y H Q => rIx K x y H Q ∨ rIxDc x y H Q
section
variable {X : Cx} {K : PySem.W.Frag}
theorem ix_dict (hu : X.A.units + 64 < cLine) : IxR X rIxDc := by
  intro value slice pins s σ H x y v u Q I rx ry ⟨a, z, ex, g, q⟩ hs
  subst ex
  obtain rfl : v = Value.ref a := rx
  have tI := dict_typeIs I g
  unfold subscriptTail
  refine wpAny_bind ?_
  rw [getitemInPython_of_ne tI.not_modules]
  refine wpAny_bind (wpAny_specialOf tI PySem.F.slot_dict_getitem.lookup ?_)
  have fin : wpAny (model X.prog X.w) X.A (subscripted slice false (.ref a) u) (fun r s₃ => wpAny (model X.prog X.w) X.A (letTemporaryGo value (.ref a) r >>= fun _ => pure r) (EP X pins σ Q) X.xe s₃) X.xe s := by
    rw [hs]
    exact wpAny_operating (d_getItem (by omega) I g ry fun w' s' I' rw' => wpAny_bind (wpAny_letTemporaryGo (wpAny_pure ⟨z, H, I', rw', q⟩)))
  first
    | exact wpAny_pure (wpAny_bind fin)
    | exact wpAny_bind (wpAny_pure (wpAny_bind fin))
    | exact wpAny_bind fin
theorem ix_all (hu : X.A.units + 64 < cLine) : IxR X (rIxAll X.K) := IxR.or ix_seq (ix_dict hu)
theorem atI_map {α β : Type} (f : α → β) (xs : List α) (i : Int) : atI (xs.map f) i = (atI xs i).map f := by
  unfold atI
  rw [List.length_map]
  cases ixN xs.length i with
  | none => rfl
  | some j => simp
theorem reps_atI {G : Hp} {vs : List V} {ds : List D} {i : Int} {d : D} (r : Reps K G vs ds) (e : atI ds i = some d) : ∃ v, atI vs i = some v ∧ Rep K G v d := by
  unfold atI at *
  rw [r.length]
  cases q : ixN ds.length i with
  | none => rw [q] at e; cases e
  | some j =>
    rw [q] at e
    exact r.at e
theorem snd_ix : Snd2 K (rIxAll K) opIx where
  run := fun G H x y mx my F F' Q ex w w' q => by
    unfold opIx at q
    split at q
    · rename_i ds e
      obtain ⟨a, vs, rfl, h1, r1⟩ := own_tup ex w e
      obtain ⟨i, rfl, q⟩ := isInt_own ⟨F', w'⟩ q
      split at q
      · rename_i d ed
        obtain ⟨v, ev, rv⟩ := reps_atI r1 ed
        exact .inl (.inr (.inl ⟨a, vs, i, v, rfl, rfl, h1.sqT, ev, q _ _ (.same rv)⟩))
      · exact q.elim
    · rename_i ds e
      obtain ⟨a, vs, rfl, h1, r1⟩ := own_lst ex w e
      obtain ⟨i, rfl, q⟩ := isInt_own ⟨F', w'⟩ q
      split at q
      · rename_i d ed
        obtain ⟨v, ev, rv⟩ := reps_atI r1 ed
        exact .inl (.inl ⟨a, vs, i, v, rfl, rfl, .of h1, ev, q _ _ (.same rv)⟩)
      · exact q.elim
    · rename_i ns e
      obtain ⟨a, rfl, h1⟩ := own_scr ex w e
      obtain ⟨i, rfl, q⟩ := isInt_own ⟨F', w'⟩ q
      split at q
      · rename_i d ed
        exact .inl (.inl ⟨a, _, i, .int d, rfl, rfl, h1, by rw [atI_map, ed]; rfl, q _ _ (.same (.int _))⟩)
      · exact q.elim
    · rename_i s e
      have h1 := own_plain (u := .str s) w (by rw [e]; rfl)
      subst h1
      obtain ⟨i, rfl, q⟩ := isInt_own ⟨F', w'⟩ q
      split at q
      · rename_i c ec
        exact .inl (.inr (.inr ⟨s, i, c, rfl, rfl, q.1, ec, q.2 _ _ (.same (.str _))⟩))
      · exact q.elim
    · rename_i kvs e
      obtain ⟨a, vs, rfl, h1, r1⟩ := own_dK ex w e
      split at q
      · rename_i k ek
        split at q
        · rename_i d ed
          obtain ⟨v, ev, rv⟩ := (repK_get r1).1 d ed
          exact .inr ⟨a, v, rfl, .inl ⟨vs, k, .of h1, keyK_own w' ek, ev.symm⟩, q _ _ (.same rv)⟩
        · exact q.elim
      · exact q.elim
    · rename_i kvs e
      obtain ⟨a, vs, rfl, h1, r1⟩ := own_dT ex w e
      split at q
      · rename_i k ek
        split at q
        · rename_i d ed
          obtain ⟨v, ev, rv⟩ := (repT_get r1).1 d ed
          obtain ⟨b, eb, hb⟩ := keyT_own ex w' ek
          exact .inr ⟨a, v, rfl, .inr ⟨vs, k, b, .of h1, eb, hb, ev.symm⟩, q _ _ (.same rv)⟩
        · exact q.elim
      · exact q.elim
    · exact q.elim
  mono := fun a b q q' h k => by
    unfold opIx at *
    split at k
    · exact isInt_mono (fun i k => by
        split at k
        · exact h _ k
        · exact k.elim) k
    · exact isInt_mono (fun i k => by
        split at k
        · exact h _ k
        · exact k.elim) k
    · exact isInt_mono (fun i k => by
        split at k
        · exact h _ k
        · exact k.elim) k
    · exact isInt_mono (fun i k => by
        split at k
        · exact ⟨k.1, h _ k.2⟩
        · exact k.elim) k
    · split at k
      · split at k
        · exact h _ k
        · exact k.elim
      · exact k.elim
    · split at k
      · split at k
        · exact h _ k
        · exact k.elim
      · exact k.elim
    · exact k.elim
end

/-! ### slices -/
def cutD {α : Type} (xs : List α) (lo hi : Option Int) : List α := (xs.drop (HT.sIx xs.length 0 lo)).take (HT.sIx xs.length xs.length hi - HT.sIx xs.length 0 lo)
def opSl : OPS := fun a lo hi q => match a.d with
  | .tup ds => q (.fz (.tup (cutD ds lo hi)))
  | .lst ds => q (.lst (cutD ds lo hi))
  | .str s => s.length ≤ sizeLine ∧ q (.fz (.str (cutS s lo hi)))
  | _ => False
/-- t[lo:hi]: the whole of it is t itself -/
def rSlF (K : PySem.W.Frag) : V → Option Int → Option Int → Hp → VK → Prop := fun x lo hi H Q => ∃ a xs, x = .ref a ∧ SqT K H a xs ∧
  (HT.sIx xs.length 0 lo = 0 ∧ HT.sIx xs.length xs.length hi = xs.length → Q (.ref a) H) ∧ (¬ (HT.sIx xs.length 0 lo = 0 ∧ HT.sIx xs.length xs.length hi = xs.length) → ∀ p o, H p = none → TupO (cutV xs lo hi) o → Q (.ref p) (upd H p o))
theorem sl_tupF {X : Cx} : SlR X (rSlF X.K) := by
  intro pins s σ H x v vl vu lo hi sl Q I rx hs pl pu h
  obtain ⟨a, xs, rfl, hx, q1, q2⟩ := h
  by_cases hw : HT.sIx xs.length 0 lo = 0 ∧ HT.sIx xs.length xs.length hi = xs.length
  · exact sl_tupA pins s σ H (.ref a) v vl vu lo hi sl Q I rx hs pl pu ⟨a, xs, rfl, hx, q1, fun z => absurd hw z⟩
  · cases rx
    obtain ⟨its, r, ht, hz⟩ := I.tuple hx
    have hlen : its.toArray.size = xs.length := by rw [List.size_toArray]; exact r.length.symm
    refine ⟨"tuple", _, PyProof.Rows.slot_tuple_getitem.lookup, ht.typeIs, ?_⟩
    refine HT.getItem_tuple_cut ht hs pl pu (by rw [hlen]; exact hw) ?_ (by rw [hlen]; exact hz)
    rw [hlen]
    obtain ⟨o, t, I'⟩ := laid_tup I (xs := cutV xs lo hi) (Nat.le_trans (cutV_length xs lo hi) hz) ((r.drop (HT.sIx xs.length 0 lo)).take (HT.sIx xs.length xs.length hi - HT.sIx xs.length 0 lo))
    exact ⟨.ref s.heap.objs.size, _, I', rfl, q2 hw _ _ (I.hok.fresh (Nat.le_refl _)) t⟩
abbrev rSlAll (K : PySem.W.Frag) : V → Option Int → Option Int → Hp → VK → Prop := fun x lo hi H Q => rSlL K x lo hi H Q ∨ (fun x lo hi H Q => rSlF K x lo hi H Q ∨ rSlS x lo hi H Q) x lo hi H Q
section
variable {X : Cx} {K : PySem.W.Frag}
theorem sl_all : SlR X (rSlAll X.K) := SlR.or sl_list (SlR.or sl_tupF sl_str)
theorem reps_cut {G : Hp} {vs : List V} {ds : List D} (r : Reps K G vs ds) (lo hi : Option Int) : Reps K G (cutV vs lo hi) (cutD ds lo hi) := by
  unfold cutV cutD
  rw [r.length]
  exact (r.drop _).take _
theorem cut_whole {α : Type} {xs : List α} {lo hi : Option Int} (h : HT.sIx xs.length 0 lo = 0 ∧ HT.sIx xs.length xs.length hi = xs.length) : cutD xs lo hi = xs := by
  unfold cutD
  rw [h.1, h.2]
  simp
theorem snd_sl : SndS K (rSlAll K) opSl where
  run := fun G H x mx F lo hi Q ex w q => by
    unfold opSl at q
    split at q
    · rename_i ds e
      cases w with
      | fz w =>
        have e : _ = D.tup ds := e
        subst e
        cases w with
        | tup h1 r1 =>
          rename_i a vs
          refine .inr (.inl ⟨a, vs, rfl, (h1.mono ex).sqT, fun z => q _ _ (.same ?_), fun z p o n t => q _ _ (.tup n t (reps_cut r1 lo hi))⟩)
          rw [r1.length] at z
          rw [cut_whole z]
          exact .tup h1 r1
      | lst h r => cases e
      | dK h r => cases e
      | dT h r => cases e
    · rename_i ds e
      obtain ⟨a, vs, rfl, h1, r1⟩ := own_lst ex w e
      exact .inl ⟨a, vs, rfl, .of h1, fun p n => q _ _ (.lst n (reps_cut r1 lo hi))⟩
    · rename_i s e
      have h1 := own_plain (u := .str s) w (by rw [e]; rfl)
      subst h1
      exact .inr (.inr ⟨s, rfl, q.1, q.2 _ _ (.same (.str _))⟩)
    · exact q.elim
  mono := fun a lo hi q q' h k => by
    unfold opSl at *
    split at k
    · exact h _ k
    · exact h _ k
    · exact ⟨k.1, h _ k.2⟩
    · exact k.elim
end
end VW

set_option Elab.async false
set_option linter.all false
set_option maxRecDepth 100000
/-! VW9: built-ins called, methods. -/
namespace VW
open PySem PySem.Spec PyProof.Rows L2

theorem CallR.or {X : Cx} {f : Value} {r r' : List V → Hp → VK → Prop} (h : CallR X f r) (h' : CallR X f r') : CallR X f (fun xs H Q => r xs H Q ∨ r' xs H Q) := by
  intro pins s σ H xs us Q I rv q
  exact q.elim (h pins s σ H xs us Q I rv) (h' pins s σ H xs us Q I rv)
def one (ms : List M) (k : M → Prop) : Prop := match ms with
  | [m] => k m
  | _ => False
theorem one_own {K : PySem.W.Frag} {G H : Hp} {vs : List V} {ms : List M} {k : M → Prop} (w : Owns K G H vs ms) (q : one ms k) : ∃ v m, vs = [v] ∧ ms = [m] ∧ (∃ F, Own K G H v m F) ∧ k m := by
  unfold one at q
  split at q
  · rename_i m
    match vs, w with
    | [v], w => exact ⟨v, m, rfl, rfl, w.1, q⟩
    | [], w => exact w.elim
    | _ :: _ :: _, w => exact w.2.elim
  · exact q.elim
theorem one_mono {ms : List M} {k k' : M → Prop} (h : ∀ m, k m → k' m) (q : one ms k) : one ms k' := by
  unfold one at *
  split at q
  · exact h _ q
  · exact q.elim
def two (ms : List M) (k : M → M → Prop) : Prop := match ms with
  | [m, n] => k m n
  | _ => False
theorem two_own {K : PySem.W.Frag} {G H : Hp} {vs : List V} {ms : List M} {k : M → M → Prop} (w : Owns K G H vs ms) (q : two ms k) : ∃ v u m n, vs = [v, u] ∧ ms = [m, n] ∧ (∃ F, Own K G H v m F) ∧ (∃ F, Own K G H u n F) ∧ k m n := by
  unfold two at q
  split at q
  · rename_i m n
    match vs, w with
    | [v, u], w => exact ⟨v, u, m, n, rfl, rfl, w.1, w.2.1, q⟩
    | [], w => exact w.elim
    | [_], w => exact w.2.elim
    | _ :: _ :: _ :: _, w => exact w.2.2.elim
  · exact q.elim
theorem two_mono {ms : List M} {k k' : M → M → Prop} (h : ∀ m n, k m n → k' m n) (q : two ms k) : two ms k' := by
  unfold two at *
  split at q
  · exact h _ _ q
  · exact q.elim

/-! ### len -/
def lenD : D → Option Nat
  | .tup ds => some ds.length
  | .lst ds => some ds.length
  | .scr ns => some ns.length
  | .dK kvs => some kvs.length
  | .str s => some s.length
  | _ => none
def lenOk : D → Prop
  | .str s => s.length ≤ sizeLine
  | _ => True
def opLen : OPN := fun ms q => one ms fun m => match lenD m.d with
  | some n => lenOk m.d ∧ q (.fz (.int n))
  | none => False
abbrev rLenAll (K : PySem.W.Frag) : List V → Hp → VK → Prop := fun xs H Q => (∃ x n, xs = [x] ∧ LenV K x H n ∧ Q (.int n) H) ∨ ∃ a kvs, xs = [V.ref a] ∧ H a = some (.dK kvs) ∧ Q (.int kvs.length) H
section
variable {X : Cx} {K : PySem.W.Frag}
theorem call_lenAll : CallR X (.builtin "len") (rLenAll X.K) := CallR.or call_len call_lenD
theorem snd_len : SndN K (rLenAll K) opLen where
  run := fun G H xs ms Q ex ow q => by
    obtain ⟨v, m, rfl, rfl, ⟨F, w⟩, q⟩ := one_own ow q
    split at q
    · rename_i n e
      obtain ⟨q1, q⟩ := q
      generalize hd : m.d = d at e q1
      cases d with
      | tup ds =>
        cases e
        obtain ⟨a, vs, rfl, h1, r1⟩ := own_tup ex w hd
        exact .inl ⟨_, _, rfl, .inr ⟨vs, h1.sqT, by rw [r1.length]⟩, q _ _ (.same (.int _))⟩
      | lst ds =>
        cases e
        obtain ⟨a, vs, rfl, h1, r1⟩ := own_lst ex w hd
        exact .inl ⟨_, _, rfl, .inl ⟨vs, .of h1, by rw [r1.length]⟩, q _ _ (.same (.int _))⟩
      | scr ns =>
        cases e
        obtain ⟨a, rfl, h1⟩ := own_scr ex w hd
        exact .inl ⟨_, _, rfl, .inl ⟨_, h1, by rw [List.length_map]⟩, q _ _ (.same (.int _))⟩
      | dK ds =>
        cases e
        obtain ⟨a, vs, rfl, h1, r1⟩ := own_dK ex w hd
        refine .inr ⟨a, vs, rfl, h1, ?_⟩
        rw [r1.length]
        exact q _ _ (.same (.int _))
      | str s =>
        cases e
        have h1 := own_plain (u := .str s) w (by rw [hd]; rfl)
        subst h1
        exact .inl ⟨_, _, rfl, ⟨q1, rfl⟩, q _ _ (.same (.int _))⟩
      | _ => cases e
    · exact q.elim
  mono := fun a q q' h k => one_mono (fun m k => by
    split at k
    · exact ⟨k.1, h _ k.2⟩
    · exact k.elim) k
end

/-! ### isinstance -/
def tyNm : D → Option String
  | .non => some "NoneType"
  | .bl _ => some "bool"
  | .int _ => some "int"
  | .str _ => some "str"
  | .tup _ => some "tuple"
  | .lst _ => some "list"
  | .dK _ => some "dict"
  | .dT _ => some "dict"
  | _ => none
/-- isinstance of a value whose type's name is t -/
def isiB (t T : String) : Bool := t == T || (t == "bool" && T == "int")
def isiTs : List String := ["int", "bool", "str", "tuple", "list", "dict"]
theorem isi_tab : ∀ t ∈ ["NoneType", "bool", "int", "str", "tuple", "list", "dict"], ∀ T ∈ isiTs, kitB t T = some (isiB t T) := by decide +kernel
def opIsi : OPN := fun ms q => two ms fun m n => match n with
  | .fz (.ty T) => match tyNm m.d with
    | some t => isiTs.contains T = true ∧ q (.fz (.bl (isiB t T)))
    | none => False
  | _ => False
theorem tyNm_mem {d : D} {t : String} (e : tyNm d = some t) : t ∈ ["NoneType", "bool", "int", "str", "tuple", "list", "dict"] := by
  cases d <;> first
    | (cases e; decide)
    | cases e
section
variable {X : Cx} {K : PySem.W.Frag}
theorem own_ty {G H : Hp} {x : V} {m : M} {F : List Addr} {t : String} (ex : Ex G H) (w : Own K G H x m F) (e : tyNm m.d = some t) : TyX K H x (.type t) := by
  cases w with
  | fz w =>
    cases w with
    | non => cases e; exact .base .non
    | bl _ => cases e; exact .base (.bl _)
    | int _ => cases e; exact .base (.int _)
    | str _ => cases e; exact .base (.str _)
    | tup h r =>
      cases e
      obtain ⟨o, h, t⟩ := h.mono ex
      cases t with
      | key _ => exact .base (.tup h)
      | frz _ _ _ _ => exact .fTuple h
    | lst h r => cases e; exact .base (.lst (ex _ _ h))
    | dK h r => cases e; exact .base (.dK (ex _ _ h))
    | dT h r => cases e; exact .base (.dT (ex _ _ h))
    | _ => cases e
  | lst h r => cases e; exact .base (.lst h)
  | dK h r => cases e; exact .base (.dK h)
  | dT h r => cases e; exact .base (.dT h)
theorem snd_isi : SndN K (rIsi K) opIsi where
  run := fun G H xs ms Q ex ow q => by
    obtain ⟨v, u, m, n, rfl, rfl, ⟨F, w⟩, ⟨F', w'⟩, q⟩ := two_own ow q
    split at q
    · rename_i T _
      split at q
      · rename_i t e
        obtain ⟨q1, q⟩ := q
        cases w' with
        | fz w' =>
          cases w'
          have tb := isi_tab t (tyNm_mem e) T (by simpa using q1)
          exact ⟨v, .ty T, .type t, .type T, isiB t T, rfl, .ty T, own_ty ex w e, kit_ty tb, q _ _ (.same (.bl _))⟩
      · exact q.elim
    · exact q.elim
  mono := fun a q q' h k => two_mono (fun m n k => by
    split at k
    · split at k
      · exact ⟨k.1, h _ k.2⟩
      · exact k.elim
    · exact k.elim) k
end

/-! ### all, tuple, list -/
def bools : List D → Option (List Bool)
  | [] => some []
  | .bl b :: ds => (bools ds).map (b :: ·)
  | _ :: _ => none
theorem bools_eq : ∀ {ds : List D} {bs : List Bool}, bools ds = some bs → ds = bs.map D.bl
  | [], _, e => by cases e; rfl
  | d :: ds, bs, e => by
    cases d <;> first
      | (unfold bools at e
         obtain ⟨cs, e1, rfl⟩ := Option.map_eq_some_iff.mp e
         rw [bools_eq e1]
         rfl)
      | (cases e; done)
def opAll : OPN := fun ms q => one ms fun m => match m.d with
  | .lst ds => (match bools ds with
    | some bs => q (.fz (.bl (bs.all id)))
    | none => False)
  | _ => False
def opTuple : OPN := fun ms q => one ms fun m => match m.d with
  | .lst ds => q (.fz (.tup ds))
  | .tup ds => q (.fz (.tup ds))
  | _ => False
def opList : OPN := fun ms q => one ms fun m => match m.d with
  | .lst ds => q (.lst ds)
  | .tup ds => q (.lst ds)
  | _ => False
abbrev rTupOf (K : PySem.W.Frag) : List V → Hp → VK → Prop := fun xs H Q => ∃ p ys, xs = [.ref p] ∧ ((SqL K H p ys ∧ ∀ l o, H l = none → TupO ys o → Q (.ref l) (upd H l o)) ∨ (SqT K H p ys ∧ Q (.ref p) H))
abbrev rLstOf (K : PySem.W.Frag) : List V → Hp → VK → Prop := fun xs H Q => ∃ p ys, xs = [.ref p] ∧ (SqL K H p ys ∨ SqT K H p ys) ∧ ∀ l, H l = none → Q (.ref l) (upd H l (.lst ys))
section
variable {X : Cx} {K : PySem.W.Frag}
theorem snd_all : SndN K (rAll K) opAll where
  run := fun G H xs ms Q ex ow q => by
    obtain ⟨v, m, rfl, rfl, ⟨F, w⟩, q⟩ := one_own ow q
    split at q
    · rename_i ds e
      split at q
      · rename_i bs eb
        obtain ⟨a, vs, rfl, h1, r1⟩ := own_lst ex w e
        rw [bools_eq eb] at r1
        have := r1.bls
        subst this
        exact ⟨a, bs, rfl, .of h1, q _ _ (.same (.bl _))⟩
      · exact q.elim
    · exact q.elim
  mono := fun a q q' h k => one_mono (fun m k => by
    split at k
    · split at k
      · exact h _ k
      · exact k.elim
    · exact k.elim) k
theorem call_tupleF : CallR X (.type "tuple") (rTupOf X.K) := by
  intro pins s σ H xs us Q I r h
  obtain ⟨p, ys, rfl, h⟩ := h
  obtain ⟨u, rfl, rx⟩ := vals1 r
  cases rx
  rcases h with ⟨hq, q⟩ | ⟨hq, q⟩
  · obtain ⟨its, r', pl, hz⟩ := I.list hq
    have hlen := r'.length
    refine call_tuple_list pl.isList (fun h' kp => ?_) (by simp only [List.size_toArray] <;> omega)
    have I1 : Inv X pins σ H { s with heap := h' } := I.kept (t' := s.toks) kp
    obtain ⟨o, t, I2⟩ := laid_tup I1 hz r'
    exact ⟨.ref h'.objs.size, _, I2, rfl, q _ _ (I1.hok.fresh (Nat.le_refl _)) t⟩
  · obtain ⟨its, r', pl, hz⟩ := I.tuple hq
    exact call_tuple_same pl ⟨.ref p, H, I, rfl, q⟩
theorem snd_tuple : SndN K (rTupOf K) opTuple where
  run := fun G H xs ms Q ex ow q => by
    obtain ⟨v, m, rfl, rfl, ⟨F, w⟩, q⟩ := one_own ow q
    split at q
    · rename_i ds e
      obtain ⟨a, vs, rfl, h1, r1⟩ := own_lst ex w e
      exact ⟨a, vs, rfl, .inl ⟨.of h1, fun l o n t => q _ _ (.tup n t r1)⟩⟩
    · rename_i ds e
      cases w with
      | fz w =>
        have e : _ = D.tup ds := e
        subst e
        cases w with
        | tup h1 r1 => exact ⟨_, _, rfl, .inr ⟨(h1.mono ex).sqT, q _ _ (.same (.tup h1 r1))⟩⟩
      | lst h r => cases e
      | dK h r => cases e
      | dT h r => cases e
    · exact q.elim
  mono := fun a q q' h k => one_mono (fun m k => by
    split at k
    · exact h _ k
    · exact h _ k
    · exact k.elim) k
theorem snd_list : SndN K (rLstOf K) opList where
  run := fun G H xs ms Q ex ow q => by
    obtain ⟨v, m, rfl, rfl, ⟨F, w⟩, q⟩ := one_own ow q
    split at q
    · rename_i ds e
      obtain ⟨a, vs, rfl, h1, r1⟩ := own_lst ex w e
      exact ⟨a, vs, rfl, .inl (.of h1), fun l n => q _ _ (.lst n r1)⟩
    · rename_i ds e
      obtain ⟨a, vs, rfl, h1, r1⟩ := own_tup ex w e
      exact ⟨a, vs, rfl, .inr h1.sqT, fun l n => q _ _ (.lst n r1)⟩
    · exact q.elim
  mono := fun a q q' h k => one_mono (fun m k => by
    split at k
    · exact h _ k
    · exact h _ k
    · exact k.elim) k

/-! ### sorted -/
/-- not greater -/
def leD (x y : D) : Bool := !ltD y x
def sortD (ds : List D) : List D := ds.mergeSort leD
/-- they may be sorted -/
def sortOk (ps : List PyData) : Bool := ps.all (fun p => ps.all (fun q => PySem.W.alike p q)) && ps.all (fun p => decide (p.depth ≤ 60)) &&
  (ps.all (fun p => match p with
    | .tuple (_ :: _) => true
    | _ => false) || ps.all (fun p => match p with
    | .none => false
    | .tuple _ => false
    | _ => true))
def opSorted : OPN := fun ms q => one ms fun m => match m.d with
  | .lst ds => (match D.pys ds with
    | some ps => sortOk ps = true ∧ q (.lst (sortD ds))
    | none => False)
  | _ => False
def rSort (K : PySem.W.Frag) : List V → Hp → VK → Prop := fun xs H Q => ∃ a vs ps, xs = [V.ref a] ∧ SqL K H a vs ∧ DpAll K H vs ps ∧ sortOk ps = true ∧ ∀ p, H p = none → Q (.ref p) (upd H p (.lst (((vs.zip ps).mergeSort (PySem.W.dataLe false (·.2))).map (·.1))))
theorem dp_len {H : Hp} : ∀ {vs : List V} {ps : List PyData}, DpAll K H vs ps → vs.length = ps.length
  | _, _, .nil => rfl
  | _, _, .cons _ r => congrArg (· + 1) (dp_len r)
theorem call_sort (hu : X.A.units + 64 < cLine) : CallR X (.builtin "sorted") (rSort X.K) := by
  intro pins s σ H xs us Q I r ⟨a, vs, ps, ex, hs, hd, ok, q⟩
  subst ex
  obtain ⟨its, rv, hl, hz⟩ := I.list hs
  rw [Vals.ref1 r]
  have len := dp_len hd
  have each : ∀ {vs : List V} {ps : List PyData} {its : List Value}, Vals vs its → DpAll X.K H vs ps → PySem.W.EachIs (fun (v : Value) (b : V × PyData) => RelV b.1 v ∧ Dp X.K H b.1 b.2) its (vs.zip ps) := by
    intro vs ps its rv hd
    induction rv generalizing ps with
    | nil =>
      cases hd
      exact .nil
    | cons r rv ih =>
      cases hd with
      | cons h hd => exact .cons ⟨r, h⟩ (ih hd)
  unfold sortOk at ok
  obtain ⟨ok, o3⟩ := Bool.and_eq_true_iff.mp ok
  obtain ⟨o1, o2⟩ := Bool.and_eq_true_iff.mp ok
  have em : (vs.zip ps).map (·.2) = ps := by
    rw [List.map_snd_zip]
    omega
  have mem : ∀ b, b ∈ vs.zip ps → b.2 ∈ ps := fun b hb => (List.of_mem_zip hb).2
  refine PySem.W.sorted_data (R := fun (v : Value) (b : V × PyData) => RelV b.1 v ∧ Dp X.K H b.1 b.2) (enc := (·.2)) (bs := vs.zip ps) hl.isList (each rv hd) ?_ ?_ ?_ ?_ ?_ fun out ol eo => ?_
  · exact (each rv hd).mono fun v b ⟨h1, h2⟩ => Dp.reads I b.2 b.1 v h2 h1
  · rw [em]
    intro d hd d' hd'
    exact List.all_eq_true.mp (List.all_eq_true.mp o1 d hd) d' hd'
  · rw [em]
    rcases Bool.or_eq_true_iff.mp o3 with z | z
    · refine .inl fun d hd => ?_
      have := List.all_eq_true.mp z d hd
      split at this
      · exact ⟨_, _, rfl⟩
      · cases this
    · refine .inr fun d hd => ?_
      have := List.all_eq_true.mp z d hd
      refine ⟨fun e => ?_, fun xs e => ?_⟩
      · rw [e] at this
        cases this
      · rw [e] at this
        cases this
  · rw [List.length_zip, ← len, Nat.min_self]
    exact hz
  · intro b hb
    have := of_decide_eq_true (List.all_eq_true.mp o2 b.2 (mem b hb))
    omega
  · obtain ⟨ep, he⟩ := PyProof.Rows.sortedAll_at s.heap its out.toArray
    have vout : Vals (((vs.zip ps).mergeSort (PySem.W.dataLe false (·.2))).map (·.1)) out := by
      have conv : ∀ {out : List Value} {bs : List (V × PyData)}, PySem.W.EachIs (fun (v : Value) (b : V × PyData) => RelV b.1 v ∧ Dp X.K H b.1 b.2) out bs → Vals (bs.map (·.1)) out := by
        intro out bs e
        induction e with
        | nil => exact .nil
        | cons h _ ih => exact .cons h.1 ih
      exact conv eo
    have hlen : (((vs.zip ps).mergeSort (PySem.W.dataLe false (·.2))).map (·.1)).length ≤ sizeLine := by
      rw [List.length_map, List.length_mergeSort, List.length_zip, ← len, Nat.min_self]
      exact hz
    exact ⟨.ref _, upd H (s.heap.objs.size + 1) (.lst _), I.laid (t' := s.toks) (fun _ _ z => PyProof.Rows.sortedAll_old z) (Nat.le_succ _) ⟨hlen, out, ep, vout, he⟩, rfl, q _ (I.hok.fresh (Nat.le_succ _))⟩
/-- values, data and what the library has of them, side by side -/
theorem tri {G : Hp} : ∀ {vs : List V} {ds : List D} {ps : List PyData}, Reps K G vs ds → D.pys ds = some ps → ∃ T : List (V × D × PyData), vs = T.map (·.1) ∧ ds = T.map (·.2.1) ∧ vs.zip ps = T.map (fun t => (t.1, t.2.2)) ∧ ∀ t ∈ T, Rep K G t.1 t.2.1 ∧ t.2.1.py = some t.2.2
  | _, _, _, .nil, e => by
    cases e
    exact ⟨[], rfl, rfl, rfl, fun _ z => nomatch z⟩
  | _, _, _, .cons (v := v) (d := d) h r, e => by
    unfold D.pys at e
    split at e
    · rename_i p ps e1 e2
      cases e
      obtain ⟨T, h1, h2, h3, h4⟩ := tri r e2
      refine ⟨(v, d, p) :: T, by rw [h1]; rfl, by rw [h2]; rfl, ?_, fun t ht => ?_⟩
      · rw [List.zip_cons_cons, h3]
        rfl
      · rcases List.mem_cons.mp ht with z | z
        · subst z
          exact ⟨h, e1⟩
        · exact h4 t z
    · cases e
theorem reps_tri {G : Hp} : ∀ {T : List (V × D × PyData)}, (∀ t ∈ T, Rep K G t.1 t.2.1) → Reps K G (T.map (·.1)) (T.map (·.2.1))
  | [], _ => .nil
  | t :: T, h => .cons (h t List.mem_cons_self) (reps_tri fun t z => h t (List.mem_cons_of_mem _ z))
theorem sort_reps {G : Hp} {vs : List V} {ds : List D} {ps : List PyData} (r : Reps K G vs ds) (e : D.pys ds = some ps) : Reps K G (((vs.zip ps).mergeSort (PySem.W.dataLe false (·.2))).map (·.1)) (sortD ds) := by
  obtain ⟨T, h1, h2, h3, h4⟩ := tri r e
  have a1 : (T.mergeSort fun a b => leD a.2.1 b.2.1).map (fun t => (t.1, t.2.2)) = (vs.zip ps).mergeSort (PySem.W.dataLe false (·.2)) := by
    rw [h3]
    refine List.map_mergeSort fun a ha b hb => ?_
    show leD a.2.1 b.2.1 = PySem.W.dataLe false (·.2) (a.1, a.2.2) (b.1, b.2.2)
    rw [PySem.W.dataLe_eq]
    show (!ltD b.2.1 a.2.1) = !PySem.W.dataLt b.2.2 a.2.2
    unfold ltD
    rw [(h4 a ha).2, (h4 b hb).2]
  have a2 : (T.mergeSort fun a b => leD a.2.1 b.2.1).map (·.2.1) = sortD ds := by
    rw [h2]
    exact List.map_mergeSort fun a ha b hb => rfl
  rw [← a1, ← a2, List.map_map]
  exact reps_tri fun t z => (h4 t ((List.mergeSort_perm _ _).mem_iff.mp z)).1
theorem snd_sorted : SndN K (rSort K) opSorted where
  run := fun G H xs ms Q ex ow q => by
    obtain ⟨v, m, rfl, rfl, ⟨F, w⟩, q⟩ := one_own ow q
    split at q
    · rename_i ds e
      split at q
      · rename_i ps ep
        obtain ⟨a, vs, rfl, h1, r1⟩ := own_lst ex w e
        exact ⟨a, vs, ps, rfl, .of h1, Reps.dp ex r1 ep, q.1, fun p n => q.2 _ _ (.lst n (sort_reps r1 ep))⟩
      · exact q.elim
    · exact q.elim
  mono := fun a q q' h k => one_mono (fun m k => by
    split at k
    · split at k
      · exact ⟨k.1, h _ k.2⟩
      · exact k.elim
    · exact k.elim) k
end
end VW

set_option Elab.async false
set_option linter.all false
set_option maxRecDepth 100000
/-! VW10: dict of pairs, chains, globals, methods of texts and lists, stores. -/
namespace VW
open PySem PySem.Spec PyProof.Rows L2

/-! ### dict(pairs) -/
def pairK : D → Option (Key × D)
  | .tup [k, v] => (keyK k).map fun k => (k, v)
  | _ => none
def pairsK : List D → Option (List (Key × D))
  | [] => some []
  | d :: ds => match pairK d, pairsK ds with
    | some k, some ks => some (k :: ks)
    | _, _ => none
def mergeD (kvs more : List (Key × D)) : List (Key × D) := more.foldl (fun acc kv => setK acc kv.1 kv.2) kvs
def opDict : OPN := fun ms q => one ms fun m => match m.d with
  | .tup ds => (match pairsK ds with
    | some kvs => q (.dK (mergeD [] kvs))
    | none => False)
  | .lst ds => (match pairsK ds with
    | some kvs => q (.dK (mergeD [] kvs))
    | none => False)
  | .dK kvs => q (.dK kvs)
  | _ => False
def PlainTup (H : Hp) (a : Addr) (vs : List V) : Prop := ∃ o its n, H a = some (.frz o (.tup vs)) ∧ o.cls = .type "tuple" ∧ o.dict = none ∧ o.data = .seq its n
def rDictOf (K : PySem.W.Frag) : List V → Hp → VK → Prop := fun xs H Q => ∃ (a : Addr) (ps : List Addr) (kvs : List (Key × V)), xs = [.ref a] ∧ (SqL K H a (ps.map V.ref) ∨ PlainTup H a (ps.map V.ref)) ∧ Paired (fun p kv => SqT K H p [kV kv.1, kv.2]) ps kvs ∧
    ∀ p, H p = none → Q (.ref p) (upd H p (.dK (mergeK [] kvs)))
section
variable {X : Cx} {K : PySem.W.Frag}
theorem prs_of {pins : List (Addr × Obj)} {σ : L2.St} {H : Hp} {s : Shared} (I : Inv X pins σ H s) : ∀ {ps : List Addr} {kvs : List (Key × V)}, Paired (fun p kv => SqT X.K H p [kV kv.1, kv.2]) ps kvs →
    ∃ (prs : List (Key × Value)) (us : List (Value × Value)), KV kvs prs ∧ prs.length = ps.length ∧ us.length = ps.length ∧ ∀ (j : Nat) (k v : Value), us[j]? = some (k, v) → ∃ (b : Addr) (q : Key), ps[j]? = some b ∧ prs[j]? = some (q, v) ∧ IsTup s.heap b #[k, v] ∧ keyIs q k = true
  | _, _, .nil => ⟨[], [], .nil, rfl, rfl, fun j k v e => by simp at e⟩
  | _, _, .cons (a := p) (b := kv) h t => by
    obtain ⟨prs, us, r, hl, hl2, hp⟩ := prs_of I t
    obtain ⟨its, rv, ht, _⟩ := I.tuple h
    obtain ⟨u, y, ei, ru, ry⟩ := vals2 rv
    subst ei
    refine ⟨(kv.1, y) :: prs, (u, y) :: us, .cons ⟨rfl, ry⟩ r, by rw [List.length_cons, List.length_cons, hl], by rw [List.length_cons, List.length_cons, hl2], fun j k v e => ?_⟩
    cases j with
    | zero =>
      have e' : (u, y) = (k, v) := Option.some.inj e
      cases e'
      exact ⟨p, kv.1, rfl, rfl, ht, kV_is (P := X.prog) (w := X.w) ru⟩
    | succ j =>
      obtain ⟨b, q, e1, e2, e3, e4⟩ := hp j k v (by simpa using e)
      exact ⟨b, q, by simpa using e1, by simpa using e2, e3, e4⟩
theorem call_dictOf (hcalm : X.calm = true) : CallR X (.type "dict") (rDictOf X.K) := by
  intro pins s σ H xs us Q I r q
  obtain ⟨a, ps, kvs, ex, hq, hp, q⟩ := q
  rcases hq with hq | hq
  · exact call_dictP hcalm pins s σ H xs us Q I r ⟨a, ps, kvs, ex, hq, hp, q⟩
  · subst ex
    obtain ⟨u, eu, rx⟩ := vals1 r
    subst eu
    cases rx
    obtain ⟨o, its0, n0, hH, hc, hd, hdat⟩ := hq
    obtain ⟨ho, hz, its, rv, pl⟩ := (show ObjOk X.prog X.w H s.heap a (.frz o (.tup (ps.map V.ref))) from I.hok a _ hH)
    have ei := refs_at rv
    subst ei
    obtain ⟨o2, ho2, _, n, hdat2⟩ := pl
    rw [ho] at ho2
    cases ho2
    rw [List.length_map] at hz
    obtain ⟨prs, us, rel, hl, hl2, hpr⟩ := prs_of I hp
    have psq : PlainSeq "tuple" s.heap a (ps.map Value.ref).toArray := ⟨o, n, ho, hc, hd, hdat2⟩
    have pit : PairItems s.heap (ps.map Value.ref).toArray (fun j => ps.getD j 0) us := by
      refine ⟨by simp [hl2], fun j k v e => ?_⟩
      obtain ⟨b, q', e1, e2, e3, e4⟩ := hpr j k v e
      have eb : ps.getD j 0 = b := by rw [List.getD_eq_getElem?_getD, e1]; rfl
      dsimp only
      rw [eb]
      exact ⟨by simp [e1], .inl e3⟩
    refine PySem.call_dict_pairs (knd := mixKind X.prog X.w) (kvs := prs) (PairArg.tuple a _ _ us) (I.ok.hd hcalm) ⟨psq, pit⟩ ?_ (by rw [hl2]; exact hz) fun h' tk hd' k => ?_
    · refine ⟨by rw [hl, hl2], fun j k v e => ?_⟩
      obtain ⟨b, q', e1, e2, e3, e4⟩ := hpr j k v e
      exact ⟨q', e2, e4⟩
    · have hm : (s.heap.objs.size == sysModules) = false := beq_eq_false_iff_ne.mpr (Nat.ne_of_gt I.big)
      have hlen : (mergeK [] kvs).length ≤ sizeLine := by
        refine Nat.le_trans (length_mergeK kvs []) ?_
        rw [List.length_nil, Nat.zero_add, rel.length, hl]
        exact hz
      exact ⟨.ref s.heap.objs.size, upd H s.heap.objs.size (.dK (mergeK [] kvs)), I.laid (t' := tk) (fun b o e => k b o (by simp) e) (Nat.le_refl _) (show ObjOk X.prog X.w _ _ _ (.dK (mergeK [] kvs)) from ⟨hlen, hm, merged [] prs, KV.merge rel .nil, hd'⟩), rfl, q _ (I.hok.fresh (Nat.le_refl _))⟩
theorem keyish_refs (ps : List Addr) : keyish (ps.map V.ref) = false := by
  cases ps <;> rfl
theorem pairs_reps {G H : Hp} (ex : Ex G H) : ∀ {vs : List V} {ds : List D} {kds : List (Key × D)}, Reps K G vs ds → pairsK ds = some kds → ∃ (ps : List Addr) (kvs : List (Key × V)), vs = ps.map V.ref ∧ Paired (fun p kv => SqT K H p [kV kv.1, kv.2]) ps kvs ∧ RepK K G kvs kds
  | _, _, _, .nil, e => by cases e; exact ⟨[], [], rfl, .nil, .nil⟩
  | _, _, _, .cons (d := d) (ds := ds) h r, e => by
    unfold pairsK at e
    split at e
    · rename_i k ks e1 e2
      cases e
      obtain ⟨ps, kvs, rfl, hp, rk⟩ := pairs_reps ex r e2
      unfold pairK at e1
      split at e1
      · rename_i kd vd
        obtain ⟨key, ek, ev⟩ := Option.map_eq_some_iff.mp e1
        subst ev
        cases h with
        | tup ht rt =>
          cases rt with
          | cons h1 rt =>
            cases rt with
            | cons h2 rt =>
              cases rt
              have := keyK_own (H := G) (Own.fz h1) ek
              subst this
              exact ⟨_ :: ps, (key, _) :: kvs, rfl, .cons (ht.mono ex).sqT hp, .cons h2 rk⟩
      · cases e1
    · cases e
theorem repK_merge {G : Hp} : ∀ {vs : List (Key × V)} {ds : List (Key × D)} {avs : List (Key × V)} {ads : List (Key × D)}, RepK K G vs ds → RepK K G avs ads → RepK K G (mergeK avs vs) (mergeD ads ds)
  | _, _, _, _, .nil, q => q
  | _, _, avs, ads, .cons (k := k) (v := v) (d := d) (vs := vs) (ds := ds) h r, q => repK_merge (vs := vs) (ds := ds) (avs := putK avs k v) (ads := setK ads k d) r (repK_set h q)
abbrev rDictAll (K : PySem.W.Frag) : List V → Hp → VK → Prop := fun xs H Q => rDictOf K xs H Q ∨ (∃ a kvs, xs = [.ref a] ∧ Rd H a (.dK kvs) ∧ ∀ p, H p = none → Q (.ref p) (upd H p (.dK kvs)))
theorem call_dictAll (hcalm : X.calm = true) : CallR X (.type "dict") (rDictAll X.K) := by
  refine CallR.or (call_dictOf hcalm) ?_
  intro pins s σ H xs us Q I r ⟨a, kvs, ex, e, q⟩
  subst ex
  obtain ⟨u, eu, rx⟩ := vals1 r
  subst eu
  cases rx
  exact d_copyOf I e fun p s' n I' => ⟨.ref p, _, I', rfl, q p n⟩
theorem snd_dict : SndN K (rDictAll K) opDict where
  run := fun G H xs ms Q ex ow q => by
    obtain ⟨v, m, rfl, rfl, ⟨F, w⟩, q⟩ := one_own ow q
    split at q
    · rename_i ds e
      split at q
      · rename_i kds ek
        obtain ⟨a, vs, rfl, h1, r1⟩ := own_tup ex w e
        obtain ⟨ps, kvs, rfl, hp, rk⟩ := pairs_reps ex r1 ek
        exact .inl ⟨a, ps, kvs, rfl, .inr (h1.frz (keyish_refs ps)), hp, fun p n => q _ _ (.dK n (repK_merge rk .nil))⟩
      · exact q.elim
    · rename_i ds e
      split at q
      · rename_i kds ek
        obtain ⟨a, vs, rfl, h1, r1⟩ := own_lst ex w e
        obtain ⟨ps, kvs, rfl, hp, rk⟩ := pairs_reps ex r1 ek
        exact .inl ⟨a, ps, kvs, rfl, .inl (.of h1), hp, fun p n => q _ _ (.dK n (repK_merge rk .nil))⟩
      · exact q.elim
    · rename_i kds e
      obtain ⟨a, vs, rfl, h1, r1⟩ := own_dK ex w e
      exact .inr ⟨a, vs, rfl, .inl h1, fun p n => q _ _ (.dK n r1)⟩
    · exact q.elim
  mono := fun a q q' h k => one_mono (fun m k => by
    split at k
    · split at k
      · exact h _ k
      · exact k.elim
    · split at k
      · exact h _ k
      · exact k.elim
    · exact h _ k
    · exact k.elim) k
end
end VW

set_option Elab.async false
set_option linter.all false
set_option maxRecDepth 100000
/-! VW11: chains of comparisons, globals, methods, stores, augmented assignments. -/
namespace VW
open PySem PySem.Spec PyProof.Rows L2

/-! ### a < b < c -/
def wChain (op op' : OP2) (oa ob oc : WO) : WE := fun e Q X => oa e (fun a e1 => ob e1 (fun b e2 => withO a e2 fun ma => withO b e2 fun mb => op ma mb fun m => match m with
  | .fz (.bl true) => oc e2 (fun c e3 => withO b e3 fun mb' => withO c e3 fun mc => op' mb' mc fun m => Q m e3) X
  | .fz (.bl false) => Q (.fz (.bl false)) e2
  | _ => False) X) X
section
variable {y : Y} {a b c : Expr} {oa ob oc : WO} {op op' : OP2} {r r' : R2} {o o' : CmpOp} {pos : Pos}
theorem mono_wChain {K : PySem.W.Frag} (hs : Snd2 K r op) (hs' : Snd2 K r' op') (ha : MonoO oa) (hb : MonoO ob) (hc : MonoO oc) : MonoE (wChain op op' oa ob oc) := fun e Q Q' X X' hq hx q =>
  ha e _ _ _ _ (fun a e1 q => hb e1 _ _ _ _ (fun b e2 q => withO_mono (fun ma q => withO_mono (fun mb q => hs.mono _ _ _ _ (fun m q => by
    split at q
    · exact hc _ _ _ _ _ (fun c e3 q => withO_mono (fun mb q => withO_mono (fun mc q => hs'.mono _ _ _ _ (fun m q => hq _ _ q) q) q) q) hx q
    · exact hq _ _ q
    · exact q.elim) q) q) q) hx q) hx q
theorem liftChain (hs : Snd2 y.X.K r op) (hs' : Snd2 y.X.K r' op') (ha : MonoO oa) (hb : MonoO ob) (hc : MonoO oc) (σ : L2.St) (H : Hp) (Q : VK) (h : liftE y (wChain op op' oa ob oc) σ H Q) :
    tChain r r' (liftO y oa) (liftO y ob) (liftO y oc) σ H Q := by
  obtain ⟨e, P, h0, h⟩ := h
  refine ⟨e, P, h0, ha e _ _ _ _ (fun a e1 q v H1 o1 => ?_) (fun _ _ q => q) h⟩
  obtain ⟨o1, p1⟩ := o1
  refine ⟨e1, pend a v ++ P, o1, hb e1 _ _ _ _ (fun b e2 q u H2 o2 => ?_) (fun _ _ q => xpost_pend q) q⟩
  obtain ⟨o2, p2⟩ := o2
  obtain ⟨ma, m1, q⟩ := withO_mem' o2 (fun p z => List.mem_append_right _ (List.mem_append_left _ z)) p1 q
  obtain ⟨mb, m2, q⟩ := withO_mem o2 p2 q
  have o2' : Ok y.X.K H2 σ e2 (pend a v ++ (pend b u ++ P)) := o2.perm (by
    rw [← List.append_assoc, ← List.append_assoc]
    exact List.perm_append_comm.append_right _)
  obtain ⟨G, g⟩ := o2'.2.opn
  have pm : ∀ x, x ∈ prs σ e2 ++ (pend b u ++ (pend a v ++ P)) → x ∈ prs σ e2 ++ (pend a v ++ (pend b u ++ P)) := fun x hx => by
    simp only [List.mem_append] at hx ⊢
    rcases hx with h | h | h | h
    · exact .inl h
    · exact .inr (.inr (.inl h))
    · exact .inr (.inl h)
    · exact .inr (.inr (.inr h))
  obtain ⟨F1, w1⟩ := g.own _ (pm _ m1)
  obtain ⟨F2, w2⟩ := g.own _ (pm _ m2)
  refine hs.run G H2 v u ma mb F1 F2 _ g.ex w1 w2 (hs.mono _ _ _ _ (fun m q z H3 r3 => ?_) q)
  have o3 := g.fin o2'.1 r3
  split at q
  · have ez := ok_bl o3
    subst ez
    refine ⟨true, rfl, ?_⟩
    rw [if_pos rfl]
    refine ⟨e2, pend b u ++ P, o3.pop, hc e2 _ _ _ _ (fun c e3 q w' H4 o4 => ?_) (fun _ _ q => xpost_pend q) q⟩
    obtain ⟨o4, p4⟩ := o4
    obtain ⟨mb', n1, q⟩ := withO_mem' o4 (fun p z => List.mem_append_right _ (List.mem_append_left _ z)) p2 q
    obtain ⟨mc, n2, q⟩ := withO_mem o4 p4 q
    obtain ⟨G', g'⟩ := o4.2.opn
    obtain ⟨F3, w3⟩ := g'.own _ n1
    obtain ⟨F4, w4⟩ := g'.own _ n2
    rw [show pend c w' ++ (pend b u ++ P) = (pend c w' ++ pend b u) ++ P from (List.append_assoc _ _ _).symm] at g'
    exact hs'.run G' H4 u w' mb' mc F3 F4 Q g'.ex w3 w4 (hs'.mono _ _ _ _ (fun m q v' H' r' => q v' H' (g'.fin o4.1 r')) q)
  · have ez := ok_bl o3
    subst ez
    refine ⟨false, rfl, ?_⟩
    rw [if_neg Bool.false_ne_true]
    refine q _ _ ⟨o3.1, ?_⟩
    have s3 : Sep y.X.K H3 (pend b u ++ ((.bl false, .fz (.bl false)) :: (prs σ e2 ++ P))) := o3.2.perm (by
      refine List.Perm.trans List.perm_middle ?_
      refine List.Perm.trans ?_ (List.perm_middle.symm)
      refine List.Perm.cons _ ?_
      rw [← List.append_assoc, ← List.append_assoc]
      exact List.perm_append_comm.append_right _)
    exact (s3.right).perm List.perm_middle.symm
  · exact q.elim
theorem se_chain (ho : OpR y.X (compareOp o) r) (ho' : OpR y.X (compareOp o') r') (hs : Snd2 y.X.K r op) (hs' : Snd2 y.X.K r' op') (ha : SO y a oa) (hb : SO y b ob) (hc : SO y c oc) (hm : lastMarks [o, o'] [b, c] = false) :
    SE y (.Compare a [o, o'] [b, c] pos) (wChain op op' oa ob oc) :=
  ⟨PE_imp (pe_chain ho ho' ha.run hb.run hc.run hm) (liftChain hs hs' ha.mono hb.mono hc.mono), mono_wChain hs hs' ha.mono hb.mono hc.mono⟩
theorem st_chain (ho : OpR y.X (compareOp o) r) (ho' : OpR y.X (compareOp o') r') (hs : Snd2 y.X.K r op) (hs' : Snd2 y.X.K r' op') (ha : SO y a oa) (hb : SO y b ob) (hc : SO y c oc) (hm : lastMarks [o, o'] [b, c] = false) :
    ST y (.Compare a [o, o'] [b, c] pos) (tVal (wChain op op' oa ob oc)) where
  run := PT_imp (pt_chain ho ho' ha.run hb.run hc.run hm) fun σ H Q ⟨e, P, h0, q⟩ => by
    refine liftChain hs hs' ha.mono hb.mono hc.mono σ H (fun x H' => ∃ k, x = .bl k ∧ Q k H') ⟨e, P, h0, mono_wChain hs hs' ha.mono hb.mono hc.mono _ _ _ _ _ (fun m e' q v H' o => ?_) (fun _ _ q => q) q⟩
    dsimp only at q
    split at q
    · exact ⟨_, ok_bl o, q H' o.pop⟩
    · exact q.elim
  mono := mono_tVal (mono_wChain hs hs' ha.mono hb.mono hc.mono)

/-! ### names of the module -/
theorem se_globS {x : Str} {t : Str} {k : Tok} (hg : Gl y.X x) (hm : y.X.mg x = some (.str t k)) (hd : (x == ("__debug__" : Str)) = false) : SE y (.Name x pos) (wC (.str t)) := se_const (pe_glob hg hm (v := .str t) ⟨_, rfl⟩ hd) fun _ => .str t
theorem se_globI {x : Str} {t : Int} {k : Tok} (hg : Gl y.X x) (hm : y.X.mg x = some (.int t k)) (hd : (x == ("__debug__" : Str)) = false) : SE y (.Name x pos) (wC (.int t)) := se_const (pe_glob hg hm (v := .int t) ⟨_, rfl⟩ hd) fun _ => .int t
end

/-! ### methods -/
section
variable {y : Y} {T id : String} {name : Str} {op : OPM} {i : Nat} {wa : WA} {r : V → List V → Hp → VK → Prop} {x : Str} {px apos cpos : Pos} {e : Expr} {es : List Expr}
/-- the state of things of a method's call, as the layer's rule wants it -/
structure MCall (y : Y) (o : Expr) (name : Str) (apos cpos : Pos) (e : Expr) (es : List Expr) : Prop where
  base : attributeBase o name y.X.env (eval o y.X.env) = eval o y.X.env
  few : ((backTo cpos (starEach (e :: es) y.X.env)).all (fun x => !x.1) && (backToKw cpos (keywordEach [] y.X.env)).all (fun x => x.1.isSome)
      && decide ((e :: es).length + ([] : List Keyword).length + (if ([] : List Keyword).isEmpty then 0 else 1) < 30)) = true
  line : (apos.endLine == cpos.line) = true
  star : starEach (e :: es) y.X.env = (false, eval e y.X.env) :: starEach es y.X.env
  plain : (backTo cpos (starEach es y.X.env)).any (·.1) = false
theorem se_mut (pa : PlainAttrs T) (slot : Slot T name id) (hty : typeOf (.builtin id) = pure (.type "method_descriptor")) (hm : MtR y.X id r) (hs : SndM y.X.K T r op) (c : MCall y (.Name x px) name apos cpos e es)
    (hN : y.X.N[i]? = some x) (hv : Vis y.X.env.scope x) (hd : (x == ("__debug__" : Str)) = false) (hcd : (x == ("__classdict__" : Str)) = false) (ha : SA y (e :: es) wa) : SE y (.Call (.Attribute (.Name x px) name apos) (e :: es) [] cpos) (wMut T op i wa) where
  run := PE_imp (pe_bm pa slot hty hm (pe_var hN hv hd hcd) ha.run c.base c.few c.line c.star c.plain) fun σ H Q q => mut_read hs ha.mono σ H Q q
  mono := mono_wMut hs ha.mono
theorem se_mut0 (pa : PlainAttrs T) (slot : Slot T name id) (hty : typeOf (.builtin id) = pure (.type "method_descriptor")) (hm : MtR y.X id r) (hs : SndM y.X.K T r op)
    (hb : attributeBase (.Name x px) name y.X.env (eval (.Name x px) y.X.env) = eval (.Name x px) y.X.env) (hl : (apos.endLine == cpos.line) = true)
    (hN : y.X.N[i]? = some x) (hv : Vis y.X.env.scope x) (hd : (x == ("__debug__" : Str)) = false) (hcd : (x == ("__classdict__" : Str)) = false) : SE y (.Call (.Attribute (.Name x px) name apos) [] [] cpos) (wMut T op i aNil) where
  run := PE_imp (pe_bm0 pa slot hty hm (pe_var hN hv hd hcd) hb hl) fun σ H Q q => by
    obtain ⟨v, ev, ty, e, P, h0, q⟩ := mut_read (wa := aNil) hs (sa_nil (y := y)).mono σ H Q q
    exact ⟨v, ev, ty, q [] H ⟨h0, trivial⟩⟩
  mono := mono_wMut hs (sa_nil (y := y)).mono
end
/-- a method of a value of type T -/
structure SndT (K : PySem.W.Frag) (r : V → List V → Hp → VK → Prop) (op : M → OPN) : Prop where
  run : ∀ G H x mx F xs ms (Q : VK), Ex G H → Own K G H x mx F → Owns K G H xs ms → op mx ms (fun m => ∀ v H', ResOk K G H m v H' → Q v H') → r x xs H Q
  mono : ∀ a b (q q' : M → Prop), (∀ m, q m → q' m) → op a b q → op a b q'
def mTy (T : String) : D → Bool
  | .str _ => T == "str"
  | .int _ => T == "int"
  | .lst _ => T == "list"
  | .dK _ => T == "dict"
  | .dT _ => T == "dict"
  | _ => false
theorem mTy_tyV {K : PySem.W.Frag} {G H : Hp} {T : String} {v : V} {m : M} {F : List Addr} (ex : Ex G H) (h : mTy T m.d = true) (w : Own K G H v m F) : tyV K T v H := by
  cases w with
  | fz w => cases w with
    | str s =>
      show T = "str"
      simpa [mTy, M.d] using h
    | int s =>
      show T = "int"
      simpa [mTy, M.d] using h
    | lst w r => exact .inl ⟨by simpa [mTy, M.d] using h, _, .of (ex _ _ w)⟩
    | dK w r => exact .inr (.inr (.inl ⟨by simpa [mTy, M.d] using h, .inl ⟨_, ex _ _ w⟩⟩))
    | dT w r => exact .inr (.inr (.inl ⟨by simpa [mTy, M.d] using h, .inr ⟨_, ex _ _ w⟩⟩))
    | _ => cases h
  | lst w r => exact .inl ⟨by simpa [mTy, M.d] using h, _, .of w⟩
  | dK w r => exact .inr (.inr (.inl ⟨by simpa [mTy, M.d] using h, .inl ⟨_, w⟩⟩))
  | dT w r => exact .inr (.inr (.inl ⟨by simpa [mTy, M.d] using h, .inr ⟨_, w⟩⟩))
def wMt (T : String) (op : M → OPN) (o : WO) (wa : WA) : WE := fun e Q X => o e (fun a e1 => withO a e1 (fun m => mTy T m.d = true) ∧ wa e1 (fun as e2 => withO a e2 fun m => withAs as e2 fun ms => op m ms fun r => Q r e2) X) X
section
variable {y : Y} {T id : String} {name : Str} {op : M → OPN} {oo : WO} {wa : WA} {r : V → List V → Hp → VK → Prop} {o : Expr} {apos cpos : Pos} {e : Expr} {es : List Expr}
theorem mono_wMt {K : PySem.W.Frag} (hs : SndT K r op) (ho : MonoO oo) (ha : MonoA wa) : MonoE (wMt T op oo wa) := fun e Q Q' X X' hq hx q =>
  ho _ _ _ _ _ (fun a e1 q => ⟨q.1, ha _ _ _ _ _ (fun as e2 q => withO_mono (fun m q => withAs_mono (fun ms q => hs.mono _ _ _ _ (fun m q => hq _ _ q) q) q) q) hx q.2⟩) hx q
theorem mt_read (hs : SndT y.X.K r op) (ho : MonoO oo) (ha : MonoA wa) (σ : L2.St) (H : Hp) (Q : VK) (h : liftE y (wMt T op oo wa) σ H Q) : liftO y oo σ H fun x H1 => tyV y.X.K T x H1 ∧ liftA y wa σ H1 fun xs H2 => r x xs H2 Q := by
  obtain ⟨e, P, h0, h⟩ := h
  refine ⟨e, P, h0, ho e _ _ _ _ (fun a e1 q v H1 o1 => ?_) (fun _ _ q => q) h⟩
  obtain ⟨o1, p1⟩ := o1
  obtain ⟨t, q⟩ := q
  obtain ⟨m0, i0, t⟩ := withO_mem o1 p1 t
  obtain ⟨G, g⟩ := o1.2.opn
  obtain ⟨F0, w0⟩ := g.own _ i0
  refine ⟨mTy_tyV g.ex t w0, e1, pend a v ++ P, o1, ha e1 _ _ _ _ (fun as e2 q us H2 o2 => ?_) (fun _ _ q => xpost_pend q) q⟩
  obtain ⟨o2, p2⟩ := o2
  obtain ⟨m, m1, q⟩ := withO_mem' o2 (fun p z => List.mem_append_right _ (List.mem_append_left _ z)) p1 q
  obtain ⟨G, g⟩ := o2.2.opn
  obtain ⟨ms, m2, q⟩ := withAs_mem o2 g (fun p z => List.mem_append_left _ z) p2 q
  obtain ⟨F1, w1⟩ := g.own _ m1
  rw [show pends as us ++ (pend a v ++ P) = (pends as us ++ pend a v) ++ P from (List.append_assoc _ _ _).symm] at g
  exact hs.run G H2 v m F1 us ms Q g.ex w1 m2 (hs.mono _ _ _ _ (fun m q v' H' r' => q v' H' (g.fin o2.1 r')) q)
theorem se_mt (pa : PlainAttrs T) (slot : Slot T name id) (hty : typeOf (.builtin id) = pure (.type "method_descriptor")) (hm : MtR y.X id r) (hs : SndT y.X.K r op) (c : MCall y o name apos cpos e es) (ho : SO y o oo) (ha : SA y (e :: es) wa) :
    SE y (.Call (.Attribute o name apos) (e :: es) [] cpos) (wMt T op oo wa) where
  run := PE_imp (pe_bm pa slot hty hm ho.run ha.run c.base c.few c.line c.star c.plain) fun σ H Q q => mt_read hs ho.mono ha.mono σ H Q q
  mono := mono_wMt hs ho.mono ha.mono
theorem se_mt0 (pa : PlainAttrs T) (slot : Slot T name id) (hty : typeOf (.builtin id) = pure (.type "method_descriptor")) (hm : MtR y.X id r) (hs : SndT y.X.K r op)
    (hb : attributeBase o name y.X.env (eval o y.X.env) = eval o y.X.env) (hl : (apos.endLine == cpos.line) = true) (ho : SO y o oo) : SE y (.Call (.Attribute o name apos) [] [] cpos) (wMt T op oo aNil) where
  run := PE_imp (pe_bm0 pa slot hty hm ho.run hb hl) fun σ H Q q => by
    have z := mt_read hs ho.mono (sa_nil (y := y)).mono σ H Q q
    obtain ⟨e, P, h0, z⟩ := z
    exact ⟨e, P, h0, ho.mono _ _ _ _ _ (fun a e1 z v H1 o1 => by
      obtain ⟨t, e', P', h', z⟩ := z v H1 o1
      exact ⟨t, z [] H1 ⟨h', trivial⟩⟩) (fun _ _ q => q) z⟩
  mono := mono_wMt hs ho.mono (sa_nil (y := y)).mono
end

/-! ### o[i] = v -/
structure SndP (K : PySem.W.Frag) (t : TSet) (op : M → M → D → (M → Prop) → Prop) : Prop where
  run : ∀ G H p m F i mi F' v d (Q : Hp → Prop), Ex G H → Own K G H (.ref p) m F → Own K G H i mi F' → Rep K G v d → op m mi d (fun m' => ∀ H', MutOk K G H p m' H' → Q H') → t (.ref p) i v H Q
  mono : ∀ a b d (q q' : M → Prop), (∀ m, q m → q' m) → op a b d q → op a b d q'
def isPl : M → Bool
  | .fz _ => false
  | _ => true
def sSub (op : M → M → D → (M → Prop) → Prop) (p : Nat) (oi : WO) (w : WE) : WS := fun E e => w e (fun m e1 => match e1[p]? with
  | some (some _) => oi e1 (fun a e2 => match e2[p]? with
    | some (some mp) => isPl mp = true ∧ withO a (e2.set p none) fun mi => op mp mi m.d fun mp' => E.nx (e2.set p (some mp'))
    | _ => False) E.ex
  | _ => False) E.ex
section
variable {y : Y} {κ : List (Nat × V)} {t : TSet} {op : M → M → D → (M → Prop) → Prop} {p : Nat} {oi : WO} {w : WE} {x : Str} {px sp pos : Pos} {ix e : Expr}
theorem mono_sSub {K : PySem.W.Frag} (hs : SndP K t op) (hi : MonoO oi) (h : MonoE w) : MonoS (sSub op p oi w) := fun E E' e l q => h _ _ _ _ _ (fun m e1 q => by
  split at q
  · exact hi _ _ _ _ _ (fun a e2 q => by
      split at q
      · exact ⟨q.1, withO_mono (fun mi q => hs.mono _ _ _ _ _ (fun m q => l.nx _ q) q) q.2⟩
      · exact q.elim) l.ex q
  · exact q.elim) l.ex q
theorem isPl_nf {m : M} (h : isPl m = true) : ∀ d, m ≠ .fz d := fun d e => by
  subst e
  cases h
theorem ss_sub (hs : SndP y.X.K t op) (ht : PSet y.X t) (hN : y.X.N[p]? = some x) (hv : Vis y.X.env.scope x) (hd : (x == ("__debug__" : Str)) = false) (hcd : (x == ("__classdict__" : Str)) = false) (hi : SO y ix oi) (h : SE y e w)
    (ha : ∀ v, assign (.Subscript (.Name x px) ix sp) y.X.env v = (do
      let ov ← holding [v] (eval (.Name x px) y.X.env)
      let iv ← holding [v, ov] (eval ix y.X.env)
      standAt sp
      holding [v, ov, iv] (setItem ov iv v)
      release [v, ov, iv] []))
    (hsw : swapsWithSole [.Subscript (.Name x px) ix sp] e pos.line y.X.env = pure false) (hw : swappedStores [.Subscript (.Name x px) ix sp] e y.X.env = pure none)
    (h1 : (assignEach [.Subscript (.Name x px) ix sp] y.X.env).map (·.2) = [assign (.Subscript (.Name x px) ix sp) y.X.env]) : SS y κ (.Assign [.Subscript (.Name x px) ix sp] e pos) (sSub op p oi w) where
  run := PS_imp (ps_asg h.run (pg_sub (pe_var hN hv hd hcd) hi.run ht ha) hsw hw h1) fun D σ H ⟨e, P, hk, h0, q⟩ => ⟨e, P, h0, h.mono _ _ _ _ _ (fun m e1 q v H1 o1 => by
    split at q
    · rename_i m0 em0
      obtain ⟨v0, ev0, _⟩ := o1.peek em0
      refine ⟨v0, ev0, e1, (v, .fz m.d) :: P, o1.freeze, hi.mono _ _ _ _ _ (fun a e2 q iv H2 o2 => ?_) (fun x e' q c d H' r o => q σ c d H' hk r o.pop) q⟩
      obtain ⟨o2, p2⟩ := o2
      split at q
      · rename_i mp emp
        obtain ⟨tm, q⟩ := q
        obtain ⟨v', ev', om⟩ := o2.take emp
        have e3 : some (some v0) = some (some v') := ev0.symm.trans ev'
        cases e3
        obtain ⟨G1, p1, F1, rfl, w1, ex1, oth, up⟩ := (om.2.perm List.perm_middle).mutR (isPl_nf tm)
        obtain ⟨mi, ins, q⟩ := withO_mem' om (fun p z => List.mem_cons_of_mem _ (List.mem_append_left _ z)) p2 q
        have mem : ∀ q, q ∈ prs σ (e2.set p none) ++ ((V.ref p1, mp) :: (pend a iv ++ ((v, .fz m.d) :: P))) → ∃ F, Own y.X.K G1 H2 q.1 q.2 F := fun q z => by
          rcases List.mem_cons.mp ((List.perm_middle (l₁ := prs σ (e2.set p none))).mem_iff.mp z) with z | z
          · exact ⟨F1, z ▸ w1⟩
          · exact oth q z
        obtain ⟨F2, w2⟩ := mem _ ins
        obtain ⟨F3, w3⟩ := mem (v, .fz m.d) (List.mem_append_right _ (List.mem_cons_of_mem _ (List.mem_append_right _ List.mem_cons_self)))
        cases w3 with
        | fz w3 =>
          refine hs.run G1 H2 p1 mp F1 iv mi F2 v m.d _ ex1 w1 w2 w3 (hs.mono _ _ _ _ _ (fun m' q H' mo => q σ H' hk ?_) q)
          have z := (up _ _ mo _ _ w3).tail
          have z' : Ok y.X.K H' σ (e2.set p none) ((.ref p1, m') :: (pend a iv ++ ((v, .fz m.d) :: P))) := ⟨om.1, z.perm List.perm_middle.symm⟩
          have z2 := z'.give ev0
          rw [List.set_set] at z2
          exact (Ok.pops (P := pend a iv) z2).pop
      · exact q.elim
    · exact q.elim) (fun _ _ q c d H' r o => q σ c d H' hk r o) q⟩
  mono := mono_sSub hs hi.mono h.mono
end
end VW

set_option Elab.async false
set_option linter.all false
set_option maxRecDepth 100000
/-! VW12: the methods, the stores, one by one. -/
namespace VW
open PySem PySem.Spec PyProof.Rows L2

section
variable {X : Cx} {K : PySem.W.Frag}
theorem two24 : (16777216 : Nat) = sizeLine := sizeLine_eq.symm
theorem own_lstM {G H : Hp} {p : Addr} {ds : List D} {F : List Addr} (w : Own K G H (.ref p) (.lst ds) F) : ∃ vs, H p = some (.lst vs) ∧ Reps K G vs ds := by
  cases w with
  | lst h r => exact ⟨_, h, r⟩
theorem own_fzd {G H : Hp} {v : V} {d : D} {F : List Addr} (w : Own K G H v (.fz d) F) : Rep K G v d := by
  cases w with
  | fz h => exact h

/-! ### lists -/
def opAppend : OPM := fun m ms q => one ms fun a => match m, a with
  | .lst ds, .fz d => ds.length < 16777216 ∧ q .non (.lst (ds ++ [d]))
  | _, _ => False
theorem snd_append : SndM K "list" rAppend opAppend where
  run := fun G H p m F xs ms Q ex w ow q => by
    obtain ⟨v, a, rfl, rfl, ⟨F', w'⟩, q⟩ := one_own ow q
    split at q
    · obtain ⟨vs, h, r⟩ := own_lstM w
      exact ⟨p, vs, v, rfl, rfl, h, by rw [r.length, ← two24]; exact q.1, q.2 _ _ .non (.lst (r.append (.one (own_fzd w'))))⟩
    · exact q.elim
  mono := fun a b q q' h k => one_mono (fun m k => by
    split at k
    · exact ⟨k.1, h _ _ k.2⟩
    · exact k.elim) k
def opExtend : OPM := fun m ms q => one ms fun a => match m with
  | .lst ds => (match a.d with
    | .lst es => ds.length + es.length ≤ 16777216 ∧ q .non (.lst (ds ++ es))
    | _ => False)
  | _ => False
theorem snd_extend : SndM K "list" rExtend opExtend where
  run := fun G H p m F xs ms Q ex w ow q => by
    obtain ⟨v, a, rfl, rfl, ⟨F', w'⟩, q⟩ := one_own ow q
    split at q
    · split at q
      · rename_i es e
        obtain ⟨vs, h, r⟩ := own_lstM w
        obtain ⟨b, us, rfl, h2, r2⟩ := own_lst ex w' e
        exact ⟨p, b, vs, us, rfl, rfl, h, h2, by rw [r.length, r2.length, ← two24]; exact q.1, q.2 _ _ .non (.lst (r.append r2))⟩
      · exact q.elim
    · exact q.elim
  mono := fun a b q q' h k => one_mono (fun m k => by
    split at k
    · split at k
      · exact ⟨k.1, h _ _ k.2⟩
      · exact k.elim
    · exact k.elim) k
theorem reps_dropLast {G : Hp} {vs : List V} {ds : List D} (r : Reps K G vs ds) : Reps K G vs.dropLast ds.dropLast := by
  rw [List.dropLast_eq_take, List.dropLast_eq_take, r.length]
  exact r.take _
theorem reps_erase {G : Hp} : ∀ {vs : List V} {ds : List D} (n : Nat), Reps K G vs ds → Reps K G (vs.eraseIdx n) (ds.eraseIdx n)
  | _, _, _, .nil => .nil
  | _, _, 0, .cons _ r => r
  | _, _, n + 1, .cons h r => .cons h (reps_erase n r)
/-- m.pop() -/
def opPop0 : OPM := fun m ms q => match ms with
  | [] => (match m with
    | .lst ds => (match ds[ds.length - 1]? with
      | some d => q d (.lst ds.dropLast)
      | none => False)
    | _ => False)
  | _ => False
theorem snd_pop0 : SndM K "list" rPop opPop0 where
  run := fun G H p m F xs ms Q ex w ow q => by
    unfold opPop0 at q
    split at q
    · split at q
      · split at q
        · rename_i d e
          obtain ⟨vs, h, r⟩ := own_lstM w
          obtain ⟨v, ev, rv⟩ := r.at e
          cases xs with
          | nil => exact ⟨p, vs, v, rfl, rfl, h, by rw [r.length]; exact ev, q _ _ rv (.lst (reps_dropLast r))⟩
          | cons _ _ => exact ow.elim
        · exact q.elim
      · exact q.elim
    · exact q.elim
  mono := fun a b q q' h k => by
    unfold opPop0 at *
    split at k
    · split at k
      · split at k
        · exact h _ _ k
        · exact k.elim
      · exact k.elim
    · exact k.elim
/-- m.pop(i) -/
def opPopL : OPM := fun m ms q => one ms fun a => match m with
  | .lst ds => isInt a fun i => -(2 ^ 63) ≤ i ∧ i < 2 ^ 63 ∧ (match seqIndex? i ds.length with
    | some k => (match ds[k]? with
      | some d => q d (.lst (ds.eraseIdx k))
      | none => False)
    | none => False)
  | _ => False
theorem snd_popL : SndM K "list" rPopAt opPopL where
  run := fun G H p m F xs ms Q ex w ow q => by
    obtain ⟨v, a, rfl, rfl, w', q⟩ := one_own ow q
    split at q
    · obtain ⟨i, rfl, q1, q2, q⟩ := isInt_own w' q
      split at q
      · rename_i k ek
        split at q
        · rename_i d e
          obtain ⟨vs, h, r⟩ := own_lstM w
          obtain ⟨u, ev, rv⟩ := r.at e
          exact ⟨p, vs, i, k, u, rfl, rfl, h, q1, q2, by rw [r.length]; exact ek, ev, q _ _ rv (.lst (reps_erase k r))⟩
        · exact q.elim
      · exact q.elim
    · exact q.elim
  mono := fun a b q q' h k => one_mono (fun m k => by
    split at k
    · refine isInt_mono (fun i k => ⟨k.1, k.2.1, ?_⟩) k
      have k := k.2.2
      split at k
      · split at k
        · exact h _ _ k
        · exact k.elim
      · exact k.elim
    · exact k.elim) k
def opReverse : OPM := fun m ms q => match ms with
  | [] => (match m with
    | .lst ds => q .non (.lst ds.reverse)
    | _ => False)
  | _ => False
theorem snd_reverse : SndM K "list" rReverse opReverse where
  run := fun G H p m F xs ms Q ex w ow q => by
    unfold opReverse at q
    split at q
    · split at q
      · obtain ⟨vs, h, r⟩ := own_lstM w
        cases xs with
        | nil => exact ⟨p, vs, rfl, rfl, h, q _ _ .non (.lst r.reverse)⟩
        | cons _ _ => exact ow.elim
      · exact q.elim
    · exact q.elim
  mono := fun a b q q' h k => by
    unfold opReverse at *
    split at k
    · split at k
      · exact h _ _ k
      · exact k.elim
    · exact k.elim
abbrev rInsertL : V → List V → Hp → VK → Prop := fun x vs H Q => ∃ (l : Addr) (xs : List V) (i : Int) (y : V), x = .ref l ∧ vs = [.int i, y] ∧ H l = some (.lst xs) ∧ xs.length < sizeLine ∧ 0 ≤ i ∧ i < 2 ^ 63 ∧
    Q .non (upd H l (.lst (xs.take i.toNat ++ [y] ++ xs.drop i.toNat)))
def opInsert : OPM := fun m ms q => two ms fun a b => match m, b with
  | .lst ds, .fz d => isInt a fun i => ds.length < 16777216 ∧ 0 ≤ i ∧ i < 2 ^ 63 ∧ q .non (.lst (ds.take i.toNat ++ [d] ++ ds.drop i.toNat))
  | _, _ => False
theorem snd_insert : SndM K "list" rInsertL opInsert where
  run := fun G H p m F xs ms Q ex w ow q => by
    obtain ⟨v, u, a, b, rfl, rfl, w1, ⟨F', w'⟩, q⟩ := two_own ow q
    split at q
    · obtain ⟨i, rfl, q1, q2, q3, q⟩ := isInt_own w1 q
      obtain ⟨vs, h, r⟩ := own_lstM w
      exact ⟨p, vs, i, u, rfl, rfl, h, by rw [r.length, ← two24]; exact q1, q2, q3, q _ _ .non (.lst (((r.take _).append (.one (own_fzd w'))).append (r.drop _)))⟩
    · exact q.elim
  mono := fun a b q q' h k => two_mono (fun m n k => by
    split at k
    · exact isInt_mono (fun i k => ⟨k.1, k.2.1, k.2.2.1, h _ _ k.2.2.2⟩) k
    · exact k.elim) k

/-! ### o[i] = v -/
def opStL : M → M → D → (M → Prop) → Prop := fun m a d q => match m with
  | .lst ds => isInt a fun i => match ixN ds.length i with
    | some j => q (.lst (ds.set j d))
    | none => False
  | _ => False
def opStK : M → M → D → (M → Prop) → Prop := fun m a d q => match m with
  | .dK kvs => (match keyK a.d with
    | some k => kvs.length < 16777216 ∧ q (.dK (setK kvs k d))
    | none => False)
  | .dT kvs => (match keyT a.d with
    | some k => kvs.length < 16777216 ∧ q (.dT (setK kvs k d))
    | none => False)
  | _ => False
def opSt : M → M → D → (M → Prop) → Prop := fun m a d q => match m with
  | .lst ds => opStL (.lst ds) a d q
  | m => opStK m a d q
abbrev rSet : TSet := fun o i v H Q => rSetL o i v H Q ∨ rSetD o i v H Q
theorem pset_all (hu : X.A.units + 64 < cLine) : PSet X rSet := by
  intro pins s σ H o i v ov iv u Q I ro ri rv h
  rcases h with h | h
  · exact set_list pins s σ H o i v ov iv u Q I ro ri rv h
  · exact set_dict (by omega) pins s σ H o i v ov iv u Q I ro ri rv h
theorem mono_opSt (a b : M) (d : D) (q q' : M → Prop) (h : ∀ m, q m → q' m) (k : opSt a b d q) : opSt a b d q' := by
  unfold opSt opStL opStK at *
  split at k
  · exact isInt_mono (fun i k => by
      split at k
      · exact h _ k
      · exact k.elim) k
  · split at k
    · split at k
      · exact ⟨k.1, h _ k.2⟩
      · exact k.elim
    · split at k
      · exact ⟨k.1, h _ k.2⟩
      · exact k.elim
    · exact k.elim
theorem snd_st : SndP K rSet opSt where
  run := fun G H p m F i mi F' v d Q ex w w' rv q => by
    unfold opSt at q
    split at q
    · unfold opStL at q
      obtain ⟨k, rfl, q⟩ := isInt_own ⟨F', w'⟩ q
      split at q
      · rename_i j ej
        obtain ⟨vs, h, r⟩ := own_lstM w
        exact .inl ⟨p, vs, k, j, rfl, rfl, h, by rw [r.length]; exact ej, q _ (.lst (Reps.set rv j r))⟩
      · exact q.elim
    · unfold opStK at q
      split at q
      · split at q
        · rename_i k ek
          have hk := keyK_own w' ek
          subst hk
          cases w with
          | dK h r => exact .inr ⟨p, _, rfl, DPut.k h (by rw [r.length, ← two24]; exact q.1), q.2 _ (.dK (repK_set rv r))⟩
        · exact q.elim
      · split at q
        · rename_i k ek
          obtain ⟨b, rfl, hb⟩ := keyT_own ex w' ek
          cases w with
          | dT h r => exact .inr ⟨p, _, rfl, DPut.t h hb (by rw [r.length, ← two24]; exact q.1), q.2 _ (.dT (repT_set rv r))⟩
        · exact q.elim
      · exact q.elim
  mono := mono_opSt

/-! ### methods of values -/
def opJoin : M → OPN := fun m ms q => one ms fun a => match m.d, a.d with
  | .str s, .lst ds => ∃ ts : List Str, ds = ts.map D.str ∧ (ts.map (·.length)).sum + ts.length * s.length ≤ 16777216 ∧ q (.fz (.str (Txt.join s ts)))
  | _, _ => False
theorem snd_join : SndT K (fun x xs H Q => ∃ a p, ∃ ys : List Str, x = .str a ∧ xs = [.ref p] ∧ (SqL K H p (ys.map V.str) ∨ SqT K H p (ys.map V.str)) ∧
    (ys.map (·.length)).sum + ys.length * a.length ≤ 16777216 ∧ Q (.str (Txt.join a ys)) H) opJoin where
  run := fun G H x mx F xs ms Q ex w ow q => by
    obtain ⟨v, a, rfl, rfl, ⟨F', w'⟩, q⟩ := one_own ow q
    split at q
    · rename_i s ds e1 e2
      obtain ⟨ts, rfl, h1, q⟩ := q
      have h2 := own_plain (u := .str s) w (by rw [e1]; rfl)
      subst h2
      obtain ⟨b, vs, rfl, h3, r3⟩ := own_lst ex w' e2
      have := r3.strs
      subst this
      exact ⟨s, b, ts, rfl, rfl, .inl (.of h3), h1, q _ _ (.same (.str _))⟩
    · exact q.elim
  mono := fun a b q q' h k => one_mono (fun m k => by
    split at k
    · obtain ⟨ts, e, h1, k⟩ := k
      exact ⟨ts, e, h1, h _ k⟩
    · exact k.elim) k
/-- s.index(t), t there -/
def opSIx : M → OPN := fun m ms q => one ms fun a => match m.d, a.d with
  | .str s, .str t => (match Builtin.Str.occurrences s t 0 s.length 1 with
    | i :: _ => q (.fz (.int (i : Nat)))
    | [] => False)
  | _, _ => False
theorem snd_sIx : SndT K (fun x xs H Q => ∃ a b i rest, x = .str a ∧ xs = [.str b] ∧ Builtin.Str.occurrences a b 0 a.length 1 = i :: rest ∧ Q (.int (i : Nat)) H) opSIx where
  run := fun G H x mx F xs ms Q ex w ow q => by
    obtain ⟨v, a, rfl, rfl, ⟨F', w'⟩, q⟩ := one_own ow q
    split at q
    · rename_i s t e1 e2
      have h1 := own_plain (u := .str s) w (by rw [e1]; rfl)
      have h2 := own_plain (u := .str t) w' (by rw [e2]; rfl)
      subst h1 h2
      split at q
      · rename_i i rest e
        exact ⟨s, t, i, rest, rfl, rfl, e, q _ _ (.same (.int _))⟩
      · exact q.elim
    · exact q.elim
  mono := fun a b q q' h k => one_mono (fun m k => by
    split at k
    · split at k
      · exact h _ k
      · exact k.elim
    · exact k.elim) k
end

/-! ### name op= e -/
def sAug (op : OP2) (i : Nat) (o : WO) : WS := fun E e => match e[i]? with
  | some (some (.fz d)) => o e (fun a e1 => withO a e1 fun m => op (.fz d) m fun r => E.nx (e1.set i (some r))) E.ex
  | _ => False
end VW

set_option Elab.async false
set_option linter.all false
set_option maxRecDepth 100000
/-! VW13: the rules in short, their side conditions found by themselves. -/
namespace VW
open PySem PySem.Spec PyProof.Rows L2

section
variable {y : Y} {κ : List (Nat × V)} {pos : Pos}
theorem xv (i : Nat) {x : Str} (hN : y.X.N[i]? = some x := by rfl) (hv : Vis y.X.env.scope x := by first | exact .inl rfl | exact .inr (.inl rfl) | exact .inr (.inr rfl)) (hd : (x == ("__debug__" : Str)) = false := by decide)
    (hcd : (x == ("__classdict__" : Str)) = false := by decide) : SE y (.Name x pos) (wVar i) := se_var hN hv hd hcd
theorem xp (i : Nat) {x : Str} (hN : y.X.N[i]? = some x := by rfl) (hv : Vis y.X.env.scope x := by first | exact .inl rfl | exact .inr (.inl rfl) | exact .inr (.inr rfl)) (hd : (x == ("__debug__" : Str)) = false := by decide)
    (hcd : (x == ("__classdict__" : Str)) = false := by decide) : SO y (.Name x pos) (oPk i) := so_pk hN hv hd hcd
theorem xI {i : Int} {j : Nat} : SE y (.Constant (.int i) j pos) (wC (.int i)) := se_const pe_int fun _ => .int i
theorem xS {i : Str} {j : Nat} : SE y (.Constant (.str i) j pos) (wC (.str i)) := se_const pe_str fun _ => .str i
theorem xB {i : Bool} {j : Nat} : SE y (.Constant (.bool i) j pos) (wC (.bl i)) := se_const pe_bl fun _ => .bl i
theorem xN {j : Nat} : SE y (.Constant .none j pos) (wC .non) := se_const pe_non fun _ => .non
/-- a module's constant -/
inductive Cst (mg : Str → Option Value) (x : Str) : D → Prop
  | int {i : Int} {t : Tok} (h : mg x = some (.int i t)) : Cst mg x (.int i)
  | str {i : Str} {t : Tok} (h : mg x = some (.str i t)) : Cst mg x (.str i)
theorem xG {x : Str} {d : D} (c : Cst y.X.mg x d) (hg : Gl y.X x := by rfl) (hd : (x == ("__debug__" : Str)) = false := by decide) : SE y (.Name x pos) (wC d) := by
  cases c with
  | int h => exact se_globI hg h hd
  | str h => exact se_globS hg h hd
/-- a built-in type as a value -/
theorem xTy {x : Str} {n : String} (hm : y.X.mg x = none) (hv : bootBuiltins x = some (.type n)) (hg : Gl y.X x := by rfl) (hn : x ≠ "__name__" := by decide) (hd : (x == ("__debug__" : Str)) = false := by decide) : SE y (.Name x pos) (wC (.ty n)) :=
  se_const (pe_bltn hg hm hv (v := .ty n) rfl hn hd) fun _ => .ty n
variable {a b c e : Expr} {es : List Expr} {oa ob oc : WO} {wa wb : WE} {o o' : CmpOp} {r r' : R2} {op op' : OP2} {ws : WA} {ta : WT}
theorem xcons {oo : WO} {w : WA} (h : SO y e oo) (hr : SA y es w) (hs : starEach (e :: es) y.X.env = (false, eval e y.X.env) :: starEach es y.X.env := by rfl) : SA y (e :: es) (aCons oo w) := sa_cons h hr hs
theorem xcmp (o : CmpOp) (ho : OpR y.X (compareOp o) r) (hs : Snd2 y.X.K r op) (ha : SO y a oa) (hb : SO y b ob) (hm : behindInMarks o b = false := by rfl) : SE y (.Compare a [o] [b] pos) (w2 op oa ob) := se_cmp ho hs ha hb hm
theorem tcmp (o : CmpOp) (ho : OpR y.X (compareOp o) r) (hs : Snd2 y.X.K r op) (ha : SO y a oa) (hb : SO y b ob) (hm : behindInMarks o b = false := by rfl) : ST y (.Compare a [o] [b] pos) (tVal (w2 op oa ob)) := st_cmp ho hs ha hb hm
theorem xchn (o o' : CmpOp) (ho : OpR y.X (compareOp o) r) (ho' : OpR y.X (compareOp o') r') (hs : Snd2 y.X.K r op) (hs' : Snd2 y.X.K r' op') (ha : SO y a oa) (hb : SO y b ob) (hc : SO y c oc) (hm : lastMarks [o, o'] [b, c] = false := by rfl) :
    SE y (.Compare a [o, o'] [b, c] pos) (wChain op op' oa ob oc) := se_chain ho ho' hs hs' ha hb hc hm
theorem tchn (o o' : CmpOp) (ho : OpR y.X (compareOp o) r) (ho' : OpR y.X (compareOp o') r') (hs : Snd2 y.X.K r op) (hs' : Snd2 y.X.K r' op') (ha : SO y a oa) (hb : SO y b ob) (hc : SO y c oc) (hm : lastMarks [o, o'] [b, c] = false := by rfl) :
    ST y (.Compare a [o, o'] [b, c] pos) (tVal (wChain op op' oa ob oc)) := st_chain ho ho' hs hs' ha hb hc hm
theorem xix (ha : SO y a oa) (hb : SO y b ob) (hu : y.X.A.units + 64 < cLine) (hp : PlainIx b := by exact fun _ _ => rfl) : SE y (.Subscript a b pos) (w2 opIx oa ob) := se_ix (ix_all hu) snd_ix ha hb hp
theorem xsl {lo hi : Option Expr} {p2 : Pos} {wl wh : WP} (ha : SO y a oa) (hl : SP' y lo wl) (hh : SP' y hi wh) : SE y (.Subscript a (.Slice lo hi none p2) pos) (wSl opSl oa wl wh) := se_slice sl_all snd_sl ha hl hh
theorem tval (h : SE y e wa) (he : ∀ whole, isTrue e y.X.env whole = (do let v ← whole; standAt e.pos; holding [v] (truthy v)) := by exact fun _ => rfl) : ST y e (tVal wa) := st_val h he
theorem ttru (h : SO y e oa) (he : ∀ whole, isTrue e y.X.env whole = (do let v ← whole; standAt e.pos; holding [v] (truthy v)) := by exact fun _ => rfl) : ST y e (tTru oa) := st_tru h he
theorem xblt {id : String} {x : Str} {p : Pos} {rN : List V → Hp → VK → Prop} {oN : OPN} (hm : y.X.mg x = none) (hc : CallR y.X (.builtin id) rN) (hs : SndN y.X.K rN oN) (hv : bootBuiltins x = some (.builtin id)) (ha : SA y (e :: es) ws) (hg : Gl y.X x := by rfl)
    (hn : x ≠ "__name__" := by decide) (hdb : (x == ("__debug__" : Str)) = false := by decide) (he : starEach (e :: es) y.X.env = (false, eval e y.X.env) :: starEach es y.X.env := by rfl) (hpl : (backTo pos (starEach es y.X.env)).any (·.1) = false := by rfl) :
    SE y (.Call (.Name x p) (e :: es) [] pos) (wN oN ws) := se_callB hc hs hg hm hv ha hn hdb he hpl
theorem xty {T : String} {x : Str} {p : Pos} {rN : List V → Hp → VK → Prop} {oN : OPN} (hm : y.X.mg x = none) (hc : CallR y.X (.type T) rN) (hs : SndN y.X.K rN oN) (hv : bootBuiltins x = some (.type T)) (ha : SA y (e :: es) ws) (hg : Gl y.X x := by rfl)
    (hn : x ≠ "__name__" := by decide) (hdb : (x == ("__debug__" : Str)) = false := by decide) (he : starEach (e :: es) y.X.env = (false, eval e y.X.env) :: starEach es y.X.env := by rfl) (hpl : (backTo pos (starEach es y.X.env)).any (·.1) = false := by rfl) :
    SE y (.Call (.Name x p) (e :: es) [] pos) (wN oN ws) := se_callTy hc hs hg hm hv ha hn hdb he hpl
theorem xm {T id : String} {name : Str} {x : Str} {opm : OPM} {rm : V → List V → Hp → VK → Prop} {px apos : Pos} (i : Nat) (pa : PlainAttrs T) (slot : Slot T name id) (hty : typeOf (.builtin id) = pure (.type "method_descriptor")) (hm : MtR y.X id rm) (hs : SndM y.X.K T rm opm) (ha : SA y (e :: es) ws)
    (hN : y.X.N[i]? = some x := by rfl) (hv : Vis y.X.env.scope x := by first | exact .inl rfl | exact .inr (.inl rfl) | exact .inr (.inr rfl)) (hd : (x == ("__debug__" : Str)) = false := by decide) (hcd : (x == ("__classdict__" : Str)) = false := by decide)
    (c : MCall y (.Name x px) name apos pos e es := by exact ⟨rfl, rfl, rfl, rfl, rfl⟩) : SE y (.Call (.Attribute (.Name x px) name apos) (e :: es) [] pos) (wMut T opm i ws) := se_mut pa slot hty hm hs c hN hv hd hcd ha
theorem xm0 {T id : String} {name : Str} {x : Str} {opm : OPM} {rm : V → List V → Hp → VK → Prop} {px apos : Pos} (i : Nat) (pa : PlainAttrs T) (slot : Slot T name id) (hty : typeOf (.builtin id) = pure (.type "method_descriptor")) (hm : MtR y.X id rm) (hs : SndM y.X.K T rm opm)
    (hN : y.X.N[i]? = some x := by rfl) (hv : Vis y.X.env.scope x := by first | exact .inl rfl | exact .inr (.inl rfl) | exact .inr (.inr rfl)) (hd : (x == ("__debug__" : Str)) = false := by decide) (hcd : (x == ("__classdict__" : Str)) = false := by decide)
    (hb : attributeBase (.Name x px) name y.X.env (eval (.Name x px) y.X.env) = eval (.Name x px) y.X.env := by rfl) (hl : (apos.endLine == pos.line) = true := by rfl) : SE y (.Call (.Attribute (.Name x px) name apos) [] [] pos) (wMut T opm i aNil) := se_mut0 pa slot hty hm hs hb hl hN hv hd hcd
theorem xmt {T id : String} {name : Str} {opt : M → OPN} {rm : V → List V → Hp → VK → Prop} {apos : Pos} (pa : PlainAttrs T) (slot : Slot T name id) (hty : typeOf (.builtin id) = pure (.type "method_descriptor")) (hm : MtR y.X id rm) (hs : SndT y.X.K rm opt) (ho : SO y a oa) (ha : SA y (e :: es) ws)
    (c : MCall y a name apos pos e es := by exact ⟨rfl, rfl, rfl, rfl, rfl⟩) : SE y (.Call (.Attribute a name apos) (e :: es) [] pos) (wMt T opt oa ws) := se_mt pa slot hty hm hs c ho ha
theorem xmt0 {T id : String} {name : Str} {opt : M → OPN} {rm : V → List V → Hp → VK → Prop} {apos : Pos} (pa : PlainAttrs T) (slot : Slot T name id) (hty : typeOf (.builtin id) = pure (.type "method_descriptor")) (hm : MtR y.X id rm) (hs : SndT y.X.K rm opt) (ho : SO y a oa)
    (hb : attributeBase a name y.X.env (eval a y.X.env) = eval a y.X.env := by rfl) (hl : (apos.endLine == pos.line) = true := by rfl) : SE y (.Call (.Attribute a name apos) [] [] pos) (wMt T opt oa aNil) := se_mt0 pa slot hty hm hs hb hl ho

/-! ### defs that stand in the module -/
/-- the def x at level k does fn -/
def Cal (P : Program) (w : World) (K : PySem.W.Frag) (mg : Str → Option Value) (base : Heap) (xr : Xn → Value → Option Addr → Hp → Prop) (k : Nat) (x : Str) (fn : Fn) : Prop :=
  MonoF fn.sp ∧ ∃ f fd ps, FnOk P w K mg base (L2.CX P w) k f fd ps (spOf K xr fn) ∧ mg x = some (.ref f) ∧ PySem.W.keepIn K (.ref f) = true ∧ Binds K fd ps []
theorem xc {x : Str} {k : Nat} {fn : Fn} {p : Pos} (F : Cal y.X.prog y.X.w y.X.K y.X.mg y.X.base y.xr k x fn) (hr : Room k y.X.A) (ha : SA y (e :: es) ws)
    (tk : Takes y.X y.W := by first | exact takes_of rfl rfl rfl rfl | exact takes0) (hg : Gl y.X x := by rfl) (hdb : (x == ("__debug__" : Str)) = false := by decide)
    (he : starEach (e :: es) y.X.env = (false, eval e y.X.env) :: starEach es y.X.env := by rfl) (hpl : (backTo pos (starEach es y.X.env)).any (·.1) = false := by rfl) : SE y (.Call (.Name x p) (e :: es) [] pos) (wCall fn ws) := by
  obtain ⟨hf, f, fd, ps, F, hm, hk, hb⟩ := F
  exact se_call F hr hg hm hk hb (fun σ => passAt tk σ) hf ha hdb he hpl

/-! ### statements -/
theorem pin_ne {kp : List Nat} {vs : List V} {i : Nat} (h : kp.contains i = false) : ∀ p ∈ pinOf kp vs, p.1 ≠ i := fun p hp e => by
  obtain ⟨j, hj, rfl⟩ := List.mem_map.mp hp
  have e : j = i := e
  subst e
  have := List.contains_iff_mem.mpr (List.mem_filter.mp hj).1
  rw [h] at this
  cases this
variable {bs cs : WS}
theorem yset (i : Nat) {x : Str} {pos' : Pos} (h : SE y e wa) (nd : y.X.N.Nodup) (hi : y.X.N[i]? = some x := by rfl) (hx : Loc y.X.env.scope x := by first | exact .inl rfl | exact .inr rfl) (hs : swapsWith e (some (.Name x pos')) pos.line y.X.env = pure false := by rfl)
    (hf : y.X.fn x = true ∨ y.X.env.scope.names.lookup x = some .local := by first | exact .inl rfl | exact .inr rfl) (hκ : ∀ p ∈ κ, p.1 ≠ i := by exact pin_ne rfl) : SS y κ (.Assign [.Name x pos'] e pos) (sSet i wa) := ss_set nd hi hx h hs hf hκ

theorem yseq {st : Stmt} {rest : List Stmt} (h1 : SS y κ st bs) (h2 : SSs y κ rest cs) : SSs y κ (st :: rest) (sSeq bs cs) := sss_cons h1 h2
theorem yret (h : SO y e oa) : SS y κ (.Return (some e) pos) (sRet oa) := ss_ret h
theorem yex (h : SE y e wa) (hs : swapsWith e none pos.line y.X.env = pure false := by rfl) : SS y κ (.Expr e pos) (sExpr wa) := ss_expr h hs
theorem yif {xs ys : List Stmt} (h : ST y e ta) (ha : SSs y κ xs bs) (hb : SSs y κ ys cs) : SS y κ (.If e xs ys pos) (sIf ta bs cs) := ss_if h ha hb
/-! targets -/
theorem gn (i : Nat) {x : Str} (nd : y.X.N.Nodup) (hi : y.X.N[i]? = some x := by rfl) (hx : Loc y.X.env.scope x := by first | exact .inl rfl | exact .inr rfl) (hf : y.X.fn x = true ∨ y.X.env.scope.names.lookup x = some .local := by first | exact .inl rfl | exact .inr rfl) :
    PG y.X (.Name x pos) ((Tg.nm i).tg y.X.K) := pg_name nd hi hx hf
theorem gnil : PGs y.X [] (Tg.tgs y.X.K []) := pgs_nil
theorem gcons {t : Tg} {ts : List Tg} (h1 : PG y.X e (t.tg y.X.K)) (h2 : PGs y.X es (Tg.tgs y.X.K ts)) (hs : (assignEach (e :: es) y.X.env).map (·.2) = assign e y.X.env :: (assignEach es y.X.env).map (·.2) := by rfl) : PGs y.X (e :: es) (Tg.tgs y.X.K (t :: ts)) := pgs_cons h1 h2 hs
theorem gtup {k : Nat} {ts : List Tg} (hc : y.X.calm = true) (h : PGs y.X es (Tg.tgs y.X.K ts)) (hn : (assignEach es y.X.env).length = ts.length := by rfl) (hst : (assignEach es y.X.env).findIdx? (·.1) = none := by rfl) : PG y.X (.Tuple es k pos) ((Tg.tp ts).tg y.X.K) := pg_tup hc h hn hst
theorem pin_nin {kp : List Nat} {vs : List V} {l : List Nat} (h : l.all (fun i => !kp.contains i) = true) : ∀ p ∈ pinOf kp vs, p.1 ∉ l := fun p hp hm => by
  have := List.all_eq_true.mp h _ hm
  exact pin_ne (i := p.1) (by simpa using this) p hp rfl
theorem yasg {tg : Tg} {target : Expr} (h : SE y e wa) (hg : PG y.X target (tg.tg y.X.K)) (hs : swapsWithSole [target] e pos.line y.X.env = pure false := by rfl) (hw : swappedStores [target] e y.X.env = pure none := by rfl)
    (h1 : (assignEach [target] y.X.env).map (·.2) = [assign target y.X.env] := by rfl) (hκ : ∀ p ∈ κ, p.1 ∉ tg.slots := by exact pin_nin rfl) : SS y κ (.Assign [target] e pos) (sAsg tg wa) := ss_asg hg h hs hw h1 hκ
theorem yfor {tg : Tg} {target iter : Expr} {body : List Stmt} {wi : WI} (hp : PassesOwn (model y.X.prog y.X.w) y.X.A y.X.env y.X.xe) (hc : y.X.calm = true) (hi : SI y target iter wi) (hg : PG y.X target (tg.tg y.X.K)) (hb : SSs y κ body bs)
    (hs : ∀ x, foldedSetIterable iter y.X.env x = pure x := by exact fun _ => rfl) (hκ : ∀ p ∈ κ, p.1 ∉ tg.slots := by exact pin_nin rfl) (htp : (isTp target && !tg.isTp) = false := by rfl) : SS y κ (.For target iter body [] pos) (sFor wi tg bs) := ss_for hp hc hi hg hb hs hκ htp
theorem ywhile {body : List Stmt} (hp : PassesOwn (model y.X.prog y.X.w) y.X.A y.X.env y.X.xe) (h : ST y e ta) (hb : SSs y κ body bs) : SS y κ (.While e body [] pos) (sWhile ta bs) := ss_while hp h hb
theorem yst {x : Str} {px sp : Pos} {ix : Expr} {oi : WO} (p : Nat) (h : SE y e wa) (hi : SO y ix oi) (hu : y.X.A.units + 64 < cLine) (hN : y.X.N[p]? = some x := by rfl) (hv : Vis y.X.env.scope x := by first | exact .inl rfl | exact .inr (.inl rfl) | exact .inr (.inr rfl))
    (hd : (x == ("__debug__" : Str)) = false := by decide) (hcd : (x == ("__classdict__" : Str)) = false := by decide)
    (ha : ∀ v, assign (.Subscript (.Name x px) ix sp) y.X.env v = (do
      let ov ← holding [v] (eval (.Name x px) y.X.env)
      let iv ← holding [v, ov] (eval ix y.X.env)
      standAt sp
      holding [v, ov, iv] (setItem ov iv v)
      release [v, ov, iv] []) := by exact fun _ => rfl)
    (hsw : swapsWithSole [.Subscript (.Name x px) ix sp] e pos.line y.X.env = pure false := by rfl) (hw : swappedStores [.Subscript (.Name x px) ix sp] e y.X.env = pure none := by rfl)
    (h1 : (assignEach [.Subscript (.Name x px) ix sp] y.X.env).map (·.2) = [assign (.Subscript (.Name x px) ix sp) y.X.env] := by rfl) : SS y κ (.Assign [.Subscript (.Name x px) ix sp] e pos) (sSub opSt p oi wa) := ss_sub snd_st (pset_all hu) hN hv hd hcd hi h ha hsw hw h1
/-! comprehensions -/
theorem xlc {elt tg iter : Expr} {ifs : List Expr} {scope : Scope} {wi : WI} {t : Tg} {tt : WT} {te : WE} (own : List (Str × Nat)) (ownS : List Nat) (hc : y.X.calm = true) (nd : y.X.N.Nodup) (hi : SI y tg iter wi) (ok : BlkOk y.X.N y.X.env.scope scope own)
    (hg : ∀ s H C cl fp, PG (y.blk s H scope C cl fp).X tg (t.tg y.X.K)) (ht : ∀ s H C cl fp, STs (y.blk s H scope C cl fp) ifs tt) (he : ∀ s H C cl fp, SE (y.blk s H scope C cl fp) elt te)
    (hos : own.map (·.2) = ownS := by rfl) (hs : ∀ x, foldedSetIterable iter y.X.env x = pure x := by exact fun _ => rfl) (ho : ∀ i ∈ t.slots, i ∈ own.map (·.2) := by decide) (htp : (isTp tg && !t.isTp) = false := by rfl) : SE y (.ListComp elt [⟨tg, iter, ifs, 0⟩] scope pos) (wLc wi t tt te ownS) := by
  subst hos
  let H0 : Hp := fun _ => none
  let s0 : Shared := y.X.s_0
  exact se_lc hc nd hi ok hg ht he hs ho (ht s0 H0 0 [] []).mono (he s0 H0 0 [] []).mono htp
theorem ysetLc {elt tg iter : Expr} {ifs : List Expr} {scope : Scope} {wi : WI} {t : Tg} {tt : WT} {te : WE} {x : Str} {py : Pos} {p2 : Pos} (i : Nat) (own : List (Str × Nat)) (ownS : List Nat) (hc : y.X.calm = true) (nd : y.X.N.Nodup) (hi : SI y tg iter wi) (ok : BlkOk y.X.N y.X.env.scope scope own)
    (hg : ∀ s H C cl fp, PG (y.blk s H scope C cl fp).X tg (t.tg y.X.K)) (ht : ∀ s H C cl fp, STs (y.blk s H scope C cl fp) ifs tt) (he : ∀ s H C cl fp, SE (y.blk s H scope C cl fp) elt te)
    (hy : y.X.N[i]? = some x := by rfl) (hyl : y.X.env.scope.names.lookup x = some .local := by rfl) (hsw : swapsWith (.ListComp elt [⟨tg, iter, ifs, 0⟩] scope p2) (some (.Name x py)) pos.line y.X.env = pure true := by rfl)
    (hos : own.map (·.2) = ownS := by rfl) (hs : ∀ x, foldedSetIterable iter y.X.env x = pure x := by exact fun _ => rfl) (ho : ∀ i ∈ t.slots, i ∈ own.map (·.2) := by decide) (hκ : ∀ p ∈ κ, p.1 ≠ i := by exact pin_ne rfl) (htp : (isTp tg && !t.isTp) = false := by rfl) :
    SS y κ (.Assign [.Name x py] (.ListComp elt [⟨tg, iter, ifs, 0⟩] scope p2) pos) (sSet i (wLc wi t tt te ownS)) := by
  subst hos
  let H0 : Hp := fun _ => none
  let s0 : Shared := y.X.s_0
  exact ss_setLc hc nd hy hyl hsw hi ok hg ht he hs ho (ht s0 H0 0 [] []).mono (he s0 H0 0 [] []).mono hκ htp
end
/-- a def that is told -/
theorem cal_of {P : Program} {w : World} {K : PySem.W.Frag} {mg : Str → Option Value} {base : Heap} {xr : Xn → Value → Option Addr → Hp → Prop} {x : Str} {st : Stmt} {f : Addr} {fd : FuncData} {N ps : List Str} {k : Nat} {kp : List Nat} {wb : WS} {sp : List M → (M → En → Prop) → (Xn → Prop) → Prop}
    (F : Fun K x x st f fd) (hm : mg x = some (.ref f)) (hb : Binds K fd ps []) (S : FnScope N ps (defScope st))
    (hb2 : ∀ cdv A outer s H E vs, Room k (A.deeper (envOfC x (defScope st) s.heap.objs.size f cdv)) → SSs (yOf P w K mg base xr N x (defScope st) f cdv A outer s H E) (pinOf kp vs) (defBody st) wb)
    (hf : MonoF sp) (h : ∀ ms Q X, ms.length = ps.length → sp ms Q X → wFn N.length ps.length kp wb ms Q X) : Cal P w K mg base xr (k + 1) x ⟨ps.length, kp, sp⟩ :=
  ⟨hf, f, fd, ps, (fn_ok F S hb2).imp fun vs H Q E q => by
    obtain ⟨hl, ms, R, hm, sp, q⟩ := q
    exact ⟨hl, ms, R, hm, sp, h _ _ _ (hm.trans hl) q⟩, hm, F.kp, hb⟩
end VW

set_option Elab.async false
set_option linter.all false
set_option maxRecDepth 100000
/-! VW14: ranges, blocks, turned sequences, augmented assignments, stores from the right. -/
namespace VW
open PySem PySem.Spec PyProof.Rows L2

section
variable {y : Y} {κ : List (Nat × V)} {pos p : Pos} {a b c tg : Expr} {oa ob oc : WO}
theorem xr1 (hm : y.X.mg "range" = none) (ha : SO y a oa) (hg : Gl y.X "range" := by rfl) (hs : starEach [a] y.X.env = [(false, eval a y.X.env)] := by rfl) : SI y tg (.Call (.Name "range" p) [a] [] pos) (iR1 oa) := si_range1 hg hm ha hs
theorem xr2 (hm : y.X.mg "range" = none) (ha : SO y a oa) (hb : SO y b ob) (hg : Gl y.X "range" := by rfl) (hs : starEach [a, b] y.X.env = [(false, eval a y.X.env), (false, eval b y.X.env)] := by rfl) (hs2 : starEach [b] y.X.env = [(false, eval b y.X.env)] := by rfl) :
    SI y tg (.Call (.Name "range" p) [a, b] [] pos) (iR2 oa ob) := si_range2 hg hm ha hb hs hs2
theorem xr3 (hm : y.X.mg "range" = none) (ha : SO y a oa) (hb : SO y b ob) (hc : SO y c oc) (hg : Gl y.X "range" := by rfl) (hs : starEach [a, b, c] y.X.env = [(false, eval a y.X.env), (false, eval b y.X.env), (false, eval c y.X.env)] := by rfl)
    (hs2 : starEach [b, c] y.X.env = [(false, eval b y.X.env), (false, eval c y.X.env)] := by rfl) (hs3 : starEach [c] y.X.env = [(false, eval c y.X.env)] := by rfl) : SI y tg (.Call (.Name "range" p) [a, b, c] [] pos) (iR3 oa ob oc) := si_range3 hg hm ha hb hc hs hs2 hs3
end

def blkB (N : List Str) (sc scope : Scope) (own : List (Str × Nat)) : Bool :=
  decide (scope.kind = .function) && scope.names.all (fun z => decide (scope.names.lookup z.1 = some z.2)) && own.all (fun z => decide (N[z.2]? = some z.1)) &&
  scope.names.all (fun z => decide (z.2 ≠ .free) || decide (sc.names.lookup z.1 = some .cell) || decide (sc.names.lookup z.1 = some .free)) &&
  scope.names.all (fun z => !(decide (z.2 = .local) || decide (z.2 = .cell)) || (own.map (·.1)).contains z.1 || !N.contains z.1)
theorem blk_ok {N : List Str} {sc scope : Scope} {own : List (Str × Nat)} (h : blkB N sc scope own = true) : BlkOk N sc scope own := by
  unfold blkB at h
  rw [Bool.and_eq_true, Bool.and_eq_true, Bool.and_eq_true, Bool.and_eq_true] at h
  obtain ⟨⟨⟨⟨h1, h2⟩, h3⟩, h4⟩, h5⟩ := h
  rw [List.all_eq_true] at h2 h3 h4 h5
  refine ⟨of_decide_eq_true h1, fun z hz => of_decide_eq_true (h2 z hz), fun z hz => of_decide_eq_true (h3 z hz), fun z hz e => ?_, fun z hz e => ?_⟩
  · have := h4 z hz
    rw [Bool.or_eq_true, Bool.or_eq_true] at this
    rcases this with (k | k) | k
    · exact absurd e (of_decide_eq_true k)
    · exact .inl (of_decide_eq_true k)
    · exact .inr (of_decide_eq_true k)
  · have := h5 z hz
    rw [Bool.or_eq_true, Bool.or_eq_true] at this
    rcases this with (k | k) | k
    · rw [Bool.not_eq_true', Bool.or_eq_false_iff] at k
      rcases e with e | e
      · exact absurd e (of_decide_eq_false k.1)
      · exact absurd e (of_decide_eq_false k.2)
    · exact .inl (List.contains_iff_mem.mp k)
    · refine .inr fun hm => ?_
      rw [List.contains_iff_mem.mpr hm] at k
      cases k

/-! ### x[::-1] -/
section
variable {prog : Program} {w : World} {A : Around} {E : Value → Shared → Prop} {s : Shared}
theorem fm_congr {α β : Type} {f g : α → Option β} : ∀ {l : List α}, (∀ x ∈ l, f x = g x) → l.filterMap f = l.filterMap g
  | [], _ => rfl
  | x :: l, h => by
    rw [List.filterMap_cons, List.filterMap_cons, h x List.mem_cons_self, fm_congr (l := l) fun y hy => h y (List.mem_cons_of_mem _ hy)]
theorem adjust_turn (n : Nat) : Builtin.Slice.sliceAdjust none none (-1) (n : Int) = ((n : Int) - 1, -1) := rfl
theorem places_turn (n : Nat) : Builtin.Slice.slicePlaces ((n : Int) - 1) (-1) (-1) = n := by
  unfold Builtin.Slice.slicePlaces
  rw [if_neg (by decide)]
  by_cases h : (n : Int) - 1 > -1
  · rw [if_pos h]
    have : ((n : Int) - 1 - -1 - 1) / (- -1) = (n : Int) - 1 := by
      rw [show (- -1 : Int) = 1 by decide, Int.ediv_one]
      omega
    rw [this]
    omega
  · rw [if_neg h]
    omega
theorem pick_turn (items : Array Value) : ((List.range items.size).filterMap fun (k : Nat) => items[(((items.size : Int) - 1) + (k : Int) * (-1)).toNat]?) = items.toList.reverse := by
  have e : (List.range items.size).filterMap (fun (k : Nat) => items[(((items.size : Int) - 1) + (k : Int) * (-1)).toNat]?) = ((List.range items.size).map fun k => items.size - 1 - k).filterMap (items[·]?) := by
    rw [List.filterMap_map]
    refine fm_congr fun k hk => ?_
    have hk := List.mem_range.mp hk
    have z : (((items.size : Int) - 1) + (k : Int) * (-1)).toNat = items.size - 1 - k := by omega
    rw [z]
    rfl
  rw [e, PySem.W.krv_range, List.filterMap_reverse, PySem.W.krv_all]
/-- t[::-1] -/
theorem tuple_turned {t sl : Addr} {items : Array Value} {u : Tok} {Q : Value → Shared → Prop} (ht : IsTup s.heap t items) (hs : s.heap.IsSliceOf sl .none .none (.int (-1) u))
    (h : Q (.ref s.heap.objs.size) { s with heap := s.heap.push { cls := .type "tuple", data := .seq items.toList.reverse.toArray } }) (hz : items.size ≤ sizeLine) : wpAny (model prog w) A (getItem (.ref t) (.ref sl)) Q E s := by
  have room : sizeOk (.seq items.toList.reverse.toArray) := by
    show items.toList.reverse.toArray.size ≤ sizeLine
    rw [List.size_toArray, List.length_reverse, Array.length_toList]
    exact hz
  obtain ⟨os, hos, hcs, hds⟩ := id hs
  have hT : s.TypeIs (.ref sl) "slice" := ⟨os, hos, hcs⟩
  unfold getItem
  try with_reducible refine wpAny_holding ?_
  first | refine wpAny_bind (wpAny_pure ?_) | skip
  refine wpAny_bind (wpAny_sequenceKey ht.typeIs (by decide) ?_)
  refine wpAny_bind (wpAny_callSpecial?_slot (name := Str.ofString "__getitem__") ht.typeIs PyProof.Rows.slot_tuple_getitem (wpAny_call_entry PyProof.Rows.slot_tuple_getitem ht.typeIs entry_tuple_getitem ?_ (args_tuple_getitem _ _)))
  show wpAny _ _ (Builtin.Tuple.tupleItemsOf (.ref t) >>= _) _ _ s
  refine wpAny_bind (tupleItemsOf_ ht ?_)
  refine wpAny_bind (wpAny_typeOf hT ?_)
  rw [if_pos (by decide)]
  refine wpAny_bind ?_
  unfold Builtin.Slice.sliceApplied Builtin.Slice.sliceFields
  refine wpAny_bind (wpAny_bind (wpAny_field hos hds (x := .none) rfl (wpAny_bind (wpAny_field hos hds (x := .none) rfl (wpAny_bind (wpAny_field hos hds (x := .int (-1) u) rfl (wpAny_pure ?_)))))))
  refine wpAny_bind (HT.slicePart_ (.int (-1) u) ?_)
  show wpAny _ _ (if ((-1 : Int) == 0) = true then _ else _) _ _ s
  rw [if_neg (by decide)]
  refine wpAny_bind (HT.slicePart_ .none (wpAny_bind (HT.slicePart_ .none (wpAny_bind (wpAny_pure ?_)))))
  show wpAny _ _ (match Builtin.Slice.sliceAdjust none none (-1) (items.size : Int) with | (lo, hi) => pure (lo, (-1 : Int), Builtin.Slice.slicePlaces lo hi (-1))) _ _ s
  rw [adjust_turn]
  refine wpAny_pure ?_
  dsimp only
  rw [places_turn]
  have no : ¬ (((items.size : Int) - 1 == 0 && (-1 : Int) == 1 && items.size == items.size) = true) := by
    intro z
    rw [Bool.and_eq_true, Bool.and_eq_true] at z
    exact absurd z.1.2 (by decide)
  rw [if_neg no, pick_turn]
  first
    | exact wpAny_bind (m := Builtin.Tuple.tupleExact _) (wpAny_newObj_type (wpAny_pure ⟨_, rfl, wpAny_pure h⟩) room)
    | exact wpAny_bind (m := Builtin.Tuple.tupleExact _) (wpAny_newObj_type (wpAny_bind (wpAny_pure (wpAny_pure ⟨_, rfl, wpAny_pure h⟩))) room)
    | exact wpAny_bind (wpAny_bind (m := Builtin.Tuple.tupleExact _) (wpAny_newObj_type (wpAny_pure (wpAny_pure ⟨_, rfl, wpAny_pure h⟩)) room))
    | exact wpAny_bind (wpAny_bind (m := Builtin.Tuple.tupleExact _) (wpAny_newObj_type (wpAny_pure ⟨_, rfl, wpAny_pure h⟩) room))
end

section
variable {X : Cx} {K : PySem.W.Frag}
abbrev rTurn (K : PySem.W.Frag) : V → Hp → VK → Prop := fun x H Q => ∃ a xs, x = .ref a ∧ ((SqL K H a xs ∧ ∀ p, H p = none → Q (.ref p) (upd H p (.lst xs.reverse))) ∨ (SqT K H a xs ∧ ∀ p o, H p = none → TupO xs.reverse o → Q (.ref p) (upd H p o)))
def opRev : OP1 := fun a q => match a.d with
  | .lst ds => q (.lst ds.reverse)
  | .tup ds => q (.fz (.tup ds.reverse))
  | _ => False
theorem snd_rev : Snd1 K (rTurn K) opRev where
  run := fun G H x mx F Q ex w q => by
    unfold opRev at q
    split at q
    · rename_i ds e
      obtain ⟨a, vs, rfl, h1, r1⟩ := own_lst ex w e
      exact ⟨a, vs, rfl, .inl ⟨.of h1, fun p n => q _ _ (.lst n r1.reverse)⟩⟩
    · rename_i ds e
      obtain ⟨a, vs, rfl, h1, r1⟩ := own_tup ex w e
      exact ⟨a, vs, rfl, .inr ⟨h1.sqT, fun p o n t => q _ _ (.tup n t r1.reverse)⟩⟩
    · exact q.elim
  mono := fun a q q' h k => by
    unfold opRev at *
    split at k
    · exact h _ k
    · exact h _ k
    · exact k.elim
theorem pe_turn {e : Expr} {te : TE} {k : Nat} {p1 p2 p3 pos : Pos} (he : PE X e te) : PE X (.Subscript e (.Slice none none (some (.UnaryOp .USub (.Constant (.int 1) k p1) p2)) p3) pos) (fun σ H Q => te σ H fun x H1 => rTurn X.K x H1 Q) := by
  refine ⟨fun pins s σ H Q I h => ?_⟩
  refine Subscript_ (thn (he.run pins s σ H _ I h) fun v s1 ⟨x, H1, I1, r1, q1⟩ => ?_)
  obtain ⟨a, xs, ex, q⟩ := q1
  subst ex
  cases r1
  have hst : PO X (some (.UnaryOp .USub (.Constant (.int 1) k p1) p2)) (tPart (tUn (rU fun i => .int (-i)) (tC (.int 1)))) := po_some (pe_un un_neg pe_int)
  refine wpAny_Slice ?_
  rw [evalPart_none]
  refine wpAny_pure (wpAny_pure ?_)
  refine thn (hst.run pins s1 σ H1 (fun o H4 => o = some (-1) ∧ H4 = H1) I1 ⟨1, rfl, -1, rfl, rfl, rfl⟩) fun vs s4 ⟨o, H4, I4, ps, eo, e4⟩ => ?_
  subst eo e4
  have I5 : Inv X pins σ H4 { s4 with heap := s4.heap.push { cls := .type "slice", data := .fields #[.none, .none, vs] } } := I4.kept (t' := s4.toks) fun b ob q => Heap.get?_push_of_some _ q
  show wpAny (model X.prog X.w) X.A (subscriptTail e (.Slice none none (some (.UnaryOp .USub (.Constant (.int 1) k p1) p2)) p3) (.ref a) (.ref s4.heap.objs.size)) (EP X pins σ Q) X.xe { s4 with heap := s4.heap.push { cls := .type "slice", data := .fields #[.none, .none, vs] } }
  rcases q with ⟨hx, q⟩ | ⟨hx, q⟩
  · obtain ⟨its, r, ht, hz⟩ := I5.list hx
    have hlen := r.length
    refine tail_any (ops := [.ref a, .ref s4.heap.objs.size]) ht.isList.typeIs (PySem.slot_list_getitem.lookup) ?_ (by with_unfolding_all rfl)
    refine wpAny_getItem_list_slice ht.isList (Heap.IsSliceOf.new _ _ _ _) .none .none ps (by decide) ?_ (by rw [List.size_toArray]; omega)
    rw [PySem.W.krv_pick]
    exact ⟨.ref _, _, I5.laid (t' := s4.toks) (o := .lst xs.reverse) (fun b ob q => Heap.get?_push_of_some _ q) (Nat.le_refl _) ⟨by rw [List.length_reverse]; exact hz, _, 0, r.reverse, Heap.get?_push_size _ rfl⟩, rfl, q _ (I5.hok.fresh (Nat.le_refl _))⟩
  · obtain ⟨its, r, ht, hz⟩ := I5.tuple hx
    have hlen := r.length
    refine tail_any (ops := [.ref a, .ref s4.heap.objs.size]) ht.typeIs (PyProof.Rows.slot_tuple_getitem.lookup) ?_ (by with_unfolding_all rfl)
    cases ps with
    | int _ u =>
      refine tuple_turned ht (Heap.IsSliceOf.new _ _ _ _) ?_ (by rw [List.size_toArray]; omega)
      obtain ⟨o, t, I6⟩ := laid_tup I5 (xs := xs.reverse) (by rw [List.length_reverse]; exact hz) r.reverse
      exact ⟨.ref _, _, I6, rfl, q _ _ (I5.hok.fresh (Nat.le_refl _)) t⟩
theorem xrev {y : Y} {e : Expr} {oa : WO} {k : Nat} {p1 p2 p3 pos : Pos} (h : SO y e oa) : SE y (.Subscript e (.Slice none none (some (.UnaryOp .USub (.Constant (.int 1) k p1) p2)) p3) pos) (w1 opRev oa) :=
  ⟨PE_imp (pe_turn h.run) (lift1 snd_rev h.mono), mono_w1 (K := y.X.K) snd_rev h.mono⟩
end

/-! ### name op= e -/
section
variable {y : Y} {κ : List (Nat × V)} {op : OP2} {r : R2} {i : Nat} {o : WO} {x : Str} {e : Expr} {oo : Operator} {pos pos' : Pos}
theorem mono_sAug {K : PySem.W.Frag} (hs : Snd2 K r op) (ho : MonoO o) : MonoS (sAug op i o) := fun E E' e l q => by
  unfold sAug at *
  split at q
  · exact ho _ _ _ _ _ (fun a e1 q => withO_mono (fun m q => hs.mono _ _ _ _ (fun m q => l.nx _ q) q) q) l.ex q
  · exact q.elim
theorem ss_aug (hs : Snd2 y.X.K r op) (hp : OpR y.X (inplaceOp oo) r) (hN : y.X.N.Nodup) (hi : y.X.N[i]? = some x) (hx : Loc y.X.env.scope x) (h : SO y e o) (hf : y.X.fn x = true ∨ y.X.env.scope.names.lookup x = some .local) (hκ : ∀ p ∈ κ, p.1 ≠ i) :
    SS y κ (.AugAssign (.Name x pos') oo e pos) (sAug op i o) where
  run := PS_imp (ps_aug (ti := r) hN hi hx h.run (fun pins s σ H x y v u Q I rx ry q => hp pins s σ H x y v u Q I rx ry q) hf) fun D σ H ⟨e, P, hk, h0, q⟩ => by
    unfold sAug at q
    split at q
    · rename_i d ed
      obtain ⟨v, ev, mem⟩ := h0.peek ed
      -- a second look at the place
      obtain ⟨G, g⟩ := h0.2.opn
      obtain ⟨F, w⟩ := g.own _ mem
      have h1 : Ok y.X.K H σ e ((v, .fz d) :: P) := by
        cases w with
        | fz w => exact ⟨h0.1, (g.res _ _ _ (.same w)).perm List.perm_middle.symm⟩
      refine ⟨v, ev, e, (v, .fz d) :: P, h1, h.mono _ _ _ _ _ (fun a e1 q u H1 o1 => ?_) (fun _ _ q c d H' r o => q σ c d H' hk r o.pop) q⟩
      obtain ⟨o1, p1⟩ := o1
      obtain ⟨m, m1, q⟩ := withO_mem o1 p1 q
      have e1 : pend a u ++ (v, M.fz d) :: P = (pend a u ++ [(v, M.fz d)]) ++ P := by simp
      rw [e1] at o1 m1
      obtain ⟨G1, g1⟩ := o1.2.opn
      obtain ⟨F1, w1⟩ := g1.own _ m1
      obtain ⟨F2, w2⟩ := g1.own (v, .fz d) (List.mem_append_right _ (List.mem_append_left _ (List.mem_append_right _ List.mem_cons_self)))
      refine hs.run G1 H1 v u (.fz d) m F2 F1 _ g1.ex w2 w1 (hs.mono _ _ _ _ (fun m' q z H2 r2 => ?_) q)
      exact q _ _ (hk.set hκ) (store_any i (g1.fin o1.1 r2))
    · exact q.elim
  mono := mono_sAug hs h.mono
end
section
variable {y : Y} {κ : List (Nat × V)} {o : WO} {x : Str} {e : Expr} {pos pos' : Pos} {K : PySem.W.Frag}
def opAddI : OP2 := opII (fun _ _ => True) fun i j => .int (i + j)
theorem yaugAdd (i : Nat) (h : SO y e o) (nd : y.X.N.Nodup) (hi : y.X.N[i]? = some x := by rfl) (hx : Loc y.X.env.scope x := by first | exact .inl rfl | exact .inr rfl) (hf : y.X.fn x = true ∨ y.X.env.scope.names.lookup x = some .local := by first | exact .inl rfl | exact .inr rfl)
    (hκ : ∀ p ∈ κ, p.1 ≠ i := by exact pin_ne rfl) : SS y κ (.AugAssign (.Name x pos') .Add e pos) (sAug opAddI i o) := ss_aug (snd_II0 fun _ _ => rfl) iop_add nd hi hx h hf hκ
theorem yaugSub (i : Nat) (h : SO y e o) (nd : y.X.N.Nodup) (hi : y.X.N[i]? = some x := by rfl) (hx : Loc y.X.env.scope x := by first | exact .inl rfl | exact .inr rfl) (hf : y.X.fn x = true ∨ y.X.env.scope.names.lookup x = some .local := by first | exact .inl rfl | exact .inr rfl)
    (hκ : ∀ p ∈ κ, p.1 ≠ i := by exact pin_ne rfl) : SS y κ (.AugAssign (.Name x pos') .Sub e pos) (sAug opSub i o) := ss_aug snd_sub iop_sub nd hi hx h hf hκ
end
end VW

set_option Elab.async false
set_option linter.all false
set_option maxRecDepth 100000
/-! VW15: a set made of a list's or a tuple's keys (numbers, texts): its size, its members sorted. -/
namespace VW
open PySem PySem.Spec PyProof.Rows L2

def kOf : Value → Key
  | .int k _ => .inl k
  | .str x _ => .inr x
  | _ => .inl 0
def EntK (w : World) (e : Int × Value) : Prop := keyIs (kOf e.2) e.2 = true ∧ e.1 = keyH w (kOf e.2)
def keysOf (es : Array (Int × Value)) : List Key := es.toList.map fun e => kOf e.2
/-- first met, first told -/
def hasK (ks : List Key) (k : Key) : Bool := ks.any fun x => decide (x = k)
theorem hasK_iff {ks : List Key} {k : Key} : hasK ks k = true ↔ k ∈ ks := by
  unfold hasK
  rw [List.any_eq_true]
  exact ⟨fun ⟨x, hx, e⟩ => of_decide_eq_true e ▸ hx, fun h => ⟨k, h, decide_eq_true rfl⟩⟩
def addK (ks : List Key) (k : Key) : List Key := if hasK ks k = true then ks else ks ++ [k]
/-- at a stands the set of the keys ks, each once; its table can be walked -/
structure SetK (w : World) (h : Heap) (a : Addr) (ks : List Key) (o : Obj) (es : Array (Int × Value)) (ep : Nat) (t : SetTable) : Prop where
  ob : h.get? a = some o
  ex : o.ExactSet
  dat : o.data = .set es ep t
  ent : ∀ e ∈ es.toList, EntK w e
  nd : ks.Nodup
  pm : (keysOf es).Perm ks
  few : es.size < scanBound
  fit : t.fits es.size = true
  ris : Ris t.place.toList
  led : w.params.followText "set-order" = true ∨ t.led = true
def IsSetK (w : World) (h : Heap) (a : Addr) (ks : List Key) : Prop := ∃ o es ep t, SetK w h a ks o es ep t
section
variable {P : Program} {w : World} {h h' : Heap} {a : Addr} {ks : List Key}
theorem IsSetK.at (R : IsSetK w h a ks) (k : ∀ o, h.get? a = some o → h'.get? a = some o) : IsSetK w h' a ks := by
  obtain ⟨o, es, ep, t, r⟩ := R
  exact ⟨o, es, ep, t, k _ r.ob, r.ex, r.dat, r.ent, r.nd, r.pm, r.few, r.fit, r.ris, r.led⟩
theorem kOf_is {k : Key} {v : Value} (h : keyIs k v = true) : kOf v = k := by
  rcases keyIs_shape h with ⟨i, t, rfl, rfl⟩ | ⟨x, t, rfl, rfl⟩ <;> rfl
theorem key_scans {k : Key} {v : Value} (h : keyIs k v = true) : v.scannable = true := by
  rcases keyIs_shape h with ⟨i, t, rfl, rfl⟩ | ⟨x, t, rfl, rfl⟩ <;> rfl
theorem ent_elems {l : List (Int × Value)} (g : ∀ e ∈ l, EntK w e) : ElemsOf (mixKind P w) l := fun e he => ⟨⟨_, (g e he).1, (g e he).2⟩, key_scans (g e he).1⟩
theorem ent_mem {l : List (Int × Value)} (g : ∀ e ∈ l, EntK w e) (k : Key) : (∃ e ∈ l, (mixKind P w).is k e.2 = true) ↔ k ∈ l.map fun e => kOf e.2 := by
  rw [List.mem_map]
  exact ⟨fun ⟨e, he, q⟩ => ⟨e, he, kOf_is q⟩, fun ⟨e, he, q⟩ => ⟨e, he, q ▸ (g e he).1⟩⟩
theorem SetK.len {o es ep t} (R : SetK w h a ks o es ep t) : es.size = ks.length := by
  rw [← R.pm.length_eq]
  unfold keysOf
  rw [List.length_map, Array.length_toList]
theorem addK_nodup {k : Key} (h : ks.Nodup) : (addK ks k).Nodup := by
  unfold addK
  split
  · exact h
  · rename_i no
    exact List.nodup_append.mpr ⟨h, List.nodup_cons.mpr ⟨by simp, List.nodup_nil⟩, fun x hx y hy e => by simp at hy; subst hy; subst e; exact no (hasK_iff.mpr hx)⟩
theorem addK_len (ks : List Key) (k : Key) : (addK ks k).length ≤ ks.length + 1 := by
  unfold addK
  split <;> simp
end
section
variable {P : Program} {w : World} {A : Around} {E : Value → Shared → Prop} {s : Shared} {a : Addr} {ks : List Key}
/-- one member more: what is laid, and laid anew in a greater table where it is full -/
theorem setK_lay {g : Bool → Sem Unit} (hg : ∀ (b : Bool) (s₁ : Shared) (Q' : Unit → Shared → Prop), Q' () s₁ → wpAny (model P w) A (g b) Q' E s₁) {o : Obj} {es es1 : Array (Int × Value)} {ep : Nat} {t t2 : SetTable}
    (ho : s.heap.get? a = some o) (hx : o.ExactSet) (hd : o.data = .set es ep t) (en : ∀ e ∈ es1.toList, EntK w e) (nd : ks.Nodup) (pm : (keysOf es1).Perm ks) (few : es1.size < scanBound) (fit : t2.fits es1.size = true) (ris : Ris t2.place.toList)
    (led : w.params.followText "set-order" = true ∨ t2.led = true) {wasDummy : Bool} {R : Option Bool → Shared → Prop} (hR : ∀ h', Heap.SameBut a s.heap h' → IsSetK w h' a ks → R (some true) { s with heap := h' }) :
    wpAny (model P w) A (do
        storeSet a es1 t2
        if (!wasDummy && t2.tooFull) = true then do
            g (relayAll t2 es1 (SetTable.grown es1.size)).2.2
            storeSet a (relayAll t2 es1 (SetTable.grown es1.size)).1 (relayAll t2 es1 (SetTable.grown es1.size)).2.1
            pure (some true)
          else pure (some true)) R E s := by
  have first := store_at (es' := es1) (t' := t2) ho hd
  have same := Heap.SameBut.update s.heap a (Obj.putSet es1 t2)
  refine wpAny_bind (wpAny_storeSet_of ho hd ?_ (fits_of_scanBound few))
  split
  · have p1 := relayAll_perm t2 es1 (SetTable.grown es1.size)
    have p2 := relayAll_fits t2 es1 (SetTable.grown es1.size)
    have p3 := relayAll_ris t2 es1 (SetTable.grown es1.size)
    have p4 := relayAll_led t2 es1 (SetTable.grown es1.size)
    generalize relayAll t2 es1 (SetTable.grown es1.size) = Z at p1 p2 p3 p4 ⊢
    obtain ⟨es2, t3, gave⟩ := Z
    dsimp only at p1 p2 p3 p4 ⊢
    have size : es2.size = es1.size := by
      have := p1.length_eq
      rwa [Array.length_toList, Array.length_toList] at this
    refine wpAny_bind (hg _ _ _ (wpAny_bind (wpAny_storeSet_of first rfl ?_ (fits_of_scanBound (by rw [size]; exact few)))))
    refine wpAny_pure (hR _ (same.trans (Heap.SameBut.update _ a _)) ⟨_, es2, _, t3, store_at first rfl, hx, rfl, fun e he => en e (p1.mem_iff.mp he), nd, (p1.map _).trans pm, by rw [size]; exact few, p2, p3, led.imp id fun z => by rw [p4]; exact z⟩)
  · exact wpAny_pure (hR _ same ⟨_, es1, _, t2, first, hx, rfl, en, nd, pm, few, fit, ris, led⟩)
theorem setK_add {k : Key} {v : Value} (hk : keyIs k v = true) {Q : Bool → Shared → Prop} (R : IsSetK w s.heap a ks) (room : ks.length + 1 < scanBound)
    (hQ : ∀ b h', Heap.SameBut a s.heap h' → IsSetK w h' a (addK ks k) → Q b { s with heap := h' }) : wpAny (model P w) A (setAddHashed a v ((mixKind P w).hash k)) Q E s := by
  obtain ⟨o, es, ep, t, r⟩ := R
  have sc := key_scans hk
  have el : ElemsOf (mixKind P w) es.toList := ent_elems r.ent
  unfold setAddHashed setAddHashedIn
  refine wpAny_holding (wpAny_bind (wpAny_setState_of r.ob r.dat r.fit ?_))
  dsimp only
  rw [byScan_of sc r.few el]
  simp only [↓reduceIte]
  unfold setAddByScan
  refine wpAny_bind (wpAny_bind (wpAny_rule (wpAny_bind (wpAny_setScan_of (knd := mixKind P w) (k := k) hk r.ob r.dat r.fit el ?_))))
  cases look : List.findIdx? (fun e => (mixKind P w).is k e.2) es.toList with
  | some j =>
    obtain ⟨hj, pj, _⟩ := List.findIdx?_eq_some_iff_getElem.mp look
    have mem : k ∈ ks := r.pm.mem_iff.mp ((ent_mem (P := P) r.ent k).mp ⟨_, List.getElem_mem hj, pj⟩)
    have same : addK ks k = ks := if_pos (hasK_iff.mpr mem)
    exact wpAny_pure (wpAny_pure (hQ _ s.heap (Heap.SameBut.refl a s.heap) (by rw [same]; exact ⟨o, es, ep, t, r⟩)))
  | none =>
    dsimp only
    have out : k ∉ ks := fun z => by
      obtain ⟨e, he, q⟩ := (ent_mem (P := P) r.ent k).mpr (r.pm.mem_iff.mpr z)
      have c := List.findIdx?_eq_none_iff.mp look e he
      rw [q] at c
      cases c
    have more : addK ks k = ks ++ [k] := if_neg fun z => out (hasK_iff.mp z)
    have says : ∀ (b : Bool) {s₁ : Shared} {Q' : Unit → Shared → Prop}, Q' () s₁ → wpAny (model P w) A (match b with | true => rule "set.scan.the-table-gave-way" | false => pure ()) Q' E s₁ :=
      fun b s₁ Q' q => by cases b <;> first | exact wpAny_pure q | exact wpAny_rule q
    have p1 := layNew_perm t es ((mixKind P w).hash k) v
    have p2 := layNew_fits t es ((mixKind P w).hash k) v
    have p3 := layNew_ris t es ((mixKind P w).hash k) v r.ris
    have p4 := layNew_led t es ((mixKind P w).hash k) v
    generalize layNew t es ((mixKind P w).hash k) v = Z at p1 p2 p3 p4 ⊢
    obtain ⟨es1, t1, wasDummy, gave⟩ := Z
    dsimp only at p1 p2 p3 p4 ⊢
    rw [Array.toList_push] at p1
    have en : ∀ e ∈ es1.toList, EntK w e := fun e he => by
      rcases List.mem_append.mp (p1.mem_iff.mp he) with z | z
      · exact r.ent e z
      · have ez : e = ((mixKind P w).hash k, v) := by simpa using z
        subst ez
        exact ⟨by rw [kOf_is hk]; exact hk, by rw [kOf_is hk] <;> rfl⟩
    have pm : (keysOf es1).Perm (addK ks k) := by
      rw [more]
      have z := p1.map fun e => kOf e.2
      rw [List.map_append] at z
      refine z.trans ?_
      show ((keysOf es) ++ [kOf v]).Perm _
      rw [kOf_is hk]
      exact r.pm.append_right _
    have nd := addK_nodup (k := k) r.nd
    have size : es1.size = ks.length + 1 := by
      have := p1.length_eq
      rw [Array.length_toList, List.length_append, Array.length_toList, r.len] at this
      exact this
    have few : es1.size < scanBound := by rw [size]; exact room
    have led : w.params.followText "set-order" = true ∨ t1.led = true := r.led.imp id fun z => by rw [p4]; exact z
    refine wpAny_bind (says _ ?_)
    split
    · refine wpAny_bind ?_
      rw [hashByValue_scannable 8 sc]
      refine wpAny_pure (setK_lay ?_ r.ob r.ex r.dat en nd pm few ?_ ?_ ?_ fun h' sb q => ?_)
      · intro b s₁ Q' q
        cases b <;> first | exact wpAny_pure q | exact wpAny_rule q
      · first | (split <;> first | exact p2 | exact SetTable.fits_plain_off p2) | exact p2
      · first | (split <;> exact p3) | exact p3
      · first | (split <;> exact led) | exact led
      · exact wpAny_pure (hQ _ h' sb q)
    · refine wpAny_bind (wpAny_pure ?_)
      simp only [↓reduceIte]
      refine setK_lay ?_ r.ob r.ex r.dat en nd pm few p2 p3 led fun h' sb q => ?_
      · intro b s₁ Q' q
        cases b <;> first | exact wpAny_pure q | exact wpAny_rule q
      · exact wpAny_pure (hQ _ h' sb q)
end

def dedK (ks : List Key) : List Key := ks.foldl addK []
theorem dedK_snoc (ks : List Key) (k : Key) : dedK (ks ++ [k]) = addK (dedK ks) k := by
  unfold dedK
  rw [List.foldl_append]
  rfl
theorem dedK_len (ks : List Key) : (dedK ks).length ≤ ks.length := by
  have key : ∀ (ks acc : List Key), (ks.foldl addK acc).length ≤ acc.length + ks.length := by
    intro ks
    induction ks with
    | nil => exact fun acc => Nat.le_refl _
    | cons k ks ih =>
      intro acc
      have h1 := ih (addK acc k)
      have h2 := addK_len acc k
      rw [List.foldl_cons, List.length_cons]
      omega
  have := key ks []
  rw [List.length_nil, Nat.zero_add] at this
  exact this
section
variable {P : Program} {w : World} {A : Around} {E : Value → Shared → Prop} {s : Shared}
theorem setK_loop {I : Addr} {fp wr : List Addr} {G : Array GenState → Array GenState → Prop} {n : Nat} {Pv : Nat → Value → Prop} {St : Nat → Shared → Prop} {R : Result → Shared → Prop} (W : WalksS P w A.in1 I fp wr G n Pv St) (S : Addr) (hSf : S ∉ fp) (xs : List Key)
    (hn : n = xs.length) (hb : xs.length + 1 < scanBound) (hval : ∀ i v, Pv i v → ∃ k, xs[i]? = some k ∧ keyIs k v = true) :
    ∀ (k i : Nat) (s : Shared), n - i = k → i ≤ n → St i s → IsSetK w s.heap S (dedK (xs.take i)) → (∀ s', Moved (S :: wr) G s s' → IsSetK w s'.heap S (dedK xs) → R (.ok (.ret .none)) s') →
      codeAny (model P w) A (.builtin "set.update.loop" ⟨[.ref S, .ref I], []⟩) R s := by
  have off : S ∉ wr := fun h => hSf (W.sub _ h)
  have less : ∀ b ∈ wr, b ∈ S :: wr := fun b h => List.mem_cons_of_mem _ h
  intro k
  induction k with
  | zero =>
    intro i s hk hi st hS hR
    have ei : i = n := by omega
    subst ei
    refine codeAny_builtin PyProof.Rows.F.entry_set_update_loop ?_
    rw [Around.under_plainId PyProof.Rows.F.plain_set_update_loop _]
    show wpAny _ A.in1 (pyNext (.ref I) >>= _) _ _ s
    refine wpAny_bind (W.done s _ _ st fun s' hm => ?_)
    show wpAny _ A.in1 (ret Value.none) _ _ s'
    rw [List.take_of_length_le (by omega)] at hS
    exact wpAny_pure (hR s' (hm.mono less) (hS.at fun o e => hm.heap S o off e))
  | succ k ih =>
    intro i s hk hi st hS hR
    have lt : i < n := by omega
    refine codeAny_builtin PyProof.Rows.F.entry_set_update_loop ?_
    rw [Around.under_plainId PyProof.Rows.F.plain_set_update_loop _]
    show wpAny _ A.in1 (pyNext (.ref I) >>= _) _ _ s
    refine wpAny_bind (W.item i s _ _ lt st fun v s' hP st' hm => ?_)
    obtain ⟨z, hz, hv⟩ := hval i v hP
    have hS1 : IsSetK w s'.heap S (dedK (xs.take i)) := hS.at fun o e => hm.heap S o off e
    have le1 := dedK_len (xs.take i)
    have le2 : (xs.take i).length ≤ i := by
      rw [List.length_take]
      omega
    show wpAny _ A.in1 (holding [v] (setAdd S v) >>= _) _ _ s'
    refine wpAny_bind (wpAny_holding ?_)
    unfold setAdd
    refine wpAny_holding (wpAny_bind ((mixKind P w).pyHash (k := z) hv ?_))
    refine setK_add (s := { s' with toks := s'.toks + 1 }) hv hS1 (by omega) fun b h' sb hS2 => ?_
    rw [← dedK_snoc, show xs.take i ++ [z] = xs.take (i + 1) by rw [List.take_add_one, hz] <;> rfl] at hS2
    refine wpAny_pure ⟨plainId_quiet PyProof.Rows.F.plain_set_update_loop _, ih (i + 1) _ (by omega) lt (W.frame _ s' _ _ st' (Nat.le_succ _) fun c hc o e => ?_) hS2 fun s2 hm2 hS3 => ?_⟩
    · rw [sb.2 c fun z => hSf (z ▸ hc)]
      exact e
    · refine hR s2 (Moved.trans W.gtrans ((hm.mono less).then_heap (Nat.le_succ _) fun c o hc e => ?_) hm2) hS3
      rw [sb.2 c fun z => hc (by rw [z]; exact List.mem_cons_self)]
      exact e
def bare (w : World) : Obj := { cls := .type "set", dict := none, data := .set #[] 0 (.fresh 0 0 (!w.params.followText "set-order")) }
theorem setK_bare {h : Heap} {a : Addr} (ho : h.get? a = some (bare w)) : IsSetK w h a [] :=
  ⟨_, #[], 0, _, ho, ⟨rfl, rfl, rfl⟩, rfl, fun e he => by simp at he, List.nodup_nil, .refl _, by decide, rfl, List.Pairwise.nil, by
    show _ ∨ (!w.params.followText "set-order") = true
    cases w.params.followText "set-order"
    · exact .inr rfl
    · exact .inl rfl⟩
/-- what stands at l is walked: a list, a tuple -/
def SeqAtl (h : Heap) (l : Addr) (items : Array Value) : Prop := h.IsList l items ∨ h.IsTuple l items
theorem SeqAtl.obj {h : Heap} {l : Addr} {items : Array Value} (x : SeqAtl h l items) : ∃ T, (T = "list" ∨ T = "tuple") ∧ ∃ d n sl, h.get? l = some { cls := .type T, dict := d, data := .seq items n, slots := sl } := by
  rcases x with ⟨⟨c, d, dat, sl⟩, ho, hc, n, hd⟩ | ⟨⟨c, d, dat, sl⟩, ho, hc, n, hd⟩
  · simp only at hc hd
    subst hc hd
    exact ⟨_, .inl rfl, d, n, sl, ho⟩
  · simp only at hc hd
    subst hc hd
    exact ⟨_, .inr rfl, d, n, sl, ho⟩
end
section
variable {P : Program} {w : World} {A : Around} {E : Value → Shared → Prop} {s : Shared}
set_option maxHeartbeats 3200000 in
theorem call_setK_list {l : Addr} {items : Array Value} {xs : List Key} {Q : Value → Shared → Prop} (hh : A.handled = none) (hl : s.heap.IsList l items) (hsz : items.size = xs.length) (hk : ∀ (i : Nat) (v : Value), items[i]? = some v → ∃ k, xs[i]? = some k ∧ keyIs k v = true) (hb : xs.length + 1 < scanBound)
    (h : ∀ (h' : Heap) (tk : Nat), IsSetK w h' s.heap.objs.size (dedK xs) → (∀ b o, s.heap.get? b = some o → h'.get? b = some o) → Q (.ref s.heap.objs.size) { s with heap := h', toks := tk }) : wpAny (model P w) A (call (.type "set") [.ref l]) Q E s := by
  obtain ⟨_, _, mro⟩ := PySem.F.called_set.mro
  have made := PySem.F.called_set.made
  have sub := PySem.F.called_set.sub
  refine wpAny_call (codeAny_of_tree ?_)
  show wpAny _ _ (callAny (.type "set") _) _ _ _
  refine wpAny_pure ⟨Code.quiet_builtin _ (by decide +kernel), codeAny_builtin PySem.F.entry_type_call ?_⟩
  rw [Around.under_plain (weight_type_call_type "set" [.ref l] []) rfl]
  have n1 := PySem.F.called_set.notType
  have n2 := PySem.F.called_set.canCreate
  have n3 := PySem.F.typeCall_set_1 (.ref l)
  repeat (any_goals (first | assumption | wp_step))
  refine codeAny_mono (L2.code_set_led1 (.ref l) (E := E) (Q₁ := fun obj s₁ => obj = .ref s.heap.objs.size ∧ s₁ = { s with heap := s.heap.push (bare w) }) ⟨rfl, rfl⟩) fun r s₁ hr => ?_
  cases r with
  | error e => exact hr
  | ok fl =>
    cases fl with
    | ret obj =>
      obtain ⟨rfl, rfl⟩ := hr
      have atS : (s.heap.push (bare w)).get? s.heap.objs.size = some (bare w) := Heap.get?_push_size _ rfl
      have hT : Shared.TypeIs { s with heap := s.heap.push (bare w) } (.ref s.heap.objs.size) "set" := ⟨_, atS, rfl⟩
      have n4 := PySem.F.called_set.init.lookup
      have n5 := PySem.F.called_set.init.bind (.ref s.heap.objs.size)
      repeat (any_goals (first | assumption | wp_step))
      refine codeAny_mono (codeAny_call_builtin (R := wants (fun r s₂ => r = .none ∧ ∃ h' tk, s₂ = { s with heap := h', toks := tk } ∧ IsSetK w h' s.heap.objs.size (dedK xs) ∧ (∀ b o, s.heap.get? b = some o → h'.get? b = some o)) E)
        PySem.F.called_set.init.plain PySem.F.entry_set_init (check_set_init_1 hT ?_)) fun r₂ s₂ hr₂ => ?_
      · obtain ⟨⟨_, _, _, _⟩, hol, hc, nl, hd⟩ := hl
        simp only at hc hd
        subst hc hd
        have at1 := Heap.get?_push_of_some (bare w) hol
        have n6 := PySem.F.sub_list_set
        have n7 := PySem.F.sub_list_frozenset
        have n8 : (Value.type "list" == Value.type "dict") = false := by decide
        have seq : (s.heap.push (bare w)).IsList l items := ⟨_, at1, rfl, nl, rfl⟩
        unfold Builtin.«set.__init__» noKeywords Builtin.Frozenset.updateFrom
        generalize keep : pyIter = PI
        wp_walk
        subst keep
        refine wpAny_pyIter_list seq (wpAny_bind (wpAny_runValue ?_))
        have below : l < s.heap.objs.size := Heap.lt_size hol
        have up : (s.heap.push (bare w)).objs.size = s.heap.objs.size + 1 := Heap.size_push ..
        have apart : s.heap.objs.size ∉ [(s.heap.push (bare w)).objs.size, l] := by
          rw [up]
          simp only [List.mem_cons, List.not_mem_nil, or_false, not_or]
          exact ⟨Nat.ne_of_lt (Nat.lt_succ_self _), Nat.ne_of_gt below⟩
        refine setK_loop ((Walks.list (show A.in1.in1.in1.handled = none by simp [hh]) _ l (by rw [up]; exact Nat.ne_of_lt (Nat.lt_succ_of_lt below)) items).toS) s.heap.objs.size apart xs hsz hb hk (items.size - 0) 0 _ (by omega) (Nat.zero_le _) ⟨⟨_, Heap.get?_push_size _ rfl, rfl, rfl⟩, seq.push _⟩ ?one ?all
        case one => exact setK_bare (Heap.get?_push_of_some _ atS)
        case all =>
          intro s' hm made
          obtain ⟨h', g2, d', tk', os'⟩ := s'
          have e1 : g2 = s.gens := hm.gens
          have e2 : d' = s.drawn := hm.drawn
          have e3 : os' = s.os := hm.os
          subst e1 e2 e3
          show wpAny _ _ _ _ _ _
          refine wpAny_pure ?_
          show wpAny _ _ (ret Value.none) _ _ _
          refine wpAny_pure ⟨rfl, h', tk', rfl, made, fun b o e => ?_⟩
          have lt := Heap.lt_size e
          refine hm.heap b o ?_ (Heap.get?_push_of_some _ (Heap.get?_push_of_some _ e))
          rw [up]
          simp only [List.mem_cons, List.not_mem_nil, or_false, not_or]
          exact ⟨Nat.ne_of_lt lt, Nat.ne_of_lt (Nat.lt_succ_of_lt lt)⟩
      · cases r₂ with
        | error e => exact hr₂
        | ok fl₂ =>
          cases fl₂ with
          | ret r =>
            obtain ⟨rfl, h', tk, rfl, made, keep⟩ := hr₂
            repeat (any_goals (first | assumption | wp_step))
            exact h _ _ made keep
          | _ => exact hr₂.elim
    | _ => exact hr.elim
set_option maxHeartbeats 3200000 in
theorem call_setK_tuple {l : Addr} {items : Array Value} {xs : List Key} {Q : Value → Shared → Prop} (hh : A.handled = none) (hl : s.heap.IsTuple l items) (hsz : items.size = xs.length) (hk : ∀ (i : Nat) (v : Value), items[i]? = some v → ∃ k, xs[i]? = some k ∧ keyIs k v = true) (hb : xs.length + 1 < scanBound)
    (h : ∀ (h' : Heap) (tk : Nat), IsSetK w h' s.heap.objs.size (dedK xs) → (∀ b o, s.heap.get? b = some o → h'.get? b = some o) → Q (.ref s.heap.objs.size) { s with heap := h', toks := tk }) : wpAny (model P w) A (call (.type "set") [.ref l]) Q E s := by
  obtain ⟨_, _, mro⟩ := PySem.F.called_set.mro
  have made := PySem.F.called_set.made
  have sub := PySem.F.called_set.sub
  refine wpAny_call (codeAny_of_tree ?_)
  show wpAny _ _ (callAny (.type "set") _) _ _ _
  refine wpAny_pure ⟨Code.quiet_builtin _ (by decide +kernel), codeAny_builtin PySem.F.entry_type_call ?_⟩
  rw [Around.under_plain (weight_type_call_type "set" [.ref l] []) rfl]
  have n1 := PySem.F.called_set.notType
  have n2 := PySem.F.called_set.canCreate
  have n3 := PySem.F.typeCall_set_1 (.ref l)
  repeat (any_goals (first | assumption | wp_step))
  refine codeAny_mono (L2.code_set_led1 (.ref l) (E := E) (Q₁ := fun obj s₁ => obj = .ref s.heap.objs.size ∧ s₁ = { s with heap := s.heap.push (bare w) }) ⟨rfl, rfl⟩) fun r s₁ hr => ?_
  cases r with
  | error e => exact hr
  | ok fl =>
    cases fl with
    | ret obj =>
      obtain ⟨rfl, rfl⟩ := hr
      have atS : (s.heap.push (bare w)).get? s.heap.objs.size = some (bare w) := Heap.get?_push_size _ rfl
      have hT : Shared.TypeIs { s with heap := s.heap.push (bare w) } (.ref s.heap.objs.size) "set" := ⟨_, atS, rfl⟩
      have n4 := PySem.F.called_set.init.lookup
      have n5 := PySem.F.called_set.init.bind (.ref s.heap.objs.size)
      repeat (any_goals (first | assumption | wp_step))
      refine codeAny_mono (codeAny_call_builtin (R := wants (fun r s₂ => r = .none ∧ ∃ h' tk, s₂ = { s with heap := h', toks := tk } ∧ IsSetK w h' s.heap.objs.size (dedK xs) ∧ (∀ b o, s.heap.get? b = some o → h'.get? b = some o)) E)
        PySem.F.called_set.init.plain PySem.F.entry_set_init (check_set_init_1 hT ?_)) fun r₂ s₂ hr₂ => ?_
      · obtain ⟨⟨_, _, _, _⟩, hol, hc, nl, hd⟩ := hl
        simp only at hc hd
        subst hc hd
        have at1 := Heap.get?_push_of_some (bare w) hol
        have n6 := PySem.F.sub_tuple_set
        have n7 := PySem.F.sub_tuple_frozenset
        have n8 : (Value.type "tuple" == Value.type "dict") = false := by decide
        have seq : (s.heap.push (bare w)).IsTuple l items := ⟨_, at1, rfl, nl, rfl⟩
        unfold Builtin.«set.__init__» noKeywords Builtin.Frozenset.updateFrom
        generalize keep : pyIter = PI
        wp_walk
        subst keep
        refine wpAny_pyIter_tuple seq (wpAny_bind (wpAny_runValue ?_))
        have below : l < s.heap.objs.size := Heap.lt_size hol
        have up : (s.heap.push (bare w)).objs.size = s.heap.objs.size + 1 := Heap.size_push ..
        have apart : s.heap.objs.size ∉ [(s.heap.push (bare w)).objs.size, l] := by
          rw [up]
          simp only [List.mem_cons, List.not_mem_nil, or_false, not_or]
          exact ⟨Nat.ne_of_lt (Nat.lt_succ_self _), Nat.ne_of_gt below⟩
        refine setK_loop ((Walks.tuple (show A.in1.in1.in1.handled = none by simp [hh]) _ l (by rw [up]; exact Nat.ne_of_lt (Nat.lt_succ_of_lt below)) items).toS) s.heap.objs.size apart xs hsz hb hk (items.size - 0) 0 _ (by omega) (Nat.zero_le _) ⟨⟨_, Heap.get?_push_size _ rfl, rfl, rfl⟩, seq.push _⟩ ?one ?all
        case one => exact setK_bare (Heap.get?_push_of_some _ atS)
        case all =>
          intro s' hm made
          obtain ⟨h', g2, d', tk', os'⟩ := s'
          have e1 : g2 = s.gens := hm.gens
          have e2 : d' = s.drawn := hm.drawn
          have e3 : os' = s.os := hm.os
          subst e1 e2 e3
          show wpAny _ _ _ _ _ _
          refine wpAny_pure ?_
          show wpAny _ _ (ret Value.none) _ _ _
          refine wpAny_pure ⟨rfl, h', tk', rfl, made, fun b o e => ?_⟩
          have lt := Heap.lt_size e
          refine hm.heap b o ?_ (Heap.get?_push_of_some _ (Heap.get?_push_of_some _ e))
          rw [up]
          simp only [List.mem_cons, List.not_mem_nil, or_false, not_or]
          exact ⟨Nat.ne_of_lt lt, Nat.ne_of_lt (Nat.lt_succ_of_lt lt)⟩
      · cases r₂ with
        | error e => exact hr₂
        | ok fl₂ =>
          cases fl₂ with
          | ret r =>
            obtain ⟨rfl, h', tk, rfl, made, keep⟩ := hr₂
            repeat (any_goals (first | assumption | wp_step))
            exact h _ _ made keep
          | _ => exact hr₂.elim
    | _ => exact hr.elim
end
end VW

set_option Elab.async false
set_option linter.all false
set_option maxRecDepth 100000
/-! VW16: len(set(xs)). -/
namespace VW
open PySem PySem.Spec PyProof.Rows L2

def rLenSet (K : PySem.W.Frag) : V → Hp → VK → Prop := fun x H Q => ∃ (l : Addr) (ks : List Key), x = .ref l ∧ (SqL K H l (ks.map kV) ∨ SqT K H l (ks.map kV)) ∧ ks.length ≤ 4000 ∧ Q (.int (dedK ks).length) H
def opLenSet : OP1 := fun m q => match m.d with
  | .lst ds => (match keysK ds with
    | some ks => ks.length ≤ 4000 ∧ q (.fz (.int (dedK ks).length))
    | none => False)
  | .tup ds => (match keysK ds with
    | some ks => ks.length ≤ 4000 ∧ q (.fz (.int (dedK ks).length))
    | none => False)
  | _ => False
section
variable {X : Cx} {K : PySem.W.Frag} {a : Expr} {p p2 q pos : Pos}
theorem keys_vals (X : Cx) : ∀ {ks : List Key} {us : List Value}, Vals (ks.map kV) us → us.length = ks.length ∧ ∀ (i : Nat) (v : Value), us[i]? = some v → ∃ k, ks[i]? = some k ∧ keyIs k v = true
  | [], us, r => by
    cases r
    exact ⟨rfl, fun i v h => by simp at h⟩
  | k :: ks, us, r => by
    cases r with
    | cons h t =>
      obtain ⟨l, e⟩ := keys_vals X t
      refine ⟨congrArg (· + 1) l, fun i v hv => ?_⟩
      cases i with
      | zero =>
        have e1 := Option.some.inj hv
        subst e1
        exact ⟨k, rfl, kV_is (P := X.prog) (w := X.w) h⟩
      | succ i => exact e i v hv
theorem pe_lenK {ta : TE} (hc : X.calm = true) (hg : Gl X "len") (hm : X.mg "len" = none) (hg2 : Gl X "set") (hm2 : X.mg "set" = none) (ha : PE X a ta) (na : starEach [a] X.env = (false, eval a X.env) :: starEach [] X.env := by rfl) :
    PE X (.Call (.Name "len" p) [.Call (.Name "set" p2) [a] [] q] [] pos) (fun σ H Q => ta σ H fun x H1 => rLenSet X.K x H1 Q) := by
  refine ⟨fun pins s σ H Q I h => ?_⟩
  refine Call_ (ld_blt I hg hm PySem.boot_len (PyProof.Rows.callWith_builtin1 (PyProof.Rows.args_cons ?_ rfl) rfl rfl))
  refine Call_ (ld_blt I hg2 hm2 PyProof.Rows.boot_set (PyProof.Rows.callWith_type1 (PyProof.Rows.args_cons (thn (ha.run pins s σ H _ I h) fun v s1 ⟨x, H1, I1, r1, q1⟩ => PyProof.Rows.args_nil ?_) na) na rfl))
  obtain ⟨l, ks, rfl, hq, few, q1⟩ := q1
  cases r1
  have room : ks.length + 1 < scanBound := Nat.lt_of_le_of_lt (Nat.succ_le_succ few) (by decide)
  have fin : ∀ (h' : Heap) (tk : Nat), IsSetK X.w h' s1.heap.objs.size (dedK ks) → (∀ b o, s1.heap.get? b = some o → h'.get? b = some o) →
      wpAny (model X.prog X.w) X.A (spliced (backTo pos (starEach [] X.env))) (fun vs s₂ => wpAny (model X.prog X.w) X.A (call (.builtin "len") (Value.ref s1.heap.objs.size :: vs)) (EP X pins σ Q) X.xe s₂) X.xe { s1 with heap := h', toks := tk } := fun h' tk hS hk => by
    refine PyProof.Rows.args_nil ?_
    obtain ⟨o, es, ep, t, r⟩ := hS
    have I2 : Inv X pins σ H1 { s1 with heap := h', toks := tk } := I1.kept fun b o e => hk b o e
    have fit : (es.size : Int) < 2 ^ 63 := by
      have := r.few
      unfold scanBound at this
      omega
    refine call_len_set r.ob r.ex r.dat r.fit fit ⟨.int (dedK ks).length, H1, I2.tok _, ⟨_, by rw [r.len]⟩, q1⟩
  rcases hq with hq | hq
  · obtain ⟨its, r, pl, hz⟩ := I1.list hq
    obtain ⟨el, ek⟩ := keys_vals X r
    exact call_setK_list (I1.ok.hd hc) pl.isList (by rw [List.size_toArray]; exact el) (fun i v e => ek i v (by simpa using e)) room fin
  · obtain ⟨its, r, pl, hz⟩ := I1.tuple hq
    obtain ⟨el, ek⟩ := keys_vals X r
    exact call_setK_tuple (I1.ok.hd hc) pl (by rw [List.size_toArray]; exact el) (fun i v e => ek i v (by simpa using e)) room fin
theorem snd_lenSet : Snd1 K (rLenSet K) opLenSet where
  run := fun G H x mx F Q ex w q => by
    unfold opLenSet at q
    split at q
    · rename_i ds e
      split at q
      · rename_i ks ek
        obtain ⟨a, vs, rfl, h1, r1⟩ := own_lst ex w e
        have ev := keysK_reps r1 ek
        subst ev
        exact ⟨a, ks, rfl, .inl (.of h1), q.1, q.2 _ _ (.same (.int _))⟩
      · exact q.elim
    · rename_i ds e
      split at q
      · rename_i ks ek
        obtain ⟨a, vs, rfl, h1, r1⟩ := own_tup ex w e
        have ev := keysK_reps r1 ek
        subst ev
        exact ⟨a, ks, rfl, .inr h1.sqT, q.1, q.2 _ _ (.same (.int _))⟩
      · exact q.elim
    · exact q.elim
  mono := fun a q q' h k => by
    unfold opLenSet at *
    split at k
    · split at k
      · exact ⟨k.1, h _ k.2⟩
      · exact k.elim
    · split at k
      · exact ⟨k.1, h _ k.2⟩
      · exact k.elim
    · exact k.elim
theorem xlenset {y : Y} {oa : WO} (hm : y.X.mg "len" = none) (hm2 : y.X.mg "set" = none) (hc : y.X.calm = true) (h : SO y a oa) (hg : Gl y.X "len" := by rfl) (hg2 : Gl y.X "set" := by rfl) (na : starEach [a] y.X.env = (false, eval a y.X.env) :: starEach [] y.X.env := by rfl) :
    SE y (.Call (.Name "len" p) [.Call (.Name "set" p2) [a] [] q] [] pos) (w1 opLenSet oa) :=
  ⟨PE_imp (pe_lenK hc hg hm hg2 hm2 h.run na) (lift1 snd_lenSet h.mono), mono_w1 (K := y.X.K) snd_lenSet h.mono⟩
end

/-! ### displays of constants -/
def wKl (ds : List D) : WE := fun e Q _ => Q (.lst ds) e
theorem se_asC {y : Y} {e : Expr} {w : WE} (d : D) (h : SE y e w) (i : ∀ e (Q : M → En → Prop) X, Q (.fz d) e → w e Q X := by exact fun _ _ _ q => q) : SE y e (wC d) :=
  ⟨PE_imp h.run fun σ H Q ⟨e, P, h0, q⟩ => ⟨e, P, h0, i _ _ _ q⟩, fun _ _ _ _ _ hq _ q => hq _ _ q⟩
theorem se_asL {y : Y} {e : Expr} {w : WE} (ds : List D) (h : SE y e w) (i : ∀ e (Q : M → En → Prop) X, Q (.lst ds) e → w e Q X := by exact fun _ _ _ q => q) : SE y e (wKl ds) :=
  ⟨PE_imp h.run fun σ H Q ⟨e, P, h0, q⟩ => ⟨e, P, h0, i _ _ _ q⟩, fun _ _ _ _ _ hq _ q => hq _ _ q⟩
end VW

set_option Elab.async false
set_option linter.all false
set_option maxRecDepth 100000
/-! VM0: plain facts about plain values. -/
namespace VW
open PySem PySem.Spec PyProof.Rows L2

theorem dfz (d : D) : (M.fz d).d = d := rfl
theorem dlst (d : List D) : (M.lst d).d = .lst d := rfl
theorem ddK (d : List (Key × D)) : (M.dK d).d = .dK d := rfl
theorem ddT (d : List (List Key × D)) : (M.dT d).d = .dT d := rfl

/-- data of depth n at most, not long -/
def Sm : Nat → D → Prop
  | _, .non => True
  | _, .bl _ => True
  | _, .int _ => True
  | _, .str s => s.length ≤ 1000 ∧ PyData.strOk s = true
  | n + 1, .tup ds => ds.length ≤ 1000 ∧ ∀ d ∈ ds, Sm n d
  | n + 1, .lst ds => ds.length ≤ 1000 ∧ ∀ d ∈ ds, Sm n d
  | _, _ => False
theorem pys_of {n : Nat} : ∀ {ds : List D}, (∀ d ∈ ds, ∃ p, d.py = some p ∧ p.depth ≤ n ∧ p.canLay0 = true) → ∃ ps, D.pys ds = some ps ∧ PyData.depthAll ps ≤ n ∧ PyData.canLayAll0 ps = true
  | [], _ => ⟨[], rfl, Nat.zero_le _, rfl⟩
  | d :: ds, h => by
    obtain ⟨p, e1, e2, e3⟩ := h d List.mem_cons_self
    obtain ⟨ps, f1, f2, f3⟩ := pys_of (ds := ds) fun d hd => h d (List.mem_cons_of_mem _ hd)
    refine ⟨p :: ps, ?_, Nat.max_le.mpr ⟨e2, f2⟩, ?_⟩
    · unfold D.pys
      rw [e1, f1]
    · unfold PyData.canLayAll0
      rw [e3, f3]
      rfl
theorem Sm.py : ∀ {n : Nat} {d : D}, Sm n d → ∃ p, d.py = some p ∧ p.depth ≤ n ∧ p.canLay0 = true
  | n, .non, _ => ⟨.none, rfl, Nat.zero_le _, rfl⟩
  | n, .bl b, _ => ⟨.bool b, rfl, Nat.zero_le _, rfl⟩
  | n, .int i, _ => ⟨.int i, rfl, Nat.zero_le _, rfl⟩
  | n, .str s, h => ⟨.str s, rfl, Nat.zero_le _, by cases n <;> exact h.2⟩
  | n + 1, .tup ds, h => by
    obtain ⟨ps, f1, f2, f3⟩ := pys_of (n := n) fun d hd => Sm.py (h.2 d hd)
    exact ⟨.tuple ps, by unfold D.py; rw [f1]; rfl, Nat.succ_le_succ f2, f3⟩
  | n + 1, .lst ds, h => by
    obtain ⟨ps, f1, f2, f3⟩ := pys_of (n := n) fun d hd => Sm.py (h.2 d hd)
    exact ⟨.list ps, by unfold D.py; rw [f1]; rfl, Nat.succ_le_succ f2, f3⟩
  | 0, .tup _, h => h.elim
  | 0, .lst _, h => h.elim
  | 0, .scr _, h => h.elim
  | n + 1, .scr _, h => h.elim
  | 0, .dK _, h => h.elim
  | n + 1, .dK _, h => h.elim
  | 0, .dT _, h => h.elim
  | n + 1, .dT _, h => h.elim
  | 0, .ty _, h => h.elim
  | n + 1, .ty _, h => h.elim
  | 0, .opq, h => h.elim
  | n + 1, .opq, h => h.elim
theorem Sm.can {n : Nat} {d : D} (h : Sm n d) (hn : n ≤ 60) : canD d = true := by
  obtain ⟨p, e, l, c⟩ := h.py
  unfold canD
  rw [e]
  show (p.canLay0 && decide (p.depth ≤ 64)) = true
  rw [c, decide_eq_true (by omega)]
  rfl
theorem eqOk_of {x y : D} (h : canD x = true) (h' : canD y = true) : eqOk x y = true := by
  unfold eqOk
  split <;> first | rfl | (rw [h, h']; rfl)
theorem Sm.eqOk {n k : Nat} {x y : D} (h : Sm n x) (h' : Sm k y) (hn : n ≤ 60) (hk : k ≤ 60) : eqOk x y = true := eqOk_of (h.can hn) (h'.can hk)
theorem Sm.ty {n : Nat} {d : D} (h : Sm n d) : ∃ t, tyNm d = some t := by
  cases d <;> first
    | exact ⟨_, rfl⟩
    | (cases n <;> exact h.elim)

/-! ### == of data without truths is being the same -/
mutual
def NoB : PyData → Bool
  | .none => true
  | .int _ => true
  | .str _ => true
  | .list xs => NoBs xs
  | .tuple xs => NoBs xs
  | _ => false
def NoBs : List PyData → Bool
  | [] => true
  | x :: xs => NoB x && NoBs xs
end
mutual
theorem eqv_same : ∀ {p q : PyData}, NoB p = true → NoB q = true → (PyData.eqv p q = true ↔ p = q)
  | .none, q, _, h => by cases q <;> first | (simp [PyData.eqv]; done) | cases h
  | .int i, q, _, h => by cases q <;> first | (simp [PyData.eqv]; done) | cases h
  | .str i, q, _, h => by cases q <;> first | (simp [PyData.eqv]; done) | cases h
  | .list xs, q, h', h => by
    cases q <;> first
      | cases h; done
      | (simp [PyData.eqv]; done)
      | (rename_i ys
         unfold PyData.eqv
         rw [eqvs_same h' h]
         exact ⟨fun e => by rw [e], fun e => PyData.list.inj e⟩)
  | .tuple xs, q, h', h => by
    cases q <;> first
      | cases h; done
      | (simp [PyData.eqv]; done)
      | (rename_i ys
         unfold PyData.eqv
         rw [eqvs_same h' h]
         exact ⟨fun e => by rw [e], fun e => PyData.tuple.inj e⟩)
  | .bool _, _, h, _ => by cases h
  | .dict _, _, h, _ => by cases h
theorem eqvs_same : ∀ {p q : List PyData}, NoBs p = true → NoBs q = true → (PyData.eqvAll p q = true ↔ p = q)
  | [], [], _, _ => by simp [PyData.eqvAll]
  | [], _ :: _, _, _ => by simp [PyData.eqvAll]
  | _ :: _, [], _, _ => by simp [PyData.eqvAll]
  | x :: xs, y :: ys, h, h' => by
    unfold NoBs at h h'
    rw [Bool.and_eq_true] at h h'
    unfold PyData.eqvAll
    rw [Bool.and_eq_true, eqv_same h.1 h'.1, eqvs_same h.2 h'.2, List.cons.injEq]
end
mutual
theorem py_inj : ∀ {x y : D} {p : PyData}, x.py = some p → y.py = some p → x = y
  | .non, y, p, h, h' => by cases h; cases y <;> simp [D.py] at h' <;> rfl
  | .bl b, y, p, h, h' => by cases h; cases y <;> simp_all [D.py]
  | .int b, y, p, h, h' => by cases h; cases y <;> simp_all [D.py]
  | .str b, y, p, h, h' => by cases h; cases y <;> simp_all [D.py]
  | .tup ds, y, p, h, h' => by
    unfold D.py at h
    obtain ⟨ps, e, rfl⟩ := Option.map_eq_some_iff.mp h
    cases y with
    | tup es =>
      unfold D.py at h'
      obtain ⟨qs, e', e2⟩ := Option.map_eq_some_iff.mp h'
      cases e2
      rw [pys_inj e e']
    | _ => simp [D.py] at h'
  | .lst ds, y, p, h, h' => by
    unfold D.py at h
    obtain ⟨ps, e, rfl⟩ := Option.map_eq_some_iff.mp h
    cases y with
    | lst es =>
      unfold D.py at h'
      obtain ⟨qs, e', e2⟩ := Option.map_eq_some_iff.mp h'
      cases e2
      rw [pys_inj e e']
    | _ => simp [D.py] at h'
  | .ty _, _, _, h, _ => by simp [D.py] at h
  | .opq, _, _, h, _ => by simp [D.py] at h
  | .scr _, _, _, h, _ => by simp [D.py] at h
  | .dK _, _, _, h, _ => by simp [D.py] at h
  | .dT _, _, _, h, _ => by simp [D.py] at h
theorem pys_inj : ∀ {x y : List D} {p : List PyData}, D.pys x = some p → D.pys y = some p → x = y
  | [], [], _, _, _ => rfl
  | [], y :: ys, p, h, h' => by
    cases h
    unfold D.pys at h'
    split at h' <;> simp at h'
  | x :: xs, [], p, h, h' => by
    cases h'
    unfold D.pys at h
    split at h <;> simp at h
  | x :: xs, y :: ys, p, h, h' => by
    unfold D.pys at h h'
    split at h
    · rename_i a as e1 e2
      cases h
      split at h'
      · rename_i b bs f1 f2
        simp only [Option.some.injEq, List.cons.injEq] at h'
        obtain ⟨g1, g2⟩ := h'
        subst g1 g2
        rw [py_inj e1 f1, pys_inj e2 f2]
      · cases h'
    · cases h
end
/-- no truths within -/
def nob (d : D) : Bool := match d.py with
  | some p => NoB p
  | none => false
theorem eqD_iff {x y : D} (h : nob x = true) (h' : nob y = true) : eqD x y = true ↔ x = y := by
  unfold nob at h h'
  split at h
  · rename_i p e
    split at h'
    · rename_i q e'
      unfold eqD
      rw [e, e']
      show PyData.eqv p q = true ↔ _
      rw [eqv_same h h']
      exact ⟨fun z => py_inj e (z ▸ e'), fun z => Option.some.inj (e.symm.trans (z ▸ e'))⟩
    · cases h'
  · cases h
theorem eqD_str (s t : Str) : eqD (.str s) (.str t) = decide (s = t) := by
  rw [Bool.eq_iff_iff, eqD_iff rfl rfl, decide_eq_true_eq]
  exact ⟨fun h => D.str.inj h, fun h => h ▸ rfl⟩
theorem eqD_int (s t : Int) : eqD (.int s) (.int t) = decide (s = t) := by
  rw [Bool.eq_iff_iff, eqD_iff rfl rfl, decide_eq_true_eq]
  exact ⟨fun h => D.int.inj h, fun h => h ▸ rfl⟩
theorem Sm.mono : ∀ {n k : Nat} {d : D}, Sm n d → n ≤ k → Sm k d
  | n, k, .non, _, _ => by cases k <;> trivial
  | n, k, .bl b, _, _ => by cases k <;> trivial
  | n, k, .int b, _, _ => by cases k <;> trivial
  | n, k, .str b, h, _ => by cases n <;> cases k <;> exact h
  | n + 1, k + 1, .tup ds, h, l => ⟨h.1, fun d hd => (h.2 d hd).mono (Nat.le_of_succ_le_succ l)⟩
  | n + 1, k + 1, .lst ds, h, l => ⟨h.1, fun d hd => (h.2 d hd).mono (Nat.le_of_succ_le_succ l)⟩
  | 0, _, .tup _, h, _ => h.elim
  | 0, _, .lst _, h, _ => h.elim
  | n + 1, 0, .tup _, _, h => absurd h (by omega)
  | n + 1, 0, .lst _, _, h => absurd h (by omega)
  | 0, _, .scr _, h, _ => h.elim
  | n + 1, _, .scr _, h, _ => h.elim
  | 0, _, .dK _, h, _ => h.elim
  | n + 1, _, .dK _, h, _ => h.elim
  | 0, _, .dT _, h, _ => h.elim
  | n + 1, _, .dT _, h, _ => h.elim
  | 0, _, .ty _, h, _ => h.elim
  | n + 1, _, .ty _, h, _ => h.elim
  | 0, _, .opq, h, _ => h.elim
  | n + 1, _, .opq, h, _ => h.elim
abbrev Dat (d : D) : Prop := Sm 50 d
theorem Sm.dat {n : Nat} {d : D} (h : Sm n d) (hn : n ≤ 50) : Dat d := h.mono hn
theorem dat_tup {ds : List D} (h : Dat (.tup ds)) : ds.length ≤ 1000 ∧ ∀ d ∈ ds, Dat d := ⟨h.1, fun d hd => (h.2 d hd).mono (by decide)⟩
theorem dat_lst {ds : List D} (h : Dat (.lst ds)) : ds.length ≤ 1000 ∧ ∀ d ∈ ds, Dat d := ⟨h.1, fun d hd => (h.2 d hd).mono (by decide)⟩
theorem dat_str {s : Str} (h : Dat (.str s)) : s.length ≤ 1000 := h.1
theorem le_size {n : Nat} (h : n ≤ 1000) : n ≤ sizeLine := by rw [sizeLine_eq]; omega
/-- a pure def of one thing -/
def Ask1 (pre : D → Prop) (f : D → D) : List M → (M → En → Prop) → (Xn → Prop) → Prop := fun ms Q _ => ∃ m, ms = [m] ∧ pre m.d ∧ Q (.fz (f m.d)) [none]

/-! ### comprehensions that change no place -/
/-- every item is told -/
theorem lc_pure {t : Tg} {te : WE} {own : List Nat} {k : List D → En → Prop} (g : D → D) (e0 : En) : ∀ (ds acc : List D), (∀ d ∈ ds, ∃ e1, t.asg (.fz d) e0 = some e1 ∧ ∀ Q : M → En → Prop, (∀ m e', m.d = g d → wipeE e' own = e0 → Q m e') → te e1 Q noX) →
    k (acc ++ ds.map g) e0 → lcGo t tYesW te own ds acc e0 k
  | [], acc, _, q => by
    rw [List.map_nil, List.append_nil] at q
    exact q
  | d :: ds, acc, h, q => by
    obtain ⟨e1, ea, ht⟩ := h d List.mem_cons_self
    unfold lcGo
    rw [ea]
    dsimp only [tYesW]
    rw [if_pos rfl]
    refine ht _ fun m e' em ew => ?_
    rw [ew, em]
    refine lc_pure g e0 ds (acc ++ [g d]) (fun d hd => h d (List.mem_cons_of_mem _ hd)) ?_
    rw [List.append_assoc]
    exact q
/-- those items are told that pass -/
theorem lc_if {t : Tg} {tt : WT} {te : WE} {own : List Nat} {k : List D → En → Prop} (p : D → Bool) (g : D → D) (e0 : En) : ∀ (ds acc : List D), (∀ d ∈ ds, ∃ e1, t.asg (.fz d) e0 = some e1 ∧
      ∀ Q : Bool → En → Prop, (∀ e2, (p d = true → ∀ Q' : M → En → Prop, (∀ m e', m.d = g d → wipeE e' own = e0 → Q' m e') → te e2 Q' noX) → (p d = false → wipeE e2 own = e0) → Q (p d) e2) → tt e1 Q noX) →
    k (acc ++ (ds.filter p).map g) e0 → lcGo t tt te own ds acc e0 k
  | [], acc, _, q => by
    rw [List.filter_nil, List.map_nil, List.append_nil] at q
    exact q
  | d :: ds, acc, h, q => by
    obtain ⟨e1, ea, ht⟩ := h d List.mem_cons_self
    unfold lcGo
    rw [ea]
    refine ht _ fun e2 yes no => ?_
    cases hp : p d with
    | true =>
      rw [if_pos rfl]
      refine yes hp _ fun m e' em ew => ?_
      rw [ew, em]
      refine lc_if p g e0 ds (acc ++ [g d]) (fun d hd => h d (List.mem_cons_of_mem _ hd)) ?_
      rw [List.append_assoc]
      rw [List.filter_cons_of_pos hp] at q
      exact q
    | false =>
      rw [if_neg Bool.false_ne_true, no hp]
      refine lc_if p g e0 ds acc (fun d hd => h d (List.mem_cons_of_mem _ hd)) ?_
      rw [List.filter_cons_of_neg (by rw [hp]; exact Bool.false_ne_true)] at q
      exact q

theorem isiTs_str : isiTs.contains "str" = true := by decide
theorem isiTs_tuple : isiTs.contains "tuple" = true := by decide
theorem isiTs_list : isiTs.contains "list" = true := by decide
theorem isiTs_int : isiTs.contains "int" = true := by decide
theorem isiTs_bool : isiTs.contains "bool" = true := by decide
theorem isiTs_dict : isiTs.contains "dict" = true := by decide
theorem atI_0 {α : Type} (x : α) (xs : List α) : atI (x :: xs) 0 = some x := by simp [atI, ixN]
theorem atI_1 {α : Type} (x y : α) (xs : List α) : atI (x :: y :: xs) 1 = some y := by
  have h : (1 : Int) < (xs.length : Int) + 1 + 1 := by omega
  simp [atI, ixN, h]
theorem lt_str (s t : Str) : decide ((1 : Int) ≤ (s.length : Int)) = decide (1 ≤ s.length) := by rw [decide_eq_decide]; omega
theorem le_nat (n k : Nat) : decide ((n : Int) ≤ (k : Int)) = decide (n ≤ k) := by rw [decide_eq_decide]; omega
theorem lt_nat (n k : Nat) : decide ((n : Int) < (k : Int)) = decide (n < k) := by rw [decide_eq_decide]; omega

theorem iteB {c : Prop} [Decidable c] {A B : Prop} (h1 : c → A) (h2 : ¬ c → B) : if c then A else B := by
  by_cases h : c
  · rw [if_pos h]
    exact h1 h
  · rw [if_neg h]
    exact h2 h
theorem natc0 : ((0 : Nat) : Int) = 0 := rfl
theorem natc1 : ((1 : Nat) : Int) = 1 := rfl
theorem natc2 : ((2 : Nat) : Int) = 2 := rfl
theorem natc3 : ((3 : Nat) : Int) = 3 := rfl
theorem natc4 : ((4 : Nat) : Int) = 4 := rfl
theorem natc5 : ((5 : Nat) : Int) = 5 := rfl

theorem bools_map {ds : List D} (p : D → Bool) : bools (ds.map fun d => .bl (p d)) = some (ds.map p) := by
  induction ds with
  | nil => rfl
  | cons d ds ih =>
    rw [List.map_cons, List.map_cons]
    unfold bools
    rw [ih]
    rfl
theorem all_map {ds : List D} (p : D → Bool) : (ds.map p).all id = ds.all p := by
  rw [List.all_map]
  rfl
theorem cle0 (n : Nat) : ((n : Int) ≤ 0) = (n ≤ 0) := by rw [eq_iff_iff]; omega
theorem clt0 (n : Nat) : ((n : Int) < 0) = (n < 0) := by rw [eq_iff_iff]; omega
theorem lce0 (n : Nat) : (0 ≤ (n : Int)) = (0 ≤ n) := by rw [eq_iff_iff]; omega
theorem lct0 (n : Nat) : (0 < (n : Int)) = (0 < n) := by rw [eq_iff_iff]; omega
theorem ceq0 (n : Nat) : ((n : Int) = 0) = (n = 0) := by rw [eq_iff_iff]; omega
theorem cle1 (n : Nat) : ((n : Int) ≤ 1) = (n ≤ 1) := by rw [eq_iff_iff]; omega
theorem clt1 (n : Nat) : ((n : Int) < 1) = (n < 1) := by rw [eq_iff_iff]; omega
theorem lce1 (n : Nat) : (1 ≤ (n : Int)) = (1 ≤ n) := by rw [eq_iff_iff]; omega
theorem lct1 (n : Nat) : (1 < (n : Int)) = (1 < n) := by rw [eq_iff_iff]; omega
theorem ceq1 (n : Nat) : ((n : Int) = 1) = (n = 1) := by rw [eq_iff_iff]; omega
theorem cle2 (n : Nat) : ((n : Int) ≤ 2) = (n ≤ 2) := by rw [eq_iff_iff]; omega
theorem clt2 (n : Nat) : ((n : Int) < 2) = (n < 2) := by rw [eq_iff_iff]; omega
theorem lce2 (n : Nat) : (2 ≤ (n : Int)) = (2 ≤ n) := by rw [eq_iff_iff]; omega
theorem lct2 (n : Nat) : (2 < (n : Int)) = (2 < n) := by rw [eq_iff_iff]; omega
theorem ceq2 (n : Nat) : ((n : Int) = 2) = (n = 2) := by rw [eq_iff_iff]; omega
theorem cle3 (n : Nat) : ((n : Int) ≤ 3) = (n ≤ 3) := by rw [eq_iff_iff]; omega
theorem clt3 (n : Nat) : ((n : Int) < 3) = (n < 3) := by rw [eq_iff_iff]; omega
theorem lce3 (n : Nat) : (3 ≤ (n : Int)) = (3 ≤ n) := by rw [eq_iff_iff]; omega
theorem lct3 (n : Nat) : (3 < (n : Int)) = (3 < n) := by rw [eq_iff_iff]; omega
theorem ceq3 (n : Nat) : ((n : Int) = 3) = (n = 3) := by rw [eq_iff_iff]; omega
theorem cle4 (n : Nat) : ((n : Int) ≤ 4) = (n ≤ 4) := by rw [eq_iff_iff]; omega
theorem clt4 (n : Nat) : ((n : Int) < 4) = (n < 4) := by rw [eq_iff_iff]; omega
theorem lce4 (n : Nat) : (4 ≤ (n : Int)) = (4 ≤ n) := by rw [eq_iff_iff]; omega
theorem lct4 (n : Nat) : (4 < (n : Int)) = (4 < n) := by rw [eq_iff_iff]; omega
theorem ceq4 (n : Nat) : ((n : Int) = 4) = (n = 4) := by rw [eq_iff_iff]; omega
theorem cle8 (n : Nat) : ((n : Int) ≤ 8) = (n ≤ 8) := by rw [eq_iff_iff]; omega
theorem clt8 (n : Nat) : ((n : Int) < 8) = (n < 8) := by rw [eq_iff_iff]; omega
theorem lce8 (n : Nat) : (8 ≤ (n : Int)) = (8 ≤ n) := by rw [eq_iff_iff]; omega
theorem lct8 (n : Nat) : (8 < (n : Int)) = (8 < n) := by rw [eq_iff_iff]; omega
theorem ceq8 (n : Nat) : ((n : Int) = 8) = (n = 8) := by rw [eq_iff_iff]; omega
theorem cle9 (n : Nat) : ((n : Int) ≤ 9) = (n ≤ 9) := by rw [eq_iff_iff]; omega
theorem clt9 (n : Nat) : ((n : Int) < 9) = (n < 9) := by rw [eq_iff_iff]; omega
theorem lce9 (n : Nat) : (9 ≤ (n : Int)) = (9 ≤ n) := by rw [eq_iff_iff]; omega
theorem lct9 (n : Nat) : (9 < (n : Int)) = (9 < n) := by rw [eq_iff_iff]; omega
theorem ceq9 (n : Nat) : ((n : Int) = 9) = (n = 9) := by rw [eq_iff_iff]; omega

theorem eqD_tup_str (ds : List D) (s : Str) : eqD (.tup ds) (.str s) = false := by
  simp only [eqD, D.py]
  cases D.pys ds <;> rfl
theorem eqD_lst_str (ds : List D) (s : Str) : eqD (.lst ds) (.str s) = false := by
  simp only [eqD, D.py]
  cases D.pys ds <;> rfl

def smB : Nat → D → Bool
  | _, .non => true
  | _, .bl _ => true
  | _, .int _ => true
  | _, .str s => decide (s.length ≤ 1000) && PyData.strOk s
  | n + 1, .tup ds => decide (ds.length ≤ 1000) && ds.all (smB n)
  | n + 1, .lst ds => decide (ds.length ≤ 1000) && ds.all (smB n)
  | _, _ => false
theorem Sm.of : ∀ {n : Nat} {d : D}, smB n d = true → Sm n d
  | n, .non, _ => by cases n <;> trivial
  | n, .bl b, _ => by cases n <;> trivial
  | n, .int b, _ => by cases n <;> trivial
  | n, .str s, h => by
    have g : (decide (s.length ≤ 1000) && PyData.strOk s) = true := by cases n <;> exact h
    rw [Bool.and_eq_true, decide_eq_true_eq] at g
    cases n <;> exact g
  | n + 1, .tup ds, h => by
    have h : (decide (ds.length ≤ 1000) && ds.all (smB n)) = true := h
    rw [Bool.and_eq_true, decide_eq_true_eq, List.all_eq_true] at h
    exact ⟨h.1, fun d hd => Sm.of (h.2 d hd)⟩
  | n + 1, .lst ds, h => by
    have h : (decide (ds.length ≤ 1000) && ds.all (smB n)) = true := h
    rw [Bool.and_eq_true, decide_eq_true_eq, List.all_eq_true] at h
    exact ⟨h.1, fun d hd => Sm.of (h.2 d hd)⟩
  | 0, .tup _, h => by cases h
  | 0, .lst _, h => by cases h
  | 0, .scr _, h => by cases h
  | n + 1, .scr _, h => by cases h
  | 0, .dK _, h => by cases h
  | n + 1, .dK _, h => by cases h
  | 0, .dT _, h => by cases h
  | n + 1, .dT _, h => by cases h
  | 0, .ty _, h => by cases h
  | n + 1, .ty _, h => by cases h
  | 0, .opq, h => by cases h
  | n + 1, .opq, h => by cases h
theorem atI_some {α : Type} {xs : List α} {i : Int} (h0 : 0 ≤ i) (h1 : i < xs.length) : ∃ x, xs[i.toNat]? = some x ∧ atI xs i = some x := by
  have hl : i.toNat < xs.length := by omega
  refine ⟨xs[i.toNat], List.getElem?_eq_getElem hl, ?_⟩
  unfold atI ixN
  rw [if_pos h0, if_pos h1]
  exact List.getElem?_eq_getElem hl
/-- comprehensions that change a place: what holds of the items told and the places -/
theorem lc_inv {t : Tg} {te : WE} {own : List Nat} {k : List D → En → Prop} (I : List D → En → Prop) : ∀ (ds acc : List D) (e : En), (∀ d ∈ ds, ∀ acc e, I acc e → ∃ e1, t.asg (.fz d) e = some e1 ∧ ∀ Q : M → En → Prop, (∀ m e', I (acc ++ [m.d]) (wipeE e' own) → Q m e') → te e1 Q noX) →
    I acc e → (∀ acc' e', acc'.length = acc.length + ds.length → I acc' e' → k acc' e') → lcGo t tYesW te own ds acc e k
  | [], acc, e, _, i, q => q _ _ rfl i
  | d :: ds, acc, e, h, i, q => by
    obtain ⟨e1, ea, ht⟩ := h d List.mem_cons_self acc e i
    unfold lcGo
    rw [ea]
    dsimp only [tYesW]
    rw [if_pos rfl]
    refine ht _ fun m e' i' => ?_
    refine lc_inv I ds (acc ++ [m.d]) _ (fun d hd => h d (List.mem_cons_of_mem _ hd)) i' fun acc' e' l i'' => q acc' e' ?_ i''
    rw [l, List.length_append, List.length_cons, List.length_cons, List.length_nil]
    omega
end VW

set_option Elab.async false
set_option linter.all false
set_option maxRecDepth 100000
/-! VS0: reading what a def does, step by step. Each rule's conclusion has one combinator at its head. -/
namespace VW
open PySem PySem.Spec PyProof.Rows L2

section
variable {e e1 : En} {Q : M → En → Prop} {X : XQ} {QO : Opd → En → Prop} {QA : List Opd → En → Prop} {QT : Bool → En → Prop} {QP : Option Int → En → Prop} {QI : List D → En → Prop} {E : WEnds} {w wa wb : WE} {o oa ob oc : WO} {a r : WA} {t u : WT} {R S : WS} {i : Nat} {m : M} {d : D}
/-! expressions -/
theorem e_C (q : Q (.fz d) e) : wC d e Q X := q
theorem e_Kl {ds : List D} (q : Q (.lst ds) e) : wKl ds e Q X := q
theorem e_Var (h : e[i]? = some (some m)) (q : Q (.fz m.d) (e.set i (some (.fz m.d)))) : wVar i e Q X := by
  unfold wVar
  rw [h]
  exact q
theorem e_w1 {op : OP1} (q : o e (fun a e1 => withO a e1 fun ma => op ma fun m => Q m e1) X) : w1 op o e Q X := q
theorem e_w2 {op : OP2} (q : oa e (fun a e1 => ob e1 (fun b e2 => withO a e2 fun ma => withO b e2 fun mb => op ma mb fun m => Q m e2) X) X) : w2 op oa ob e Q X := q
theorem e_wN {op : OPN} (q : a e (fun as e1 => withAs as e1 fun ms => op ms fun m => Q m e1) X) : wN op a e Q X := q
theorem e_Mt {T : String} {op : M → OPN} (q : o e (fun a e1 => withO a e1 (fun m => mTy T m.d = true) ∧ r e1 (fun as e2 => withO a e2 fun m => withAs as e2 fun ms => op m ms fun r => Q r e2) X) X) : wMt T op o r e Q X := q
def mutK (T : String) (op : OPM) (i : Nat) (Q : M → En → Prop) (as : List Opd) (e1 : En) : Prop := match e1[i]? with
  | some (some m) => isTy T m = true ∧ withAs as (e1.set i none) fun ms => op m ms fun d m' => Q (.fz d) (e1.set i (some m'))
  | _ => False
theorem e_Mut {T : String} {op : OPM} (h : e[i]? = some (some m)) (hT : isTy T m = true) (q : r e (fun as e1 => mutK T op i Q as e1) X) : wMut T op i r e Q X := by
  unfold wMut
  rw [h]
  exact ⟨hT, q⟩
theorem e_mutK {T : String} {op : OPM} {as : List Opd} (h : e[i]? = some (some m)) (hT : isTy T m = true) (q : withAs as (e.set i none) fun ms => op m ms fun d m' => Q (.fz d) (e.set i (some m'))) : mutK T op i Q as e := by
  unfold mutK
  rw [h]
  exact ⟨hT, q⟩
theorem e_If (q : t e (fun b e1 => if b = true then wa e1 Q X else wb e1 Q X) X) : wIf t wa wb e Q X := q
theorem e_Call {fn : Fn} (q : r e (fun as e1 => mvAs as e1 fun ms e2 => ms.length = fn.n ∧ fn.sp ms (fun m ms' => Q m (bkAs as ms' e2)) (fun x => X x e2)) X) : wCall fn r e Q X := q
theorem e_Sl {op : OPS} {lo hi : WP} (q : o e (fun a e1 => lo e1 (fun l e2 => hi e2 (fun h e3 => withO a e3 fun ma => op ma l h fun m => Q m e3) X) X) X) : wSl op o lo hi e Q X := q
theorem e_pNo (q : QP none e) : pNo e QP X := q
theorem e_pInt (q : w e (fun m e' => match m with
    | .fz (.int i) => QP (some i) e'
    | _ => False) X) : pInt w e QP X := q
/-! operands -/
theorem e_oVal (q : w e (fun m e1 => QO (.vl m) e1) X) : oVal w e QO X := q
theorem e_oFz (q : w e (fun m e1 => QO (.vl (.fz m.d)) e1) X) : oFz w e QO X := q
theorem e_oPk (h : e[i]? = some (some m)) (q : QO (.pk i) e) : oPk i e QO X := by
  unfold oPk
  rw [h]
  exact q
theorem e_aNil (q : QA [] e) : aNil e QA X := q
theorem e_aCons (q : o e (fun a e1 => r e1 (fun as e2 => QA (a :: as) e2) X) X) : aCons o r e QA X := q
theorem e_vl {k : M → Prop} (q : k m) : withO (.vl m) e k := q
theorem e_pk {k : M → Prop} (h : e[i]? = some (some m)) (q : k m) : withO (.pk i) e k := by
  unfold withO
  dsimp only
  rw [h]
  exact q
theorem e_as0 {k : List M → Prop} (q : k []) : withAs [] e k := q
theorem e_asV {as : List Opd} {k : List M → Prop} (q : withAs as e fun ms => k (m :: ms)) : withAs (.vl m :: as) e k := q
theorem e_asP {as : List Opd} {k : List M → Prop} (h : e[i]? = some (some m)) (q : withAs as e fun ms => k (m :: ms)) : withAs (.pk i :: as) e k := by
  unfold withAs
  exact e_pk h q
theorem e_mv0 {k : List M → En → Prop} (q : k [] e) : mvAs [] e k := q
theorem e_mvV {as : List Opd} {k : List M → En → Prop} (q : mvAs as e fun ms e' => k (m :: ms) e') : mvAs (.vl m :: as) e k := q
theorem e_mvP {as : List Opd} {k : List M → En → Prop} (h : e[i]? = some (some m)) (q : mvAs as (e.set i none) fun ms e' => k (m :: ms) e') : mvAs (.pk i :: as) e k := by
  unfold mvAs
  rw [h]
  exact q
/-! tests -/
theorem e_tVal (q : w e (fun m e' => match m with
    | .fz (.bl b) => QT b e'
    | _ => False) X) : tVal w e QT X := q
theorem e_tTru (q : o e (fun a e1 => withO a e1 fun m => match truD m.d with
    | some b => QT b e1
    | none => False) X) : tTru o e QT X := q
theorem e_tNot (q : t e (fun b e1 => QT (!b) e1) X) : tNotW t e QT X := q
/-! statements -/
theorem e_Nx (q : E.nx e) : sNx E e := q
theorem e_Seq (q : R { E with nx := fun e' => S E e' } e) : sSeq R S E e := q
theorem e_Expr (q : w e (fun _ e1 => E.nx e1) E.ex) : sExpr w E e := q
theorem e_Set (q : w e (fun m e1 => E.nx (e1.set i (some m))) E.ex) : sSet i w E e := q
theorem e_sIf (q : t e (fun c e1 => if c = true then R E e1 else S E e1) E.ex) : sIf t R S E e := q
theorem e_Ret (q : o e (fun a e1 => match a with
    | .vl m => E.rt m e1
    | .pk i => match e1[i]? with
      | some (some m) => E.rt m (e1.set i none)
      | _ => False) E.ex) : sRet o E e := q
theorem e_For {wi : WI} {g : Tg} (q : wi e (fun ds e1 => forGo g R E ds e1) E.ex) : sFor wi g R E e := q
theorem e_iSeq {ds : List D} (q : w e (fun m e1 => match itemsD m.d with
    | some ds => QI ds e1
    | none => False) X) : iSeq w e QI X := q
theorem e_iR1 (q : o e (fun a e1 => withO a e1 fun m => isInt m fun j => rngB j ∧ QI (rngD 0 j.toNat) e1) X) : iR1 o e QI X := q
/-! operations -/
theorem e_Tup {k : M → Prop} {ms : List M} {ds : List D} (h : fzs ms = some ds) (hl : Nat.ble ds.length 4096 = true) (q : k (.fz (.tup ds))) : opTup ms k := by
  unfold opTup dsl
  rw [h]
  dsimp only
  rw [hl]
  exact q
theorem e_Lst {k : M → Prop} {ms : List M} {ds : List D} (h : fzs ms = some ds) (hl : Nat.ble ds.length 4096 = true) (q : k (.lst ds)) : opLst ms k := by
  unfold opLst dsl
  rw [h]
  dsimp only
  rw [hl]
  exact q
theorem e_IxT {k : M → Prop} {b : M} {ds : List D} {j : Int} {x : D} (hm : m.d = .tup ds) (hb : b = .fz (.int j)) (h : atI ds j = some x) (q : k (.fz x)) : opIx m b k := by
  subst hb
  unfold opIx
  rw [hm]
  show (match atI ds j with
    | some d => k (.fz d)
    | none => False)
  rw [h]
  exact q
theorem e_IxL {k : M → Prop} {b : M} {ds : List D} {j : Int} {x : D} (hm : m.d = .lst ds) (hb : b = .fz (.int j)) (h : atI ds j = some x) (q : k (.fz x)) : opIx m b k := by
  subst hb
  unfold opIx
  rw [hm]
  show (match atI ds j with
    | some d => k (.fz d)
    | none => False)
  rw [h]
  exact q
theorem e_IxS {k : M → Prop} {b : M} {s : Str} {j : Int} {c : Nat} (hm : m.d = .str s) (hb : b = .fz (.int j)) (h : atI s.cps.toList j = some c) (hl : s.length ≤ sizeLine) (q : k (.fz (sgn c))) : opIx m b k := by
  subst hb
  unfold opIx
  rw [hm]
  show (match atI s.cps.toList j with
    | some c => s.length ≤ sizeLine ∧ k (.fz (sgn c))
    | none => False)
  rw [h]
  exact ⟨hl, q⟩
theorem e_Len {k : M → Prop} {n : Nat} (h : lenD m.d = some n) (hl : lenOk m.d) (q : k (.fz (.int n))) : opLen [m] k := by
  unfold opLen one
  dsimp only
  rw [h]
  exact ⟨hl, q⟩
theorem e_AddT {k : M → Prop} {b : M} {ds es : List D} (hm : m = .fz (.tup ds)) (hb : b = .fz (.tup es)) (hl : ds.length + es.length ≤ sizeLine) (q : k (.fz (.tup (ds ++ es)))) : opAdd m b k := by
  subst hm hb
  exact ⟨hl, q⟩
theorem e_AddL {k : M → Prop} {b : M} {ds es : List D} (hm : m.d = .lst ds) (hb : b.d = .lst es) (hl : ds.length + es.length ≤ sizeLine) (q : k (.lst (ds ++ es))) : opAdd m b k := by
  unfold opAdd
  split
  · cases hm
  · cases hm
  · cases hm
  · unfold opAddL
    rw [hm, hb]
    exact ⟨hl, q⟩
theorem e_AddI {k : M → Prop} {x y : Int} (q : k (.fz (.int (x + y)))) : opAdd (.fz (.int x)) (.fz (.int y)) k := q
theorem e_AddS {k : M → Prop} {b : M} {x y : Str} (hm : m = .fz (.str x)) (hb : b = .fz (.str y)) (hl : x.length + y.length ≤ sizeLine) (q : k (.fz (.str (x ++ y)))) : opAdd m b k := by
  subst hm hb
  exact ⟨hl, q⟩
theorem e_SlT {k : M → Prop} {lo hi : Option Int} {ds : List D} (hm : m.d = .tup ds) (q : k (.fz (.tup (cutD ds lo hi)))) : opSl m lo hi k := by
  unfold opSl
  rw [hm]
  exact q
theorem e_List {k : M → Prop} {ds : List D} (hm : m.d = .tup ds ∨ m.d = .lst ds) (q : k (.lst ds)) : opList [m] k := by
  unfold opList one
  dsimp only
  rcases hm with h | h <;> rw [h] <;> exact q
theorem e_Tuple {k : M → Prop} {ds : List D} (hm : m.d = .tup ds ∨ m.d = .lst ds) (q : k (.fz (.tup ds))) : opTuple [m] k := by
  unfold opTuple one
  dsimp only
  rcases hm with h | h <;> rw [h] <;> exact q
theorem e_Lc {wi : WI} {g : Tg} {own : List Nat} (q : wi e (fun ds e1 => ds.length ≤ sizeLine ∧ lcGo g t w own ds [] (wipeE e1 own) fun acc e2 => Q (.lst acc) (unwipe e1 own e2)) X) : wLc wi g t w own e Q X := q
theorem e_AddI' {k : M → Prop} {b : M} {x y : Int} (hm : m = .fz (.int x)) (hb : b = .fz (.int y)) (q : k (.fz (.int (x + y)))) : opAdd m b k := by
  subst hm hb
  exact q
theorem e_II {k : M → Prop} {b : M} {C : Int → Int → Prop} {f : Int → Int → D} {x y : Int} (hm : m = .fz (.int x)) (hb : b = .fz (.int y)) (hc : C x y) (q : k (.fz (f x y))) : opII C f m b k := by
  subst hm hb
  exact ⟨hc, q⟩
theorem e_MulI {k : M → Prop} {b : M} {x y : Int} (hm : m = .fz (.int x)) (hb : b = .fz (.int y)) (hc : CMul x y) (q : k (.fz (.int (x * y)))) : opMul m b k := by
  subst hm hb
  exact ⟨hc, q⟩
theorem e_MulT {k : M → Prop} {b : M} {ds : List D} {y : Int} (hm : m = .fz (.tup ds)) (hb : b = .fz (.int y)) (h0 : ds ≠ []) (h1 : 2 ≤ y) (h2 : y ≤ 1000) (h3 : ds.length ≤ 1000) (q : k (.fz (.tup (repD ds y)))) : opMul m b k := by
  subst hm hb
  exact ⟨h0, h1, h2, h3, q⟩
theorem e_Join {k : M → Prop} {b : M} {z : Str} (ts : List Str) (hm : m.d = .str z) (hb : b.d = .lst (ts.map D.str)) (hl : (ts.map (·.length)).sum + ts.length * z.length ≤ 16777216) (q : k (.fz (.str (Txt.join z ts)))) : opJoin m [b] k := by
  unfold opJoin one
  dsimp only
  rw [hm, hb]
  exact ⟨ts, rfl, hl, q⟩
theorem e_VarF (h : e[i]? = some (some (.fz d))) (q : Q (.fz d) (e.set i (some (.fz d)))) : wVar i e Q X := e_Var h q
theorem e_SlT' {k : M → Prop} {lo hi : Option Int} {ds : List D} (hm : m.d = .tup ds) (es : List D) (h : cutD ds lo hi = es) (q : k (.fz (.tup es))) : opSl m lo hi k := e_SlT hm (h ▸ q)
theorem e_SubI {k : M → Prop} {x y : Int} (q : k (.fz (.int (x - y)))) : opSub (.fz (.int x)) (.fz (.int y)) k := ⟨trivial, q⟩
end

/-- a loop that is walked to its end -/
theorem for_inv {g : Tg} {R : WS} {E : WEnds} (I : Nat → En → Prop) : ∀ (ds : List D) (k : Nat) (e : En),
    (∀ j d e, ds[j]? = some d → I (k + j) e → ∃ e1, g.asg (.fz d) e = some e1 ∧ ∀ nx : En → Prop, (∀ e', I (k + j + 1) e' → nx e') → R { nx := nx, rt := E.rt, bk := E.nx, ct := nx, ex := E.ex } e1) →
    I k e → (∀ e, I (k + ds.length) e → E.nx e) → forGo g R E ds e
  | [], k, e, _, i, q => q e i
  | d :: ds, k, e, h, i, q => by
    obtain ⟨e1, ea, hr⟩ := h 0 d e rfl i
    unfold forGo
    rw [ea]
    refine hr _ fun e' i' => for_inv I ds (k + 1) e' (fun j d e hd hi => ?_) i' fun e hi => q e ?_
    · have := h (j + 1) d e (by simpa using hd) (by rw [show k + (j + 1) = k + 1 + j by omega]; exact hi)
      rw [show k + (j + 1) + 1 = k + 1 + j + 1 by omega] at this
      exact this
    · rw [List.length_cons, show k + (ds.length + 1) = k + 1 + ds.length by omega]
      exact hi
section
variable {m : M}
theorem e_RevT {k : M → Prop} {ds : List D} (hm : m.d = .tup ds) (q : k (.fz (.tup ds.reverse))) : opRev m k := by
  unfold opRev
  rw [hm]
  exact q
theorem e_RevL {k : M → Prop} {ds : List D} (hm : m.d = .lst ds) (q : k (.lst ds.reverse)) : opRev m k := by
  unfold opRev
  rw [hm]
  exact q
theorem e_SlS {k : M → Prop} {lo hi : Option Int} {s : Str} (hm : m.d = .str s) (hl : s.length ≤ sizeLine) (q : k (.fz (.str (cutS s lo hi)))) : opSl m lo hi k := by
  unfold opSl
  rw [hm]
  exact ⟨hl, q⟩
end
theorem e_NegI {k : M → Prop} {x : Int} (q : k (.fz (.int (-x)))) : opNeg (.fz (.int x)) k := q
section
variable {e : En} {Q : M → En → Prop} {X : XQ} {w wa wb : WE} {m b : M} {k : M → Prop}
theorem e_And (q : wa e (fun m e1 => match m with
  | .fz (.bl true) => wb e1 Q X
  | .fz (.bl false) => Q (.fz (.bl false)) e1
  | _ => False) X) : wAnd wa wb e Q X := q
theorem e_Or (q : wa e (fun m e1 => match m with
  | .fz (.bl true) => Q (.fz (.bl true)) e1
  | .fz (.bl false) => wb e1 Q X
  | _ => False) X) : wOr wa wb e Q X := q
theorem e_Not (q : w e (fun m e1 => match m with
  | .fz (.bl b) => Q (.fz (.bl !b)) e1
  | _ => False) X) : wNot w e Q X := q
theorem e_Eq (h : eqOk m.d b.d = true) (q : k (.fz (.bl (eqD m.d b.d)))) : opEq false m b k := ⟨h, q⟩
theorem e_Ne (h : eqOk m.d b.d = true) (q : k (.fz (.bl !(eqD m.d b.d)))) : opEq true m b k := ⟨h, q⟩
theorem e_Sorted {ds : List D} {ps : List PyData} (hm : m.d = .lst ds) (hp : D.pys ds = some ps) (hs : sortOk ps = true) (q : k (.lst (sortD ds))) : opSorted [m] k := by
  unfold opSorted one
  dsimp only
  rw [hm]
  dsimp only
  rw [hp]
  exact ⟨hs, q⟩
theorem e_LenSet {ds : List D} {ks : List Key} (hm : m.d = .lst ds) (hk : keysK ds = some ks) (hl : ks.length ≤ 4000) (q : k (.fz (.int (dedK ks).length))) : opLenSet m k := by
  unfold opLenSet
  rw [hm]
  dsimp only
  rw [hk]
  exact ⟨hl, q⟩
end
/-- a truth decides -/
theorem boolB {b : Bool} {A B : Prop} (h1 : b = true → A) (h2 : b = false → B) : (match M.fz (.bl b) with
  | .fz (.bl true) => A
  | .fz (.bl false) => B
  | _ => False) := by
  cases b
  · exact h2 rfl
  · exact h1 rfl
theorem e_tAnd {e : En} {Q : Bool → En → Prop} {X : XQ} {t u : WT} (q : t e (fun b e1 => if b = true then u e1 Q X else Q false e1) X) : tAndW t u e Q X := q
theorem e_tOr {e : En} {Q : Bool → En → Prop} {X : XQ} {t u : WT} (q : t e (fun b e1 => if b = true then Q true e1 else u e1 Q X) X) : tOrW t u e Q X := q
theorem e_Append {m : M} {k : D → M → Prop} {ds : List D} {d : D} (hm : m = .lst ds) (hl : ds.length < 16777216) (q : k .non (.lst (ds ++ [d]))) : opAppend m [.fz d] k := by
  subst hm
  exact ⟨hl, q⟩
/-- one statement by itself: P tells the places behind it -/
theorem by_seq {R S : WS} {E : WEnds} {e : En} (P : En → Prop) (h1 : ∀ nx : En → Prop, (∀ e', P e' → nx e') → R { nx := nx, rt := E.rt, bk := E.bk, ct := E.ct, ex := E.ex } e) (h2 : ∀ e', P e' → S E e') : sSeq R S E e := h1 _ h2
end VW

set_option Elab.async false
set_option linter.all false
set_option maxRecDepth 100000
/-! VM1: sorted texts, keys met once. -/
namespace VW
open PySem PySem.Spec PyProof.Rows L2

def ltS (a b : Str) : Bool := decide (a.cps.toList < b.cps.toList)
def leS (a b : Str) : Bool := decide (a.cps.toList ≤ b.cps.toList)
theorem str_ext {a b : Str} (h : a.cps.toList = b.cps.toList) : a = b := by
  cases a
  cases b
  rw [Str.mk.injEq]
  exact Array.toList_inj.mp h
theorem leS_not (a b : Str) : leS a b = !ltS b a := by
  unfold leS ltS
  rw [← PySem.W.not_lt_str]
theorem leS_trans (a b c : Str) (h : leS a b = true) (h' : leS b c = true) : leS a c = true :=
  decide_eq_true (List.le_trans (of_decide_eq_true h) (of_decide_eq_true h'))
theorem leS_total (a b : Str) : (leS a b || leS b a) = true := by
  rw [Bool.or_eq_true]
  rcases List.le_total a.cps.toList b.cps.toList with h | h
  · exact .inl (decide_eq_true h)
  · exact .inr (decide_eq_true h)
theorem ltS_trans {a b c : Str} (h : ltS a b = true) (h' : ltS b c = true) : ltS a c = true := decide_eq_true (List.lt_trans (of_decide_eq_true h) (of_decide_eq_true h'))
theorem ltS_irr (a : Str) : ltS a a = false := decide_eq_false (List.lt_irrefl _)
theorem leS_of_lt {a b : Str} (h : ltS a b = true) : leS a b = true := by
  rw [leS_not]
  cases q : ltS b a with
  | false => rfl
  | true => exact absurd (ltS_trans h q) (by rw [ltS_irr]; exact Bool.false_ne_true)
theorem ltS_of_le {a b : Str} (h : leS a b = true) (n : a ≠ b) : ltS a b = true := by
  cases q : ltS a b with
  | true => rfl
  | false =>
    have h2 : leS b a = true := by rw [leS_not, q]; rfl
    exact absurd (str_ext (List.le_antisymm (of_decide_eq_true h) (of_decide_eq_true h2))) n
theorem ltD_str (a b : Str) : ltD (.str a) (.str b) = ltS a b := PySem.W.dataLt_str a b
theorem sort_strs (ns : List Str) : sortD (ns.map D.str) = (ns.mergeSort leS).map D.str := by
  unfold sortD
  refine (List.map_mergeSort fun a _ b _ => ?_).symm
  unfold leD
  rw [ltD_str, leS_not]
theorem sort_fix {ns : List Str} : ns.mergeSort leS = ns ↔ ns.Pairwise fun a b => leS a b = true := by
  constructor
  · intro h
    rw [← h]
    exact List.pairwise_mergeSort leS_trans leS_total ns
  · exact List.mergeSort_of_pairwise
theorem rising_iff {ns : List Str} : (ns.Pairwise fun a b => ltS a b = true) ↔ (ns.Pairwise fun a b => leS a b = true) ∧ ns.Nodup := by
  constructor
  · intro h
    refine ⟨h.imp fun h => leS_of_lt h, h.imp fun {a b} h e => ?_⟩
    subst e
    rw [ltS_irr] at h
    cases h
  · rintro ⟨h1, h2⟩
    exact h1.imp₂ (fun a b h n => ltS_of_le h n) h2
/-! keys met once -/
theorem dedK_nodup_acc : ∀ (ks acc : List Key), (acc ++ ks).Nodup → ks.foldl addK acc = acc ++ ks
  | [], acc, _ => by rw [List.append_nil]; rfl
  | k :: ks, acc, h => by
    have no : ¬ hasK acc k = true := fun z => by
      have := hasK_iff.mp z
      exact (List.nodup_append.mp h).2.2 k this k List.mem_cons_self rfl
    rw [List.foldl_cons]
    have e : addK acc k = acc ++ [k] := if_neg no
    rw [e, dedK_nodup_acc ks (acc ++ [k]) (by rw [List.append_assoc]; exact h), List.append_assoc]
    rfl
theorem dedK_fold_nodup : ∀ (ks acc : List Key), acc.Nodup → (ks.foldl addK acc).Nodup
  | [], _, h => h
  | k :: ks, acc, h => dedK_fold_nodup ks _ (addK_nodup h)
theorem addK_short {ks : List Key} {k : Key} (h : k ∈ ks) : addK ks k = ks := if_pos (hasK_iff.mpr h)
theorem dedK_fold_len : ∀ (ks acc : List Key), (ks.foldl addK acc).length = acc.length + ks.length → acc.Nodup → (acc ++ ks).Nodup
  | [], acc, _, h => by rw [List.append_nil]; exact h
  | k :: ks, acc, hl, h => by
    rw [List.foldl_cons, List.length_cons] at hl
    have le : ∀ (ks acc : List Key), (ks.foldl addK acc).length ≤ acc.length + ks.length := by
      intro ks
      induction ks with
      | nil => exact fun _ => Nat.le_refl _
      | cons k ks ih =>
        intro acc
        have h1 := ih (addK acc k)
        have h2 := addK_len acc k
        rw [List.foldl_cons, List.length_cons]
        omega
    have hk : k ∉ acc := fun z => by
      rw [addK_short z] at hl
      have := le ks acc
      omega
    have e : addK acc k = acc ++ [k] := if_neg fun z => hk (hasK_iff.mp z)
    rw [e] at hl
    have := dedK_fold_len ks (acc ++ [k]) (by rw [hl, List.length_append]; show _ = acc.length + 1 + _; omega) (by
      refine List.nodup_append.mpr ⟨h, by simp, fun x hx y hy z => ?_⟩
      have : y = k := by simpa using hy
      subst this
      subst z
      exact hk hx)
    rw [List.append_assoc] at this
    exact this
theorem dedK_len_iff {ks : List Key} : (dedK ks).length = ks.length ↔ ks.Nodup := by
  constructor
  · intro h
    have := dedK_fold_len ks [] (by rw [List.length_nil, Nat.zero_add]; exact h) List.nodup_nil
    exact this
  · intro h
    have : dedK ks = [] ++ ks := dedK_nodup_acc ks [] h
    rw [this]
    rfl
theorem keysK_strs (ns : List Str) : keysK (ns.map D.str) = some (ns.map Sum.inr) := by
  induction ns with
  | nil => rfl
  | cons n ns ih =>
    rw [List.map_cons]
    unfold keysK
    rw [ih]
    rfl
theorem nodup_keys {ns : List Str} : (ns.map (Sum.inr : Str → Key)).Nodup ↔ ns.Nodup := by
  unfold List.Nodup
  rw [List.pairwise_map]
  exact ⟨fun h => h.imp fun h e => h (congrArg _ e), fun h => h.imp fun h e => h (Sum.inr.inj e)⟩
end VW

set_option Elab.async false
set_option linter.all false
set_option maxRecDepth 100000
/-! VM2: plain facts of dicts as lists of pairs. -/
namespace VW
open PySem PySem.Spec PyProof.Rows L2
section
variable {κ : Type} [DecidableEq κ]
theorem setK_new {kvs : List (κ × D)} {k : κ} {v : D} (h : k ∉ kvs.map (·.1)) : setK kvs k v = kvs ++ [(k, v)] := by
  unfold setK
  rw [if_neg]
  intro z
  rw [List.any_eq_true] at z
  obtain ⟨kv, hm, e⟩ := z
  exact h (List.mem_map.mpr ⟨kv, hm, of_decide_eq_true e⟩)
theorem getK_none {kvs : List (κ × D)} {k : κ} (h : k ∉ kvs.map (·.1)) : getK kvs k = none := by
  unfold getK
  rw [List.find?_eq_none.mpr]
  · rfl
  · intro kv hm e
    exact h (List.mem_map.mpr ⟨kv, hm, of_decide_eq_true e⟩)
theorem getK_mem : ∀ {kvs : List (κ × D)} {k : κ} {v : D}, (kvs.map (·.1)).Nodup → (k, v) ∈ kvs → getK kvs k = some v
  | (k', v') :: kvs, k, v, nd, hm => by
    rw [List.map_cons, List.nodup_cons] at nd
    by_cases e : k' = k
    · subst e
      rcases List.mem_cons.mp hm with e | hm
      · cases e
        simp [getK, List.find?_cons]
      · exact absurd (List.mem_map.mpr ⟨_, hm, rfl⟩) nd.1
    · rcases List.mem_cons.mp hm with e' | hm
      · cases e'
        exact absurd rfl e
      · have := getK_mem nd.2 hm
        unfold getK at this ⊢
        rw [List.find?_cons]
        simp only [e, decide_false]
        exact this
theorem getK_isSome {kvs : List (κ × D)} {k : κ} : (getK kvs k).isSome = decide (k ∈ kvs.map (·.1)) := by
  by_cases h : k ∈ kvs.map (·.1)
  · rw [decide_eq_true h]
    unfold getK
    rw [Option.isSome_map, List.find?_isSome]
    obtain ⟨kv, hm, e⟩ := List.mem_map.mp h
    exact ⟨kv, hm, decide_eq_true e⟩
  · rw [decide_eq_false h, getK_none h]
    rfl
end
theorem mergeD_app : ∀ (more kvs : List (Key × D)), ((kvs ++ more).map (·.1)).Nodup → mergeD kvs more = kvs ++ more
  | [], kvs, _ => (List.append_nil kvs).symm
  | (k, v) :: more, kvs, nd => by
    have h : k ∉ kvs.map (·.1) := by
      intro z
      rw [List.map_append, List.nodup_append] at nd
      exact nd.2.2 _ z k (List.mem_map.mpr ⟨(k, v), List.mem_cons_self, rfl⟩) rfl
    show mergeD (setK kvs k v) more = _
    rw [setK_new h, mergeD_app more _ (by rw [List.append_assoc]; exact nd), List.append_assoc]
    rfl
theorem mergeD_nil {more : List (Key × D)} (nd : (more.map (·.1)).Nodup) : mergeD [] more = more := by
  have := mergeD_app more [] (by rw [List.nil_append]; exact nd)
  rw [this, List.nil_append]
/-- a truth and itself -/
theorem beqB {b : Bool} {A B : Prop} (h : B) : if (!(b == b)) = true then A else B := by
  rw [beq_self_eq_true]
  exact h
end VW

set_option Elab.async false
set_option linter.all false
set_option maxRecDepth 100000
/-! VN0: plain programs. R: what a program gives; n..: operations on values; k_..: how what a def does follows from its plain program. -/
namespace VW
open PySem PySem.Spec PyProof.Rows L2

inductive R (α : Type) where
  | ok (a : α) | ex (x : Xn) | no
namespace R
variable {α β γ : Type}
def bind (r : R α) (f : α → R β) : R β := match r with
  | .ok a => f a
  | .ex x => .ex x
  | .no => .no
def post (r : R α) (P : α → Prop) (X : Xn → Prop) : Prop := match r with
  | .ok a => P a
  | .ex x => X x
  | .no => False
/-- what is raised counts as nothing -/
def calm (r : R α) : R α := match r with
  | .ok a => .ok a
  | _ => .no
def orR (a b : R Bool) : R Bool := a.bind fun x => if x = true then .ok true else b
def andR (a b : R Bool) : R Bool := a.bind fun x => if x = true then b else .ok false
def iteR (t : R Bool) (a b : R α) : R α := t.bind fun x => if x = true then a else b
def notR (t : R Bool) : R Bool := t.bind fun x => .ok (!x)
def need (c : Bool) (r : R α) : R α := if c = true then r else .no
def forN {σ : Type} (body : D → σ → (σ → R β) → R β) (after : σ → R β) : List D → σ → R β
  | [], s => after s
  | d :: ds, s => body d s fun s => forN body after ds s
/-- .. with a way out -/
def forB {σ : Type} (body : D → σ → (σ → R β) → (σ → R β) → R β) (after : σ → R β) : List D → σ → R β
  | [], s => after s
  | d :: ds, s => body d s (fun s => forB body after ds s) after
def whileN {σ : Type} (body : σ → (σ → R β) → (σ → R β) → R β) (after : σ → R β) : Nat → σ → R β
  | 0, _ => .no
  | n + 1, s => body s (fun s => whileN body after n s) after
/-- the most turns of a while -/
def most : Nat := 1000000
def lcM' (f : D → R D) : List D → R (List D)
  | [] => .ok []
  | d :: ds => (f d).calm.bind fun x => (lcM' f ds).bind fun xs => .ok (x :: xs)
def lcF' (f : D → R (Option D)) : List D → R (List D)
  | [] => .ok []
  | d :: ds => (f d).calm.bind fun x => (lcF' f ds).bind fun xs => .ok (x.toList ++ xs)
def lcS' {σ : Type} (f : D → σ → R (D × σ)) : List D → σ → R (List D × σ)
  | [], s => .ok ([], s)
  | d :: ds, s => (f d s).calm.bind fun p => (lcS' f ds p.2).bind fun q => .ok (p.1 :: q.1, q.2)
def lcM (f : D → R D) (ds : List D) : R (List D) := need (Nat.ble ds.length sizeLine) (lcM' f ds)
def lcF (f : D → R (Option D)) (ds : List D) : R (List D) := need (Nat.ble ds.length sizeLine) (lcF' f ds)
def lcS {σ : Type} (f : D → σ → R (D × σ)) (ds : List D) (s : σ) : R (List D × σ) := need (Nat.ble ds.length sizeLine) (lcS' f ds s)
section
variable {P : α → Prop} {Q : β → Prop} {X X' : Xn → Prop} {r : R α} {f : α → R β}
theorem post_bind : (r.bind f).post Q X = r.post (fun a => (f a).post Q X) X := by cases r <;> rfl
theorem asc {g : β → R γ} {Q : γ → Prop} (h : ((r.bind f).bind g).post Q X) : (r.bind fun x => (f x).bind g).post Q X := by cases r <;> exact h
theorem post_imp {P' : α → Prop} (h : r.post P X) (i : ∀ a, P a → P' a) (j : ∀ x, X x → X' x) : r.post P' X' := by
  cases r with
  | ok a => exact i a h
  | ex x => exact j x h
  | no => exact h
theorem bind_assoc {g : β → R γ} : (r.bind f).bind g = r.bind fun x => (f x).bind g := by cases r <;> rfl
@[simp] theorem ok_bind {a : α} : (R.ok a).bind f = f a := Eq.trans rfl rfl
@[simp] theorem ex_bind {x : Xn} : (R.ex x : R α).bind f = .ex x := Eq.trans rfl rfl
@[simp] theorem no_bind : (R.no : R α).bind f = .no := Eq.trans rfl rfl
@[simp] theorem calm_ok {a : α} : (R.ok a).calm = .ok a := Eq.trans rfl rfl
@[simp] theorem orR_ok {a : Bool} {b : R Bool} : orR (.ok a) b = if a = true then .ok true else b := Eq.trans rfl rfl
@[simp] theorem andR_ok {a : Bool} {b : R Bool} : andR (.ok a) b = if a = true then b else .ok false := Eq.trans rfl rfl
@[simp] theorem notR_ok {a : Bool} : notR (.ok a) = .ok !a := Eq.trans rfl rfl
@[simp] theorem iteR_ok {c : Bool} {a b : R α} : iteR (.ok c) a b = if c = true then a else b := Eq.trans rfl rfl
@[simp] theorem need_true : need true r = r := Eq.trans rfl rfl
end
end R
open R

/-! ### operations -/
def intD : D → Option Int
  | .int i => some i
  | _ => none
def nII (C : Int → Int → Prop) [∀ i j, Decidable (C i j)] (f : Int → Int → D) (a b : D) : R D := match a, b with
  | .int i, .int j => need (decide (C i j)) (.ok (f i j))
  | _, _ => .no
instance (i j : Int) : Decidable (CDiv i j) := inferInstanceAs (Decidable (_ ∧ _))
instance (i j : Int) : Decidable (CPow i j) := inferInstanceAs (Decidable (_ ∧ _ ∧ _))
instance (i j : Int) : Decidable (CMul i j) := inferInstanceAs (Decidable (_ ∨ _))
instance (i : Int) : Decidable (rngB i) := inferInstanceAs (Decidable (_ ∧ _))
def nSub (a b : D) : R D := match a, b with
  | .int i, .int j => .ok (.int (i - j))
  | _, _ => .no
def nDiv : D → D → R D := nII CDiv fun i j => .int (i / j)
def nMod (a b : D) : R D := match a, b with
  | .int i, .int j => need (decide (0 < j)) (.ok (.int (i % j)))
  | _, _ => .no
def nPow : D → D → R D := nII CPow fun i j => .int (i ^ j.toNat)
def nNeg (a : D) : R D := match a with
  | .int i => .ok (.int (-i))
  | _ => .no
def nAdd (a b : D) : R M := match a, b with
  | .int i, .int j => .ok (.fz (.int (i + j)))
  | .str s, .str t => need (Nat.ble (s.length + t.length) sizeLine) (.ok (.fz (.str (s ++ t))))
  | .tup s, .tup t => need (Nat.ble (s.length + t.length) sizeLine) (.ok (.fz (.tup (s ++ t))))
  | .lst s, .lst t => need (Nat.ble (s.length + t.length) sizeLine) (.ok (.lst (s ++ t)))
  | _, _ => .no
def nMul (a b : D) : R M := match a, b with
  | .int i, .int j => need (decide (CMul i j)) (.ok (.fz (.int (i * j))))
  | .tup ds, .int k => need (!ds.isEmpty && decide (2 ≤ k) && decide (k ≤ 1000) && decide (ds.length ≤ 1000)) (.ok (.fz (.tup (repD ds k))))
  | .lst ds, .int k => need (decide (-(2 ^ 63) ≤ k) && decide (k < 2 ^ 63) && decide (ds.length * k.toNat ≤ sizeLine)) (.ok (.lst (repD ds k)))
  | _, _ => .no
def nEq (neg : Bool) (a b : D) : R Bool := need (eqOk a b) (.ok (if neg = true then !eqD a b else eqD a b))
def nOrd (o : Od) (a b : D) : R Bool := match a, b with
  | .int i, .int j => .ok (o.int i j)
  | .str s, .str t => .ok (o.ans (decide (s.cps.toList < t.cps.toList)) (decide (t.cps.toList < s.cps.toList)))
  | x, y => need (ordOk x y) (.ok (o.ans (ltD x y) (ltD y x)))
def opqD : D → Bool
  | .opq => true
  | _ => false
def nIs (neg : Bool) (a b : D) : R Bool := match b with
  | .non => need (!opqD a) (.ok (if neg = true then !isNon a else isNon a))
  | _ => .no
def nInS (neg : Bool) (x : D) (ds : List D) : R Bool := match plainV x, plainVs ds with
  | some v, some vs => .ok (xorB neg (inV v vs))
  | _, _ => match x.py, D.pys ds with
    | some p, some ps => need (inOk p ps) (.ok (xorB neg (ps.any fun z => PyData.eqv z p)))
    | _, _ => .no
def nIn (neg : Bool) (a b : D) : R Bool := match b with
  | .str t => match a with
    | .str s => (match s.cps.toList with
      | [c] => .ok (xorB neg (decide (c ∈ t.cps.toList)))
      | _ => .no)
    | _ => .no
  | .dK kvs => match keyK a with
    | some k => .ok (xorB neg (getK kvs k).isSome)
    | none => .no
  | .dT kvs => match keyT a with
    | some k => .ok (xorB neg (getK kvs k).isSome)
    | none => .no
  | .tup ds => nInS neg a ds
  | .lst ds => nInS neg a ds
  | _ => .no
def ofO {α : Type} (o : Option α) : R α := match o with
  | some a => .ok a
  | none => .no
def nIx (a b : D) : R D := match a with
  | .tup ds => (ofO (intD b)).bind fun i => ofO (atI ds i)
  | .lst ds => (ofO (intD b)).bind fun i => ofO (atI ds i)
  | .scr ns => (ofO (intD b)).bind fun i => (ofO (atI ns i)).bind fun n => .ok (.int n)
  | .str s => (ofO (intD b)).bind fun i => (ofO (atI s.cps.toList i)).bind fun c => need (Nat.ble s.length sizeLine) (.ok (sgn c))
  | .dK kvs => (ofO (keyK b)).bind fun k => ofO (getK kvs k)
  | .dT kvs => (ofO (keyT b)).bind fun k => ofO (getK kvs k)
  | _ => .no
def lenOkB : D → Bool
  | .str s => Nat.ble s.length sizeLine
  | _ => true
def nLen (a : D) : R D := (ofO (lenD a)).bind fun n => need (lenOkB a) (.ok (.int n))
def nIsi (T : String) (a : D) : R Bool := (ofO (tyNm a)).bind fun t => need (isiTs.contains T) (.ok (isiB t T))
def nAll (a : D) : R Bool := match a with
  | .lst ds => (ofO (bools ds)).bind fun bs => .ok (bs.all id)
  | _ => .no
def nTuple (a : D) : R D := match a with
  | .lst ds => .ok (.tup ds)
  | .tup ds => .ok (.tup ds)
  | _ => .no
def nList (a : D) : R (List D) := match a with
  | .lst ds => .ok ds
  | .tup ds => .ok ds
  | _ => .no
def nSorted (a : D) : R (List D) := match a with
  | .lst ds => (ofO (D.pys ds)).bind fun ps => need (sortOk ps) (.ok (sortD ds))
  | _ => .no
def nDict (a : D) : R (List (Key × D)) := match a with
  | .tup ds => (ofO (pairsK ds)).bind fun kvs => .ok (mergeD [] kvs)
  | .lst ds => (ofO (pairsK ds)).bind fun kvs => .ok (mergeD [] kvs)
  | .dK kvs => .ok kvs
  | _ => .no
def nLenSet (a : D) : R D := match a with
  | .lst ds => (ofO (keysK ds)).bind fun ks => need (Nat.ble ks.length 4000) (.ok (.int (dedK ks).length))
  | .tup ds => (ofO (keysK ds)).bind fun ks => need (Nat.ble ks.length 4000) (.ok (.int (dedK ks).length))
  | _ => .no
def nSl (a : D) (lo hi : Option Int) : R M := match a with
  | .tup ds => .ok (.fz (.tup (cutD ds lo hi)))
  | .lst ds => .ok (.lst (cutD ds lo hi))
  | .str s => need (Nat.ble s.length sizeLine) (.ok (.fz (.str (cutS s lo hi))))
  | _ => .no
def nInt (a : D) : R Int := ofO (intD a)
def nRev (a : D) : R M := match a with
  | .tup ds => .ok (.fz (.tup ds.reverse))
  | .lst ds => .ok (.lst ds.reverse)
  | _ => .no
def strsD : List D → Option (List Str)
  | [] => some []
  | .str s :: ds => (strsD ds).map (s :: ·)
  | _ :: _ => none
def nJoin (a b : D) : R D := match a, b with
  | .str s, .lst ds => (ofO (strsD ds)).bind fun ts => need (Nat.ble ((ts.map (·.length)).sum + ts.length * s.length) 16777216) (.ok (.str (Txt.join s ts)))
  | _, _ => .no
def nSIx (a b : D) : R D := match a, b with
  | .str s, .str t => (match Builtin.Str.occurrences s t 0 s.length 1 with
    | i :: _ => .ok (.int (i : Nat))
    | [] => .no)
  | _, _ => .no
def nStL (ds : List D) (a d : D) : R (List D) := (ofO (intD a)).bind fun i => (ofO (ixN ds.length i)).bind fun j => .ok (ds.set j d)
def nStK (kvs : List (Key × D)) (a d : D) : R (List (Key × D)) := (ofO (keyK a)).bind fun k => need (decide (kvs.length < 16777216)) (.ok (setK kvs k d))
def nStT (kvs : List (List Key × D)) (a d : D) : R (List (List Key × D)) := (ofO (keyT a)).bind fun k => need (decide (kvs.length < 16777216)) (.ok (setK kvs k d))
def nApp (ds : List D) (d : D) : R (List D) := need (decide (ds.length < 16777216)) (.ok (ds ++ [d]))
def nExt (ds : List D) (a : D) : R (List D) := match a with
  | .lst es => need (decide (ds.length + es.length ≤ 16777216)) (.ok (ds ++ es))
  | _ => .no
def nPop0 (ds : List D) : R (D × List D) := (ofO ds[ds.length - 1]?).bind fun d => .ok (d, ds.dropLast)
def nPop (ds : List D) (a : D) : R (D × List D) := (ofO (intD a)).bind fun i => need (decide (-(2 ^ 63) ≤ i) && decide (i < 2 ^ 63)) ((ofO (seqIndex? i ds.length)).bind fun k => (ofO ds[k]?).bind fun d => .ok (d, ds.eraseIdx k))
def nIns (ds : List D) (a d : D) : R (List D) := (ofO (intD a)).bind fun i => need (decide (ds.length < 16777216) && decide (0 ≤ i) && decide (i < 2 ^ 63)) (.ok (ds.take i.toNat ++ [d] ++ ds.drop i.toNat))
def nTru (a : D) : R Bool := ofO (truD a)
def nItems (a : D) : R (List D) := ofO (itemsD a)
def nR1 (a : D) : R (List D) := (ofO (intD a)).bind fun j => need (decide (rngB j)) (.ok (rngD 0 j.toNat))
def nR2 (a b : D) : R (List D) := (ofO (intD a)).bind fun i => (ofO (intD b)).bind fun j => need (decide (rngB i) && decide (rngB j)) (.ok (rngD i (j - i).toNat))
def nR3 (a b c : D) : R (List D) := (ofO (intD a)).bind fun i => (ofO (intD b)).bind fun j => (ofO (intD c)).bind fun c =>
  need (decide (c ≠ 0) && decide (c.natAbs < 1073741824) && Builtin.Range.small i j c && decide (0 ≤ Builtin.Range.rangeSize i j c)) (.ok (rngC i c (Builtin.Range.rangeSize i j c).toNat))
def nUn2 (a : D) : R (D × D) := match a with
  | .tup [a, b] => .ok (a, b)
  | _ => .no
def nUn3 (a : D) : R (D × D × D) := match a with
  | .tup [a, b, c] => .ok (a, b, c)
  | _ => .no
def nUn4 (a : D) : R (D × D × D × D) := match a with
  | .tup [a, b, c, d] => .ok (a, b, c, d)
  | _ => .no
def nUn5 (a : D) : R (D × D × D × D × D) := match a with
  | .tup [a, b, c, d, e] => .ok (a, b, c, d, e)
  | _ => .no
end VW

set_option Elab.async false
set_option linter.all false
set_option maxRecDepth 100000
/-! VN1: how what a def does follows from its plain program, one lemma for each operation. -/
namespace VW
open PySem PySem.Spec PyProof.Rows L2 R

section
variable {β : Type} {P : β → Prop} {XP : Xn → Prop} {k : M → Prop}
theorem need_h {α : Type} {c : Bool} {r : R α} {f : α → R β} (h : ((need c r).bind f).post P XP) : c = true ∧ (r.bind f).post P XP := by
  unfold need at h
  split at h
  · exact ⟨by assumption, h⟩
  · exact h.elim
theorem ofO_h {α : Type} {o : Option α} {f : α → R β} (h : ((ofO o).bind f).post P XP) : ∃ a, o = some a ∧ (f a).post P XP := by
  unfold ofO at h
  split at h
  · exact ⟨_, rfl, h⟩
  · exact h.elim
theorem ofO_h2 {α γ : Type} {o : Option α} {g : α → R γ} {f : γ → R β} (h : (((ofO o).bind g).bind f).post P XP) : ∃ a, o = some a ∧ ((g a).bind f).post P XP := ofO_h (asc h)
theorem intD_eq {m : M} {i : Int} (h : intD m.d = some i) : m = .fz (.int i) := by
  unfold intD at h
  split at h
  · rename_i e
    cases h
    cases m with
    | fz d => exact congrArg M.fz e
    | _ => cases e
  · cases h
theorem isInt_eq {m : M} {i : Int} {k : Int → Prop} (h : intD m.d = some i) (q : k i) : isInt m k := by
  rw [intD_eq h]
  exact q
theorem d_int {m : M} {i : Int} (h : m.d = .int i) : m = .fz (.int i) := intD_eq (by rw [h]; rfl)
theorem d_str {m : M} {i : Str} (h : m.d = .str i) : m = .fz (.str i) := by
  cases m with
  | fz d => exact congrArg M.fz h
  | _ => cases h
theorem d_tup {m : M} {i : List D} (h : m.d = .tup i) : m = .fz (.tup i) := by
  cases m with
  | fz d => exact congrArg M.fz h
  | _ => cases h
theorem d_non {m : M} (h : m.d = .non) : m = .fz .non := by
  cases m with
  | fz d => exact congrArg M.fz h
  | _ => cases h
variable {ma mb : M}
theorem k_sub {f : D → R β} (h : ((nSub ma.d mb.d).bind f).post P XP) (q : ∀ v, (f v).post P XP → k (.fz v)) : opSub ma mb k := by
  unfold nSub at h
  split at h
  · rename_i e1 e2
    rw [d_int e1, d_int e2]
    exact ⟨trivial, q _ h⟩
  · exact h.elim
theorem k_II {C : Int → Int → Prop} [∀ i j, Decidable (C i j)] {g : Int → Int → D} {f : D → R β} (h : ((nII C g ma.d mb.d).bind f).post P XP) (q : ∀ v, (f v).post P XP → k (.fz v)) : opII C g ma mb k := by
  unfold nII at h
  split at h
  · rename_i e1 e2
    obtain ⟨c, h⟩ := need_h h
    rw [d_int e1, d_int e2]
    exact ⟨of_decide_eq_true c, q _ h⟩
  · exact h.elim
theorem k_div {f : D → R β} (h : ((nDiv ma.d mb.d).bind f).post P XP) (q : ∀ v, (f v).post P XP → k (.fz v)) : opDiv ma mb k := k_II h q
theorem k_pow {f : D → R β} (h : ((nPow ma.d mb.d).bind f).post P XP) (q : ∀ v, (f v).post P XP → k (.fz v)) : opPow ma mb k := k_II h q
theorem k_mod {f : D → R β} (h : ((nMod ma.d mb.d).bind f).post P XP) (q : ∀ v, (f v).post P XP → k (.fz v)) : opMod ma mb k := by
  unfold nMod at h
  split at h
  · rename_i e1 e2
    obtain ⟨c, h⟩ := need_h h
    rw [d_int e1, d_int e2]
    exact ⟨of_decide_eq_true c, q _ h⟩
  · exact h.elim
theorem k_neg {f : D → R β} (h : ((nNeg ma.d).bind f).post P XP) (q : ∀ v, (f v).post P XP → k (.fz v)) : opNeg ma k := by
  unfold nNeg at h
  split at h
  · rename_i e1
    rw [d_int e1]
    exact q _ h
  · exact h.elim
theorem opAdd_L {x y : List D} (e1 : ma.d = .lst x) (e2 : mb.d = .lst y) (h : x.length + y.length ≤ sizeLine) (q : k (.lst (x ++ y))) : opAdd ma mb k := by
  unfold opAdd
  split
  · cases e1
  · cases e1
  · cases e1
  · unfold opAddL
    try rw [e1, e2]
    exact ⟨h, q⟩
theorem k_add {f : M → R β} (h : ((nAdd ma.d mb.d).bind f).post P XP) (q : ∀ v, (f v).post P XP → k v) : opAdd ma mb k := by
  unfold nAdd at h
  split at h
  · rename_i e1 e2
    rw [d_int e1, d_int e2]
    exact q _ h
  · rename_i e1 e2
    obtain ⟨c, h⟩ := need_h h
    rw [d_str e1, d_str e2]
    exact ⟨Nat.le_of_ble_eq_true c, q _ h⟩
  · rename_i e1 e2
    obtain ⟨c, h⟩ := need_h h
    rw [d_tup e1, d_tup e2]
    exact ⟨Nat.le_of_ble_eq_true c, q _ h⟩
  · rename_i e1 e2
    obtain ⟨c, h⟩ := need_h h
    exact opAdd_L e1 e2 (Nat.le_of_ble_eq_true c) (q _ h)
  · exact h.elim
theorem opMul_L {x : List D} {i : Int} (e1 : ma.d = .lst x) (e2 : mb.d = .int i) (h1 : -(2 ^ 63) ≤ i) (h2 : i < 2 ^ 63) (h : x.length * i.toNat ≤ sizeLine) (q : k (.lst (repD x i))) : opMul ma mb k := by
  unfold opMul
  split
  · cases e1
  · cases e1
  · unfold opMulL
    try rw [e1, e2]
    exact ⟨h1, h2, h, q⟩
theorem k_mul {f : M → R β} (h : ((nMul ma.d mb.d).bind f).post P XP) (q : ∀ v, (f v).post P XP → k v) : opMul ma mb k := by
  unfold nMul at h
  split at h
  · rename_i e1 e2
    obtain ⟨c, h⟩ := need_h h
    rw [d_int e1, d_int e2]
    exact ⟨of_decide_eq_true c, q _ h⟩
  · rename_i ds i e1 e2
    obtain ⟨c, h⟩ := need_h h
    simp only [Bool.and_eq_true, decide_eq_true_eq, Bool.not_eq_true', List.isEmpty_eq_false_iff] at c
    rw [d_tup e1, d_int e2]
    exact ⟨c.1.1.1, c.1.1.2, c.1.2, c.2, q _ h⟩
  · rename_i ds i e1 e2
    obtain ⟨c, h⟩ := need_h h
    simp only [Bool.and_eq_true, decide_eq_true_eq] at c
    exact opMul_L e1 e2 c.1.1 c.1.2 c.2 (q _ h)
  · exact h.elim
theorem k_eq {neg : Bool} {f : Bool → R β} (h : ((nEq neg ma.d mb.d).bind f).post P XP) (q : ∀ v, (f v).post P XP → k (.fz (.bl v))) : opEq neg ma mb k := by
  unfold nEq at h
  obtain ⟨c, h⟩ := need_h h
  exact ⟨c, q _ h⟩
theorem k_ord {o : Od} {f : Bool → R β} (h : ((nOrd o ma.d mb.d).bind f).post P XP) (q : ∀ v, (f v).post P XP → k (.fz (.bl v))) : opOrd o ma mb k := by
  unfold nOrd at h
  unfold opOrd
  split at h
  · rename_i e1 e2
    try rw [e1, e2]
    exact q _ h
  · rename_i e1 e2
    try rw [e1, e2]
    exact q _ h
  · rename_i x y n1 n2
    obtain ⟨c, h⟩ := need_h h
    first
    | exact ⟨c, q _ h⟩
    | split
      · rename_i e1 e2
        exact (n1 _ _ e1 e2).elim
      · rename_i e1 e2
        exact (n2 _ _ e1 e2).elim
      · exact ⟨c, q _ h⟩
theorem k_is {neg : Bool} {f : Bool → R β} (h : ((nIs neg ma.d mb.d).bind f).post P XP) (q : ∀ v, (f v).post P XP → k (.fz (.bl v))) : opIs neg ma mb k := by
  unfold nIs at h
  split at h
  · rename_i e
    obtain ⟨c, h⟩ := need_h h
    rw [d_non e]
    refine ⟨?_, q _ h⟩
    split
    · rename_i e1
      rw [e1] at c
      cases c
    · trivial
  · exact h.elim
theorem k_inS {neg : Bool} {x : D} {ds : List D} {f : Bool → R β} (h : ((nInS neg x ds).bind f).post P XP) (q : ∀ v, (f v).post P XP → k (.fz (.bl v))) : opInS neg x ds k := by
  unfold nInS at h
  unfold opInS
  split at h
  · rename_i e1 e2
    try rw [e1, e2]
    exact q _ h
  · rename_i n1
    split at h
    · rename_i e1 e2
      obtain ⟨c, h⟩ := need_h h
      first
      | exact ⟨c, q _ h⟩
      | split
        · rename_i e3 e4
          exact (n1 _ _ e3 e4).elim
        · try rw [e1, e2]
          exact ⟨c, q _ h⟩
    · exact h.elim
theorem k_in {neg : Bool} {f : Bool → R β} (h : ((nIn neg ma.d mb.d).bind f).post P XP) (q : ∀ v, (f v).post P XP → k (.fz (.bl v))) : opIn neg ma mb k := by
  unfold nIn at h
  unfold opIn
  split at h
  · rename_i e
    try rw [e]
    try dsimp only
    split at h
    · rename_i e
      split at h
      · rename_i e2
        try rw [e]
        try dsimp only
        try rw [e2]
        exact q _ h
      · exact h.elim
    · exact h.elim
  · rename_i e
    try rw [e]
    try dsimp only
    split at h
    · rename_i e
      try rw [e]
      exact q _ h
    · exact h.elim
  · rename_i e
    try rw [e]
    try dsimp only
    split at h
    · rename_i e
      try rw [e]
      exact q _ h
    · exact h.elim
  · rename_i e
    try rw [e]
    exact k_inS h q
  · rename_i e
    try rw [e]
    exact k_inS h q
  · exact h.elim
theorem k_ix {f : D → R β} (h : ((nIx ma.d mb.d).bind f).post P XP) (q : ∀ v, (f v).post P XP → k (.fz v)) : opIx ma mb k := by
  unfold nIx at h
  unfold opIx
  split at h
  · rename_i e
    try rw [e]
    obtain ⟨i, e1, h⟩ := ofO_h2 h
    obtain ⟨d, e2, h⟩ := ofO_h h
    refine isInt_eq e1 ?_
    try rw [e2]
    exact q _ h
  · rename_i e
    try rw [e]
    obtain ⟨i, e1, h⟩ := ofO_h2 h
    obtain ⟨d, e2, h⟩ := ofO_h h
    refine isInt_eq e1 ?_
    try rw [e2]
    exact q _ h
  · rename_i e
    try rw [e]
    obtain ⟨i, e1, h⟩ := ofO_h2 h
    obtain ⟨d, e2, h⟩ := ofO_h2 h
    refine isInt_eq e1 ?_
    try rw [e2]
    exact q _ h
  · rename_i e
    try rw [e]
    obtain ⟨i, e1, h⟩ := ofO_h2 h
    obtain ⟨d, e2, h⟩ := ofO_h2 h
    obtain ⟨c, h⟩ := need_h h
    refine isInt_eq e1 ?_
    try rw [e2]
    exact ⟨Nat.le_of_ble_eq_true c, q _ h⟩
  · rename_i e
    try rw [e]
    try dsimp only
    obtain ⟨i, e1, h⟩ := ofO_h2 h
    obtain ⟨d, e2, h⟩ := ofO_h h
    try rw [e1]
    try dsimp only
    try rw [e2]
    exact q _ h
  · rename_i e
    try rw [e]
    try dsimp only
    obtain ⟨i, e1, h⟩ := ofO_h2 h
    obtain ⟨d, e2, h⟩ := ofO_h h
    try rw [e1]
    try dsimp only
    try rw [e2]
    exact q _ h
  · exact h.elim
theorem k_len {f : D → R β} (h : ((nLen ma.d).bind f).post P XP) (q : ∀ v, (f v).post P XP → k (.fz v)) : opLen [ma] k := by
  unfold nLen at h
  unfold opLen one
  try dsimp only
  obtain ⟨n, e, h⟩ := ofO_h2 h
  obtain ⟨c, h⟩ := need_h h
  try rw [e]
  refine ⟨?_, q _ h⟩
  unfold lenOkB at c
  unfold lenOk
  split
  · rename_i e
    rw [e] at c
    exact Nat.le_of_ble_eq_true c
  · trivial
theorem k_isi {T : String} {f : Bool → R β} (h : ((nIsi T ma.d).bind f).post P XP) (q : ∀ v, (f v).post P XP → k (.fz (.bl v))) : opIsi [ma, .fz (.ty T)] k := by
  unfold nIsi at h
  unfold opIsi two
  try dsimp only
  obtain ⟨n, e, h⟩ := ofO_h2 h
  obtain ⟨c, h⟩ := need_h h
  try rw [e]
  exact ⟨c, q _ h⟩
theorem k_all {f : Bool → R β} (h : ((nAll ma.d).bind f).post P XP) (q : ∀ v, (f v).post P XP → k (.fz (.bl v))) : opAll [ma] k := by
  unfold nAll at h
  unfold opAll one
  try dsimp only
  split at h
  · rename_i e
    try rw [e]
    try dsimp only
    obtain ⟨bs, e, h⟩ := ofO_h2 h
    try rw [e]
    exact q _ h
  · exact h.elim
theorem k_tuple {f : D → R β} (h : ((nTuple ma.d).bind f).post P XP) (q : ∀ v, (f v).post P XP → k (.fz v)) : opTuple [ma] k := by
  unfold nTuple at h
  unfold opTuple one
  try dsimp only
  split at h
  · rename_i e
    try rw [e]
    exact q _ h
  · rename_i e
    try rw [e]
    exact q _ h
  · exact h.elim
theorem k_list {f : List D → R β} (h : ((nList ma.d).bind f).post P XP) (q : ∀ v, (f v).post P XP → k (.lst v)) : opList [ma] k := by
  unfold nList at h
  unfold opList one
  try dsimp only
  split at h
  · rename_i e
    try rw [e]
    exact q _ h
  · rename_i e
    try rw [e]
    exact q _ h
  · exact h.elim
theorem k_sorted {f : List D → R β} (h : ((nSorted ma.d).bind f).post P XP) (q : ∀ v, (f v).post P XP → k (.lst v)) : opSorted [ma] k := by
  unfold nSorted at h
  unfold opSorted one
  try dsimp only
  split at h
  · rename_i e
    try rw [e]
    try dsimp only
    obtain ⟨bs, e, h⟩ := ofO_h2 h
    obtain ⟨c, h⟩ := need_h h
    try rw [e]
    exact ⟨c, q _ h⟩
  · exact h.elim
theorem k_dict {f : List (Key × D) → R β} (h : ((nDict ma.d).bind f).post P XP) (q : ∀ v, (f v).post P XP → k (.dK v)) : opDict [ma] k := by
  unfold nDict at h
  unfold opDict one
  try dsimp only
  split at h
  · rename_i e
    try rw [e]
    try dsimp only
    obtain ⟨bs, e, h⟩ := ofO_h2 h
    try rw [e]
    exact q _ h
  · rename_i e
    try rw [e]
    try dsimp only
    obtain ⟨bs, e, h⟩ := ofO_h2 h
    try rw [e]
    exact q _ h
  · rename_i e
    try rw [e]
    exact q _ h
  · exact h.elim
theorem k_lenSet {f : D → R β} (h : ((nLenSet ma.d).bind f).post P XP) (q : ∀ v, (f v).post P XP → k (.fz v)) : opLenSet ma k := by
  unfold nLenSet at h
  unfold opLenSet
  split at h
  · rename_i e
    try rw [e]
    try dsimp only
    obtain ⟨bs, e, h⟩ := ofO_h2 h
    obtain ⟨c, h⟩ := need_h h
    try rw [e]
    exact ⟨Nat.le_of_ble_eq_true c, q _ h⟩
  · rename_i e
    try rw [e]
    try dsimp only
    obtain ⟨bs, e, h⟩ := ofO_h2 h
    obtain ⟨c, h⟩ := need_h h
    try rw [e]
    exact ⟨Nat.le_of_ble_eq_true c, q _ h⟩
  · exact h.elim
theorem k_sl {lo hi : Option Int} {f : M → R β} (h : ((nSl ma.d lo hi).bind f).post P XP) (q : ∀ v, (f v).post P XP → k v) : opSl ma lo hi k := by
  unfold nSl at h
  unfold opSl
  split at h
  · rename_i e
    try rw [e]
    exact q _ h
  · rename_i e
    try rw [e]
    exact q _ h
  · rename_i e
    obtain ⟨c, h⟩ := need_h h
    try rw [e]
    exact ⟨Nat.le_of_ble_eq_true c, q _ h⟩
  · exact h.elim
theorem k_rev {f : M → R β} (h : ((nRev ma.d).bind f).post P XP) (q : ∀ v, (f v).post P XP → k v) : opRev ma k := by
  unfold nRev at h
  unfold opRev
  split at h
  · rename_i e
    try rw [e]
    exact q _ h
  · rename_i e
    try rw [e]
    exact q _ h
  · exact h.elim
theorem strsD_eq : ∀ {ds : List D} {ts : List Str}, strsD ds = some ts → ds = ts.map D.str
  | [], _, e => by cases e; rfl
  | d :: ds, ts, e => by
    cases d <;> first
      | (unfold strsD at e
         obtain ⟨cs, e1, rfl⟩ := Option.map_eq_some_iff.mp e
         rw [strsD_eq e1]
         rfl)
      | (cases e; done)
theorem k_join {f : D → R β} (h : ((nJoin ma.d mb.d).bind f).post P XP) (q : ∀ v, (f v).post P XP → k (.fz v)) : opJoin ma [mb] k := by
  unfold nJoin at h
  unfold opJoin one
  try dsimp only
  split at h
  · rename_i e1 e2
    try rw [e1, e2]
    obtain ⟨ts, e, h⟩ := ofO_h2 h
    obtain ⟨c, h⟩ := need_h h
    exact ⟨ts, strsD_eq e, Nat.le_of_ble_eq_true c, q _ h⟩
  · exact h.elim
theorem k_six {f : D → R β} (h : ((nSIx ma.d mb.d).bind f).post P XP) (q : ∀ v, (f v).post P XP → k (.fz v)) : opSIx ma [mb] k := by
  unfold nSIx at h
  unfold opSIx one
  try dsimp only
  split at h
  · rename_i e1 e2
    try rw [e1, e2]
    try dsimp only
    split at h
    · rename_i e
      try rw [e]
      exact q _ h
    · exact h.elim
  · exact h.elim
/-! stores, methods that change a place -/
theorem k_stL {ds : List D} {d : D} {f : List D → R β} (h : ((nStL ds mb.d d).bind f).post P XP) (q : ∀ v, (f v).post P XP → k (.lst v)) : opSt (.lst ds) mb d k := by
  unfold nStL at h
  obtain ⟨i, e1, h⟩ := ofO_h2 h
  obtain ⟨j, e2, h⟩ := ofO_h2 h
  unfold opSt opStL
  refine isInt_eq e1 ?_
  try rw [e2]
  exact q _ h
theorem k_stK {ds : List (Key × D)} {d : D} {f : List (Key × D) → R β} (h : ((nStK ds mb.d d).bind f).post P XP) (q : ∀ v, (f v).post P XP → k (.dK v)) : opSt (.dK ds) mb d k := by
  unfold nStK at h
  obtain ⟨i, e1, h⟩ := ofO_h2 h
  obtain ⟨c, h⟩ := need_h h
  unfold opSt opStK
  try dsimp only
  try rw [e1]
  exact ⟨of_decide_eq_true c, q _ h⟩
theorem k_stT {ds : List (List Key × D)} {d : D} {f : List (List Key × D) → R β} (h : ((nStT ds mb.d d).bind f).post P XP) (q : ∀ v, (f v).post P XP → k (.dT v)) : opSt (.dT ds) mb d k := by
  unfold nStT at h
  obtain ⟨i, e1, h⟩ := ofO_h2 h
  obtain ⟨c, h⟩ := need_h h
  unfold opSt opStK
  try dsimp only
  try rw [e1]
  exact ⟨of_decide_eq_true c, q _ h⟩
variable {kk : D → M → Prop}
theorem k_app {ds : List D} {d : D} {f : List D → R β} (h : ((nApp ds d).bind f).post P XP) (q : ∀ v, (f v).post P XP → kk .non (.lst v)) : opAppend (.lst ds) [.fz d] kk := by
  unfold nApp at h
  obtain ⟨c, h⟩ := need_h h
  exact ⟨of_decide_eq_true c, q _ h⟩
theorem k_ext {ds : List D} {f : List D → R β} (h : ((nExt ds ma.d).bind f).post P XP) (q : ∀ v, (f v).post P XP → kk .non (.lst v)) : opExtend (.lst ds) [ma] kk := by
  unfold nExt at h
  unfold opExtend one
  try dsimp only
  split at h
  · rename_i e
    obtain ⟨c, h⟩ := need_h h
    try rw [e]
    exact ⟨of_decide_eq_true c, q _ h⟩
  · exact h.elim
theorem k_pop0 {ds : List D} {f : D × List D → R β} (h : ((nPop0 ds).bind f).post P XP) (q : ∀ v w, (f (v, w)).post P XP → kk v (.lst w)) : opPop0 (.lst ds) [] kk := by
  unfold nPop0 at h
  obtain ⟨i, e1, h⟩ := ofO_h2 h
  unfold opPop0
  try dsimp only
  try rw [e1]
  exact q _ _ h
theorem k_pop {ds : List D} {f : D × List D → R β} (h : ((nPop ds ma.d).bind f).post P XP) (q : ∀ v w, (f (v, w)).post P XP → kk v (.lst w)) : opPopL (.lst ds) [ma] kk := by
  unfold nPop at h
  obtain ⟨i, e1, h⟩ := ofO_h2 h
  obtain ⟨c, h⟩ := need_h h
  obtain ⟨j, e2, h⟩ := ofO_h2 h
  obtain ⟨d, e3, h⟩ := ofO_h2 h
  simp only [Bool.and_eq_true, decide_eq_true_eq] at c
  unfold opPopL one
  try dsimp only
  refine isInt_eq e1 ⟨c.1, c.2, ?_⟩
  try rw [e2]
  try dsimp only
  rw [e3]
  exact q _ _ h
theorem k_ins {ds : List D} {d : D} {f : List D → R β} (h : ((nIns ds ma.d d).bind f).post P XP) (q : ∀ v, (f v).post P XP → kk .non (.lst v)) : opInsert (.lst ds) [ma, .fz d] kk := by
  unfold nIns at h
  obtain ⟨i, e1, h⟩ := ofO_h2 h
  obtain ⟨c, h⟩ := need_h h
  simp only [Bool.and_eq_true, decide_eq_true_eq] at c
  unfold opInsert two
  try dsimp only
  exact isInt_eq e1 ⟨c.1.1, c.1.2, c.2, q _ h⟩
theorem k_reverse {ds : List D} {f : List D → R β} (h : ((R.ok ds.reverse).bind f).post P XP) (q : ∀ v, (f v).post P XP → kk .non (.lst v)) : opReverse (.lst ds) [] kk := q _ h
/-! truth, items -/
def truK (m : M) (QT : Bool → En → Prop) (e1 : En) : Prop := match truD m.d with
  | some b => QT b e1
  | none => False
theorem k_tru {QT : Bool → En → Prop} {e1 : En} {f : Bool → R β} (h : ((nTru ma.d).bind f).post P XP) (q : ∀ v, (f v).post P XP → QT v e1) : truK ma QT e1 := by
  obtain ⟨i, e1, h⟩ := ofO_h h
  unfold truK
  try rw [e1]
  exact q _ h
variable {e : En} {QI : List D → En → Prop} {XX : XQ}
def itK (m : M) (QI : List D → En → Prop) (e1 : En) : Prop := match itemsD m.d with
  | some ds => QI ds e1
  | none => False
theorem k_items {f : List D → R β} (h : ((nItems ma.d).bind f).post P XP) (q : ∀ v, (f v).post P XP → QI v e) : itK ma QI e := by
  obtain ⟨i, e1, h⟩ := ofO_h h
  unfold itK
  try rw [e1]
  exact q _ h
theorem k_r1 {f : List D → R β} (h : ((nR1 ma.d).bind f).post P XP) (q : ∀ v, (f v).post P XP → QI v e) : isInt ma fun j => rngB j ∧ QI (rngD 0 j.toNat) e := by
  unfold nR1 at h
  obtain ⟨i, e1, h⟩ := ofO_h2 h
  obtain ⟨c, h⟩ := need_h h
  exact isInt_eq e1 ⟨of_decide_eq_true c, q _ h⟩
theorem k_r2 {f : List D → R β} (h : ((nR2 ma.d mb.d).bind f).post P XP) (q : ∀ v, (f v).post P XP → QI v e) : isInt ma fun i => isInt mb fun j => rngB i ∧ rngB j ∧ QI (rngD i (j - i).toNat) e := by
  unfold nR2 at h
  obtain ⟨i, e1, h⟩ := ofO_h2 h
  obtain ⟨j, e2, h⟩ := ofO_h2 h
  obtain ⟨c, h⟩ := need_h h
  simp only [Bool.and_eq_true, decide_eq_true_eq] at c
  exact isInt_eq e1 (isInt_eq e2 ⟨c.1, c.2, q _ h⟩)
theorem k_r3 {mc : M} {f : List D → R β} (h : ((nR3 ma.d mb.d mc.d).bind f).post P XP) (q : ∀ v, (f v).post P XP → QI v e) : isInt ma fun i => isInt mb fun j => isInt mc fun c => ∃ n, RgC i j c n ∧ QI (rngC i c n) e := by
  unfold nR3 at h
  obtain ⟨i, e1, h⟩ := ofO_h2 h
  obtain ⟨j, e2, h⟩ := ofO_h2 h
  obtain ⟨l, e3, h⟩ := ofO_h2 h
  obtain ⟨c, h⟩ := need_h h
  simp only [Bool.and_eq_true, decide_eq_true_eq] at c
  refine isInt_eq e1 (isInt_eq e2 (isInt_eq e3 ⟨_, ⟨c.1.1.1, c.1.1.2, c.1.2, ?_⟩, q _ h⟩))
  exact (Int.toNat_of_nonneg c.2).symm
end
end VW

set_option Elab.async false
set_option linter.all false
set_option maxRecDepth 100000
/-! VN2: how what a def does follows from its plain program: names, displays, tests, calls, statements, loops, comprehensions. -/
namespace VW
open PySem PySem.Spec PyProof.Rows L2 R

namespace R
variable {α β : Type}
def orB (x : Bool) (b : R Bool) : R Bool := if x = true then .ok true else b
def andB (x : Bool) (b : R Bool) : R Bool := if x = true then b else .ok false
def iteB (x : Bool) (a b : R α) : R α := if x = true then a else b
def forS {σ : Type} (body : D → σ → R σ) : List D → σ → R σ
  | [], s => .ok s
  | d :: ds, s => (body d s).bind (forS body ds)
def whileS {σ : Type} (test : σ → R Bool) (body : σ → R σ) : Nat → σ → R σ
  | 0, _ => .no
  | n + 1, s => (test s).bind fun c => if c = true then (body s).bind (whileS test body n) else .ok s
/-- ways that come together again -/
def jn {σ : Type} (rest : σ → R β) (g : (σ → R β) → R β) : R β := g rest
@[simp] theorem orB_ok {x b : Bool} : orB x (.ok b) = .ok (x || b) := by cases x <;> rfl
@[simp] theorem andB_ok {x b : Bool} : andB x (.ok b) = .ok (x && b) := by cases x <;> rfl
end R
section
variable {β : Type} {P : β → Prop} {XP : Xn → Prop}
variable {e e1 : En} {Q : M → En → Prop} {X : XQ} {QO : Opd → En → Prop} {QA : List Opd → En → Prop} {QT : Bool → En → Prop} {QP : Option Int → En → Prop} {QI : List D → En → Prop} {E : WEnds} {w wa wb : WE} {o oa ob oc : WO} {a r : WA} {t u : WT} {A B : WS} {i : Nat} {m : M} {d : D}
/-! names, operands -/
theorem k_c (q : Q (.fz d) e) : wC d e Q X := q
theorem k_kl {ds : List D} (q : Q (.lst ds) e) : wKl ds e Q X := q
theorem k_var (h : e[i]? = some (some m)) (q : Q (.fz m.d) (e.set i (some (.fz m.d)))) : wVar i e Q X := by
  unfold wVar
  rw [h]
  exact q
theorem k_varF (h : e[i]? = some (some (.fz d))) (q : Q (.fz d) e) : wVar i e Q X := by
  unfold wVar
  rw [h]
  have hi := (List.getElem?_eq_some_iff.mp h)
  have : e.set i (some (.fz d)) = e := by
    apply List.ext_getElem?
    intro j
    by_cases z : i = j
    · subst z
      rw [List.getElem?_set_self hi.1, h]
    · rw [List.getElem?_set_ne z]
  show Q (.fz d) (e.set i (some (.fz d)))
  rw [this]
  exact q
theorem k_val (q : w e (fun m e1 => QO (.vl m) e1) X) : oVal w e QO X := q
theorem k_fz (q : w e (fun m e1 => QO (.vl (.fz m.d)) e1) X) : oFz w e QO X := q
theorem k_pk (h : e[i]? = some (some m)) (q : QO (.pk i) e) : oPk i e QO X := by
  unfold oPk
  rw [h]
  exact q
theorem k_wv {k : M → Prop} (q : k m) : withO (.vl m) e k := q
theorem k_wp {k : M → Prop} (h : e[i]? = some (some m)) (q : k m) : withO (.pk i) e k := by
  unfold withO
  try dsimp only
  rw [h]
  exact q
theorem k_an (q : QA [] e) : aNil e QA X := q
theorem k_ac (q : o e (fun a e1 => r e1 (fun as e2 => QA (a :: as) e2) X) X) : aCons o r e QA X := q
theorem k_as0 {k : List M → Prop} (q : k []) : withAs [] e k := q
theorem k_asv {as : List Opd} {k : List M → Prop} (q : withAs as e fun ms => k (m :: ms)) : withAs (.vl m :: as) e k := q
theorem k_asp {as : List Opd} {k : List M → Prop} (h : e[i]? = some (some m)) (q : withAs as e fun ms => k (m :: ms)) : withAs (.pk i :: as) e k := by
  unfold withAs
  exact k_wp h q
theorem k_w1 {op : OP1} (q : o e (fun a e1 => withO a e1 fun ma => op ma fun m => Q m e1) X) : w1 op o e Q X := q
theorem k_w2 {op : OP2} (q : oa e (fun a e1 => ob e1 (fun b e2 => withO a e2 fun ma => withO b e2 fun mb => op ma mb fun m => Q m e2) X) X) : w2 op oa ob e Q X := q
theorem k_wN {op : OPN} (q : a e (fun as e1 => withAs as e1 fun ms => op ms fun m => Q m e1) X) : wN op a e Q X := q
theorem k_wsl {op : OPS} {lo hi : WP} (q : o e (fun a e1 => lo e1 (fun l e2 => hi e2 (fun h e3 => withO a e3 fun ma => op ma l h fun m => Q m e3) X) X) X) : wSl op o lo hi e Q X := q
theorem k_pno (q : QP none e) : pNo e QP X := q
def pintK (QP : Option Int → En → Prop) (m : M) (e1 : En) : Prop := match m with
  | .fz (.int i) => QP (some i) e1
  | _ => False
theorem k_pint (q : w e (fun m e1 => pintK QP m e1) X) : pInt w e QP X := q
theorem j_pint {f : Int → R β} (h : ((nInt m.d).bind f).post P XP) (q : ∀ v, (f v).post P XP → QP (some v) e) : pintK QP m e := by
  obtain ⟨i, e1, h⟩ := ofO_h h
  rw [intD_eq e1]
  exact q _ h
theorem k_wmt {T : String} {op : M → OPN} (q : o e (fun a e1 => withO a e1 (fun m => mTy T m.d = true) ∧ r e1 (fun as e2 => withO a e2 fun m => withAs as e2 fun ms => op m ms fun r => Q r e2) X) X) : wMt T op o r e Q X := q
/-! displays -/
theorem k_tup {k : M → Prop} {ms : List M} {ds : List D} (h : fzs ms = some ds) (hl : Nat.ble ds.length 4096 = true) (q : k (.fz (.tup ds))) : opTup ms k := by
  unfold opTup dsl
  rw [h]
  try dsimp only
  rw [hl]
  exact q
theorem k_lst {k : M → Prop} {ms : List M} {ds : List D} (h : fzs ms = some ds) (hl : Nat.ble ds.length 4096 = true) (q : k (.lst ds)) : opLst ms k := by
  unfold opLst dsl
  rw [h]
  try dsimp only
  rw [hl]
  exact q
theorem k_dK (q : Q (.dK []) e) : wDict e Q X := .inl q
theorem k_dT (q : Q (.dT []) e) : wDict e Q X := .inr q
/-! tests -/
def tvK (QT : Bool → En → Prop) (m : M) (e1 : En) : Prop := match m with
  | .fz (.bl b) => QT b e1
  | _ => False
theorem k_tval (q : w e (fun m e1 => tvK QT m e1) X) : tVal w e QT X := q
theorem j_tv {b : Bool} (q : QT b e) : tvK QT (.fz (.bl b)) e := q
theorem j_tvM {f : Bool → R β} (h : ((nTru m.d).bind f).post P XP) (hb : ∀ b, truD m.d = some b → m = .fz (.bl b)) (q : ∀ v, (f v).post P XP → QT v e) : tvK QT m e := by
  obtain ⟨i, e1, h⟩ := ofO_h h
  rw [hb _ e1]
  exact q _ h
theorem k_ttru (q : o e (fun a e1 => withO a e1 fun m => truK m QT e1) X) : tTru o e QT X := q
theorem k_tnot (q : t e (fun b e1 => QT (!b) e1) X) : tNotW t e QT X := q
def orK (QT : Bool → En → Prop) (u : WT) (X : XQ) (x : Bool) (e1 : En) : Prop := if x = true then QT true e1 else u e1 QT X
def andK (QT : Bool → En → Prop) (u : WT) (X : XQ) (x : Bool) (e1 : En) : Prop := if x = true then u e1 QT X else QT false e1
theorem k_tor (q : t e (fun b e1 => orK QT u X b e1) X) : tOrW t u e QT X := q
theorem k_tand (q : t e (fun b e1 => andK QT u X b e1) X) : tAndW t u e QT X := q
variable {α : Type} {f : α → R β} {x : Bool} {a1 a2 : R α}
theorem ite_h {A1 A2 : R α} (h : ((if x = true then A1 else A2).bind f).post P XP) {G1 G2 : Prop} (h1 : (A1.bind f).post P XP → G1) (h2 : (A2.bind f).post P XP → G2) : if x = true then G1 else G2 := by
  cases x
  · exact h2 h
  · exact h1 h
theorem j_tor (mk : α → Bool) (en : α → En) (h : ((if x = true then a1 else a2).bind f).post P XP) (h1 : (∀ v, (f v).post P XP → QT (mk v) (en v)) → (a1.bind f).post P XP → QT true e1)
    (h2 : (∀ v, (f v).post P XP → QT (mk v) (en v)) → (a2.bind f).post P XP → u e1 QT X) (J : ∀ v, (f v).post P XP → QT (mk v) (en v)) : orK QT u X x e1 := ite_h h (h1 J) (h2 J)
theorem j_tand (mk : α → Bool) (en : α → En) (h : ((if x = true then a1 else a2).bind f).post P XP) (h1 : (∀ v, (f v).post P XP → QT (mk v) (en v)) → (a1.bind f).post P XP → u e1 QT X)
    (h2 : (∀ v, (f v).post P XP → QT (mk v) (en v)) → (a2.bind f).post P XP → QT false e1) (J : ∀ v, (f v).post P XP → QT (mk v) (en v)) : andK QT u X x e1 := ite_h h (h1 J) (h2 J)
/-! values of and, or, not, if else, chains -/
def worK (Q : M → En → Prop) (w : WE) (X : XQ) (m : M) (e1 : En) : Prop := match m with
  | .fz (.bl true) => Q (.fz (.bl true)) e1
  | .fz (.bl false) => w e1 Q X
  | _ => False
def wandK (Q : M → En → Prop) (w : WE) (X : XQ) (m : M) (e1 : En) : Prop := match m with
  | .fz (.bl true) => w e1 Q X
  | .fz (.bl false) => Q (.fz (.bl false)) e1
  | _ => False
def wnotK (Q : M → En → Prop) (m : M) (e1 : En) : Prop := match m with
  | .fz (.bl b) => Q (.fz (.bl !b)) e1
  | _ => False
def wifK (Q : M → En → Prop) (wa wb : WE) (X : XQ) (c : Bool) (e1 : En) : Prop := if c = true then wa e1 Q X else wb e1 Q X
theorem k_wor (q : wa e (fun m e1 => worK Q wb X m e1) X) : wOr wa wb e Q X := q
theorem k_wand (q : wa e (fun m e1 => wandK Q wb X m e1) X) : wAnd wa wb e Q X := q
theorem k_wnot (q : w e (fun m e1 => wnotK Q m e1) X) : wNot w e Q X := q
theorem j_wnot {b : Bool} (q : Q (.fz (.bl !b)) e) : wnotK Q (.fz (.bl b)) e := q
theorem k_wif (q : t e (fun c e1 => wifK Q wa wb X c e1) X) : wIf t wa wb e Q X := q
theorem j_wor (mk : α → M) (en : α → En) (h : ((if x = true then a1 else a2).bind f).post P XP) (h1 : (∀ v, (f v).post P XP → Q (mk v) (en v)) → (a1.bind f).post P XP → Q (.fz (.bl true)) e1)
    (h2 : (∀ v, (f v).post P XP → Q (mk v) (en v)) → (a2.bind f).post P XP → w e1 Q X) (J : ∀ v, (f v).post P XP → Q (mk v) (en v)) : worK Q w X (.fz (.bl x)) e1 := by
  cases x
  · exact h2 J h
  · exact h1 J h
theorem j_wand (mk : α → M) (en : α → En) (h : ((if x = true then a1 else a2).bind f).post P XP) (h1 : (∀ v, (f v).post P XP → Q (mk v) (en v)) → (a1.bind f).post P XP → w e1 Q X)
    (h2 : (∀ v, (f v).post P XP → Q (mk v) (en v)) → (a2.bind f).post P XP → Q (.fz (.bl false)) e1) (J : ∀ v, (f v).post P XP → Q (mk v) (en v)) : wandK Q w X (.fz (.bl x)) e1 := by
  cases x
  · exact h2 J h
  · exact h1 J h
theorem j_wif (mk : α → M) (en : α → En) (h : ((if x = true then a1 else a2).bind f).post P XP) (h1 : (∀ v, (f v).post P XP → Q (mk v) (en v)) → (a1.bind f).post P XP → wa e1 Q X)
    (h2 : (∀ v, (f v).post P XP → Q (mk v) (en v)) → (a2.bind f).post P XP → wb e1 Q X) (J : ∀ v, (f v).post P XP → Q (mk v) (en v)) : wifK Q wa wb X x e1 := ite_h h (h1 J) (h2 J)
def chK (Q : M → En → Prop) (q : Prop) (m : M) (e1 : En) : Prop := match m with
  | .fz (.bl true) => q
  | .fz (.bl false) => Q (.fz (.bl false)) e1
  | _ => False
theorem k_chain {op op' : OP2} (q : oa e (fun a e1 => ob e1 (fun b e2 => withO a e2 fun ma => withO b e2 fun mb => op ma mb fun m => chK Q (oc e2 (fun c e3 => withO b e3 fun mb' => withO c e3 fun mc => op' mb' mc fun m => Q m e3) X) m e2) X) X) : wChain op op' oa ob oc e Q X := q
theorem j_chain {q : Prop} (mk : α → M) (en : α → En) (h : ((if x = true then a1 else a2).bind f).post P XP) (h1 : (∀ v, (f v).post P XP → Q (mk v) (en v)) → (a1.bind f).post P XP → q)
    (h2 : (∀ v, (f v).post P XP → Q (mk v) (en v)) → (a2.bind f).post P XP → Q (.fz (.bl false)) e1) (J : ∀ v, (f v).post P XP → Q (mk v) (en v)) : chK Q q (.fz (.bl x)) e1 := by
  cases x
  · exact h2 J h
  · exact h1 J h
/-! calls -/
theorem k_call {fn : Fn} (q : r e (fun as e1 => mvAs as e1 fun ms e2 => ms.length = fn.n ∧ fn.sp ms (fun m ms' => Q m (bkAs as ms' e2)) (fun x => X x e2)) X) : wCall fn r e Q X := q
theorem k_mv0 {k : List M → En → Prop} (q : k [] e) : mvAs [] e k := q
theorem k_mvv {as : List Opd} {k : List M → En → Prop} (q : mvAs as e fun ms e' => k (m :: ms) e') : mvAs (.vl m :: as) e k := q
theorem k_mvp {as : List Opd} {k : List M → En → Prop} (h : e[i]? = some (some m)) (q : mvAs as (e.set i none) fun ms e' => k (m :: ms) e') : mvAs (.pk i :: as) e k := by
  unfold mvAs
  rw [h]
  exact q
theorem k_post {P' : α → Prop} {X' : Xn → Prop} {rr : R α} (h : (rr.bind f).post P XP) (q : ∀ v, (f v).post P XP → P' v) (hx : ∀ x, XP x → X' x) : rr.post P' X' := by
  rw [post_bind] at h
  exact post_imp h q hx
/-! statements -/
theorem k_seq (q : A { E with nx := fun e' => B E e' } e) : sSeq A B E e := q
theorem k_set (q : w e (fun m e1 => E.nx (e1.set i (some m))) E.ex) : sSet i w E e := q
theorem k_expr (q : w e (fun _ e1 => E.nx e1) E.ex) : sExpr w E e := q
theorem k_nx (q : E.nx e) : sNx E e := q
theorem k_retv (q : w e (fun m e1 => E.rt m e1) E.ex) : sRet (oVal w) E e := q
theorem k_retp (h : e[i]? = some (some m)) (q : E.rt m (e.set i none)) : sRet (oPk i) E e := by
  unfold sRet oPk
  try dsimp only
  rw [h]
  exact q
def sifK (A B : WS) (E : WEnds) (c : Bool) (e1 : En) : Prop := if c = true then A E e1 else B E e1
theorem k_sif (q : t e (fun c e1 => sifK A B E c e1) E.ex) : sIf t A B E e := q
theorem j_sif {r1 r2 : R β} (h : (if x = true then r1 else r2).post P XP) (h1 : r1.post P XP → A E e1) (h2 : r2.post P XP → B E e1) : sifK A B E x e1 := by
  cases x
  · exact h2 h
  · exact h1 h
theorem j_sifJ {ι : Type} (en : α → ι → En) (h : ((if x = true then a1 else a2).bind f).post P XP) (h1 : (∀ v j, (f v).post P XP → E.nx (en v j)) → (a1.bind f).post P XP → A E e1)
    (h2 : (∀ v j, (f v).post P XP → E.nx (en v j)) → (a2.bind f).post P XP → B E e1) (J : ∀ v j, (f v).post P XP → E.nx (en v j)) : sifK A B E x e1 := ite_h h (h1 J) (h2 J)
theorem k_jn {σ ι : Type} {rest : σ → R β} {g : (σ → R β) → R β} (en : σ → ι → En) (h : (jn rest g).post P XP) {G : Prop} {nx : En → Prop} (q : (∀ v j, (rest v).post P XP → nx (en v j)) → (g rest).post P XP → G) (J : ∀ v j, (rest v).post P XP → nx (en v j)) : G := q J h
def asgK (t : Tg) (m : M) (e : En) (nx : En → Prop) : Prop := match t.asg m e with
  | some e2 => nx e2
  | none => False
def asgsK (ts : List Tg) (ds : List D) (e : En) (nx : En → Prop) : Prop := match Tg.asgs ts ds e with
  | some e2 => nx e2
  | none => False
theorem k_asg {g : Tg} (q : w e (fun m e1 => asgK g m e1 E.nx) E.ex) : sAsg g w E e := q
variable {nx : En → Prop}
theorem g_nm (q : nx (e.set i (some m))) : asgK (.nm i) m e nx := q
theorem g_nil (q : nx e) : asgsK [] [] e nx := q
theorem g_cons {g : Tg} {gs : List Tg} {ds : List D} (q : asgK g (.fz d) e fun e1 => asgsK gs ds e1 nx) : asgsK (g :: gs) (d :: ds) e nx := by
  unfold asgsK Tg.asgs
  unfold asgK at q
  cases h : g.asg (.fz d) e with
  | none =>
    rw [h] at q
    exact q.elim
  | some e1 =>
    rw [h] at q
    exact q
theorem g_tup {gs : List Tg} {ds : List D} (h : m.d = .tup ds) (q : asgsK gs ds e nx) : asgK (.tp gs) m e nx := by
  unfold asgK Tg.asg
  rw [h]
  exact q
theorem g_un2 {gs : List Tg} {f : D × D → R β} (h : ((nUn2 m.d).bind f).post P XP) (q : ∀ a b, (f (a, b)).post P XP → asgsK gs [a, b] e nx) : asgK (.tp gs) m e nx := by
  unfold nUn2 at h
  split at h
  · rename_i e1
    exact g_tup e1 (q _ _ h)
  · exact h.elim
theorem g_un3 {gs : List Tg} {f : D × D × D → R β} (h : ((nUn3 m.d).bind f).post P XP) (q : ∀ a b c, (f (a, b, c)).post P XP → asgsK gs [a, b, c] e nx) : asgK (.tp gs) m e nx := by
  unfold nUn3 at h
  split at h
  · rename_i e1
    exact g_tup e1 (q _ _ _ h)
  · exact h.elim
theorem g_un4 {gs : List Tg} {f : D × D × D × D → R β} (h : ((nUn4 m.d).bind f).post P XP) (q : ∀ a b c d, (f (a, b, c, d)).post P XP → asgsK gs [a, b, c, d] e nx) : asgK (.tp gs) m e nx := by
  unfold nUn4 at h
  split at h
  · rename_i e1
    exact g_tup e1 (q _ _ _ _ h)
  · exact h.elim
theorem g_un5 {gs : List Tg} {f : D × D × D × D × D → R β} (h : ((nUn5 m.d).bind f).post P XP) (q : ∀ a b c d g, (f (a, b, c, d, g)).post P XP → asgsK gs [a, b, c, d, g] e nx) : asgK (.tp gs) m e nx := by
  unfold nUn5 at h
  split at h
  · rename_i e1
    exact g_tup e1 (q _ _ _ _ _ h)
  · exact h.elim
/-! stores, methods that change a place -/
theorem k_mut {T : String} {op : OPM} (h : e[i]? = some (some m)) (hT : isTy T m = true) (q : r e (fun as e1 => mutK T op i Q as e1) X) : wMut T op i r e Q X := e_Mut h hT q
theorem j_mut {T : String} {op : OPM} {as : List Opd} (h : e[i]? = some (some m)) (hT : isTy T m = true) (q : withAs as (e.set i none) fun ms => op m ms fun d m' => Q (.fz d) (e.set i (some m'))) : mutK T op i Q as e := e_mutK h hT q
variable {opp : M → M → D → (M → Prop) → Prop}
def subJ (opp : M → M → D → (M → Prop) → Prop) (p : Nat) (nx : En → Prop) (m : M) (a : Opd) (e2 : En) : Prop := match e2[p]? with
  | some (some mp) => isPl mp = true ∧ withO a (e2.set p none) fun mi => opp mp mi m.d fun mp' => nx (e2.set p (some mp'))
  | _ => False
def subK (opp : M → M → D → (M → Prop) → Prop) (p : Nat) (oi : WO) (nx : En → Prop) (X : XQ) (m : M) (e1 : En) : Prop := match e1[p]? with
  | some (some _) => oi e1 (fun a e2 => subJ opp p nx m a e2) X
  | _ => False
theorem k_subs (q : w e (fun m e1 => subK opp i o E.nx E.ex m e1) E.ex) : sSub opp i o w E e := q
theorem j_subK {m0 : M} (h : e[i]? = some (some m0)) (q : o e (fun a e2 => subJ opp i nx m a e2) X) : subK opp i o nx X m e := by
  unfold subK
  rw [h]
  exact q
theorem j_subJ {mp : M} {ao : Opd} (h : e[i]? = some (some mp)) (hp : isPl mp = true) (q : withO ao (e.set i none) fun mi => opp mp mi m.d fun mp' => nx (e.set i (some mp'))) : subJ opp i nx m ao e := by
  unfold subJ
  rw [h]
  exact ⟨hp, q⟩
def augK (op : OP2) (i : Nat) (d : D) (nx : En → Prop) (a : Opd) (e1 : En) : Prop := withO a e1 fun m => op (.fz d) m fun r => nx (e1.set i (some r))
theorem k_aug {op : OP2} (h : e[i]? = some (some (.fz d))) (q : o e (fun a e1 => augK op i d E.nx a e1) E.ex) : sAug op i o E e := by
  unfold sAug
  rw [h]
  exact q
/-- an owned thing is not changed any more -/
def sFrz (i : Nat) : WS := fun E e => match e[i]? with
  | some (some m) => E.nx (e.set i (some (.fz m.d)))
  | _ => E.nx e
theorem k_frz (h : e[i]? = some (some m)) (q : E.nx (e.set i (some (.fz m.d)))) : sFrz i E e := by
  unfold sFrz
  rw [h]
  exact q
/-! loops -/
theorem k_iseq (q : w e (fun m e1 => itK m QI e1) X) : iSeq w e QI X := q
theorem k_ir1 (q : o e (fun a e1 => withO a e1 fun m => isInt m fun j => rngB j ∧ QI (rngD 0 j.toNat) e1) X) : iR1 o e QI X := q
theorem k_ir2 (q : oa e (fun a e1 => ob e1 (fun b e2 => withO a e2 fun m => withO b e2 fun m' => isInt m fun i => isInt m' fun j => rngB i ∧ rngB j ∧ QI (rngD i (j - i).toNat) e2) X) X) : iR2 oa ob e QI X := q
theorem k_ir3 (q : oa e (fun a e1 => ob e1 (fun b e2 => oc e2 (fun c e3 => withO a e3 fun m => withO b e3 fun m' => withO c e3 fun m'' => isInt m fun i => isInt m' fun j => isInt m'' fun c => ∃ n, RgC i j c n ∧ QI (rngC i c n) e3) X) X) X) : iR3 oa ob oc e QI X := q
theorem k_for {wi : WI} {g : Tg} (q : wi e (fun ds e1 => forGo g A E ds e1) E.ex) : sFor wi g A E e := q
variable {σ ι : Type} {g : Tg}
theorem j_forN (emb : σ → ι → En) {body : D → σ → (σ → R β) → R β} {after : σ → R β}
    (hb : ∀ d s j (N : En → Prop) (K : σ → R β), (∀ s' j', (K s').post P XP → N (emb s' j')) → (body d s K).post P XP → asgK g (.fz d) (emb s j) fun e1 => A { nx := N, rt := E.rt, bk := E.nx, ct := N, ex := E.ex } e1)
    (ha : ∀ s j, (after s).post P XP → E.nx (emb s j)) : ∀ (ds : List D) (s : σ) (j : ι), (forN body after ds s).post P XP → forGo g A E ds (emb s j)
  | [], s, j, h => ha s j h
  | d :: ds, s, j, h => hb d s j (forGo g A E ds) (fun s => forN body after ds s) (fun s' j' h => j_forN emb hb ha ds s' j' h) h
theorem j_forB (emb : σ → ι → En) {body : D → σ → (σ → R β) → (σ → R β) → R β} {after : σ → R β}
    (hb : ∀ d s j (N : En → Prop) (K : σ → R β), (∀ s' j', (K s').post P XP → N (emb s' j')) → (body d s K after).post P XP → asgK g (.fz d) (emb s j) fun e1 => A { nx := N, rt := E.rt, bk := E.nx, ct := N, ex := E.ex } e1)
    (ha : ∀ s j, (after s).post P XP → E.nx (emb s j)) : ∀ (ds : List D) (s : σ) (j : ι), (forB body after ds s).post P XP → forGo g A E ds (emb s j)
  | [], s, j, h => ha s j h
  | d :: ds, s, j, h => hb d s j (forGo g A E ds) (fun s => forB body after ds s) (fun s' j' h => j_forB emb hb ha ds s' j' h) h
theorem j_forS (emb : σ → ι → En) {body : D → σ → R σ} {S : σ → Prop}
    (hb : ∀ d s j (N : En → Prop) (S : σ → Prop), (∀ s' j', S s' → N (emb s' j')) → (body d s).post S XP → asgK g (.fz d) (emb s j) fun e1 => A { nx := N, rt := E.rt, bk := E.nx, ct := N, ex := E.ex } e1)
    (ha : ∀ s j, S s → E.nx (emb s j)) : ∀ (ds : List D) (s : σ) (j : ι), (forS body ds s).post S XP → forGo g A E ds (emb s j)
  | [], s, j, h => ha s j h
  | d :: ds, s, j, h => hb d s j (forGo g A E ds) (fun s => (forS body ds s).post S XP) (fun s' j' h => j_forS emb hb ha ds s' j' h) (by
    unfold forS at h
    rw [post_bind] at h
    exact h)
theorem j_forSb {f : σ → R β} (emb : σ → ι → En) {body : D → σ → R σ}
    (hb : ∀ d s j (N : En → Prop) (S : σ → Prop), (∀ s' j', S s' → N (emb s' j')) → (body d s).post S XP → asgK g (.fz d) (emb s j) fun e1 => A { nx := N, rt := E.rt, bk := E.nx, ct := N, ex := E.ex } e1)
    (ha : ∀ s j, (f s).post P XP → E.nx (emb s j)) (ds : List D) (s : σ) (j : ι) (h : ((forS body ds s).bind f).post P XP) : forGo g A E ds (emb s j) := by
  rw [post_bind] at h
  exact j_forS emb hb ha ds s j h
def whlK (A : WS) (E : WEnds) (N : En → Prop) (c : Bool) (e1 : En) : Prop := if c = true then A { nx := N, rt := E.rt, bk := E.nx, ct := N, ex := E.ex } e1 else E.nx e1
theorem j_whileN (emb : σ → ι → En) {body : σ → (σ → R β) → (σ → R β) → R β} {after : σ → R β}
    (hb : ∀ s j (N : En → Prop) (K : σ → R β), (∀ s' j', (K s').post P XP → N (emb s' j')) → (body s K after).post P XP → t (emb s j) (fun c e1 => whlK A E N c e1) E.ex)
    (n : Nat) (s : σ) (j : ι) (h : (whileN body after n s).post P XP) : sWhile t A E (emb s j) := by
  refine ⟨fun n e => ∃ s j, e = emb s j ∧ (whileN body after n s).post P XP, ⟨n, s, j, rfl, h⟩, ?_⟩
  rintro m _ ⟨s, j, rfl, h⟩
  cases m with
  | zero => exact h.elim
  | succ m => exact hb s j _ (fun s => whileN body after m s) (fun s' j' h => ⟨m, Nat.lt_succ_self m, s', j', rfl, h⟩) h
theorem j_whileS {f : σ → R β} (emb : σ → ι → En) {test : σ → R Bool} {body : σ → R σ}
    (hb : ∀ s j (N : En → Prop) (S : σ → Prop) (S' : σ → Prop), (∀ s' j', S s' → N (emb s' j')) → (∀ s' j', S' s' → E.nx (emb s' j')) → ((test s).bind fun c => if c = true then (body s).bind fun s => .ok (s, true) else .ok (s, false)).post (fun p => if p.2 = true then S p.1 else S' p.1) XP → t (emb s j) (fun c e1 => whlK A E N c e1) E.ex)
    (ha : ∀ s j, (f s).post P XP → E.nx (emb s j)) (n : Nat) (s : σ) (j : ι) (h : ((whileS test body n s).bind f).post P XP) : sWhile t A E (emb s j) := by
  rw [post_bind] at h
  refine ⟨fun n e => ∃ s j, e = emb s j ∧ (whileS test body n s).post (fun s => (f s).post P XP) XP, ⟨n, s, j, rfl, h⟩, ?_⟩
  rintro m _ ⟨s, j, rfl, h⟩
  cases m with
  | zero => exact h.elim
  | succ m =>
    refine hb s j _ (fun s => (whileS test body m s).post (fun s => (f s).post P XP) XP) (fun s => (f s).post P XP) (fun s' j' h => ⟨m, Nat.lt_succ_self m, s', j', rfl, h⟩) ha ?_
    unfold whileS at h
    rw [post_bind] at h ⊢
    refine post_imp h (fun c h => ?_) fun _ z => z
    cases c
    · exact h
    · rw [if_pos rfl] at h ⊢
      rw [post_bind] at h ⊢
      exact post_imp h (fun s h => h) fun _ z => z
/-! comprehensions -/
def lcK (g : Tg) (tt : WT) (te : WE) (own : List Nat) (Q : M → En → Prop) (ds : List D) (e1 : En) : Prop := ds.length ≤ sizeLine ∧ lcGo g tt te own ds [] (wipeE e1 own) fun acc e2 => Q (.lst acc) (unwipe e1 own e2)
theorem k_lc {wi : WI} {g : Tg} {tt : WT} {te : WE} {own : List Nat} (q : wi e (fun ds e1 => lcK g tt te own Q ds e1) X) : wLc wi g tt te own e Q X := q
variable {te : WE} {tt : WT} {own : List Nat} {kk : List D → En → Prop}
theorem calm_post {rr : R α} {S : α → Prop} (h : rr.calm.post S XP) : rr.post S fun _ => False := by
  cases rr with
  | ok a => exact h
  | _ => exact h.elim
theorem lcM_go {ff : D → R D} {e0 : En} (hb : ∀ d (S : D → Prop) (KK : M → En → Prop), (∀ m e3, wipeE e3 own = e0 → S m.d → KK m e3) → (ff d).post S (fun _ => False) → asgK g (.fz d) e0 fun e1 => te e1 KK noX) :
    ∀ (ds acc : List D), (lcM' ff ds).post (fun xs => kk (acc ++ xs) e0) XP → lcGo g tYesW te own ds acc e0 kk
  | [], acc, h => by
    have h : kk (acc ++ []) e0 := h
    rw [List.append_nil] at h
    exact h
  | d :: ds, acc, h => by
    unfold lcM' at h
    rw [post_bind] at h
    have z := hb d _ (fun m e3 => lcGo g tYesW te own ds (acc ++ [m.d]) (wipeE e3 own) kk) (fun m e3 hw h => ?_) (calm_post h)
    · unfold asgK at z
      unfold lcGo
      split at z
      · rename_i e1
        try rw [e1]
        exact z
      · exact z.elim
    · rw [hw]
      rw [post_bind] at h
      refine lcM_go hb ds _ (post_imp h (fun xs h => ?_) fun _ z => z)
      rw [List.append_assoc]
      exact h
theorem j_lcM {ff : D → R D} {ds : List D} {f : List D → R β} (h : ((lcM ff ds).bind f).post P XP) (hb : ∀ d (S : D → Prop) (KK : M → En → Prop), (∀ m e3, wipeE e3 own = wipeE e own → S m.d → KK m e3) → (ff d).post S (fun _ => False) → asgK g (.fz d) (wipeE e own) fun e1 => te e1 KK noX)
     (q : ∀ xs, (f xs).post P XP → Q (.lst xs) (unwipe e own (wipeE e own))) : lcK g tYesW te own Q ds e := by
  obtain ⟨c, h⟩ := need_h h
  rw [post_bind] at h
  exact ⟨Nat.le_of_ble_eq_true c, lcM_go hb ds [] (post_imp h (fun xs h => q xs h) fun _ z => z)⟩
theorem lcF_go {ff : D → R (Option D)} {e0 : En} (hb : ∀ d (S : Option D → Prop) (KK : M → En → Prop) (K0 : En → Prop), (∀ m e3, wipeE e3 own = e0 → S (some m.d) → KK m e3) → (∀ e3, wipeE e3 own = e0 → S none → K0 e3) → (ff d).post S (fun _ => False) → asgK g (.fz d) e0 fun e1 => tt e1 (fun b e2 => if b = true then te e2 KK noX else K0 e2) noX) :
    ∀ (ds acc : List D), (lcF' ff ds).post (fun xs => kk (acc ++ xs) e0) XP → lcGo g tt te own ds acc e0 kk
  | [], acc, h => by
    have h : kk (acc ++ []) e0 := h
    rw [List.append_nil] at h
    exact h
  | d :: ds, acc, h => by
    unfold lcF' at h
    rw [post_bind] at h
    have z := hb d _ (fun m e3 => lcGo g tt te own ds (acc ++ [m.d]) (wipeE e3 own) kk) (fun e3 => lcGo g tt te own ds acc (wipeE e3 own) kk) (fun m e3 hw h => ?_) (fun e3 hw h => ?_) (calm_post h)
    · unfold asgK at z
      unfold lcGo
      split at z
      · rename_i e1
        try rw [e1]
        exact z
      · exact z.elim
    · rw [hw]
      rw [post_bind] at h
      refine lcF_go hb ds _ (post_imp h (fun xs h => ?_) fun _ z => z)
      rw [List.append_assoc]
      exact h
    · rw [hw]
      rw [post_bind] at h
      exact lcF_go hb ds _ (post_imp h (fun xs h => h) fun _ z => z)
theorem j_lcF {ff : D → R (Option D)} {ds : List D} {f : List D → R β} (h : ((lcF ff ds).bind f).post P XP) (hb : ∀ d (S : Option D → Prop) (KK : M → En → Prop) (K0 : En → Prop), (∀ m e3, wipeE e3 own = wipeE e own → S (some m.d) → KK m e3) → (∀ e3, wipeE e3 own = wipeE e own → S none → K0 e3) → (ff d).post S (fun _ => False) → asgK g (.fz d) (wipeE e own) fun e1 => tt e1 (fun b e2 => if b = true then te e2 KK noX else K0 e2) noX)
     (q : ∀ xs, (f xs).post P XP → Q (.lst xs) (unwipe e own (wipeE e own))) : lcK g tt te own Q ds e := by
  obtain ⟨c, h⟩ := need_h h
  rw [post_bind] at h
  exact ⟨Nat.le_of_ble_eq_true c, lcF_go hb ds [] (post_imp h (fun xs h => q xs h) fun _ z => z)⟩
def lciK (te : WE) (KK : M → En → Prop) (K0 : En → Prop) (c : Bool) (e2 : En) : Prop := if c = true then te e2 KK noX else K0 e2
theorem k_lci {KK : M → En → Prop} {K0 : En → Prop} (q : tt e (fun c e2 => lciK te KK K0 c e2) noX) : tt e (fun b e2 => if b = true then te e2 KK noX else K0 e2) noX := q
theorem j_lci {KK : M → En → Prop} {K0 : En → Prop} {r1 r2 : R β} (h : (if x = true then r1 else r2).post P XP) (h1 : r1.post P XP → te e1 KK noX) (h2 : r2.post P XP → K0 e1) : lciK te KK K0 x e1 := by
  cases x
  · exact h2 h
  · exact h1 h
theorem lcS_go {ff : D → σ → R (D × σ)} {emb : σ → En} (hb : ∀ d s (S : D × σ → Prop) (KK : M → En → Prop), (∀ m e3 s', wipeE e3 own = emb s' → S (m.d, s') → KK m e3) → (ff d s).post S (fun _ => False) → asgK g (.fz d) (emb s) fun e1 => te e1 KK noX) :
    ∀ (ds acc : List D) (s : σ), (lcS' ff ds s).post (fun p => kk (acc ++ p.1) (emb p.2)) XP → lcGo g tYesW te own ds acc (emb s) kk
  | [], acc, s, h => by
    have h : kk (acc ++ []) (emb s) := h
    rw [List.append_nil] at h
    exact h
  | d :: ds, acc, s, h => by
    unfold lcS' at h
    rw [post_bind] at h
    have z := hb d s _ (fun m e3 => lcGo g tYesW te own ds (acc ++ [m.d]) (wipeE e3 own) kk) (fun m e3 s' hw h => ?_) (calm_post h)
    · unfold asgK at z
      unfold lcGo
      split at z
      · rename_i e1
        try rw [e1]
        exact z
      · exact z.elim
    · rw [hw]
      rw [post_bind] at h
      refine lcS_go hb ds _ s' (post_imp h (fun xs h => ?_) fun _ z => z)
      rw [List.append_assoc]
      exact h
theorem j_lcS {ff : D → σ → R (D × σ)} {ds : List D} {f : List D × σ → R β} (emb : σ → En) (s : σ) (hs : wipeE e own = emb s) (h : ((lcS ff ds s).bind f).post P XP) (hb : ∀ d s (S : D × σ → Prop) (KK : M → En → Prop), (∀ m e3 s', wipeE e3 own = emb s' → S (m.d, s') → KK m e3) → (ff d s).post S (fun _ => False) → asgK g (.fz d) (emb s) fun e1 => te e1 KK noX)
     (q : ∀ xs s', (f (xs, s')).post P XP → Q (.lst xs) (unwipe e own (emb s'))) : lcK g tYesW te own Q ds e := by
  obtain ⟨c, h⟩ := need_h h
  rw [post_bind] at h
  unfold lcK
  rw [hs]
  exact ⟨Nat.le_of_ble_eq_true c, lcS_go hb ds [] s (post_imp h (fun p h => q p.1 p.2 h) fun _ z => z)⟩
end
end VW

set_option Elab.async false
set_option linter.all false
set_option maxRecDepth 100000
/-! VN3: owned things frozen ahead of a statement; truths; a def by its plain program. -/
namespace VW
open PySem PySem.Spec PyProof.Rows L2 R
section
variable {K : PySem.W.Frag} {H : Hp} {σ : L2.St} {e : En} {P : List (V × M)} {i : Nat} {m : M}
theorem Ok.frzAt (h : Ok K H σ e P) (he : e[i]? = some (some m)) : Ok K H σ (e.set i (some (.fz m.d))) P := by
  obtain ⟨v, e2, o⟩ := h.take he
  have o := o.freeze
  have c := Ok.give (i := i) o e2
  rw [List.set_set] at c
  exact c
end
section
variable {y : Y} {κ : List (Nat × V)} {st : Stmt} {w : WS} {i : Nat}
theorem mono_frz : MonoS (sFrz i) := fun E E' e l q => by
  unfold sFrz at *
  split at q
  · exact l.nx _ q
  · exact l.nx _ q
theorem yfrz (i : Nat) (h : SS y κ st w) : SS y κ st (sSeq (sFrz i) w) where
  run := PS_imp h.run fun D σ H ⟨e, P, hk, h0, q⟩ => by
    unfold sSeq sFrz at q
    split at q
    · rename_i m he
      exact ⟨_, P, hk, h0.frzAt he, q⟩
    · exact ⟨e, P, hk, h0, q⟩
  mono := mono_seq mono_frz h.mono
end
namespace R
def nBl (a : D) : R Bool := match a with
  | .bl b => .ok b
  | _ => .no
@[simp] theorem nBl_bl {b : Bool} : nBl (.bl b) = .ok b := Eq.trans rfl rfl
end R
section
variable {β : Type} {P : β → Prop} {XP : Xn → Prop} {f : Bool → R β} {d : D} {Q : M → En → Prop} {w : WE} {X : XQ} {e1 : En} {QT : Bool → En → Prop} {q : Prop}
theorem nBl_h (h : ((nBl d).bind f).post P XP) : ∃ b, d = .bl b ∧ (f b).post P XP := by
  unfold nBl at h
  split at h
  · exact ⟨_, rfl, h⟩
  · exact h.elim
theorem d_wor (h : ((nBl d).bind f).post P XP) (q : ∀ b, (f b).post P XP → worK Q w X (.fz (.bl b)) e1) : worK Q w X (.fz d) e1 := by
  obtain ⟨b, rfl, h⟩ := nBl_h h
  exact q b h
theorem d_wand (h : ((nBl d).bind f).post P XP) (q : ∀ b, (f b).post P XP → wandK Q w X (.fz (.bl b)) e1) : wandK Q w X (.fz d) e1 := by
  obtain ⟨b, rfl, h⟩ := nBl_h h
  exact q b h
theorem d_wnot (h : ((nBl d).bind f).post P XP) (q : ∀ b, (f b).post P XP → wnotK Q (.fz (.bl b)) e1) : wnotK Q (.fz d) e1 := by
  obtain ⟨b, rfl, h⟩ := nBl_h h
  exact q b h
theorem d_tv (h : ((nBl d).bind f).post P XP) (q : ∀ b, (f b).post P XP → tvK QT (.fz (.bl b)) e1) : tvK QT (.fz d) e1 := by
  obtain ⟨b, rfl, h⟩ := nBl_h h
  exact q b h
theorem j_truB {b : Bool} (q : QT b e1) : truK (.fz (.bl b)) QT e1 := q
end
theorem wFn_of {N n : Nat} {kp : List Nat} {w : WS} {ms : List M} {Q : M → En → Prop} {X : Xn → Prop} {e0 : En} (he : ms.map some ++ List.replicate (N - n) none = e0)
    (q : ∀ E : WEnds, (∀ m e', Q m (giv kp n e') → E.rt m e') → (∀ e', Q (.fz .non) (giv kp n e') → E.nx e') → (∀ x e', X x → E.ex x e') → w E e0) : wFn N n kp w ms Q X := by
  subst he
  exact q _ (fun _ _ h => h) (fun _ h => h) (fun _ _ h => h)
end VW

set_option Elab.async false
set_option linter.all false
set_option maxRecDepth 100000
/-! VN4: the same for pairs; ways that come together; whiles. -/
namespace VW
open PySem PySem.Spec PyProof.Rows L2 R
section
variable {β : Type} {P : β → Prop} {XP : Xn → Prop} {kk : D → M → Prop} {ma : M}
theorem tl {α : Type} {P : α → Prop} {r : R α} (h : r.post P XP) : (r.bind R.ok).post P XP := by cases r <;> exact h
theorem k_pop0P {ds : List D} {f : D × List D → R β} (h : ((nPop0 ds).bind f).post P XP) (q : ∀ p, (f p).post P XP → kk p.1 (.lst p.2)) : opPop0 (.lst ds) [] kk := k_pop0 h fun v w h => q (v, w) h
theorem k_popP {ds : List D} {f : D × List D → R β} (h : ((nPop ds ma.d).bind f).post P XP) (q : ∀ p, (f p).post P XP → kk p.1 (.lst p.2)) : opPopL (.lst ds) [ma] kk := k_pop h fun v w h => q (v, w) h
variable {e e1 : En} {Q : M → En → Prop} {E : WEnds} {t : WT} {A B : WS} {x : Bool} {nx : En → Prop} {m : M}
theorem g_un2P {gs : List Tg} {f : D × D → R β} (h : ((nUn2 m.d).bind f).post P XP) (q : ∀ p, (f p).post P XP → asgsK gs [p.1, p.2] e nx) : asgK (.tp gs) m e nx := g_un2 h fun a b h => q (a, b) h
theorem g_un3P {gs : List Tg} {f : D × D × D → R β} (h : ((nUn3 m.d).bind f).post P XP) (q : ∀ p, (f p).post P XP → asgsK gs [p.1, p.2.1, p.2.2] e nx) : asgK (.tp gs) m e nx := g_un3 h fun a b c h => q (a, b, c) h
theorem g_un4P {gs : List Tg} {f : D × D × D × D → R β} (h : ((nUn4 m.d).bind f).post P XP) (q : ∀ p, (f p).post P XP → asgsK gs [p.1, p.2.1, p.2.2.1, p.2.2.2] e nx) : asgK (.tp gs) m e nx := g_un4 h fun a b c d h => q (a, b, c, d) h
theorem g_un5P {gs : List Tg} {f : D × D × D × D × D → R β} (h : ((nUn5 m.d).bind f).post P XP) (q : ∀ p, (f p).post P XP → asgsK gs [p.1, p.2.1, p.2.2.1, p.2.2.2.1, p.2.2.2.2] e nx) : asgK (.tp gs) m e nx := g_un5 h fun a b c d g h => q (a, b, c, d, g) h
theorem j_sifC {α : Type} {f : α → R β} {r1 r2 : R α} (h : ((if x = true then r1 else r2).bind f).post P XP) (h1 : (r1.bind f).post P XP → A E e1) (h2 : (r2.bind f).post P XP → B E e1) : sifK A B E x e1 := ite_h h h1 h2
theorem j_sifN {σ ι : Type} {rest : σ → R β} {g1 g2 : (σ → R β) → R β} (en : σ → ι → En) (h : (jn rest fun K => if x = true then g1 K else g2 K).post P XP) (h1 : (∀ v j, (rest v).post P XP → E.nx (en v j)) → (g1 rest).post P XP → A E e1)
    (h2 : (∀ v j, (rest v).post P XP → E.nx (en v j)) → (g2 rest).post P XP → B E e1) (J : ∀ v j, (rest v).post P XP → E.nx (en v j)) : sifK A B E x e1 := by
  cases x
  · exact h2 J h
  · exact h1 J h
theorem j_whl {r1 r2 : R β} {N : En → Prop} (h : (if x = true then r1 else r2).post P XP) (h1 : r1.post P XP → A { nx := N, rt := E.rt, bk := E.nx, ct := N, ex := E.ex } e1) (h2 : r2.post P XP → E.nx e1) : whlK A E N x e1 := by
  cases x
  · exact h2 h
  · exact h1 h
theorem j_whileA {σ ι : Type} (emb : σ → ι → En) {body : σ → (σ → R β) → (σ → R β) → R β} {after : σ → R β} (ha : ∀ s j, (after s).post P XP → E.nx (emb s j))
    (hb : (∀ s j, (after s).post P XP → E.nx (emb s j)) → ∀ s j (N : En → Prop) (K : σ → R β), (∀ s' j', (K s').post P XP → N (emb s' j')) → (body s K after).post P XP → t (emb s j) (fun c e1 => whlK A E N c e1) E.ex)
    (n : Nat) (s : σ) (j : ι) (h : (whileN body after n s).post P XP) : sWhile t A E (emb s j) := j_whileN emb (hb ha) n s j h
variable {te : WE} {own : List Nat} {g : Tg}
theorem j_lcSP {σ : Type} {ff : D → σ → R (D × σ)} {ds : List D} {f : List D × σ → R β} (emb : σ → En) (s : σ) (hs : wipeE e own = emb s) (h : ((lcS ff ds s).bind f).post P XP) (hb : ∀ d s (S : D × σ → Prop) (KK : M → En → Prop), (∀ m e3 s', wipeE e3 own = emb s' → S (m.d, s') → KK m e3) → (ff d s).post S (fun _ => False) → asgK g (.fz d) (emb s) fun e1 => te e1 KK noX)
     (q : ∀ p, (f p).post P XP → Q (.lst p.1) (unwipe e own (emb p.2))) : lcK g tYesW te own Q ds e := j_lcS emb s hs h hb fun xs s' h => q (xs, s') h
end
end VW

set_option Elab.async false
set_option linter.all false
set_option maxRecDepth 100000
/-! VN5: the end: defs found at the head, the law's own def. -/
namespace VW
open PySem PySem.Spec PyProof.Rows L2 R
section
variable {P : Program} {w : World} {K : PySem.W.Frag} {mg : Str → Option Value} {base : Heap} {xr : Xn → Value → Option Addr → Hp → Prop}
theorem toFun {x : Str} {st : Stmt} {f : Addr} {fd : FuncData} (F : FunD K x x (defArgs st) (defBody st) (defScope st) [] [] f fd) : Fun K x x st f fd := by
  obtain ⟨oc, od, dV, kV, doc, pm, an, cdv, ct, osl, rfl, lk, hcd, hD, hK⟩ := F.ex
  rcases hD with ⟨_, rfl⟩ | ⟨e, _⟩
  · exact ⟨⟨oc, od, kV, doc, pm, an, cdv, ct, osl, rfl, lk, hcd⟩, F.kp⟩
  · exact absurd rfl e
theorem Cal.up {k k' : Nat} {x : Str} {fn : Fn} (h : Cal P w K mg base xr k x fn) (hk : k ≤ k') : Cal P w K mg base xr k' x fn := by
  obtain ⟨hf, f, fd, ps, F, hm, hkp, hb⟩ := h
  exact ⟨hf, f, fd, ps, F.mono hk, hm, hkp, hb⟩
theorem cst_int {x : Str} {i : Int} (h : ∃ t, mg x = some (.int i t)) : Cst mg x (.int i) := h.elim fun t h => .int h
theorem cst_str {x : Str} {i : Str} (h : ∃ t, mg x = some (.str i t)) : Cst mg x (.str i) := h.elim fun t h => .str h
theorem fnok_of {x : Str} {st : Stmt} {f : Addr} {fd : FuncData} {N ps : List Str} {k : Nat} {kp : List Nat} {wb : WS} {sp : List M → (M → En → Prop) → (Xn → Prop) → Prop}
    (F : Fun K x x st f fd) (S : FnScope N ps (defScope st))
    (hb2 : ∀ cdv A outer s H E vs, Room k (A.deeper (envOfC x (defScope st) s.heap.objs.size f cdv)) → SSs (yOf P w K mg base xr N x (defScope st) f cdv A outer s H E) (pinOf kp vs) (defBody st) wb)
    (h : ∀ ms Q X, ms.length = ps.length → sp ms Q X → wFn N.length ps.length kp wb ms Q X) : FnOk P w K mg base (L2.CX P w) (k + 1) f fd ps (spOf K xr ⟨ps.length, kp, sp⟩) :=
  (fn_ok F S hb2).imp fun vs H Q E q => by
    obtain ⟨hl, ms, R, hm, sp, q⟩ := q
    exact ⟨hl, ms, R, hm, sp, h _ _ _ (hm.trans hl) q⟩
/-- the law's own promise -/
theorem law_sp {sp : List M → (M → En → Prop) → (Xn → Prop) → Prop} (hsp : ∀ ns : List Int, ns.length ≤ 63 → ∀ (Q : M → En → Prop) X, Q (.fz (.bl true)) [none] → sp [.fz (.scr ns)] Q X)
    (H : Hp) (a : Addr) (ns : List Int) (hl : ns.length ≤ 63) (hS : SqL K H a (ns.map V.int)) : spOf K xr ⟨1, [], sp⟩ [.ref a] H (fun v _ => v = .bl true) fun _ _ _ => False := by
  refine ⟨rfl, [.fz (.scr ns)], [], rfl, ?_, hsp ns hl _ _ fun v H' hs => ?_⟩
  · refine ⟨[], List.nodup_nil, ?_⟩
    have e : hid H [] = H := by
      funext b
      exact if_neg List.not_mem_nil
    rw [e]
    exact .cons (F1 := []) (F2 := []) (.fz (.scr hS)) .nil
  · obtain ⟨F, _, h⟩ := hs
    cases h with
    | cons w r =>
      cases w with
      | fz w =>
        cases w
        rfl
end
theorem walk_ofW {l : PySem.W.OpenLaw} {n k : Nat} {q : Program} {loose : List Str} {XP : (Str → Option Value) → Heap → Prop} {YP : World → Heap → Prop} {d : DefRec} {x : Str}
    (hn : l.most = some n) (hn2 : n ≤ sizeLine) (hdf : d.params.defaults = []) (hr : Room k callerA)
    (F : ∀ (w : World) (mg : Str → Option Value) (fa : Addr) (h : Heap), YP w h → h.Ns mainGlobals mg → mg d.name = some (.ref fa) →
      ∃ (K : PySem.W.Frag) (fd : FuncData) (sp : Sp), K.In h ∧ (∀ (s : Shared) (u : Value), BindsTo s fd ⟨[u], []⟩ [(x, u)]) ∧
        (∀ (H : Hp) (a : Addr) (ns : List Int), ns.length ≤ n → Only H → SqL K H a (ns.map V.int) → sp [.ref a] H (fun v _ => v = .bl true) fun _ _ _ => False) ∧
        ∀ base : Heap, K.In base → base.Ns mainGlobals mg → FnOk l.prog w K mg base (L2.CX l.prog w) k fa fd [x] sp) :
    PySem.W.WalkO q loose XP YP l.row.toRowW d [] (fun f vs => PySem.call f vs) := by
  refine Att.attach_call hn hdf fun w s₀ s₁ mg mb fa o pm cd doc a vs ns G Y ho hd hcd hmg hobj hints hlen hg => ?_
  obtain ⟨K, fd, sp, KX, hb, hsp, hF⟩ := F w mg fa _ Y G.T.g hmg
  refine law_call KX G.T.g G.T.b G.T.builtins G.T.nolimit hg hobj hints (Nat.le_trans hlen hn2) hr hF hb (fun H hO hS => hsp H a ns hlen hO hS) fun H e s' h => ?_
  obtain ⟨_, _, _, _, _, _, _, _, _, _, _, _, h⟩ := h
  exact h
end VW

set_option Elab.async false
set_option linter.all false
set_option maxRecDepth 100000
set_option maxHeartbeats 4000000
namespace VW
open PySem PySem.Spec PyProof.Rows L2 R
def w_is_name_1 : WS := sIf (tOrW (tNotW (tTru (oVal (wN opIsi (aCons (oPk 0) (aCons (oVal (wC (.ty "str"))) (aNil))))))) (tNotW (tVal (wChain (opOrd .le) (opOrd .le) (oVal (wC (.int 1))) (oVal (wN opLen (aCons (oPk 0) (aNil)))) (oVal (wC (.int (8))))))))
  (sRet (oVal (wC (.bl false))))
  (sNx)
def w_is_name_2b : WS := sIf (tVal (w2 (opIn true) (oPk 1) (oVal (wC (.str "abcdefghijklmnopqrstuvwxyz")))))
  (sRet (oVal (wC (.bl false))))
  (sNx)
def w_is_name_2 : WS := sFor (iSeq (wVar 0)) (.nm 1)
  (w_is_name_2b)
def w_is_name_3 : WS := sRet (oVal (wC (.bl true)))
def w_is_name : WS := sSeq (w_is_name_1) (sSeq (w_is_name_2) (w_is_name_3))
abbrev RT_is_name : Type := Bool
def n_is_name_b1 (d_1 : D) (s_1 : Unit) (K : (Unit) → R (RT_is_name)) : R (RT_is_name) :=
  R.bind (nIn true d_1 (.str "abcdefghijklmnopqrstuvwxyz")) fun t_5 =>
  if t_5 = true then
  .ok false
  else
  K ()
def n_is_name (thing_1 : D) : R (RT_is_name) :=
  R.bind (nIsi "str" thing_1) fun t_1 =>
  R.bind (orB (!t_1) (R.bind (nLen thing_1) fun t_2 => R.bind (nOrd .le (.int 1) t_2) fun t_3 => R.bind (andB t_3 (nOrd .le t_2 (.int (8)))) fun c_1 => .ok ((!c_1)))) fun c_2 =>
  if c_2 = true then
  .ok false
  else
  R.bind (nItems thing_1) fun ds_1 =>
  R.forN (n_is_name_b1) (fun (s_2 : Unit) =>
  .ok true) ds_1 ()
abbrev sp_is_name (ms : List M) (Q : M → En → Prop) (X : Xn → Prop) : Prop := ∃ (thing_1 : D), ms = [(.fz thing_1)] ∧ (n_is_name thing_1).post (fun r => Q (M.fz (.bl r)) [none]) X
abbrev f_is_name : Fn := ⟨1, [], sp_is_name⟩
theorem mono_is_name : MonoF sp_is_name := fun ms Q Q' X X' hq hx ⟨thing_1, e, h⟩ => ⟨thing_1, e, post_imp h (fun _ h => hq _ _ h) hx⟩
theorem j_is_name (ms : List M) (Q : M → En → Prop) (X : Xn → Prop) (h : sp_is_name ms Q X) : wFn 2 1 [] w_is_name ms Q X := by
  obtain ⟨thing_1, rfl, h⟩ := h
  refine wFn_of (e0 := [some (.fz thing_1), none]) rfl fun E hrt hnx hx => ?_
  show (sSeq w_is_name_1 (sSeq w_is_name_2 (w_is_name_3))) _ _
  refine k_seq (k_sif (k_tor (k_tnot (k_ttru (k_val (k_wN (k_ac (k_pk rfl (k_ac (k_val (k_c (k_an (k_asp rfl (k_asv (k_as0 (k_isi h fun t_1 h => k_wv (j_truB (j_tor (fun v => v) (fun v => [some (.fz thing_1), none]) h (fun J0 h => J0 true h) (fun J0 h => k_tnot (k_tval (k_chain (k_val (k_c (k_val (k_wN (k_ac (k_pk rfl (k_an (k_asp rfl (k_as0 (k_len (asc h) fun t_2 h => k_wv (k_wv (k_ord (asc h) fun t_3 h => j_chain (fun v => M.fz (.bl v)) (fun v => [some (.fz thing_1), none]) (asc h) (fun J1 h => k_val (k_c (k_wv (k_wv (k_ord h fun t_4 h => J1 t_4 h))))) (fun J1 h => J1 false h) (fun c_1 h => j_tv (J0 (!c_1) h))))))))))))))))) (fun c_2 h => j_sif h (fun h => ?_) (fun h => ?_))))))))))))))))))))
  · refine k_retv (k_c (hrt _ _ h))
  · refine k_nx ?_
    show (sSeq w_is_name_2 (w_is_name_3)) _ [some (.fz thing_1), none]
    refine k_seq (k_for (k_iseq (k_varF rfl (k_items h fun ds_1 h => j_forN (fun (s_1 : Unit) (j_1 : Option M) => [some (.fz thing_1), j_1]) ?_ ?_ _ () none h))))
    · intro d_1 s_1 j_1 N K hn h
      refine g_nm (?_)
      show w_is_name_2b _ [some (.fz thing_1), some (.fz d_1)]
      refine k_sif (k_tval (k_w2 (k_pk rfl (k_val (k_c (k_wp rfl (k_wv (k_in h fun t_5 h => j_tv (j_sif h (fun h => ?_) (fun h => ?_))))))))))
      · refine k_retv (k_c (hrt _ _ h))
      · refine k_nx ?_
        exact hn () (some (.fz d_1)) h
    · intro s_2 j_2 h
      show w_is_name_3 _ [some (.fz thing_1), j_2]
      refine k_retv (k_c (hrt _ _ h))
def w_is_spec_1 : WS := sIf (tOrW (tNotW (tTru (oVal (wN opIsi (aCons (oPk 0) (aCons (oVal (wC (.ty "tuple"))) (aNil))))))) (tOrW (tVal (w2 (opEq true) (oVal (wN opLen (aCons (oPk 0) (aNil)))) (oVal (wC (.int 2))))) (tNotW (tTru (oVal (wCall f_is_name (aCons (oFz (w2 opIx (oPk 0) (oVal (wC (.int 0))))) (aNil))))))))
  (sRet (oVal (wC (.bl false))))
  (sNx)
def w_is_spec_2 : WS := sRet (oVal (wAnd (wN opIsi (aCons (oVal (w2 opIx (oPk 0) (oVal (wC (.int 1))))) (aCons (oVal (wC (.ty "str"))) (aNil)))) (w2 (opIn false) (oVal (w2 opIx (oPk 0) (oVal (wC (.int 1))))) (oVal (wC (.tup [.str "+", .str "-"]))))))
def w_is_spec : WS := sSeq (w_is_spec_1) (w_is_spec_2)
abbrev RT_is_spec : Type := Bool
def n_is_spec (thing_1 : D) : R (RT_is_spec) :=
  R.bind (nIsi "tuple" thing_1) fun t_1 =>
  R.bind (orB (!t_1) (R.bind (nLen thing_1) fun t_2 => R.bind (nEq true t_2 (.int 2)) fun t_3 => orB t_3 (R.bind (nIx thing_1 (.int 0)) fun t_4 => R.bind (n_is_name t_4) fun t_5 => .ok ((!t_5))))) fun c_2 =>
  if c_2 = true then
  .ok false
  else
  R.bind (nIx thing_1 (.int 1)) fun t_6 =>
  R.bind (nIsi "str" t_6) fun t_7 =>
  R.bind (andB t_7 (R.bind (nIx thing_1 (.int 1)) fun t_8 => nIn false t_8 (.tup [.str "+", .str "-"]))) fun c_3 =>
  .ok c_3
abbrev sp_is_spec (ms : List M) (Q : M → En → Prop) (X : Xn → Prop) : Prop := ∃ (thing_1 : D), ms = [(.fz thing_1)] ∧ (n_is_spec thing_1).post (fun r => Q (M.fz (.bl r)) [none]) X
abbrev f_is_spec : Fn := ⟨1, [], sp_is_spec⟩
theorem mono_is_spec : MonoF sp_is_spec := fun ms Q Q' X X' hq hx ⟨thing_1, e, h⟩ => ⟨thing_1, e, post_imp h (fun _ h => hq _ _ h) hx⟩
theorem j_is_spec (ms : List M) (Q : M → En → Prop) (X : Xn → Prop) (h : sp_is_spec ms Q X) : wFn 1 1 [] w_is_spec ms Q X := by
  obtain ⟨thing_1, rfl, h⟩ := h
  refine wFn_of (e0 := [some (.fz thing_1)]) rfl fun E hrt hnx hx => ?_
  show (sSeq w_is_spec_1 (w_is_spec_2)) _ _
  refine k_seq (k_sif (k_tor (k_tnot (k_ttru (k_val (k_wN (k_ac (k_pk rfl (k_ac (k_val (k_c (k_an (k_asp rfl (k_asv (k_as0 (k_isi h fun t_1 h => k_wv (j_truB (j_tor (fun v => v) (fun v => [some (.fz thing_1)]) h (fun J1 h => J1 true h) (fun J1 h => k_tor (k_tval (k_w2 (k_val (k_wN (k_ac (k_pk rfl (k_an (k_asp rfl (k_as0 (k_len (asc h) fun t_2 h => k_val (k_c (k_wv (k_wv (k_eq (asc h) fun t_3 h => j_tv (j_tor (fun v => v) (fun v => [some (.fz thing_1)]) h (fun J2 h => J2 true h) (fun J2 h => k_tnot (k_ttru (k_val (k_call (k_ac (k_fz (k_w2 (k_pk rfl (k_val (k_c (k_wp rfl (k_wv (k_ix (asc h) fun t_4 h => k_an (k_mvv (k_mv0 ⟨rfl, _, rfl, k_post (asc h) (fun t_5 h => k_wv (j_truB (J2 (!t_5) h))) (fun x z => hx x _ z)⟩))))))))))))))) (fun c_1 h => J1 c_1 h))))))))))))))))) (fun c_2 h => j_sif h (fun h => ?_) (fun h => ?_))))))))))))))))))))
  · refine k_retv (k_c (hrt _ _ h))
  · refine k_nx ?_
    show w_is_spec_2 _ [some (.fz thing_1)]
    refine k_retv (k_wand (k_wN (k_ac (k_val (k_w2 (k_pk rfl (k_val (k_c (k_wp rfl (k_wv (k_ix h fun t_6 h => k_ac (k_val (k_c (k_an (k_asv (k_asv (k_as0 (k_isi h fun t_7 h => j_wand (fun v => M.fz (.bl v)) (fun v => [some (.fz thing_1)]) h (fun J0 h => k_w2 (k_val (k_w2 (k_pk rfl (k_val (k_c (k_wp rfl (k_wv (k_ix (asc h) fun t_8 h => k_val (k_c (k_wv (k_wv (k_in h fun t_9 h => J0 t_9 h))))))))))))) (fun J0 h => J0 false h) (fun c_3 h => hrt _ _ h)))))))))))))))))))
def w_is_kind_row_1 : WS := sIf (tOrW (tNotW (tTru (oVal (wN opIsi (aCons (oPk 0) (aCons (oVal (wC (.ty "tuple"))) (aNil))))))) (tOrW (tVal (w2 (opEq true) (oVal (wN opLen (aCons (oPk 0) (aNil)))) (oVal (wC (.int 2))))) (tNotW (tTru (oVal (wCall f_is_name (aCons (oFz (w2 opIx (oPk 0) (oVal (wC (.int 0))))) (aNil))))))))
  (sRet (oVal (wC (.bl false))))
  (sNx)
def w_is_kind_row_2 : WS := sIf (tOrW (tNotW (tTru (oVal (wN opIsi (aCons (oVal (w2 opIx (oPk 0) (oVal (wC (.int 1))))) (aCons (oVal (wC (.ty "tuple"))) (aNil))))))) (tNotW (tVal (wChain (opOrd .le) (opOrd .le) (oVal (wC (.int 1))) (oVal (wN opLen (aCons (oVal (w2 opIx (oPk 0) (oVal (wC (.int 1))))) (aNil)))) (oVal (wC (.int (4))))))))
  (sRet (oVal (wC (.bl false))))
  (sNx)
def w_is_kind_row_3 : WS := sRet (oVal (wN opAll (aCons (oVal (wLc (iSeq (w2 opIx (oPk 0) (oVal (wC (.int 1))))) (.nm 1) (tYesW) (wCall f_is_spec (aCons (oFz (wVar 1)) (aNil))) [1])) (aNil))))
def w_is_kind_row : WS := sSeq (w_is_kind_row_1) (sSeq (w_is_kind_row_2) (w_is_kind_row_3))
abbrev RT_is_kind_row : Type := Bool
def n_is_kind_row (thing_1 : D) : R (RT_is_kind_row) :=
  R.bind (nIsi "tuple" thing_1) fun t_1 =>
  R.bind (orB (!t_1) (R.bind (nLen thing_1) fun t_2 => R.bind (nEq true t_2 (.int 2)) fun t_3 => orB t_3 (R.bind (nIx thing_1 (.int 0)) fun t_4 => R.bind (n_is_name t_4) fun t_5 => .ok ((!t_5))))) fun c_2 =>
  if c_2 = true then
  .ok false
  else
  R.bind (nIx thing_1 (.int 1)) fun t_6 =>
  R.bind (nIsi "tuple" t_6) fun t_7 =>
  R.bind (orB (!t_7) (R.bind (nIx thing_1 (.int 1)) fun t_8 => R.bind (nLen t_8) fun t_9 => R.bind (nOrd .le (.int 1) t_9) fun t_10 => R.bind (andB t_10 (nOrd .le t_9 (.int (4)))) fun c_3 => .ok ((!c_3)))) fun c_4 =>
  if c_4 = true then
  .ok false
  else
  R.bind (nIx thing_1 (.int 1)) fun t_12 =>
  R.bind (nItems t_12) fun ds_1 =>
  R.bind (lcM (fun d_1 : D => R.bind (n_is_spec d_1) fun t_13 => .ok ((.bl t_13))) ds_1) fun xs_1 =>
  R.bind (nAll (.lst xs_1)) fun t_14 =>
  .ok t_14
abbrev sp_is_kind_row (ms : List M) (Q : M → En → Prop) (X : Xn → Prop) : Prop := ∃ (thing_1 : D), ms = [(.fz thing_1)] ∧ (n_is_kind_row thing_1).post (fun r => Q (M.fz (.bl r)) [none]) X
abbrev f_is_kind_row : Fn := ⟨1, [], sp_is_kind_row⟩
theorem mono_is_kind_row : MonoF sp_is_kind_row := fun ms Q Q' X X' hq hx ⟨thing_1, e, h⟩ => ⟨thing_1, e, post_imp h (fun _ h => hq _ _ h) hx⟩
theorem j_is_kind_row (ms : List M) (Q : M → En → Prop) (X : Xn → Prop) (h : sp_is_kind_row ms Q X) : wFn 2 1 [] w_is_kind_row ms Q X := by
  obtain ⟨thing_1, rfl, h⟩ := h
  refine wFn_of (e0 := [some (.fz thing_1), none]) rfl fun E hrt hnx hx => ?_
  show (sSeq w_is_kind_row_1 (sSeq w_is_kind_row_2 (w_is_kind_row_3))) _ _
  refine k_seq (k_sif (k_tor (k_tnot (k_ttru (k_val (k_wN (k_ac (k_pk rfl (k_ac (k_val (k_c (k_an (k_asp rfl (k_asv (k_as0 (k_isi h fun t_1 h => k_wv (j_truB (j_tor (fun v => v) (fun v => [some (.fz thing_1), none]) h (fun J2 h => J2 true h) (fun J2 h => k_tor (k_tval (k_w2 (k_val (k_wN (k_ac (k_pk rfl (k_an (k_asp rfl (k_as0 (k_len (asc h) fun t_2 h => k_val (k_c (k_wv (k_wv (k_eq (asc h) fun t_3 h => j_tv (j_tor (fun v => v) (fun v => [some (.fz thing_1), none]) h (fun J3 h => J3 true h) (fun J3 h => k_tnot (k_ttru (k_val (k_call (k_ac (k_fz (k_w2 (k_pk rfl (k_val (k_c (k_wp rfl (k_wv (k_ix (asc h) fun t_4 h => k_an (k_mvv (k_mv0 ⟨rfl, _, rfl, k_post (asc h) (fun t_5 h => k_wv (j_truB (J3 (!t_5) h))) (fun x z => hx x _ z)⟩))))))))))))))) (fun c_1 h => J2 c_1 h))))))))))))))))) (fun c_2 h => j_sif h (fun h => ?_) (fun h => ?_))))))))))))))))))))
  · refine k_retv (k_c (hrt _ _ h))
  · refine k_nx ?_
    show (sSeq w_is_kind_row_2 (w_is_kind_row_3)) _ [some (.fz thing_1), none]
    refine k_seq (k_sif (k_tor (k_tnot (k_ttru (k_val (k_wN (k_ac (k_val (k_w2 (k_pk rfl (k_val (k_c (k_wp rfl (k_wv (k_ix h fun t_6 h => k_ac (k_val (k_c (k_an (k_asv (k_asv (k_as0 (k_isi h fun t_7 h => k_wv (j_truB (j_tor (fun v => v) (fun v => [some (.fz thing_1), none]) h (fun J0 h => J0 true h) (fun J0 h => k_tnot (k_tval (k_chain (k_val (k_c (k_val (k_wN (k_ac (k_val (k_w2 (k_pk rfl (k_val (k_c (k_wp rfl (k_wv (k_ix (asc h) fun t_8 h => k_an (k_asv (k_as0 (k_len (asc h) fun t_9 h => k_wv (k_wv (k_ord (asc h) fun t_10 h => j_chain (fun v => M.fz (.bl v)) (fun v => [some (.fz thing_1), none]) (asc h) (fun J1 h => k_val (k_c (k_wv (k_wv (k_ord h fun t_11 h => J1 t_11 h))))) (fun J1 h => J1 false h) (fun c_3 h => j_tv (J0 (!c_3) h))))))))))))))))))))))) (fun c_4 h => j_sif h (fun h => ?_) (fun h => ?_))))))))))))))))))))))))))
    · refine k_retv (k_c (hrt _ _ h))
    · refine k_nx ?_
      show w_is_kind_row_3 _ [some (.fz thing_1), none]
      refine k_retv (k_wN (k_ac (k_val (k_lc (k_iseq (k_w2 (k_pk rfl (k_val (k_c (k_wp rfl (k_wv (k_ix h fun t_12 h => k_items h fun ds_1 h => j_lcM h (fun d_1 S KK hk h => g_nm (k_call (k_ac (k_fz (k_varF rfl (k_an (k_mvv (k_mv0 ⟨rfl, _, rfl, k_post h (fun t_13 h => hk _ _ rfl h) (fun _ z => z.elim)⟩)))))))) fun xs_1 h => k_an (k_asv (k_as0 (k_all h fun t_14 h => hrt _ _ h)))))))))))))))
def w_is_stock_1 : WS := sIf (tOrW (tNotW (tTru (oVal (wN opIsi (aCons (oPk 0) (aCons (oVal (wC (.ty "tuple"))) (aNil))))))) (tNotW (tVal (wChain (opOrd .le) (opOrd .le) (oVal (wC (.int 1))) (oVal (wN opLen (aCons (oPk 0) (aNil)))) (oVal (wC (.int (8))))))))
  (sRet (oVal (wC (.bl false))))
  (sNx)
def w_is_stock_2 : WS := sSet 1 (wC (.str ""))
def w_is_stock_3b_1 : WS := sIf (tOrW (tNotW (tTru (oVal (wCall f_is_kind_row (aCons (oFz (wVar 2)) (aNil)))))) (tNotW (tVal (w2 (opOrd .lt) (oPk 1) (oVal (w2 opIx (oPk 2) (oVal (wC (.int 0)))))))))
  (sRet (oVal (wC (.bl false))))
  (sNx)
def w_is_stock_3b_2 : WS := sSet 1 (w2 opIx (oPk 2) (oVal (wC (.int 0))))
def w_is_stock_3b : WS := sSeq (w_is_stock_3b_1) (w_is_stock_3b_2)
def w_is_stock_3 : WS := sFor (iSeq (wVar 0)) (.nm 2)
  (w_is_stock_3b)
def w_is_stock_4 : WS := sRet (oVal (wC (.bl true)))
def w_is_stock : WS := sSeq (w_is_stock_1) (sSeq (w_is_stock_2) (sSeq (w_is_stock_3) (w_is_stock_4)))
abbrev RT_is_stock : Type := Bool
def n_is_stock_b1 (d_1 : D) (s_1 : D) (K : (D) → R (RT_is_stock)) : R (RT_is_stock) :=
  R.bind (n_is_kind_row d_1) fun t_5 =>
  R.bind (orB (!t_5) (R.bind (nIx d_1 (.int 0)) fun t_6 => R.bind (nOrd .lt s_1 t_6) fun t_7 => .ok ((!t_7)))) fun c_3 =>
  if c_3 = true then
  .ok false
  else
  R.bind (nIx d_1 (.int 0)) fun t_8 =>
  K t_8
def n_is_stock (thing_1 : D) : R (RT_is_stock) :=
  R.bind (nIsi "tuple" thing_1) fun t_1 =>
  R.bind (orB (!t_1) (R.bind (nLen thing_1) fun t_2 => R.bind (nOrd .le (.int 1) t_2) fun t_3 => R.bind (andB t_3 (nOrd .le t_2 (.int (8)))) fun c_1 => .ok ((!c_1)))) fun c_2 =>
  if c_2 = true then
  .ok false
  else
  R.bind (nItems thing_1) fun ds_1 =>
  R.forN (n_is_stock_b1) (fun (s_2 : D) =>
  .ok true) ds_1 (.str "")
abbrev sp_is_stock (ms : List M) (Q : M → En → Prop) (X : Xn → Prop) : Prop := ∃ (thing_1 : D), ms = [(.fz thing_1)] ∧ (n_is_stock thing_1).post (fun r => Q (M.fz (.bl r)) [none]) X
abbrev f_is_stock : Fn := ⟨1, [], sp_is_stock⟩
theorem mono_is_stock : MonoF sp_is_stock := fun ms Q Q' X X' hq hx ⟨thing_1, e, h⟩ => ⟨thing_1, e, post_imp h (fun _ h => hq _ _ h) hx⟩
theorem j_is_stock (ms : List M) (Q : M → En → Prop) (X : Xn → Prop) (h : sp_is_stock ms Q X) : wFn 3 1 [] w_is_stock ms Q X := by
  obtain ⟨thing_1, rfl, h⟩ := h
  refine wFn_of (e0 := [some (.fz thing_1), none, none]) rfl fun E hrt hnx hx => ?_
  show (sSeq w_is_stock_1 (sSeq w_is_stock_2 (sSeq w_is_stock_3 (w_is_stock_4)))) _ _
  refine k_seq (k_sif (k_tor (k_tnot (k_ttru (k_val (k_wN (k_ac (k_pk rfl (k_ac (k_val (k_c (k_an (k_asp rfl (k_asv (k_as0 (k_isi h fun t_1 h => k_wv (j_truB (j_tor (fun v => v) (fun v => [some (.fz thing_1), none, none]) h (fun J3 h => J3 true h) (fun J3 h => k_tnot (k_tval (k_chain (k_val (k_c (k_val (k_wN (k_ac (k_pk rfl (k_an (k_asp rfl (k_as0 (k_len (asc h) fun t_2 h => k_wv (k_wv (k_ord (asc h) fun t_3 h => j_chain (fun v => M.fz (.bl v)) (fun v => [some (.fz thing_1), none, none]) (asc h) (fun J4 h => k_val (k_c (k_wv (k_wv (k_ord h fun t_4 h => J4 t_4 h))))) (fun J4 h => J4 false h) (fun c_1 h => j_tv (J3 (!c_1) h))))))))))))))))) (fun c_2 h => j_sif h (fun h => ?_) (fun h => ?_))))))))))))))))))))
  · refine k_retv (k_c (hrt _ _ h))
  · refine k_nx ?_
    show (sSeq w_is_stock_2 (sSeq w_is_stock_3 (w_is_stock_4))) _ [some (.fz thing_1), none, none]
    refine k_seq (k_set (k_c (?_)))
    show (sSeq w_is_stock_3 (w_is_stock_4)) _ [some (.fz thing_1), some (.fz (.str "")), none]
    refine k_seq (k_for (k_iseq (k_varF rfl (k_items h fun ds_1 h => j_forN (fun (s_1 : D) (j_1 : Option M) => [some (.fz thing_1), some (.fz s_1), j_1]) ?_ ?_ _ (.str "") none h))))
    · intro d_1 s_1 j_1 N K hn h
      refine g_nm (?_)
      show w_is_stock_3b _ [some (.fz thing_1), some (.fz s_1), some (.fz d_1)]
      refine k_seq (k_sif (k_tor (k_tnot (k_ttru (k_val (k_call (k_ac (k_fz (k_varF rfl (k_an (k_mvv (k_mv0 ⟨rfl, _, rfl, k_post h (fun t_5 h => k_wv (j_truB (j_tor (fun v => v) (fun v => [some (.fz thing_1), some (.fz s_1), some (.fz d_1)]) h (fun J2 h => J2 true h) (fun J2 h => k_tnot (k_tval (k_w2 (k_pk rfl (k_val (k_w2 (k_pk rfl (k_val (k_c (k_wp rfl (k_wv (k_ix (asc h) fun t_6 h => k_wp rfl (k_wv (k_ord (asc h) fun t_7 h => j_tv (J2 (!t_7) h))))))))))))))) (fun c_3 h => j_sif h (fun h => ?_) (fun h => ?_))))) (fun x z => hx x _ z)⟩))))))))))))
      · refine k_retv (k_c (hrt _ _ h))
      · refine k_nx ?_
        show w_is_stock_3b_2 _ [some (.fz thing_1), some (.fz s_1), some (.fz d_1)]
        refine k_set (k_w2 (k_pk rfl (k_val (k_c (k_wp rfl (k_wv (k_ix h fun t_8 h => ?_)))))))
        exact hn t_8 (some (.fz d_1)) h
    · intro s_2 j_2 h
      show w_is_stock_4 _ [some (.fz thing_1), some (.fz s_2), j_2]
      refine k_retv (k_c (hrt _ _ h))
def w_mate_of_1 : WS := sIf (tVal (w2 (opEq false) (oVal (w2 opIx (oPk 0) (oVal (wC (.int 1))))) (oVal (wC (.str "+")))))
  (sRet (oVal (wN opTup (aCons (oFz (w2 opIx (oPk 0) (oVal (wC (.int 0))))) (aCons (oVal (wC (.str "-"))) (aNil))))))
  (sNx)
def w_mate_of_2 : WS := sRet (oVal (wN opTup (aCons (oFz (w2 opIx (oPk 0) (oVal (wC (.int 0))))) (aCons (oVal (wC (.str "+"))) (aNil)))))
def w_mate_of : WS := sSeq (w_mate_of_1) (w_mate_of_2)
abbrev RT_mate_of : Type := D
def n_mate_of (spec_1 : D) : R (RT_mate_of) :=
  R.bind (nIx spec_1 (.int 1)) fun t_1 =>
  R.bind (nEq false t_1 (.str "+")) fun t_2 =>
  if t_2 = true then
  R.bind (nIx spec_1 (.int 0)) fun t_3 =>
  .ok (.tup [t_3, (.str "-")])
  else
  R.bind (nIx spec_1 (.int 0)) fun t_4 =>
  .ok (.tup [t_4, (.str "+")])
abbrev sp_mate_of (ms : List M) (Q : M → En → Prop) (X : Xn → Prop) : Prop := ∃ (spec_1 : D), ms = [(.fz spec_1)] ∧ (n_mate_of spec_1).post (fun r => Q (M.fz r) [none]) X
abbrev f_mate_of : Fn := ⟨1, [], sp_mate_of⟩
theorem mono_mate_of : MonoF sp_mate_of := fun ms Q Q' X X' hq hx ⟨spec_1, e, h⟩ => ⟨spec_1, e, post_imp h (fun _ h => hq _ _ h) hx⟩
theorem j_mate_of (ms : List M) (Q : M → En → Prop) (X : Xn → Prop) (h : sp_mate_of ms Q X) : wFn 1 1 [] w_mate_of ms Q X := by
  obtain ⟨spec_1, rfl, h⟩ := h
  refine wFn_of (e0 := [some (.fz spec_1)]) rfl fun E hrt hnx hx => ?_
  show (sSeq w_mate_of_1 (w_mate_of_2)) _ _
  refine k_seq (k_sif (k_tval (k_w2 (k_val (k_w2 (k_pk rfl (k_val (k_c (k_wp rfl (k_wv (k_ix h fun t_1 h => k_val (k_c (k_wv (k_wv (k_eq h fun t_2 h => j_tv (j_sif h (fun h => ?_) (fun h => ?_)))))))))))))))))
  · refine k_retv (k_wN (k_ac (k_fz (k_w2 (k_pk rfl (k_val (k_c (k_wp rfl (k_wv (k_ix h fun t_3 h => k_ac (k_val (k_c (k_an (k_asv (k_asv (k_as0 (k_tup rfl rfl (hrt _ _ h))))))))))))))))))
  · refine k_nx ?_
    show w_mate_of_2 _ [some (.fz spec_1)]
    refine k_retv (k_wN (k_ac (k_fz (k_w2 (k_pk rfl (k_val (k_c (k_wp rfl (k_wv (k_ix h fun t_4 h => k_ac (k_val (k_c (k_an (k_asv (k_asv (k_as0 (k_tup rfl rfl (hrt _ _ h))))))))))))))))))
def w_ports_of : WS := sRet (oVal (w2 opIx (oVal (wN opDict (aCons (oPk 0) (aNil)))) (oPk 1)))
abbrev RT_ports_of : Type := D
def n_ports_of (stock_1 : D) (kind_1 : D) : R (RT_ports_of) :=
  R.bind (nDict stock_1) fun t_1 =>
  R.bind (nIx (.dK t_1) kind_1) fun t_2 =>
  .ok t_2
abbrev sp_ports_of (ms : List M) (Q : M → En → Prop) (X : Xn → Prop) : Prop := ∃ (stock_1 : D) (kind_1 : D), ms = [(.fz stock_1), (.fz kind_1)] ∧ (n_ports_of stock_1 kind_1).post (fun r => Q (M.fz r) [none, none]) X
abbrev f_ports_of : Fn := ⟨2, [], sp_ports_of⟩
theorem mono_ports_of : MonoF sp_ports_of := fun ms Q Q' X X' hq hx ⟨stock_1, kind_1, e, h⟩ => ⟨stock_1, kind_1, e, post_imp h (fun _ h => hq _ _ h) hx⟩
theorem j_ports_of (ms : List M) (Q : M → En → Prop) (X : Xn → Prop) (h : sp_ports_of ms Q X) : wFn 2 2 [] w_ports_of ms Q X := by
  obtain ⟨stock_1, kind_1, rfl, h⟩ := h
  refine wFn_of (e0 := [some (.fz stock_1), some (.fz kind_1)]) rfl fun E hrt hnx hx => ?_
  refine k_retv (k_w2 (k_val (k_wN (k_ac (k_pk rfl (k_an (k_asp rfl (k_as0 (k_dict h fun t_1 h => k_pk rfl (k_wv (k_wp rfl (k_ix h fun t_2 h => hrt _ _ h))))))))))))
def w_l_digits_1 : WS := sSet 2 (wIf (tVal (w2 (opOrd .lt) (oPk 1) (oVal (wN opLen (aCons (oPk 0) (aNil)))))) (w2 opIx (oPk 0) (oPk 1)) (wC (.int 0)))
def w_l_digits_2 : WS := sIf (tVal (w2 (opOrd .ge) (oPk 2) (oVal (w2 opPow (oVal (wC (.int 10))) (oVal (wC (.int 18)))))))
  (sRet (oVal (wN opLst (aCons (oFz (w2 opSub (oPk 2) (oVal (w2 opPow (oVal (wC (.int 10))) (oVal (wC (.int 18))))))) (aNil)))))
  (sNx)
def w_l_digits_3 : WS := sSet 3 (wC (.int 0))
def w_l_digits_4 : WS := sSet 4 (w2 opMod (oVal (w2 opAdd (oVal (w2 opAdd (oVal (w2 opMul (oPk 2) (oVal (wC (.int 48271))))) (oVal (w2 opMul (oVal (wC (.int 7919))) (oPk 1))))) (oVal (wC (.int 11))))) (oVal (wC (.int 2147483647))))
def w_l_digits_5b_1 : WS := sSet 4 (w2 opMod (oVal (w2 opAdd (oVal (w2 opAdd (oVal (w2 opMul (oPk 4) (oPk 4))) (oVal (w2 opMul (oVal (wC (.int 48271))) (oPk 4))))) (oPk 5))) (oVal (wC (.int 2147483629))))
def w_l_digits_5b_2 : WS := sSet 3 (w2 opAdd (oVal (w2 opMul (oPk 3) (oVal (wC (.int 2147483587))))) (oVal (w2 opMod (oVal (w2 opMul (oPk 4) (oVal (wC (.int 69621))))) (oVal (wC (.int 2147483587))))))
def w_l_digits_5b : WS := sSeq (w_l_digits_5b_1) (w_l_digits_5b_2)
def w_l_digits_5 : WS := sFor (iR1 (oVal (wC (.int 12)))) (.nm 5)
  (w_l_digits_5b)
def w_l_digits_6 : WS := sRet (oVal (wN opLst (aCons (oFz (wVar 3)) (aNil))))
def w_l_digits : WS := sSeq (w_l_digits_1) (sSeq (w_l_digits_2) (sSeq (w_l_digits_3) (sSeq (w_l_digits_4) (sSeq (w_l_digits_5) (w_l_digits_6)))))
abbrev RT_l_digits : Type := List D
def n_l_digits_b1 (d_1 : D) (s_1 : M × D) : R (M × D) :=
  R.bind (nMul s_1.2 s_1.2) fun t_14 =>
  R.bind (nMul (.int 48271) s_1.2) fun t_15 =>
  R.bind (nAdd t_14.d t_15.d) fun t_16 =>
  R.bind (nAdd t_16.d d_1) fun t_17 =>
  R.bind (nMod t_17.d (.int 2147483629)) fun t_18 =>
  R.bind (nMul s_1.1.d (.int 2147483587)) fun t_19 =>
  R.bind (nMul t_18 (.int 69621)) fun t_20 =>
  R.bind (nMod t_20.d (.int 2147483587)) fun t_21 =>
  R.bind (nAdd t_19.d t_21) fun t_22 =>
  .ok (t_22, t_18)
def n_l_digits (script_1 : D) (k_1 : D) : R (RT_l_digits) :=
  R.bind (nLen script_1) fun t_1 =>
  R.bind (nOrd .lt k_1 t_1) fun t_2 =>
  R.bind (if t_2 = true then (nIx script_1 k_1 : R (D)) else .ok ((.int 0))) fun t_4 =>
  R.bind (nPow (.int 10) (.int 18)) fun t_5 =>
  R.bind (nOrd .ge t_4 t_5) fun t_6 =>
  if t_6 = true then
  R.bind (nPow (.int 10) (.int 18)) fun t_7 =>
  R.bind (nSub t_4 t_7) fun t_8 =>
  .ok ([t_8])
  else
  R.bind (nMul t_4 (.int 48271)) fun t_9 =>
  R.bind (nMul (.int 7919) k_1) fun t_10 =>
  R.bind (nAdd t_9.d t_10.d) fun t_11 =>
  R.bind (nAdd t_11.d (.int 11)) fun t_12 =>
  R.bind (nMod t_12.d (.int 2147483647)) fun t_13 =>
  R.bind (nR1 (.int 12)) fun ds_1 =>
  R.bind (R.forS (n_l_digits_b1) ds_1 ((.fz (.int 0)), t_13)) fun s_2 =>
  .ok ([s_2.1.d])
abbrev sp_l_digits (ms : List M) (Q : M → En → Prop) (X : Xn → Prop) : Prop := ∃ (script_1 : D) (k_1 : D), ms = [(.fz script_1), (.fz k_1)] ∧ (n_l_digits script_1 k_1).post (fun r => Q (M.lst r) [none, none]) X
abbrev f_l_digits : Fn := ⟨2, [], sp_l_digits⟩
theorem mono_l_digits : MonoF sp_l_digits := fun ms Q Q' X X' hq hx ⟨script_1, k_1, e, h⟩ => ⟨script_1, k_1, e, post_imp h (fun _ h => hq _ _ h) hx⟩
theorem j_l_digits (ms : List M) (Q : M → En → Prop) (X : Xn → Prop) (h : sp_l_digits ms Q X) : wFn 6 2 [] w_l_digits ms Q X := by
  obtain ⟨script_1, k_1, rfl, h⟩ := h
  refine wFn_of (e0 := [some (.fz script_1), some (.fz k_1), none, none, none, none]) rfl fun E hrt hnx hx => ?_
  show (sSeq w_l_digits_1 (sSeq w_l_digits_2 (sSeq w_l_digits_3 (sSeq w_l_digits_4 (sSeq w_l_digits_5 (w_l_digits_6)))))) _ _
  refine k_seq (k_set (k_wif (k_tval (k_w2 (k_pk rfl (k_val (k_wN (k_ac (k_pk rfl (k_an (k_asp rfl (k_as0 (k_len h fun t_1 h => k_wp rfl (k_wv (k_ord h fun t_2 h => j_tv (j_wif (fun v => M.fz v) (fun v => [some (.fz script_1), some (.fz k_1), none, none, none, none]) h (fun J0 h => k_w2 (k_pk rfl (k_pk rfl (k_wp rfl (k_wp rfl (k_ix h fun t_3 h => J0 t_3 h)))))) (fun J0 h => k_c (J0 (.int 0) h)) (fun t_4 h => ?_)))))))))))))))))
  show (sSeq w_l_digits_2 (sSeq w_l_digits_3 (sSeq w_l_digits_4 (sSeq w_l_digits_5 (w_l_digits_6))))) _ [some (.fz script_1), some (.fz k_1), some (.fz t_4), none, none, none]
  refine k_seq (k_sif (k_tval (k_w2 (k_pk rfl (k_val (k_w2 (k_val (k_c (k_val (k_c (k_wv (k_wv (k_pow h fun t_5 h => k_wp rfl (k_wv (k_ord h fun t_6 h => j_tv (j_sif h (fun h => ?_) (fun h => ?_)))))))))))))))))
  · refine k_retv (k_wN (k_ac (k_fz (k_w2 (k_pk rfl (k_val (k_w2 (k_val (k_c (k_val (k_c (k_wv (k_wv (k_pow h fun t_7 h => k_wp rfl (k_wv (k_sub h fun t_8 h => k_an (k_asv (k_as0 (k_lst rfl rfl (hrt _ _ h))))))))))))))))))))
  · refine k_nx ?_
    show (sSeq w_l_digits_3 (sSeq w_l_digits_4 (sSeq w_l_digits_5 (w_l_digits_6)))) _ [some (.fz script_1), some (.fz k_1), some (.fz t_4), none, none, none]
    refine k_seq (k_set (k_c (?_)))
    show (sSeq w_l_digits_4 (sSeq w_l_digits_5 (w_l_digits_6))) _ [some (.fz script_1), some (.fz k_1), some (.fz t_4), some (.fz (.int 0)), none, none]
    refine k_seq (k_set (k_w2 (k_val (k_w2 (k_val (k_w2 (k_val (k_w2 (k_pk rfl (k_val (k_c (k_wp rfl (k_wv (k_mul h fun t_9 h => k_val (k_w2 (k_val (k_c (k_pk rfl (k_wv (k_wp rfl (k_mul h fun t_10 h => k_wv (k_wv (k_add h fun t_11 h => k_val (k_c (k_wv (k_wv (k_add h fun t_12 h => k_val (k_c (k_wv (k_wv (k_mod h fun t_13 h => ?_)))))))))))))))))))))))))))))))
    show (sSeq w_l_digits_5 (w_l_digits_6)) _ [some (.fz script_1), some (.fz k_1), some (.fz t_4), some (.fz (.int 0)), some (.fz t_13), none]
    refine k_seq (k_for (k_ir1 (k_val (k_c (k_wv (k_r1 h fun ds_1 h => j_forSb (fun (s_1 : M × D) (j_1 : Option M) => [some (.fz script_1), some (.fz k_1), some (.fz t_4), some s_1.1, some (.fz s_1.2), j_1]) ?_ ?_ _ ((.fz (.int 0)), t_13) none h))))))
    · intro d_1 s_1 j_1 N S hn h
      refine g_nm (?_)
      show w_l_digits_5b _ [some (.fz script_1), some (.fz k_1), some (.fz t_4), some s_1.1, some (.fz s_1.2), some (.fz d_1)]
      refine k_seq (k_set (k_w2 (k_val (k_w2 (k_val (k_w2 (k_val (k_w2 (k_pk rfl (k_pk rfl (k_wp rfl (k_wp rfl (k_mul h fun t_14 h => k_val (k_w2 (k_val (k_c (k_pk rfl (k_wv (k_wp rfl (k_mul h fun t_15 h => k_wv (k_wv (k_add h fun t_16 h => k_pk rfl (k_wv (k_wp rfl (k_add h fun t_17 h => k_val (k_c (k_wv (k_wv (k_mod h fun t_18 h => ?_)))))))))))))))))))))))))))))
      show w_l_digits_5b_2 _ [some (.fz script_1), some (.fz k_1), some (.fz t_4), some s_1.1, some (.fz t_18), some (.fz d_1)]
      refine k_set (k_w2 (k_val (k_w2 (k_pk rfl (k_val (k_c (k_wp rfl (k_wv (k_mul h fun t_19 h => k_val (k_w2 (k_val (k_w2 (k_pk rfl (k_val (k_c (k_wp rfl (k_wv (k_mul h fun t_20 h => k_val (k_c (k_wv (k_wv (k_mod h fun t_21 h => k_wv (k_wv (k_add h fun t_22 h => ?_))))))))))))))))))))))))
      exact hn (t_22, t_18) (some (.fz d_1)) h
    · intro s_2 j_2 h
      show w_l_digits_6 _ [some (.fz script_1), some (.fz k_1), some (.fz t_4), some s_2.1, some (.fz s_2.2), j_2]
      refine k_retv (k_wN (k_ac (k_fz (k_var rfl (k_an (k_asv (k_as0 (k_lst rfl rfl (hrt _ _ h)))))))))
def w_l_take_1 : WS := sSet 2 (w2 opMod (oVal (w2 opIx (oPk 0) (oVal (wC (.int 0))))) (oPk 1))
def w_l_take_2 : WS := sSub opSt 0 (oVal (wC (.int 0))) (w2 opDiv (oVal (w2 opIx (oPk 0) (oVal (wC (.int 0))))) (oPk 1))
def w_l_take_3 : WS := sRet (oPk 2)
def w_l_take : WS := sSeq (w_l_take_1) (sSeq (w_l_take_2) (w_l_take_3))
abbrev RT_l_take : Type := D × List D
def n_l_take (held_1 : List D) (many_1 : D) : R (RT_l_take) :=
  R.bind (nIx (.lst held_1) (.int 0)) fun t_1 =>
  R.bind (nMod t_1 many_1) fun t_2 =>
  R.bind (nIx (.lst held_1) (.int 0)) fun t_3 =>
  R.bind (nDiv t_3 many_1) fun t_4 =>
  R.bind (nStL held_1 (.int 0) t_4) fun held_2 =>
  .ok (t_2, held_2)
abbrev sp_l_take (ms : List M) (Q : M → En → Prop) (X : Xn → Prop) : Prop := ∃ (held_1 : List D) (many_1 : D), ms = [(.lst held_1), (.fz many_1)] ∧ (n_l_take held_1 many_1).post (fun r => Q (M.fz r.1) [some (.lst r.2), none]) X
abbrev f_l_take : Fn := ⟨2, [0], sp_l_take⟩
theorem mono_l_take : MonoF sp_l_take := fun ms Q Q' X X' hq hx ⟨held_1, many_1, e, h⟩ => ⟨held_1, many_1, e, post_imp h (fun _ h => hq _ _ h) hx⟩
theorem j_l_take (ms : List M) (Q : M → En → Prop) (X : Xn → Prop) (h : sp_l_take ms Q X) : wFn 3 2 [0] w_l_take ms Q X := by
  obtain ⟨held_1, many_1, rfl, h⟩ := h
  refine wFn_of (e0 := [some (.lst held_1), some (.fz many_1), none]) rfl fun E hrt hnx hx => ?_
  show (sSeq w_l_take_1 (sSeq w_l_take_2 (w_l_take_3))) _ _
  refine k_seq (k_set (k_w2 (k_val (k_w2 (k_pk rfl (k_val (k_c (k_wp rfl (k_wv (k_ix h fun t_1 h => k_pk rfl (k_wv (k_wp rfl (k_mod h fun t_2 h => ?_)))))))))))))
  show (sSeq w_l_take_2 (w_l_take_3)) _ [some (.lst held_1), some (.fz many_1), some (.fz t_2)]
  refine k_seq (k_subs (k_w2 (k_val (k_w2 (k_pk rfl (k_val (k_c (k_wp rfl (k_wv (k_ix h fun t_3 h => k_pk rfl (k_wv (k_wp rfl (k_div h fun t_4 h => j_subK rfl (k_val (k_c (j_subJ rfl rfl (k_wv (k_stL h fun held_2 h => ?_))))))))))))))))))
  show w_l_take_3 _ [some (.lst held_2), some (.fz many_1), some (.fz t_2)]
  refine k_retp rfl (?_)
  exact hrt _ _ h
def w_l_words_1 : WS := sSet 2 (wC (.str "abcdefghijklmnop"))
def w_l_words_2 : WS := sSet 3 (wMt "str" opJoin (oVal (wC (.str ""))) (aCons (oVal (wLc (iR1 (oVal (w2 opAdd (oVal (wC (.int 2))) (oVal (wCall f_l_take (aCons (oPk 0) (aCons (oVal (wC (.int 6))) (aNil)))))))) (.nm 8) (tYesW) (w2 opIx (oPk 2) (oVal (wCall f_l_take (aCons (oPk 0) (aCons (oVal (wC (.int 16))) (aNil)))))) [8])) (aNil)))
def w_l_words_3 : WS := sSet 4 (wCall f_l_take (aCons (oPk 0) (aCons (oFz (wN opLen (aCons (oPk 3) (aNil)))) (aNil))))
def w_l_words_4 : WS := sSet 5 (w2 opIx (oPk 2) (oVal (w2 opMod (oVal (w2 opAdd (oVal (w2 opAdd (oVal (wMt "str" opSIx (oPk 2) (aCons (oVal (w2 opIx (oPk 3) (oPk 4))) (aNil)))) (oVal (wC (.int 1))))) (oVal (wCall f_l_take (aCons (oPk 0) (aCons (oVal (wC (.int 15))) (aNil))))))) (oVal (wC (.int 16))))))
def w_l_words_5 : WS := sSet 6 (wN opLst (aCons (oFz (wVar 3)) (aCons (oFz (w2 opAdd (oVal (w2 opAdd (oVal (wSl opSl (oPk 3) (pNo) (pInt (wVar 4)))) (oPk 5))) (oVal (wSl opSl (oPk 3) (pInt (w2 opAdd (oPk 4) (oVal (wC (.int 1))))) (pNo))))) (aCons (oFz (w2 opAdd (oPk 3) (oPk 5))) (aCons (oFz (wSl opSl (oPk 3) (pNo) (pInt (w1 opNeg (oVal (wC (.int 1))))))) (aNil))))))
def w_l_words_6 : WS := sSet 7 (wCall f_l_take (aCons (oPk 0) (aCons (oVal (wC (.int 4))) (aNil))))
def w_l_words_7 : WS := sRet (oVal (wLc (iR1 (oPk 1)) (.nm 8) (tYesW) (w2 opIx (oPk 6) (oVal (w2 opMod (oVal (w2 opAdd (oPk 7) (oPk 8))) (oVal (wC (.int 4)))))) [8]))
def w_l_words : WS := sSeq (w_l_words_1) (sSeq (w_l_words_2) (sSeq (w_l_words_3) (sSeq (w_l_words_4) (sSeq (w_l_words_5) (sSeq (w_l_words_6) (w_l_words_7))))))
abbrev RT_l_words : Type := List D × List D
def n_l_words (held_1 : List D) (many_1 : D) : R (RT_l_words) :=
  R.bind (n_l_take held_1 (.int 6)) fun t_1 =>
  R.bind (nAdd (.int 2) t_1.1) fun t_2 =>
  R.bind (nR1 t_2.d) fun ds_1 =>
  R.bind (lcS (fun (d_2 : D) (s : List D) => R.bind (n_l_take s (.int 16)) fun t_5 => R.bind (nIx (.str "abcdefghijklmnop") t_5.1) fun t_6 => .ok ((t_6, t_5.2))) ds_1 t_1.2) fun xs_1 =>
  R.bind (nJoin (.str "") (.lst xs_1.1)) fun t_7 =>
  R.bind (nLen t_7) fun t_8 =>
  R.bind (n_l_take xs_1.2 t_8) fun t_9 =>
  R.bind (nIx t_7 t_9.1) fun t_10 =>
  R.bind (nSIx (.str "abcdefghijklmnop") t_10) fun t_11 =>
  R.bind (nAdd t_11 (.int 1)) fun t_12 =>
  R.bind (n_l_take t_9.2 (.int 15)) fun t_13 =>
  R.bind (nAdd t_12.d t_13.1) fun t_14 =>
  R.bind (nMod t_14.d (.int 16)) fun t_15 =>
  R.bind (nIx (.str "abcdefghijklmnop") t_15) fun t_16 =>
  R.bind (nInt t_9.1) fun i_1 =>
  R.bind (nSl t_7 none (some i_1)) fun t_17 =>
  R.bind (nAdd t_17.d t_16) fun t_18 =>
  R.bind (nAdd t_9.1 (.int 1)) fun t_19 =>
  R.bind (nInt t_19.d) fun i_2 =>
  R.bind (nSl t_7 (some i_2) none) fun t_20 =>
  R.bind (nAdd t_18.d t_20.d) fun t_21 =>
  R.bind (nAdd t_7 t_16) fun t_22 =>
  R.bind (nNeg (.int 1)) fun t_23 =>
  R.bind (nInt t_23) fun i_3 =>
  R.bind (nSl t_7 none (some i_3)) fun t_24 =>
  R.bind (n_l_take t_13.2 (.int 4)) fun t_25 =>
  R.bind (nR1 many_1) fun ds_2 =>
  R.bind (lcM (fun d_3 : D => R.bind (nAdd t_25.1 d_3) fun t_26 => R.bind (nMod t_26.d (.int 4)) fun t_27 => nIx (.lst [t_7, t_21.d, t_22.d, t_24.d]) t_27) ds_2) fun xs_2 =>
  .ok (xs_2, t_25.2)
abbrev sp_l_words (ms : List M) (Q : M → En → Prop) (X : Xn → Prop) : Prop := ∃ (held_1 : List D) (many_1 : D), ms = [(.lst held_1), (.fz many_1)] ∧ (n_l_words held_1 many_1).post (fun r => Q (M.lst r.1) [some (.lst r.2), none]) X
abbrev f_l_words : Fn := ⟨2, [0], sp_l_words⟩
theorem mono_l_words : MonoF sp_l_words := fun ms Q Q' X X' hq hx ⟨held_1, many_1, e, h⟩ => ⟨held_1, many_1, e, post_imp h (fun _ h => hq _ _ h) hx⟩
theorem j_l_words (ms : List M) (Q : M → En → Prop) (X : Xn → Prop) (h : sp_l_words ms Q X) : wFn 9 2 [0] w_l_words ms Q X := by
  obtain ⟨held_1, many_1, rfl, h⟩ := h
  refine wFn_of (e0 := [some (.lst held_1), some (.fz many_1), none, none, none, none, none, none, none]) rfl fun E hrt hnx hx => ?_
  show (sSeq w_l_words_1 (sSeq w_l_words_2 (sSeq w_l_words_3 (sSeq w_l_words_4 (sSeq w_l_words_5 (sSeq w_l_words_6 (w_l_words_7))))))) _ _
  refine k_seq (k_set (k_c (?_)))
  show (sSeq w_l_words_2 (sSeq w_l_words_3 (sSeq w_l_words_4 (sSeq w_l_words_5 (sSeq w_l_words_6 (w_l_words_7)))))) _ [some (.lst held_1), some (.fz many_1), some (.fz (.str "abcdefghijklmnop")), none, none, none, none, none, none]
  refine k_seq (k_set (k_wmt (k_val (k_c (⟨k_wv (rfl), k_ac (k_val (k_lc (k_ir1 (k_val (k_w2 (k_val (k_c (k_val (k_call (k_ac (k_pk rfl (k_ac (k_val (k_c (k_an (k_mvp rfl (k_mvv (k_mv0 ⟨rfl, _, _, rfl, k_post h (fun t_1 h => k_wv (k_wv (k_add h fun t_2 h => k_wv (k_r1 h fun ds_1 h => j_lcSP (fun s => [some (.lst s), some (.fz many_1), some (.fz (.str "abcdefghijklmnop")), none, none, none, none, none, none]) t_1.2 rfl h (fun d_2 s S KK hk h => g_nm (k_w2 (k_pk rfl (k_val (k_call (k_ac (k_pk rfl (k_ac (k_val (k_c (k_an (k_mvp rfl (k_mvv (k_mv0 ⟨rfl, _, _, rfl, k_post h (fun t_5 h => k_wp rfl (k_wv (k_ix h fun t_6 h => hk _ _ t_5.2 rfl h))) (fun _ z => z.elim)⟩)))))))))))))) fun xs_1 h => k_an (k_wv (k_asv (k_as0 (k_join h fun t_7 h => ?_)))))))) (fun x z => hx x _ z)⟩))))))))))))))))))⟩)))))
  show (sSeq w_l_words_3 (sSeq w_l_words_4 (sSeq w_l_words_5 (sSeq w_l_words_6 (w_l_words_7))))) _ [some (.lst xs_1.2), some (.fz many_1), some (.fz (.str "abcdefghijklmnop")), some (.fz t_7), none, none, none, none, none]
  refine k_seq (k_set (k_call (k_ac (k_pk rfl (k_ac (k_fz (k_wN (k_ac (k_pk rfl (k_an (k_asp rfl (k_as0 (k_len h fun t_8 h => k_an (k_mvp rfl (k_mvv (k_mv0 ⟨rfl, _, _, rfl, k_post h (fun t_9 h => ?_) (fun x z => hx x _ z)⟩))))))))))))))))
  show (sSeq w_l_words_4 (sSeq w_l_words_5 (sSeq w_l_words_6 (w_l_words_7)))) _ [some (.lst t_9.2), some (.fz many_1), some (.fz (.str "abcdefghijklmnop")), some (.fz t_7), some (.fz t_9.1), none, none, none, none]
  refine k_seq (k_set (k_w2 (k_pk rfl (k_val (k_w2 (k_val (k_w2 (k_val (k_w2 (k_val (k_wmt (k_pk rfl (⟨k_wp rfl (rfl), k_ac (k_val (k_w2 (k_pk rfl (k_pk rfl (k_wp rfl (k_wp rfl (k_ix h fun t_10 h => k_an (k_wp rfl (k_asv (k_as0 (k_six h fun t_11 h => k_val (k_c (k_wv (k_wv (k_add h fun t_12 h => k_val (k_call (k_ac (k_pk rfl (k_ac (k_val (k_c (k_an (k_mvp rfl (k_mvv (k_mv0 ⟨rfl, _, _, rfl, k_post h (fun t_13 h => k_wv (k_wv (k_add h fun t_14 h => k_val (k_c (k_wv (k_wv (k_mod h fun t_15 h => k_wp rfl (k_wv (k_ix h fun t_16 h => ?_))))))))) (fun x z => hx x _ z)⟩)))))))))))))))))))))))))⟩)))))))))))))
  show (sSeq w_l_words_5 (sSeq w_l_words_6 (w_l_words_7))) _ [some (.lst t_13.2), some (.fz many_1), some (.fz (.str "abcdefghijklmnop")), some (.fz t_7), some (.fz t_9.1), some (.fz t_16), none, none, none]
  refine k_seq (k_set (k_wN (k_ac (k_fz (k_varF rfl (k_ac (k_fz (k_w2 (k_val (k_w2 (k_val (k_wsl (k_pk rfl (k_pno (k_pint (k_varF rfl (j_pint h fun i_1 h => k_wp rfl (k_sl h fun t_17 h => k_pk rfl (k_wv (k_wp rfl (k_add h fun t_18 h => k_val (k_wsl (k_pk rfl (k_pint (k_w2 (k_pk rfl (k_val (k_c (k_wp rfl (k_wv (k_add h fun t_19 h => j_pint h fun i_2 h => k_pno (k_wp rfl (k_sl h fun t_20 h => k_wv (k_wv (k_add h fun t_21 h => k_ac (k_fz (k_w2 (k_pk rfl (k_pk rfl (k_wp rfl (k_wp rfl (k_add h fun t_22 h => k_ac (k_fz (k_wsl (k_pk rfl (k_pno (k_pint (k_w1 (k_val (k_c (k_wv (k_neg h fun t_23 h => j_pint h fun i_3 h => k_wp rfl (k_sl h fun t_24 h => k_an (k_asv (k_asv (k_asv (k_asv (k_as0 (k_lst rfl rfl (?_))))))))))))))))))))))))))))))))))))))))))))))))))))))))))))
  show (sSeq w_l_words_6 (w_l_words_7)) _ [some (.lst t_13.2), some (.fz many_1), some (.fz (.str "abcdefghijklmnop")), some (.fz t_7), some (.fz t_9.1), some (.fz t_16), some (.lst [t_7, t_21.d, t_22.d, t_24.d]), none, none]
  refine k_seq (k_set (k_call (k_ac (k_pk rfl (k_ac (k_val (k_c (k_an (k_mvp rfl (k_mvv (k_mv0 ⟨rfl, _, _, rfl, k_post h (fun t_25 h => ?_) (fun x z => hx x _ z)⟩)))))))))))
  show w_l_words_7 _ [some (.lst t_25.2), some (.fz many_1), some (.fz (.str "abcdefghijklmnop")), some (.fz t_7), some (.fz t_9.1), some (.fz t_16), some (.lst [t_7, t_21.d, t_22.d, t_24.d]), some (.fz t_25.1), none]
  refine k_retv (k_lc (k_ir1 (k_pk rfl (k_wp rfl (k_r1 h fun ds_2 h => j_lcM h (fun d_3 S KK hk h => g_nm (k_w2 (k_pk rfl (k_val (k_w2 (k_val (k_w2 (k_pk rfl (k_pk rfl (k_wp rfl (k_wp rfl (k_add h fun t_26 h => k_val (k_c (k_wv (k_wv (k_mod h fun t_27 h => k_wp rfl (k_wv (k_ix (tl h) fun t_28 h => hk _ _ rfl h)))))))))))))))))) fun xs_2 h => hrt _ _ h)))))
def w_l_stock_1 : WS := sSet 1 (wKl [.str "a", .str "add", .str "adder", .str "cut", .str "ring", .str "outer", .str "rule", .str "abcdefgh"])
def w_l_stock_2 : WS := sSet 2 (wCall f_l_take (aCons (oPk 0) (aCons (oVal (wC (.int 8))) (aNil))))
def w_l_stock_3 : WS := sSet 3 (wLc (iR1 (oVal (wC (.int 4)))) (.nm 6) (tYesW) (w2 opIx (oPk 1) (oVal (w2 opMod (oVal (w2 opAdd (oPk 2) (oVal (w2 opMul (oVal (wC (.int 3))) (oPk 6))))) (oVal (wC (.int 8)))))) [6])
def w_l_stock_4 : WS := sIf (tVal (w2 (opEq false) (oVal (wCall f_l_take (aCons (oPk 0) (aCons (oVal (wC (.int 2))) (aNil))))) (oVal (wC (.int 0)))))
  (sSet 3 (wCall f_l_words (aCons (oPk 0) (aCons (oVal (wC (.int 4))) (aNil)))))
  (sNx)
def w_l_stock_5 : WS := sSet 4 (wCall f_l_words (aCons (oPk 0) (aCons (oFz (w2 opAdd (oVal (wC (.int 1))) (oVal (wCall f_l_take (aCons (oPk 0) (aCons (oVal (wC (.int 3))) (aNil))))))) (aNil))))
def w_l_stock_6 : WS := sSet 5 (wN opLst (aNil))
def w_l_stock_7b_1 : WS := sSet 7 (wN opLst (aNil))
def w_l_stock_7b_2b : WS := sExpr (wMut "list" opAppend 7 (aCons (oFz (wN opTup (aCons (oFz (w2 opIx (oPk 4) (oVal (wCall f_l_take (aCons (oPk 0) (aCons (oFz (wN opLen (aCons (oPk 4) (aNil)))) (aNil))))))) (aCons (oFz (w2 opIx (oVal (wC (.str "+-"))) (oVal (wCall f_l_take (aCons (oPk 0) (aCons (oVal (wC (.int 2))) (aNil))))))) (aNil))))) (aNil)))
def w_l_stock_7b_2 : WS := sFor (iR1 (oVal (w2 opAdd (oVal (wC (.int 1))) (oVal (wCall f_l_take (aCons (oPk 0) (aCons (oVal (wC (.int 4))) (aNil)))))))) (.nm 8)
  (w_l_stock_7b_2b)
def w_l_stock_7b_3 : WS := sIf (tAndW (tVal (w2 (opEq true) (oPk 5) (oVal (wN opLst (aNil))))) (tVal (w2 (opEq false) (oVal (wCall f_l_take (aCons (oPk 0) (aCons (oVal (wC (.int 3))) (aNil))))) (oVal (wC (.int 0))))))
  (sSet 7 (w2 opIx (oVal (w2 opIx (oPk 5) (oVal (wC (.int 0))))) (oVal (wC (.int 1)))))
  (sNx)
def w_l_stock_7b_4 : WS := sExpr (wMut "list" opAppend 5 (aCons (oFz (wN opTup (aCons (oFz (w2 opIx (oPk 3) (oPk 6))) (aCons (oFz (wN opTuple (aCons (oPk 7) (aNil)))) (aNil))))) (aNil)))
def w_l_stock_7b : WS := sSeq (w_l_stock_7b_1) (sSeq (w_l_stock_7b_2) (sSeq (w_l_stock_7b_3) (w_l_stock_7b_4)))
def w_l_stock_7 : WS := sFor (iR1 (oVal (w2 opAdd (oVal (wC (.int 1))) (oVal (wCall f_l_take (aCons (oPk 0) (aCons (oVal (wC (.int 4))) (aNil)))))))) (.nm 6)
  (w_l_stock_7b)
def w_l_stock_8 : WS := sRet (oVal (wN opTuple (aCons (oVal (wN opSorted (aCons (oPk 5) (aNil)))) (aNil))))
def w_l_stock : WS := sSeq (w_l_stock_1) (sSeq (w_l_stock_2) (sSeq (w_l_stock_3) (sSeq (w_l_stock_4) (sSeq (w_l_stock_5) (sSeq (w_l_stock_6) (sSeq (w_l_stock_7) (w_l_stock_8)))))))
abbrev RT_l_stock : Type := D × List D
def n_l_stock_b4 (t_12 : List D × List D) (d_3 : D) (s_3 : List D × List D) : R (List D × List D) :=
  R.bind (nLen (.lst t_12.1)) fun t_17 =>
  R.bind (n_l_take s_3.1 t_17) fun t_18 =>
  R.bind (nIx (.lst t_12.1) t_18.1) fun t_19 =>
  R.bind (n_l_take t_18.2 (.int 2)) fun t_20 =>
  R.bind (nIx (.str "+-") t_20.1) fun t_21 =>
  R.bind (nApp s_3.2 (.tup [t_19, t_21])) fun ports_1 =>
  .ok (t_20.2, ports_1)
def n_l_stock_b1 (t_12 : List D × List D) (s_1 : List D × List D) (d_2 : D) (s_2 : List D × List D) : R (List D × List D) :=
  R.bind (n_l_take s_2.1 (.int 4)) fun t_15 =>
  R.bind (nAdd (.int 1) t_15.1) fun t_16 =>
  R.bind (nR1 t_16.d) fun ds_3 =>
  R.bind (R.forS (n_l_stock_b4 t_12) ds_3 (t_15.2, ([] : List D))) fun s_4 =>
  R.bind (nEq true (.lst s_2.2) (.lst ([] : List D))) fun t_22 =>
  R.bind (if t_22 = true then (R.bind (n_l_take s_4.1 (.int 3)) fun t_23 => R.bind (nEq false t_23.1 (.int 0)) fun t_24 => .ok ((t_24, t_23.2)) : R (Bool × List D)) else .ok ((false, s_4.1))) fun c_1 =>
  R.bind (if c_1.1 = true then (R.bind (nIx (.lst s_2.2) (.int 0)) fun t_27 =>
  R.bind (nIx t_27 (.int 1)) fun t_28 =>
  .ok (.fz t_28) : R (M)) else .ok (.lst s_4.2)) fun s_5 =>
  R.bind (nIx (.lst s_1.2) d_2) fun t_29 =>
  R.bind (nTuple s_5.d) fun t_30 =>
  R.bind (nApp s_2.2 (.tup [t_29, t_30])) fun rows_1 =>
  .ok (c_1.2, rows_1)
def n_l_stock (held_1 : List D) : R (RT_l_stock) :=
  R.bind (n_l_take held_1 (.int 8)) fun t_1 =>
  R.bind (nR1 (.int 4)) fun ds_1 =>
  R.bind (lcM (fun d_1 : D => R.bind (nMul (.int 3) d_1) fun t_2 => R.bind (nAdd t_1.1 t_2.d) fun t_3 => R.bind (nMod t_3.d (.int 8)) fun t_4 => nIx (.lst [.str "a", .str "add", .str "adder", .str "cut", .str "ring", .str "outer", .str "rule", .str "abcdefgh"]) t_4) ds_1) fun xs_1 =>
  R.bind (n_l_take t_1.2 (.int 2)) fun t_6 =>
  R.bind (nEq false t_6.1 (.int 0)) fun t_7 =>
  R.bind (if t_7 = true then (R.bind (n_l_words t_6.2 (.int 4)) fun t_9 =>
  .ok (t_9.2, t_9.1) : R (List D × List D)) else .ok (t_6.2, xs_1)) fun s_1 =>
  R.bind (n_l_take s_1.1 (.int 3)) fun t_10 =>
  R.bind (nAdd (.int 1) t_10.1) fun t_11 =>
  R.bind (n_l_words t_10.2 t_11.d) fun t_12 =>
  R.bind (n_l_take t_12.2 (.int 4)) fun t_13 =>
  R.bind (nAdd (.int 1) t_13.1) fun t_14 =>
  R.bind (nR1 t_14.d) fun ds_2 =>
  R.bind (R.forS (n_l_stock_b1 t_12 s_1) ds_2 (t_13.2, ([] : List D))) fun s_6 =>
  R.bind (nSorted (.lst s_6.2)) fun t_31 =>
  R.bind (nTuple (.lst t_31)) fun t_32 =>
  .ok (t_32, s_6.1)
abbrev sp_l_stock (ms : List M) (Q : M → En → Prop) (X : Xn → Prop) : Prop := ∃ (held_1 : List D), ms = [(.lst held_1)] ∧ (n_l_stock held_1).post (fun r => Q (M.fz r.1) [some (.lst r.2)]) X
abbrev f_l_stock : Fn := ⟨1, [0], sp_l_stock⟩
theorem mono_l_stock : MonoF sp_l_stock := fun ms Q Q' X X' hq hx ⟨held_1, e, h⟩ => ⟨held_1, e, post_imp h (fun _ h => hq _ _ h) hx⟩
theorem j_l_stock (ms : List M) (Q : M → En → Prop) (X : Xn → Prop) (h : sp_l_stock ms Q X) : wFn 9 1 [0] w_l_stock ms Q X := by
  obtain ⟨held_1, rfl, h⟩ := h
  refine wFn_of (e0 := [some (.lst held_1), none, none, none, none, none, none, none, none]) rfl fun E hrt hnx hx => ?_
  show (sSeq w_l_stock_1 (sSeq w_l_stock_2 (sSeq w_l_stock_3 (sSeq w_l_stock_4 (sSeq w_l_stock_5 (sSeq w_l_stock_6 (sSeq w_l_stock_7 (w_l_stock_8)))))))) _ _
  refine k_seq (k_set (k_kl (?_)))
  show (sSeq w_l_stock_2 (sSeq w_l_stock_3 (sSeq w_l_stock_4 (sSeq w_l_stock_5 (sSeq w_l_stock_6 (sSeq w_l_stock_7 (w_l_stock_8))))))) _ [some (.lst held_1), some (.lst [.str "a", .str "add", .str "adder", .str "cut", .str "ring", .str "outer", .str "rule", .str "abcdefgh"]), none, none, none, none, none, none, none]
  refine k_seq (k_set (k_call (k_ac (k_pk rfl (k_ac (k_val (k_c (k_an (k_mvp rfl (k_mvv (k_mv0 ⟨rfl, _, _, rfl, k_post h (fun t_1 h => ?_) (fun x z => hx x _ z)⟩)))))))))))
  show (sSeq w_l_stock_3 (sSeq w_l_stock_4 (sSeq w_l_stock_5 (sSeq w_l_stock_6 (sSeq w_l_stock_7 (w_l_stock_8)))))) _ [some (.lst t_1.2), some (.lst [.str "a", .str "add", .str "adder", .str "cut", .str "ring", .str "outer", .str "rule", .str "abcdefgh"]), some (.fz t_1.1), none, none, none, none, none, none]
  refine k_seq (k_set (k_lc (k_ir1 (k_val (k_c (k_wv (k_r1 h fun ds_1 h => j_lcM h (fun d_1 S KK hk h => g_nm (k_w2 (k_pk rfl (k_val (k_w2 (k_val (k_w2 (k_pk rfl (k_val (k_w2 (k_val (k_c (k_pk rfl (k_wv (k_wp rfl (k_mul h fun t_2 h => k_wp rfl (k_wv (k_add h fun t_3 h => k_val (k_c (k_wv (k_wv (k_mod h fun t_4 h => k_wp rfl (k_wv (k_ix (tl h) fun t_5 h => hk _ _ rfl h)))))))))))))))))))))))) fun xs_1 h => ?_)))))))
  show (sSeq w_l_stock_4 (sSeq w_l_stock_5 (sSeq w_l_stock_6 (sSeq w_l_stock_7 (w_l_stock_8))))) _ [some (.lst t_1.2), some (.lst [.str "a", .str "add", .str "adder", .str "cut", .str "ring", .str "outer", .str "rule", .str "abcdefgh"]), some (.fz t_1.1), some (.lst xs_1), none, none, none, none, none]
  refine k_seq (k_sif (k_tval (k_w2 (k_val (k_call (k_ac (k_pk rfl (k_ac (k_val (k_c (k_an (k_mvp rfl (k_mvv (k_mv0 ⟨rfl, _, _, rfl, k_post h (fun t_6 h => k_val (k_c (k_wv (k_wv (k_eq h fun t_7 h => j_tv (j_sifJ (fun (s_1 : List D × List D) (j_1 : Unit) => [some (.lst s_1.1), some (.lst [.str "a", .str "add", .str "adder", .str "cut", .str "ring", .str "outer", .str "rule", .str "abcdefgh"]), some (.fz t_1.1), some (.lst s_1.2), none, none, none, none, none]) h (fun J h => ?_) (fun J h => ?_) (fun s_1 j_1 h => ?_))))))) (fun x z => hx x _ z)⟩))))))))))))))
  · refine k_set (k_call (k_ac (k_pk rfl (k_ac (k_val (k_c (k_an (k_mvp rfl (k_mvv (k_mv0 ⟨rfl, _, _, rfl, k_post (asc h) (fun t_9 h => ?_) (fun x z => hx x _ z)⟩))))))))))
    exact J (t_9.2, t_9.1) () h
  · refine k_nx ?_
    exact J (t_6.2, xs_1) () h
  · show (sSeq w_l_stock_5 (sSeq w_l_stock_6 (sSeq w_l_stock_7 (w_l_stock_8)))) _ [some (.lst s_1.1), some (.lst [.str "a", .str "add", .str "adder", .str "cut", .str "ring", .str "outer", .str "rule", .str "abcdefgh"]), some (.fz t_1.1), some (.lst s_1.2), none, none, none, none, none]
    refine k_seq (k_set (k_call (k_ac (k_pk rfl (k_ac (k_fz (k_w2 (k_val (k_c (k_val (k_call (k_ac (k_pk rfl (k_ac (k_val (k_c (k_an (k_mvp rfl (k_mvv (k_mv0 ⟨rfl, _, _, rfl, k_post h (fun t_10 h => k_wv (k_wv (k_add h fun t_11 h => k_an (k_mvp rfl (k_mvv (k_mv0 ⟨rfl, _, _, rfl, k_post h (fun t_12 h => ?_) (fun x z => hx x _ z)⟩)))))) (fun x z => hx x _ z)⟩))))))))))))))))))))
    show (sSeq w_l_stock_6 (sSeq w_l_stock_7 (w_l_stock_8))) _ [some (.lst t_12.2), some (.lst [.str "a", .str "add", .str "adder", .str "cut", .str "ring", .str "outer", .str "rule", .str "abcdefgh"]), some (.fz t_1.1), some (.lst s_1.2), some (.lst t_12.1), none, none, none, none]
    refine k_seq (k_set (k_wN (k_an (k_as0 (k_lst rfl rfl (?_))))))
    show (sSeq w_l_stock_7 (w_l_stock_8)) _ [some (.lst t_12.2), some (.lst [.str "a", .str "add", .str "adder", .str "cut", .str "ring", .str "outer", .str "rule", .str "abcdefgh"]), some (.fz t_1.1), some (.lst s_1.2), some (.lst t_12.1), some (.lst ([] : List D)), none, none, none]
    refine k_seq (k_for (k_ir1 (k_val (k_w2 (k_val (k_c (k_val (k_call (k_ac (k_pk rfl (k_ac (k_val (k_c (k_an (k_mvp rfl (k_mvv (k_mv0 ⟨rfl, _, _, rfl, k_post h (fun t_13 h => k_wv (k_wv (k_add h fun t_14 h => k_wv (k_r1 h fun ds_2 h => j_forSb (fun (s_2 : List D × List D) (j_2 : Option M × Option M × Option M) => [some (.lst s_2.1), some (.lst [.str "a", .str "add", .str "adder", .str "cut", .str "ring", .str "outer", .str "rule", .str "abcdefgh"]), some (.fz t_1.1), some (.lst s_1.2), some (.lst t_12.1), some (.lst s_2.2), j_2.1, j_2.2.1, j_2.2.2]) ?_ ?_ _ (t_13.2, ([] : List D)) (none, none, none) h)))) (fun x z => hx x _ z)⟩)))))))))))))))))
    · intro d_2 s_2 j_2 N S hn h
      refine g_nm (?_)
      show w_l_stock_7b _ [some (.lst s_2.1), some (.lst [.str "a", .str "add", .str "adder", .str "cut", .str "ring", .str "outer", .str "rule", .str "abcdefgh"]), some (.fz t_1.1), some (.lst s_1.2), some (.lst t_12.1), some (.lst s_2.2), some (.fz d_2), j_2.2.1, j_2.2.2]
      refine k_seq (k_set (k_wN (k_an (k_as0 (k_lst rfl rfl (?_))))))
      show (sSeq w_l_stock_7b_2 (sSeq w_l_stock_7b_3 (w_l_stock_7b_4))) _ [some (.lst s_2.1), some (.lst [.str "a", .str "add", .str "adder", .str "cut", .str "ring", .str "outer", .str "rule", .str "abcdefgh"]), some (.fz t_1.1), some (.lst s_1.2), some (.lst t_12.1), some (.lst s_2.2), some (.fz d_2), some (.lst ([] : List D)), j_2.2.2]
      refine k_seq (k_for (k_ir1 (k_val (k_w2 (k_val (k_c (k_val (k_call (k_ac (k_pk rfl (k_ac (k_val (k_c (k_an (k_mvp rfl (k_mvv (k_mv0 ⟨rfl, _, _, rfl, k_post h (fun t_15 h => k_wv (k_wv (k_add h fun t_16 h => k_wv (k_r1 h fun ds_3 h => j_forSb (fun (s_3 : List D × List D) (j_3 : Option M) => [some (.lst s_3.1), some (.lst [.str "a", .str "add", .str "adder", .str "cut", .str "ring", .str "outer", .str "rule", .str "abcdefgh"]), some (.fz t_1.1), some (.lst s_1.2), some (.lst t_12.1), some (.lst s_2.2), some (.fz d_2), some (.lst s_3.2), j_3]) ?_ ?_ _ (t_15.2, ([] : List D)) j_2.2.2 h)))) (fun x z => hx x _ z)⟩)))))))))))))))))
      · intro d_3 s_3 j_3 N S hn h
        refine g_nm (?_)
        show w_l_stock_7b_2b _ [some (.lst s_3.1), some (.lst [.str "a", .str "add", .str "adder", .str "cut", .str "ring", .str "outer", .str "rule", .str "abcdefgh"]), some (.fz t_1.1), some (.lst s_1.2), some (.lst t_12.1), some (.lst s_2.2), some (.fz d_2), some (.lst s_3.2), some (.fz d_3)]
        refine k_expr (k_mut rfl rfl (k_ac (k_fz (k_wN (k_ac (k_fz (k_w2 (k_pk rfl (k_val (k_call (k_ac (k_pk rfl (k_ac (k_fz (k_wN (k_ac (k_pk rfl (k_an (k_asp rfl (k_as0 (k_len h fun t_17 h => k_an (k_mvp rfl (k_mvv (k_mv0 ⟨rfl, _, _, rfl, k_post h (fun t_18 h => k_wp rfl (k_wv (k_ix h fun t_19 h => k_ac (k_fz (k_w2 (k_val (k_c (k_val (k_call (k_ac (k_pk rfl (k_ac (k_val (k_c (k_an (k_mvp rfl (k_mvv (k_mv0 ⟨rfl, _, _, rfl, k_post h (fun t_20 h => k_wv (k_wv (k_ix h fun t_21 h => k_an (k_asv (k_asv (k_as0 (k_tup rfl rfl (k_an (j_mut rfl rfl (k_asv (k_as0 (k_app h fun ports_1 h => ?_)))))))))))) (fun x z => hx x _ z)⟩)))))))))))))))))) (fun x z => hx x _ z)⟩))))))))))))))))))))))))
        exact hn (t_20.2, ports_1) (some (.fz d_3)) h
      · intro s_4 j_4 h
        show (sSeq w_l_stock_7b_3 (w_l_stock_7b_4)) _ [some (.lst s_4.1), some (.lst [.str "a", .str "add", .str "adder", .str "cut", .str "ring", .str "outer", .str "rule", .str "abcdefgh"]), some (.fz t_1.1), some (.lst s_1.2), some (.lst t_12.1), some (.lst s_2.2), some (.fz d_2), some (.lst s_4.2), j_4]
        refine k_seq (k_sif (k_tand (k_tval (k_w2 (k_pk rfl (k_val (k_wN (k_an (k_as0 (k_lst rfl rfl (k_wp rfl (k_wv (k_eq h fun t_22 h => j_tv (j_tand (fun v => v.1) (fun v => [some (.lst v.2), some (.lst [.str "a", .str "add", .str "adder", .str "cut", .str "ring", .str "outer", .str "rule", .str "abcdefgh"]), some (.fz t_1.1), some (.lst s_1.2), some (.lst t_12.1), some (.lst s_2.2), some (.fz d_2), some (.lst s_4.2), j_4]) h (fun J2 h => k_tval (k_w2 (k_val (k_call (k_ac (k_pk rfl (k_ac (k_val (k_c (k_an (k_mvp rfl (k_mvv (k_mv0 ⟨rfl, _, _, rfl, k_post (asc h) (fun t_23 h => k_val (k_c (k_wv (k_wv (k_eq (asc h) fun t_24 h => j_tv (J2 (t_24, t_23.2) h)))))) (fun x z => hx x _ z)⟩))))))))))))) (fun J2 h => J2 (false, s_4.1) h) (fun c_1 h => j_sifJ (fun (s_5 : M) (j_5 : Unit) => [some (.lst c_1.2), some (.lst [.str "a", .str "add", .str "adder", .str "cut", .str "ring", .str "outer", .str "rule", .str "abcdefgh"]), some (.fz t_1.1), some (.lst s_1.2), some (.lst t_12.1), some (.lst s_2.2), some (.fz d_2), some s_5, j_4]) h (fun J h => ?_) (fun J h => ?_) (fun s_5 j_5 h => ?_))))))))))))))))
        · refine k_set (k_w2 (k_val (k_w2 (k_pk rfl (k_val (k_c (k_wp rfl (k_wv (k_ix (asc h) fun t_27 h => k_val (k_c (k_wv (k_wv (k_ix (asc h) fun t_28 h => ?_)))))))))))))
          exact J (.fz t_28) () h
        · refine k_nx ?_
          exact J (.lst s_4.2) () h
        · show w_l_stock_7b_4 _ [some (.lst c_1.2), some (.lst [.str "a", .str "add", .str "adder", .str "cut", .str "ring", .str "outer", .str "rule", .str "abcdefgh"]), some (.fz t_1.1), some (.lst s_1.2), some (.lst t_12.1), some (.lst s_2.2), some (.fz d_2), some s_5, j_4]
          refine k_expr (k_mut rfl rfl (k_ac (k_fz (k_wN (k_ac (k_fz (k_w2 (k_pk rfl (k_pk rfl (k_wp rfl (k_wp rfl (k_ix h fun t_29 h => k_ac (k_fz (k_wN (k_ac (k_pk rfl (k_an (k_asp rfl (k_as0 (k_tuple h fun t_30 h => k_an (k_asv (k_asv (k_as0 (k_tup rfl rfl (k_an (j_mut rfl rfl (k_asv (k_as0 (k_app h fun rows_1 h => ?_)))))))))))))))))))))))))))))
          exact hn (c_1.2, rows_1) ((some (.fz d_2)), (some s_5), j_4) h
    · intro s_6 j_6 h
      show w_l_stock_8 _ [some (.lst s_6.1), some (.lst [.str "a", .str "add", .str "adder", .str "cut", .str "ring", .str "outer", .str "rule", .str "abcdefgh"]), some (.fz t_1.1), some (.lst s_1.2), some (.lst t_12.1), some (.lst s_6.2), j_6.1, j_6.2.1, j_6.2.2]
      refine k_retv (k_wN (k_ac (k_val (k_wN (k_ac (k_pk rfl (k_an (k_asp rfl (k_as0 (k_sorted h fun t_31 h => k_an (k_asv (k_as0 (k_tuple h fun t_32 h => hrt _ _ h)))))))))))))
def w_l_name_1 : WS := sIf (tOrW (tNotW (tTru (oVal (wN opIsi (aCons (oPk 0) (aCons (oVal (wC (.ty "str"))) (aNil))))))) (tOrW (tVal (w2 (opEq false) (oVal (wN opLen (aCons (oPk 0) (aNil)))) (oVal (wC (.int 0))))) (tVal (w2 (opOrd .gt) (oVal (wN opLen (aCons (oPk 0) (aNil)))) (oVal (wC (.int 8)))))))
  (sRet (oVal (wC (.bl false))))
  (sNx)
def w_l_name_2 : WS := sRet (oVal (w2 (opEq false) (oVal (wN opLen (aCons (oVal (wLc (iSeq (wVar 0)) (.nm 1) (tVal (w2 (opIn true) (oPk 1) (oVal (wC (.str "abcdefghijklmnopqrstuvwxyz"))))) (wVar 1) [1])) (aNil)))) (oVal (wC (.int 0)))))
def w_l_name : WS := sSeq (w_l_name_1) (w_l_name_2)
abbrev RT_l_name : Type := Bool
def n_l_name (thing_1 : D) : R (RT_l_name) :=
  R.bind (nIsi "str" thing_1) fun t_1 =>
  R.bind (orB (!t_1) (R.bind (nLen thing_1) fun t_2 => R.bind (nEq false t_2 (.int 0)) fun t_3 => orB t_3 (R.bind (nLen thing_1) fun t_4 => nOrd .gt t_4 (.int 8)))) fun c_2 =>
  if c_2 = true then
  .ok false
  else
  R.bind (nItems thing_1) fun ds_1 =>
  R.bind (lcF (fun d_1 : D => R.bind (nIn true d_1 (.str "abcdefghijklmnopqrstuvwxyz")) fun t_6 =>
  if t_6 = true then (.ok ((some d_1)) : R (Option D)) else .ok none) ds_1) fun xs_1 =>
  R.bind (nLen (.lst xs_1)) fun t_7 =>
  R.bind (nEq false t_7 (.int 0)) fun t_8 =>
  .ok t_8
abbrev sp_l_name (ms : List M) (Q : M → En → Prop) (X : Xn → Prop) : Prop := ∃ (thing_1 : D), ms = [(.fz thing_1)] ∧ (n_l_name thing_1).post (fun r => Q (M.fz (.bl r)) [none]) X
abbrev f_l_name : Fn := ⟨1, [], sp_l_name⟩
theorem mono_l_name : MonoF sp_l_name := fun ms Q Q' X X' hq hx ⟨thing_1, e, h⟩ => ⟨thing_1, e, post_imp h (fun _ h => hq _ _ h) hx⟩
theorem j_l_name (ms : List M) (Q : M → En → Prop) (X : Xn → Prop) (h : sp_l_name ms Q X) : wFn 2 1 [] w_l_name ms Q X := by
  obtain ⟨thing_1, rfl, h⟩ := h
  refine wFn_of (e0 := [some (.fz thing_1), none]) rfl fun E hrt hnx hx => ?_
  show (sSeq w_l_name_1 (w_l_name_2)) _ _
  refine k_seq (k_sif (k_tor (k_tnot (k_ttru (k_val (k_wN (k_ac (k_pk rfl (k_ac (k_val (k_c (k_an (k_asp rfl (k_asv (k_as0 (k_isi h fun t_1 h => k_wv (j_truB (j_tor (fun v => v) (fun v => [some (.fz thing_1), none]) h (fun J0 h => J0 true h) (fun J0 h => k_tor (k_tval (k_w2 (k_val (k_wN (k_ac (k_pk rfl (k_an (k_asp rfl (k_as0 (k_len (asc h) fun t_2 h => k_val (k_c (k_wv (k_wv (k_eq (asc h) fun t_3 h => j_tv (j_tor (fun v => v) (fun v => [some (.fz thing_1), none]) h (fun J1 h => J1 true h) (fun J1 h => k_tval (k_w2 (k_val (k_wN (k_ac (k_pk rfl (k_an (k_asp rfl (k_as0 (k_len (asc h) fun t_4 h => k_val (k_c (k_wv (k_wv (k_ord h fun t_5 h => j_tv (J1 t_5 h))))))))))))))) (fun c_1 h => J0 c_1 h))))))))))))))))) (fun c_2 h => j_sif h (fun h => ?_) (fun h => ?_))))))))))))))))))))
  · refine k_retv (k_c (hrt _ _ h))
  · refine k_nx ?_
    show w_l_name_2 _ [some (.fz thing_1), none]
    refine k_retv (k_w2 (k_val (k_wN (k_ac (k_val (k_lc (k_iseq (k_varF rfl (k_items h fun ds_1 h => j_lcF h (fun d_1 S KK K0 hk h0 h => g_nm (k_lci (k_tval (k_w2 (k_pk rfl (k_val (k_c (k_wp rfl (k_wv (k_in h fun t_6 h => j_tv (j_lci h (fun h => k_varF rfl (hk _ _ rfl h)) (fun h => h0 _ rfl h)))))))))))) fun xs_1 h => k_an (k_asv (k_as0 (k_len h fun t_7 h => k_val (k_c (k_wv (k_wv (k_eq h fun t_8 h => hrt _ _ h))))))))))))))))
def w_l_spec_1 : WS := sIf (tOrW (tNotW (tTru (oVal (wN opIsi (aCons (oPk 0) (aCons (oVal (wC (.ty "tuple"))) (aNil))))))) (tOrW (tVal (w2 (opEq true) (oVal (wN opLen (aCons (oPk 0) (aNil)))) (oVal (wC (.int 2))))) (tNotW (tTru (oVal (wCall f_l_name (aCons (oFz (w2 opIx (oPk 0) (oVal (wC (.int 0))))) (aNil))))))))
  (sRet (oVal (wC (.bl false))))
  (sNx)
def w_l_spec_2 : WS := sRet (oVal (wOr (w2 (opEq false) (oVal (w2 opIx (oPk 0) (oVal (wC (.int 1))))) (oVal (wC (.str "+")))) (w2 (opEq false) (oVal (w2 opIx (oPk 0) (oVal (wC (.int 1))))) (oVal (wC (.str "-"))))))
def w_l_spec : WS := sSeq (w_l_spec_1) (w_l_spec_2)
abbrev RT_l_spec : Type := Bool
def n_l_spec (thing_1 : D) : R (RT_l_spec) :=
  R.bind (nIsi "tuple" thing_1) fun t_1 =>
  R.bind (orB (!t_1) (R.bind (nLen thing_1) fun t_2 => R.bind (nEq true t_2 (.int 2)) fun t_3 => orB t_3 (R.bind (nIx thing_1 (.int 0)) fun t_4 => R.bind (n_l_name t_4) fun t_5 => .ok ((!t_5))))) fun c_2 =>
  if c_2 = true then
  .ok false
  else
  R.bind (nIx thing_1 (.int 1)) fun t_6 =>
  R.bind (nEq false t_6 (.str "+")) fun t_7 =>
  R.bind (orB t_7 (R.bind (nIx thing_1 (.int 1)) fun t_8 => nEq false t_8 (.str "-"))) fun c_3 =>
  .ok c_3
abbrev sp_l_spec (ms : List M) (Q : M → En → Prop) (X : Xn → Prop) : Prop := ∃ (thing_1 : D), ms = [(.fz thing_1)] ∧ (n_l_spec thing_1).post (fun r => Q (M.fz (.bl r)) [none]) X
abbrev f_l_spec : Fn := ⟨1, [], sp_l_spec⟩
theorem mono_l_spec : MonoF sp_l_spec := fun ms Q Q' X X' hq hx ⟨thing_1, e, h⟩ => ⟨thing_1, e, post_imp h (fun _ h => hq _ _ h) hx⟩
theorem j_l_spec (ms : List M) (Q : M → En → Prop) (X : Xn → Prop) (h : sp_l_spec ms Q X) : wFn 1 1 [] w_l_spec ms Q X := by
  obtain ⟨thing_1, rfl, h⟩ := h
  refine wFn_of (e0 := [some (.fz thing_1)]) rfl fun E hrt hnx hx => ?_
  show (sSeq w_l_spec_1 (w_l_spec_2)) _ _
  refine k_seq (k_sif (k_tor (k_tnot (k_ttru (k_val (k_wN (k_ac (k_pk rfl (k_ac (k_val (k_c (k_an (k_asp rfl (k_asv (k_as0 (k_isi h fun t_1 h => k_wv (j_truB (j_tor (fun v => v) (fun v => [some (.fz thing_1)]) h (fun J1 h => J1 true h) (fun J1 h => k_tor (k_tval (k_w2 (k_val (k_wN (k_ac (k_pk rfl (k_an (k_asp rfl (k_as0 (k_len (asc h) fun t_2 h => k_val (k_c (k_wv (k_wv (k_eq (asc h) fun t_3 h => j_tv (j_tor (fun v => v) (fun v => [some (.fz thing_1)]) h (fun J2 h => J2 true h) (fun J2 h => k_tnot (k_ttru (k_val (k_call (k_ac (k_fz (k_w2 (k_pk rfl (k_val (k_c (k_wp rfl (k_wv (k_ix (asc h) fun t_4 h => k_an (k_mvv (k_mv0 ⟨rfl, _, rfl, k_post (asc h) (fun t_5 h => k_wv (j_truB (J2 (!t_5) h))) (fun x z => hx x _ z)⟩))))))))))))))) (fun c_1 h => J1 c_1 h))))))))))))))))) (fun c_2 h => j_sif h (fun h => ?_) (fun h => ?_))))))))))))))))))))
  · refine k_retv (k_c (hrt _ _ h))
  · refine k_nx ?_
    show w_l_spec_2 _ [some (.fz thing_1)]
    refine k_retv (k_wor (k_w2 (k_val (k_w2 (k_pk rfl (k_val (k_c (k_wp rfl (k_wv (k_ix h fun t_6 h => k_val (k_c (k_wv (k_wv (k_eq h fun t_7 h => j_wor (fun v => M.fz (.bl v)) (fun v => [some (.fz thing_1)]) h (fun J0 h => J0 true h) (fun J0 h => k_w2 (k_val (k_w2 (k_pk rfl (k_val (k_c (k_wp rfl (k_wv (k_ix (asc h) fun t_8 h => k_val (k_c (k_wv (k_wv (k_eq h fun t_9 h => J0 t_9 h))))))))))))) (fun c_3 h => hrt _ _ h)))))))))))))))
def w_l_right_1 : WS := sIf (tOrW (tNotW (tTru (oVal (wN opIsi (aCons (oPk 0) (aCons (oVal (wC (.ty "tuple"))) (aNil))))))) (tOrW (tVal (w2 (opEq false) (oVal (wN opLen (aCons (oPk 0) (aNil)))) (oVal (wC (.int 0))))) (tVal (w2 (opOrd .gt) (oVal (wN opLen (aCons (oPk 0) (aNil)))) (oVal (wC (.int 8)))))))
  (sRet (oVal (wC (.bl false))))
  (sNx)
def w_l_right_2b_1 : WS := sIf (tOrW (tNotW (tTru (oVal (wN opIsi (aCons (oPk 1) (aCons (oVal (wC (.ty "tuple"))) (aNil))))))) (tOrW (tVal (w2 (opEq true) (oVal (wN opLen (aCons (oPk 1) (aNil)))) (oVal (wC (.int 2))))) (tOrW (tNotW (tTru (oVal (wCall f_l_name (aCons (oFz (w2 opIx (oPk 1) (oVal (wC (.int 0))))) (aNil)))))) (tNotW (tTru (oVal (wN opIsi (aCons (oVal (w2 opIx (oPk 1) (oVal (wC (.int 1))))) (aCons (oVal (wC (.ty "tuple"))) (aNil))))))))))
  (sRet (oVal (wC (.bl false))))
  (sNx)
def w_l_right_2b_2 : WS := sIf (tOrW (tNotW (tVal (wChain (opOrd .le) (opOrd .le) (oVal (wC (.int 1))) (oVal (wN opLen (aCons (oVal (w2 opIx (oPk 1) (oVal (wC (.int 1))))) (aNil)))) (oVal (wC (.int 4)))))) (tNotW (tTru (oVal (wN opAll (aCons (oVal (wLc (iSeq (w2 opIx (oPk 1) (oVal (wC (.int 1))))) (.nm 3) (tYesW) (wCall f_l_spec (aCons (oFz (wVar 3)) (aNil))) [3])) (aNil)))))))
  (sRet (oVal (wC (.bl false))))
  (sNx)
def w_l_right_2b : WS := sSeq (w_l_right_2b_1) (w_l_right_2b_2)
def w_l_right_2 : WS := sFor (iSeq (wVar 0)) (.nm 1)
  (w_l_right_2b)
def w_l_right_3 : WS := sSet 2 (wLc (iSeq (wVar 0)) (.nm 1) (tYesW) (w2 opIx (oPk 1) (oVal (wC (.int 0)))) [1])
def w_l_right_4 : WS := sRet (oVal (wAnd (w2 (opEq false) (oPk 2) (oVal (wN opSorted (aCons (oPk 2) (aNil))))) (w2 (opEq false) (oVal (w1 opLenSet (oPk 2))) (oVal (wN opLen (aCons (oPk 2) (aNil)))))))
def w_l_right : WS := sSeq (w_l_right_1) (sSeq (w_l_right_2) (sSeq (w_l_right_3) (w_l_right_4)))
abbrev RT_l_right : Type := Bool
def n_l_right_b1 (d_1 : D) (s_1 : Unit) (K : (Unit) → R (RT_l_right)) : R (RT_l_right) :=
  R.bind (nIsi "tuple" d_1) fun t_6 =>
  R.bind (orB (!t_6) (R.bind (nLen d_1) fun t_7 => R.bind (nEq true t_7 (.int 2)) fun t_8 => orB t_8 (R.bind (nIx d_1 (.int 0)) fun t_9 => R.bind (n_l_name t_9) fun t_10 => orB (!t_10) (R.bind (nIx d_1 (.int 1)) fun t_11 => R.bind (nIsi "tuple" t_11) fun t_12 => .ok ((!t_12)))))) fun c_5 =>
  if c_5 = true then
  .ok false
  else
  R.bind (nIx d_1 (.int 1)) fun t_13 =>
  R.bind (nLen t_13) fun t_14 =>
  R.bind (nOrd .le (.int 1) t_14) fun t_15 =>
  R.bind (andB t_15 (nOrd .le t_14 (.int 4))) fun c_6 =>
  R.bind (orB (!c_6) (R.bind (nIx d_1 (.int 1)) fun t_17 => R.bind (nItems t_17) fun ds_2 => R.bind (lcM (fun d_2 : D => R.bind (n_l_spec d_2) fun t_18 => .ok ((.bl t_18))) ds_2) fun xs_1 => R.bind (nAll (.lst xs_1)) fun t_19 => .ok ((!t_19)))) fun c_7 =>
  if c_7 = true then
  .ok false
  else
  K ()
def n_l_right (thing_1 : D) : R (RT_l_right) :=
  R.bind (nIsi "tuple" thing_1) fun t_1 =>
  R.bind (orB (!t_1) (R.bind (nLen thing_1) fun t_2 => R.bind (nEq false t_2 (.int 0)) fun t_3 => orB t_3 (R.bind (nLen thing_1) fun t_4 => nOrd .gt t_4 (.int 8)))) fun c_2 =>
  if c_2 = true then
  .ok false
  else
  R.bind (nItems thing_1) fun ds_1 =>
  R.forN (n_l_right_b1) (fun (s_2 : Unit) =>
  R.bind (nItems thing_1) fun ds_3 =>
  R.bind (lcM (fun d_3 : D => nIx d_3 (.int 0)) ds_3) fun xs_2 =>
  R.bind (nSorted (.lst xs_2)) fun t_21 =>
  R.bind (nEq false (.lst xs_2) (.lst t_21)) fun t_22 =>
  R.bind (andB t_22 (R.bind (nLenSet (.lst xs_2)) fun t_23 => R.bind (nLen (.lst xs_2)) fun t_24 => nEq false t_23 t_24)) fun c_8 =>
  .ok c_8) ds_1 ()
abbrev sp_l_right (ms : List M) (Q : M → En → Prop) (X : Xn → Prop) : Prop := ∃ (thing_1 : D), ms = [(.fz thing_1)] ∧ (n_l_right thing_1).post (fun r => Q (M.fz (.bl r)) [none]) X
abbrev f_l_right : Fn := ⟨1, [], sp_l_right⟩
theorem mono_l_right : MonoF sp_l_right := fun ms Q Q' X X' hq hx ⟨thing_1, e, h⟩ => ⟨thing_1, e, post_imp h (fun _ h => hq _ _ h) hx⟩
theorem j_l_right (ms : List M) (Q : M → En → Prop) (X : Xn → Prop) (h : sp_l_right ms Q X) : wFn 4 1 [] w_l_right ms Q X := by
  obtain ⟨thing_1, rfl, h⟩ := h
  refine wFn_of (e0 := [some (.fz thing_1), none, none, none]) rfl fun E hrt hnx hx => ?_
  show (sSeq w_l_right_1 (sSeq w_l_right_2 (sSeq w_l_right_3 (w_l_right_4)))) _ _
  refine k_seq (k_sif (k_tor (k_tnot (k_ttru (k_val (k_wN (k_ac (k_pk rfl (k_ac (k_val (k_c (k_an (k_asp rfl (k_asv (k_as0 (k_isi h fun t_1 h => k_wv (j_truB (j_tor (fun v => v) (fun v => [some (.fz thing_1), none, none, none]) h (fun J16 h => J16 true h) (fun J16 h => k_tor (k_tval (k_w2 (k_val (k_wN (k_ac (k_pk rfl (k_an (k_asp rfl (k_as0 (k_len (asc h) fun t_2 h => k_val (k_c (k_wv (k_wv (k_eq (asc h) fun t_3 h => j_tv (j_tor (fun v => v) (fun v => [some (.fz thing_1), none, none, none]) h (fun J17 h => J17 true h) (fun J17 h => k_tval (k_w2 (k_val (k_wN (k_ac (k_pk rfl (k_an (k_asp rfl (k_as0 (k_len (asc h) fun t_4 h => k_val (k_c (k_wv (k_wv (k_ord h fun t_5 h => j_tv (J17 t_5 h))))))))))))))) (fun c_1 h => J16 c_1 h))))))))))))))))) (fun c_2 h => j_sif h (fun h => ?_) (fun h => ?_))))))))))))))))))))
  · refine k_retv (k_c (hrt _ _ h))
  · refine k_nx ?_
    show (sSeq w_l_right_2 (sSeq w_l_right_3 (w_l_right_4))) _ [some (.fz thing_1), none, none, none]
    refine k_seq (k_for (k_iseq (k_varF rfl (k_items h fun ds_1 h => j_forN (fun (s_1 : Unit) (j_1 : Option M) => [some (.fz thing_1), j_1, none, none]) ?_ ?_ _ () none h))))
    · intro d_1 s_1 j_1 N K hn h
      refine g_nm (?_)
      show w_l_right_2b _ [some (.fz thing_1), some (.fz d_1), none, none]
      refine k_seq (k_sif (k_tor (k_tnot (k_ttru (k_val (k_wN (k_ac (k_pk rfl (k_ac (k_val (k_c (k_an (k_asp rfl (k_asv (k_as0 (k_isi h fun t_6 h => k_wv (j_truB (j_tor (fun v => v) (fun v => [some (.fz thing_1), some (.fz d_1), none, none]) h (fun J12 h => J12 true h) (fun J12 h => k_tor (k_tval (k_w2 (k_val (k_wN (k_ac (k_pk rfl (k_an (k_asp rfl (k_as0 (k_len (asc h) fun t_7 h => k_val (k_c (k_wv (k_wv (k_eq (asc h) fun t_8 h => j_tv (j_tor (fun v => v) (fun v => [some (.fz thing_1), some (.fz d_1), none, none]) h (fun J13 h => J13 true h) (fun J13 h => k_tor (k_tnot (k_ttru (k_val (k_call (k_ac (k_fz (k_w2 (k_pk rfl (k_val (k_c (k_wp rfl (k_wv (k_ix (asc h) fun t_9 h => k_an (k_mvv (k_mv0 ⟨rfl, _, rfl, k_post (asc h) (fun t_10 h => k_wv (j_truB (j_tor (fun v => v) (fun v => [some (.fz thing_1), some (.fz d_1), none, none]) h (fun J14 h => J14 true h) (fun J14 h => k_tnot (k_ttru (k_val (k_wN (k_ac (k_val (k_w2 (k_pk rfl (k_val (k_c (k_wp rfl (k_wv (k_ix (asc h) fun t_11 h => k_ac (k_val (k_c (k_an (k_asv (k_asv (k_as0 (k_isi (asc h) fun t_12 h => k_wv (j_truB (J14 (!t_12) h)))))))))))))))))))))) (fun c_3 h => J13 c_3 h)))) (fun x z => hx x _ z)⟩)))))))))))))))) (fun c_4 h => J12 c_4 h))))))))))))))))) (fun c_5 h => j_sif h (fun h => ?_) (fun h => ?_))))))))))))))))))))
      · refine k_retv (k_c (hrt _ _ h))
      · refine k_nx ?_
        show w_l_right_2b_2 _ [some (.fz thing_1), some (.fz d_1), none, none]
        refine k_sif (k_tor (k_tnot (k_tval (k_chain (k_val (k_c (k_val (k_wN (k_ac (k_val (k_w2 (k_pk rfl (k_val (k_c (k_wp rfl (k_wv (k_ix h fun t_13 h => k_an (k_asv (k_as0 (k_len h fun t_14 h => k_wv (k_wv (k_ord h fun t_15 h => j_chain (fun v => M.fz (.bl v)) (fun v => [some (.fz thing_1), some (.fz d_1), none, none]) h (fun J11 h => k_val (k_c (k_wv (k_wv (k_ord h fun t_16 h => J11 t_16 h))))) (fun J11 h => J11 false h) (fun c_6 h => j_tv (j_tor (fun v => v) (fun v => [some (.fz thing_1), some (.fz d_1), none, none]) h (fun J10 h => J10 true h) (fun J10 h => k_tnot (k_ttru (k_val (k_wN (k_ac (k_val (k_lc (k_iseq (k_w2 (k_pk rfl (k_val (k_c (k_wp rfl (k_wv (k_ix (asc h) fun t_17 h => k_items (asc h) fun ds_2 h => j_lcM (asc h) (fun d_2 S KK hk h => g_nm (k_call (k_ac (k_fz (k_varF rfl (k_an (k_mvv (k_mv0 ⟨rfl, _, rfl, k_post h (fun t_18 h => hk _ _ rfl h) (fun _ z => z.elim)⟩)))))))) fun xs_1 h => k_an (k_asv (k_as0 (k_all (asc h) fun t_19 h => k_wv (j_truB (J10 (!t_19) h)))))))))))))))))))) (fun c_7 h => j_sif h (fun h => ?_) (fun h => ?_))))))))))))))))))))))))))
        · refine k_retv (k_c (hrt _ _ h))
        · refine k_nx ?_
          exact hn () (some (.fz d_1)) h
    · intro s_2 j_2 h
      show (sSeq w_l_right_3 (w_l_right_4)) _ [some (.fz thing_1), j_2, none, none]
      refine k_seq (k_set (k_lc (k_iseq (k_varF rfl (k_items h fun ds_3 h => j_lcM h (fun d_3 S KK hk h => g_nm (k_w2 (k_pk rfl (k_val (k_c (k_wp rfl (k_wv (k_ix (tl h) fun t_20 h => hk _ _ rfl h)))))))) fun xs_2 h => ?_)))))
      show w_l_right_4 _ [some (.fz thing_1), j_2, some (.lst xs_2), none]
      refine k_retv (k_wand (k_w2 (k_pk rfl (k_val (k_wN (k_ac (k_pk rfl (k_an (k_asp rfl (k_as0 (k_sorted h fun t_21 h => k_wp rfl (k_wv (k_eq h fun t_22 h => j_wand (fun v => M.fz (.bl v)) (fun v => [some (.fz thing_1), j_2, some (.lst xs_2), none]) h (fun J15 h => k_w2 (k_val (k_w1 (k_pk rfl (k_wp rfl (k_lenSet (asc h) fun t_23 h => k_val (k_wN (k_ac (k_pk rfl (k_an (k_asp rfl (k_as0 (k_len (asc h) fun t_24 h => k_wv (k_wv (k_eq h fun t_25 h => J15 t_25 h))))))))))))))) (fun J15 h => J15 false h) (fun c_8 h => hrt _ _ h))))))))))))))
def w_l_text_1 : WS := sSet 1 (w2 opIx (oVal (wKl [.str "abcdefghijklmnopqrstuvwxyz", .str "abcdefghijklmnopqrstuvwxyzA1 -_."])) (oVal (wCall f_l_take (aCons (oPk 0) (aCons (oVal (wC (.int 2))) (aNil))))))
def w_l_text_2 : WS := sRet (oVal (wMt "str" opJoin (oVal (wC (.str ""))) (aCons (oVal (wLc (iR1 (oVal (wCall f_l_take (aCons (oPk 0) (aCons (oVal (wC (.int 11))) (aNil)))))) (.nm 2) (tYesW) (w2 opIx (oPk 1) (oVal (wCall f_l_take (aCons (oPk 0) (aCons (oFz (wN opLen (aCons (oPk 1) (aNil)))) (aNil)))))) [2])) (aNil))))
def w_l_text : WS := sSeq (w_l_text_1) (w_l_text_2)
abbrev RT_l_text : Type := D × List D
def n_l_text (held_1 : List D) : R (RT_l_text) :=
  R.bind (n_l_take held_1 (.int 2)) fun t_1 =>
  R.bind (nIx (.lst [.str "abcdefghijklmnopqrstuvwxyz", .str "abcdefghijklmnopqrstuvwxyzA1 -_."]) t_1.1) fun t_2 =>
  R.bind (n_l_take t_1.2 (.int 11)) fun t_3 =>
  R.bind (nR1 t_3.1) fun ds_1 =>
  R.bind (lcS (fun (d_2 : D) (s : List D) => R.bind (nLen t_2) fun t_7 => R.bind (n_l_take s t_7) fun t_8 => R.bind (nIx t_2 t_8.1) fun t_9 => .ok ((t_9, t_8.2))) ds_1 t_3.2) fun xs_1 =>
  R.bind (nJoin (.str "") (.lst xs_1.1)) fun t_10 =>
  .ok (t_10, xs_1.2)
abbrev sp_l_text (ms : List M) (Q : M → En → Prop) (X : Xn → Prop) : Prop := ∃ (held_1 : List D), ms = [(.lst held_1)] ∧ (n_l_text held_1).post (fun r => Q (M.fz r.1) [some (.lst r.2)]) X
abbrev f_l_text : Fn := ⟨1, [0], sp_l_text⟩
theorem mono_l_text : MonoF sp_l_text := fun ms Q Q' X X' hq hx ⟨held_1, e, h⟩ => ⟨held_1, e, post_imp h (fun _ h => hq _ _ h) hx⟩
theorem j_l_text (ms : List M) (Q : M → En → Prop) (X : Xn → Prop) (h : sp_l_text ms Q X) : wFn 3 1 [0] w_l_text ms Q X := by
  obtain ⟨held_1, rfl, h⟩ := h
  refine wFn_of (e0 := [some (.lst held_1), none, none]) rfl fun E hrt hnx hx => ?_
  show (sSeq w_l_text_1 (w_l_text_2)) _ _
  refine k_seq (k_set (k_w2 (k_val (k_kl (k_val (k_call (k_ac (k_pk rfl (k_ac (k_val (k_c (k_an (k_mvp rfl (k_mvv (k_mv0 ⟨rfl, _, _, rfl, k_post h (fun t_1 h => k_wv (k_wv (k_ix h fun t_2 h => ?_))) (fun x z => hx x _ z)⟩)))))))))))))))
  show w_l_text_2 _ [some (.lst t_1.2), some (.fz t_2), none]
  refine k_retv (k_wmt (k_val (k_c (⟨k_wv (rfl), k_ac (k_val (k_lc (k_ir1 (k_val (k_call (k_ac (k_pk rfl (k_ac (k_val (k_c (k_an (k_mvp rfl (k_mvv (k_mv0 ⟨rfl, _, _, rfl, k_post h (fun t_3 h => k_wv (k_r1 h fun ds_1 h => j_lcSP (fun s => [some (.lst s), some (.fz t_2), none]) t_3.2 rfl h (fun d_2 s S KK hk h => g_nm (k_w2 (k_pk rfl (k_val (k_call (k_ac (k_pk rfl (k_ac (k_fz (k_wN (k_ac (k_pk rfl (k_an (k_asp rfl (k_as0 (k_len h fun t_7 h => k_an (k_mvp rfl (k_mvv (k_mv0 ⟨rfl, _, _, rfl, k_post h (fun t_8 h => k_wp rfl (k_wv (k_ix h fun t_9 h => hk _ _ t_8.2 rfl h))) (fun _ z => z.elim)⟩))))))))))))))))))) fun xs_1 h => k_an (k_wv (k_asv (k_as0 (k_join h fun t_10 h => hrt _ _ h)))))) (fun x z => hx x _ z)⟩))))))))))))))⟩))))
def w_l_odd : WS := sRet (oVal (w2 opIx (oVal (wKl [.int 0, .int 1, .bl true, .bl false, .non, .str "", .tup [], .lst [], .str "+", .tup [.str "n", .str "+"], .lst [.str "n", .str "+"], .tup [.tup [.str "a", .tup [.tup [.str "n", .str "+"]]]]])) (oVal (wCall f_l_take (aCons (oPk 0) (aCons (oVal (wC (.int 12))) (aNil)))))))
abbrev RT_l_odd : Type := D × List D
def n_l_odd (held_1 : List D) : R (RT_l_odd) :=
  R.bind (n_l_take held_1 (.int 12)) fun t_1 =>
  R.bind (nIx (.lst [.int 0, .int 1, .bl true, .bl false, .non, .str "", .tup [], .lst [], .str "+", .tup [.str "n", .str "+"], .lst [.str "n", .str "+"], .tup [.tup [.str "a", .tup [.tup [.str "n", .str "+"]]]]]) t_1.1) fun t_2 =>
  .ok (t_2, t_1.2)
abbrev sp_l_odd (ms : List M) (Q : M → En → Prop) (X : Xn → Prop) : Prop := ∃ (held_1 : List D), ms = [(.lst held_1)] ∧ (n_l_odd held_1).post (fun r => Q (M.fz r.1) [some (.lst r.2)]) X
abbrev f_l_odd : Fn := ⟨1, [0], sp_l_odd⟩
theorem mono_l_odd : MonoF sp_l_odd := fun ms Q Q' X X' hq hx ⟨held_1, e, h⟩ => ⟨held_1, e, post_imp h (fun _ h => hq _ _ h) hx⟩
theorem j_l_odd (ms : List M) (Q : M → En → Prop) (X : Xn → Prop) (h : sp_l_odd ms Q X) : wFn 1 1 [0] w_l_odd ms Q X := by
  obtain ⟨held_1, rfl, h⟩ := h
  refine wFn_of (e0 := [some (.lst held_1)]) rfl fun E hrt hnx hx => ?_
  refine k_retv (k_w2 (k_val (k_kl (k_val (k_call (k_ac (k_pk rfl (k_ac (k_val (k_c (k_an (k_mvp rfl (k_mvv (k_mv0 ⟨rfl, _, _, rfl, k_post h (fun t_1 h => k_wv (k_wv (k_ix h fun t_2 h => hrt _ _ h))) (fun x z => hx x _ z)⟩))))))))))))))
def w_l_bent_spec_1 : WS := sSet 2 (w2 opIx (oVal (wKl [.str "*", .str "", .str "+-", .str "--", .str " ", .bl true, .non, .int 1, .tup [.str "+"]])) (oVal (wCall f_l_take (aCons (oPk 0) (aCons (oVal (wC (.int 9))) (aNil))))))
def w_l_bent_spec_2 : WS := sSet 3 (wN opLst (aCons (oFz (wVar 1)) (aCons (oFz (wN opLst (aCons (oFz (w2 opIx (oPk 1) (oVal (wC (.int 0))))) (aCons (oFz (w2 opIx (oPk 1) (oVal (wC (.int 1))))) (aNil))))) (aCons (oFz (wN opTup (aCons (oFz (w2 opIx (oPk 1) (oVal (wC (.int 0))))) (aNil)))) (aCons (oFz (w2 opAdd (oPk 1) (oVal (wC (.tup [.str "+"]))))) (aCons (oFz (wN opTup (aCons (oFz (w2 opIx (oPk 1) (oVal (wC (.int 1))))) (aCons (oFz (w2 opIx (oPk 1) (oVal (wC (.int 0))))) (aNil))))) (aCons (oFz (wN opTup (aCons (oFz (w2 opIx (oPk 1) (oVal (wC (.int 0))))) (aCons (oFz (wVar 2)) (aNil))))) (aNil))))))))
def w_l_bent_spec_3 : WS := sRet (oVal (w2 opIx (oVal (w2 opAdd (oPk 3) (oVal (wN opLst (aCons (oFz (wN opTup (aCons (oFz (wCall f_l_text (aCons (oPk 0) (aNil)))) (aCons (oFz (w2 opIx (oPk 1) (oVal (wC (.int 1))))) (aNil))))) (aCons (oFz (wN opTup (aCons (oFz (wCall f_l_odd (aCons (oPk 0) (aNil)))) (aCons (oFz (w2 opIx (oPk 1) (oVal (wC (.int 1))))) (aNil))))) (aNil))))))) (oVal (wCall f_l_take (aCons (oPk 0) (aCons (oVal (wC (.int 8))) (aNil)))))))
def w_l_bent_spec : WS := sSeq (w_l_bent_spec_1) (sSeq (w_l_bent_spec_2) (w_l_bent_spec_3))
abbrev RT_l_bent_spec : Type := D × List D
def n_l_bent_spec (held_1 : List D) (spec_1 : D) : R (RT_l_bent_spec) :=
  R.bind (n_l_take held_1 (.int 9)) fun t_1 =>
  R.bind (nIx (.lst [.str "*", .str "", .str "+-", .str "--", .str " ", .bl true, .non, .int 1, .tup [.str "+"]]) t_1.1) fun t_2 =>
  R.bind (nIx spec_1 (.int 0)) fun t_3 =>
  R.bind (nIx spec_1 (.int 1)) fun t_4 =>
  R.bind (nIx spec_1 (.int 0)) fun t_5 =>
  R.bind (nAdd spec_1 (.tup [.str "+"])) fun t_6 =>
  R.bind (nIx spec_1 (.int 1)) fun t_7 =>
  R.bind (nIx spec_1 (.int 0)) fun t_8 =>
  R.bind (nIx spec_1 (.int 0)) fun t_9 =>
  R.bind (n_l_text t_1.2) fun t_10 =>
  R.bind (nIx spec_1 (.int 1)) fun t_11 =>
  R.bind (n_l_odd t_10.2) fun t_12 =>
  R.bind (nIx spec_1 (.int 1)) fun t_13 =>
  R.bind (nAdd (.lst [spec_1, (.lst [t_3, t_4]), (.tup [t_5]), t_6.d, (.tup [t_7, t_8]), (.tup [t_9, t_2])]) (.lst [(.tup [t_10.1, t_11]), (.tup [t_12.1, t_13])])) fun t_14 =>
  R.bind (n_l_take t_12.2 (.int 8)) fun t_15 =>
  R.bind (nIx t_14.d t_15.1) fun t_16 =>
  .ok (t_16, t_15.2)
abbrev sp_l_bent_spec (ms : List M) (Q : M → En → Prop) (X : Xn → Prop) : Prop := ∃ (held_1 : List D) (spec_1 : D), ms = [(.lst held_1), (.fz spec_1)] ∧ (n_l_bent_spec held_1 spec_1).post (fun r => Q (M.fz r.1) [some (.lst r.2), none]) X
abbrev f_l_bent_spec : Fn := ⟨2, [0], sp_l_bent_spec⟩
theorem mono_l_bent_spec : MonoF sp_l_bent_spec := fun ms Q Q' X X' hq hx ⟨held_1, spec_1, e, h⟩ => ⟨held_1, spec_1, e, post_imp h (fun _ h => hq _ _ h) hx⟩
theorem j_l_bent_spec (ms : List M) (Q : M → En → Prop) (X : Xn → Prop) (h : sp_l_bent_spec ms Q X) : wFn 4 2 [0] w_l_bent_spec ms Q X := by
  obtain ⟨held_1, spec_1, rfl, h⟩ := h
  refine wFn_of (e0 := [some (.lst held_1), some (.fz spec_1), none, none]) rfl fun E hrt hnx hx => ?_
  show (sSeq w_l_bent_spec_1 (sSeq w_l_bent_spec_2 (w_l_bent_spec_3))) _ _
  refine k_seq (k_set (k_w2 (k_val (k_kl (k_val (k_call (k_ac (k_pk rfl (k_ac (k_val (k_c (k_an (k_mvp rfl (k_mvv (k_mv0 ⟨rfl, _, _, rfl, k_post h (fun t_1 h => k_wv (k_wv (k_ix h fun t_2 h => ?_))) (fun x z => hx x _ z)⟩)))))))))))))))
  show (sSeq w_l_bent_spec_2 (w_l_bent_spec_3)) _ [some (.lst t_1.2), some (.fz spec_1), some (.fz t_2), none]
  refine k_seq (k_set (k_wN (k_ac (k_fz (k_varF rfl (k_ac (k_fz (k_wN (k_ac (k_fz (k_w2 (k_pk rfl (k_val (k_c (k_wp rfl (k_wv (k_ix h fun t_3 h => k_ac (k_fz (k_w2 (k_pk rfl (k_val (k_c (k_wp rfl (k_wv (k_ix h fun t_4 h => k_an (k_asv (k_asv (k_as0 (k_lst rfl rfl (k_ac (k_fz (k_wN (k_ac (k_fz (k_w2 (k_pk rfl (k_val (k_c (k_wp rfl (k_wv (k_ix h fun t_5 h => k_an (k_asv (k_as0 (k_tup rfl rfl (k_ac (k_fz (k_w2 (k_pk rfl (k_val (k_c (k_wp rfl (k_wv (k_add h fun t_6 h => k_ac (k_fz (k_wN (k_ac (k_fz (k_w2 (k_pk rfl (k_val (k_c (k_wp rfl (k_wv (k_ix h fun t_7 h => k_ac (k_fz (k_w2 (k_pk rfl (k_val (k_c (k_wp rfl (k_wv (k_ix h fun t_8 h => k_an (k_asv (k_asv (k_as0 (k_tup rfl rfl (k_ac (k_fz (k_wN (k_ac (k_fz (k_w2 (k_pk rfl (k_val (k_c (k_wp rfl (k_wv (k_ix h fun t_9 h => k_ac (k_fz (k_varF rfl (k_an (k_asv (k_asv (k_as0 (k_tup rfl rfl (k_an (k_asv (k_asv (k_asv (k_asv (k_asv (k_asv (k_as0 (k_lst rfl rfl (?_)))))))))))))))))))))))))))))))))))))))))))))))))))))))))))))))))))))))))))))))))))))))))))))))))))))))))
  show w_l_bent_spec_3 _ [some (.lst t_1.2), some (.fz spec_1), some (.fz t_2), some (.lst [spec_1, (.lst [t_3, t_4]), (.tup [t_5]), t_6.d, (.tup [t_7, t_8]), (.tup [t_9, t_2])])]
  refine k_retv (k_w2 (k_val (k_w2 (k_pk rfl (k_val (k_wN (k_ac (k_fz (k_wN (k_ac (k_fz (k_call (k_ac (k_pk rfl (k_an (k_mvp rfl (k_mv0 ⟨rfl, _, rfl, k_post h (fun t_10 h => k_ac (k_fz (k_w2 (k_pk rfl (k_val (k_c (k_wp rfl (k_wv (k_ix h fun t_11 h => k_an (k_asv (k_asv (k_as0 (k_tup rfl rfl (k_ac (k_fz (k_wN (k_ac (k_fz (k_call (k_ac (k_pk rfl (k_an (k_mvp rfl (k_mv0 ⟨rfl, _, rfl, k_post h (fun t_12 h => k_ac (k_fz (k_w2 (k_pk rfl (k_val (k_c (k_wp rfl (k_wv (k_ix h fun t_13 h => k_an (k_asv (k_asv (k_as0 (k_tup rfl rfl (k_an (k_asv (k_asv (k_as0 (k_lst rfl rfl (k_wp rfl (k_wv (k_add h fun t_14 h => k_val (k_call (k_ac (k_pk rfl (k_ac (k_val (k_c (k_an (k_mvp rfl (k_mvv (k_mv0 ⟨rfl, _, _, rfl, k_post h (fun t_15 h => k_wv (k_wv (k_ix h fun t_16 h => hrt _ _ h))) (fun x z => hx x _ z)⟩))))))))))))))))))))))))))))))) (fun x z => hx x _ z)⟩)))))))))))))))))))))))) (fun x z => hx x _ z)⟩)))))))))))))))))
def w_l_bent_row_1 : WS := sSet 2 (wCall f_l_take (aCons (oPk 0) (aCons (oFz (wN opLen (aCons (oVal (w2 opIx (oPk 1) (oVal (wC (.int 1))))) (aNil)))) (aNil))))
def w_l_bent_row_2 : WS := sSet 3 (w2 opAdd (oVal (w2 opAdd (oVal (wSl opSl (oVal (w2 opIx (oPk 1) (oVal (wC (.int 1))))) (pNo) (pInt (wVar 2)))) (oVal (wN opTup (aCons (oFz (wCall f_l_bent_spec (aCons (oPk 0) (aCons (oFz (w2 opIx (oVal (w2 opIx (oPk 1) (oVal (wC (.int 1))))) (oPk 2))) (aNil))))) (aNil)))))) (oVal (wSl opSl (oVal (w2 opIx (oPk 1) (oVal (wC (.int 1))))) (pInt (w2 opAdd (oPk 2) (oVal (wC (.int 1))))) (pNo))))
def w_l_bent_row_3 : WS := sSet 4 (wN opLst (aCons (oFz (wN opTup (aCons (oFz (w2 opIx (oPk 1) (oVal (wC (.int 0))))) (aCons (oFz (wVar 3)) (aNil))))) (aCons (oFz (wN opTup (aCons (oFz (w2 opIx (oPk 1) (oVal (wC (.int 0))))) (aCons (oFz (wN opTup (aNil))) (aNil))))) (aCons (oFz (wN opTup (aCons (oFz (w2 opIx (oPk 1) (oVal (wC (.int 0))))) (aCons (oFz (w2 opAdd (oVal (w2 opIx (oPk 1) (oVal (wC (.int 1))))) (oVal (w2 opMul (oVal (wSl opSl (oVal (w2 opIx (oPk 1) (oVal (wC (.int 1))))) (pNo) (pInt (wC (.int 1))))) (oVal (wC (.int 4))))))) (aNil))))) (aCons (oFz (wN opTup (aCons (oFz (w2 opIx (oPk 1) (oVal (wC (.int 0))))) (aCons (oFz (wSl opSl (oVal (w2 opMul (oVal (w2 opIx (oPk 1) (oVal (wC (.int 1))))) (oVal (wC (.int 5))))) (pNo) (pInt (wC (.int 5))))) (aNil))))) (aNil))))))
def w_l_bent_row_4 : WS := sSet 4 (w2 opAdd (oPk 4) (oVal (wN opLst (aCons (oFz (wN opTup (aCons (oFz (w2 opIx (oPk 1) (oVal (wC (.int 0))))) (aCons (oFz (wSl opSl (oVal (w2 opMul (oVal (w2 opIx (oPk 1) (oVal (wC (.int 1))))) (oVal (wC (.int 4))))) (pNo) (pInt (wC (.int 4))))) (aNil))))) (aCons (oFz (wN opTup (aCons (oFz (w2 opIx (oPk 1) (oVal (wC (.int 0))))) (aCons (oFz (wN opList (aCons (oVal (w2 opIx (oPk 1) (oVal (wC (.int 1))))) (aNil)))) (aNil))))) (aCons (oFz (wN opLst (aCons (oFz (w2 opIx (oPk 1) (oVal (wC (.int 0))))) (aCons (oFz (w2 opIx (oPk 1) (oVal (wC (.int 1))))) (aNil))))) (aCons (oFz (wN opTup (aCons (oFz (w2 opIx (oPk 1) (oVal (wC (.int 0))))) (aNil)))) (aCons (oFz (w2 opAdd (oPk 1) (oVal (wC (.tup [.int 1]))))) (aNil)))))))))
def w_l_bent_row_5 : WS := sRet (oVal (w2 opIx (oVal (w2 opAdd (oPk 4) (oVal (wN opLst (aCons (oFz (wN opTup (aCons (oFz (wCall f_l_text (aCons (oPk 0) (aNil)))) (aCons (oFz (w2 opIx (oPk 1) (oVal (wC (.int 1))))) (aNil))))) (aCons (oFz (wN opTup (aCons (oFz (wCall f_l_odd (aCons (oPk 0) (aNil)))) (aCons (oFz (w2 opIx (oPk 1) (oVal (wC (.int 1))))) (aNil))))) (aCons (oFz (wCall f_l_odd (aCons (oPk 0) (aNil)))) (aNil)))))))) (oVal (wCall f_l_take (aCons (oPk 0) (aCons (oVal (wC (.int 12))) (aNil)))))))
def w_l_bent_row : WS := sSeq (w_l_bent_row_1) (sSeq (w_l_bent_row_2) (sSeq (w_l_bent_row_3) (sSeq (w_l_bent_row_4) (w_l_bent_row_5))))
abbrev RT_l_bent_row : Type := D × List D
def n_l_bent_row (held_1 : List D) (row_1 : D) : R (RT_l_bent_row) :=
  R.bind (nIx row_1 (.int 1)) fun t_1 =>
  R.bind (nLen t_1) fun t_2 =>
  R.bind (n_l_take held_1 t_2) fun t_3 =>
  R.bind (nIx row_1 (.int 1)) fun t_4 =>
  R.bind (nInt t_3.1) fun i_1 =>
  R.bind (nSl t_4 none (some i_1)) fun t_5 =>
  R.bind (nIx row_1 (.int 1)) fun t_6 =>
  R.bind (nIx t_6 t_3.1) fun t_7 =>
  R.bind (n_l_bent_spec t_3.2 t_7) fun t_8 =>
  R.bind (nAdd t_5.d (.tup [t_8.1])) fun t_9 =>
  R.bind (nIx row_1 (.int 1)) fun t_10 =>
  R.bind (nAdd t_3.1 (.int 1)) fun t_11 =>
  R.bind (nInt t_11.d) fun i_2 =>
  R.bind (nSl t_10 (some i_2) none) fun t_12 =>
  R.bind (nAdd t_9.d t_12.d) fun t_13 =>
  R.bind (nIx row_1 (.int 0)) fun t_14 =>
  R.bind (nIx row_1 (.int 0)) fun t_15 =>
  R.bind (nIx row_1 (.int 0)) fun t_16 =>
  R.bind (nIx row_1 (.int 1)) fun t_17 =>
  R.bind (nIx row_1 (.int 1)) fun t_18 =>
  R.bind (nInt (.int 1)) fun i_3 =>
  R.bind (nSl t_18 none (some i_3)) fun t_19 =>
  R.bind (nMul t_19.d (.int 4)) fun t_20 =>
  R.bind (nAdd t_17 t_20.d) fun t_21 =>
  R.bind (nIx row_1 (.int 0)) fun t_22 =>
  R.bind (nIx row_1 (.int 1)) fun t_23 =>
  R.bind (nMul t_23 (.int 5)) fun t_24 =>
  R.bind (nInt (.int 5)) fun i_4 =>
  R.bind (nSl t_24.d none (some i_4)) fun t_25 =>
  R.bind (nIx row_1 (.int 0)) fun t_26 =>
  R.bind (nIx row_1 (.int 1)) fun t_27 =>
  R.bind (nMul t_27 (.int 4)) fun t_28 =>
  R.bind (nInt (.int 4)) fun i_5 =>
  R.bind (nSl t_28.d none (some i_5)) fun t_29 =>
  R.bind (nIx row_1 (.int 0)) fun t_30 =>
  R.bind (nIx row_1 (.int 1)) fun t_31 =>
  R.bind (nList t_31) fun t_32 =>
  R.bind (nIx row_1 (.int 0)) fun t_33 =>
  R.bind (nIx row_1 (.int 1)) fun t_34 =>
  R.bind (nIx row_1 (.int 0)) fun t_35 =>
  R.bind (nAdd row_1 (.tup [.int 1])) fun t_36 =>
  R.bind (nAdd (.lst [(.tup [t_14, t_13.d]), (.tup [t_15, (.tup [])]), (.tup [t_16, t_21.d]), (.tup [t_22, t_25.d])]) (.lst [(.tup [t_26, t_29.d]), (.tup [t_30, (.lst t_32)]), (.lst [t_33, t_34]), (.tup [t_35]), t_36.d])) fun t_37 =>
  R.bind (n_l_text t_8.2) fun t_38 =>
  R.bind (nIx row_1 (.int 1)) fun t_39 =>
  R.bind (n_l_odd t_38.2) fun t_40 =>
  R.bind (nIx row_1 (.int 1)) fun t_41 =>
  R.bind (n_l_odd t_40.2) fun t_42 =>
  R.bind (nAdd t_37.d (.lst [(.tup [t_38.1, t_39]), (.tup [t_40.1, t_41]), t_42.1])) fun t_43 =>
  R.bind (n_l_take t_42.2 (.int 12)) fun t_44 =>
  R.bind (nIx t_43.d t_44.1) fun t_45 =>
  .ok (t_45, t_44.2)
abbrev sp_l_bent_row (ms : List M) (Q : M → En → Prop) (X : Xn → Prop) : Prop := ∃ (held_1 : List D) (row_1 : D), ms = [(.lst held_1), (.fz row_1)] ∧ (n_l_bent_row held_1 row_1).post (fun r => Q (M.fz r.1) [some (.lst r.2), none]) X
abbrev f_l_bent_row : Fn := ⟨2, [0], sp_l_bent_row⟩
theorem mono_l_bent_row : MonoF sp_l_bent_row := fun ms Q Q' X X' hq hx ⟨held_1, row_1, e, h⟩ => ⟨held_1, row_1, e, post_imp h (fun _ h => hq _ _ h) hx⟩
theorem j_l_bent_row (ms : List M) (Q : M → En → Prop) (X : Xn → Prop) (h : sp_l_bent_row ms Q X) : wFn 5 2 [0] w_l_bent_row ms Q X := by
  obtain ⟨held_1, row_1, rfl, h⟩ := h
  refine wFn_of (e0 := [some (.lst held_1), some (.fz row_1), none, none, none]) rfl fun E hrt hnx hx => ?_
  show (sSeq w_l_bent_row_1 (sSeq w_l_bent_row_2 (sSeq w_l_bent_row_3 (sSeq w_l_bent_row_4 (w_l_bent_row_5))))) _ _
  refine k_seq (k_set (k_call (k_ac (k_pk rfl (k_ac (k_fz (k_wN (k_ac (k_val (k_w2 (k_pk rfl (k_val (k_c (k_wp rfl (k_wv (k_ix h fun t_1 h => k_an (k_asv (k_as0 (k_len h fun t_2 h => k_an (k_mvp rfl (k_mvv (k_mv0 ⟨rfl, _, _, rfl, k_post h (fun t_3 h => ?_) (fun x z => hx x _ z)⟩))))))))))))))))))))))
  show (sSeq w_l_bent_row_2 (sSeq w_l_bent_row_3 (sSeq w_l_bent_row_4 (w_l_bent_row_5)))) _ [some (.lst t_3.2), some (.fz row_1), some (.fz t_3.1), none, none]
  refine k_seq (k_set (k_w2 (k_val (k_w2 (k_val (k_wsl (k_val (k_w2 (k_pk rfl (k_val (k_c (k_wp rfl (k_wv (k_ix h fun t_4 h => k_pno (k_pint (k_varF rfl (j_pint h fun i_1 h => k_wv (k_sl h fun t_5 h => k_val (k_wN (k_ac (k_fz (k_call (k_ac (k_pk rfl (k_ac (k_fz (k_w2 (k_val (k_w2 (k_pk rfl (k_val (k_c (k_wp rfl (k_wv (k_ix h fun t_6 h => k_pk rfl (k_wv (k_wp rfl (k_ix h fun t_7 h => k_an (k_mvp rfl (k_mvv (k_mv0 ⟨rfl, _, _, rfl, k_post h (fun t_8 h => k_an (k_asv (k_as0 (k_tup rfl rfl (k_wv (k_wv (k_add h fun t_9 h => k_val (k_wsl (k_val (k_w2 (k_pk rfl (k_val (k_c (k_wp rfl (k_wv (k_ix h fun t_10 h => k_pint (k_w2 (k_pk rfl (k_val (k_c (k_wp rfl (k_wv (k_add h fun t_11 h => j_pint h fun i_2 h => k_pno (k_wv (k_sl h fun t_12 h => k_wv (k_wv (k_add h fun t_13 h => ?_))))))))))))))))))))))))))) (fun x z => hx x _ z)⟩)))))))))))))))))))))))))))))))))))))))))
  show (sSeq w_l_bent_row_3 (sSeq w_l_bent_row_4 (w_l_bent_row_5))) _ [some (.lst t_8.2), some (.fz row_1), some (.fz t_3.1), some t_13, none]
  refine k_seq (k_set (k_wN (k_ac (k_fz (k_wN (k_ac (k_fz (k_w2 (k_pk rfl (k_val (k_c (k_wp rfl (k_wv (k_ix h fun t_14 h => k_ac (k_fz (k_var rfl (k_an (k_asv (k_asv (k_as0 (k_tup rfl rfl (k_ac (k_fz (k_wN (k_ac (k_fz (k_w2 (k_pk rfl (k_val (k_c (k_wp rfl (k_wv (k_ix h fun t_15 h => k_ac (k_fz (k_wN (k_an (k_as0 (k_tup rfl rfl (k_an (k_asv (k_asv (k_as0 (k_tup rfl rfl (k_ac (k_fz (k_wN (k_ac (k_fz (k_w2 (k_pk rfl (k_val (k_c (k_wp rfl (k_wv (k_ix h fun t_16 h => k_ac (k_fz (k_w2 (k_val (k_w2 (k_pk rfl (k_val (k_c (k_wp rfl (k_wv (k_ix h fun t_17 h => k_val (k_w2 (k_val (k_wsl (k_val (k_w2 (k_pk rfl (k_val (k_c (k_wp rfl (k_wv (k_ix h fun t_18 h => k_pno (k_pint (k_c (j_pint h fun i_3 h => k_wv (k_sl h fun t_19 h => k_val (k_c (k_wv (k_wv (k_mul h fun t_20 h => k_wv (k_wv (k_add h fun t_21 h => k_an (k_asv (k_asv (k_as0 (k_tup rfl rfl (k_ac (k_fz (k_wN (k_ac (k_fz (k_w2 (k_pk rfl (k_val (k_c (k_wp rfl (k_wv (k_ix h fun t_22 h => k_ac (k_fz (k_wsl (k_val (k_w2 (k_val (k_w2 (k_pk rfl (k_val (k_c (k_wp rfl (k_wv (k_ix h fun t_23 h => k_val (k_c (k_wv (k_wv (k_mul h fun t_24 h => k_pno (k_pint (k_c (j_pint h fun i_4 h => k_wv (k_sl h fun t_25 h => k_an (k_asv (k_asv (k_as0 (k_tup rfl rfl (k_an (k_asv (k_asv (k_asv (k_asv (k_as0 (k_lst rfl rfl (?_))))))))))))))))))))))))))))))))))))))))))))))))))))))))))))))))))))))))))))))))))))))))))))))))))))))))))))))))))))))))))))))))))))))
  show (sSeq w_l_bent_row_4 (w_l_bent_row_5)) _ [some (.lst t_8.2), some (.fz row_1), some (.fz t_3.1), some (.fz t_13.d), some (.lst [(.tup [t_14, t_13.d]), (.tup [t_15, (.tup [])]), (.tup [t_16, t_21.d]), (.tup [t_22, t_25.d])])]
  refine k_seq (k_set (k_w2 (k_pk rfl (k_val (k_wN (k_ac (k_fz (k_wN (k_ac (k_fz (k_w2 (k_pk rfl (k_val (k_c (k_wp rfl (k_wv (k_ix h fun t_26 h => k_ac (k_fz (k_wsl (k_val (k_w2 (k_val (k_w2 (k_pk rfl (k_val (k_c (k_wp rfl (k_wv (k_ix h fun t_27 h => k_val (k_c (k_wv (k_wv (k_mul h fun t_28 h => k_pno (k_pint (k_c (j_pint h fun i_5 h => k_wv (k_sl h fun t_29 h => k_an (k_asv (k_asv (k_as0 (k_tup rfl rfl (k_ac (k_fz (k_wN (k_ac (k_fz (k_w2 (k_pk rfl (k_val (k_c (k_wp rfl (k_wv (k_ix h fun t_30 h => k_ac (k_fz (k_wN (k_ac (k_val (k_w2 (k_pk rfl (k_val (k_c (k_wp rfl (k_wv (k_ix h fun t_31 h => k_an (k_asv (k_as0 (k_list h fun t_32 h => k_an (k_asv (k_asv (k_as0 (k_tup rfl rfl (k_ac (k_fz (k_wN (k_ac (k_fz (k_w2 (k_pk rfl (k_val (k_c (k_wp rfl (k_wv (k_ix h fun t_33 h => k_ac (k_fz (k_w2 (k_pk rfl (k_val (k_c (k_wp rfl (k_wv (k_ix h fun t_34 h => k_an (k_asv (k_asv (k_as0 (k_lst rfl rfl (k_ac (k_fz (k_wN (k_ac (k_fz (k_w2 (k_pk rfl (k_val (k_c (k_wp rfl (k_wv (k_ix h fun t_35 h => k_an (k_asv (k_as0 (k_tup rfl rfl (k_ac (k_fz (k_w2 (k_pk rfl (k_val (k_c (k_wp rfl (k_wv (k_add h fun t_36 h => k_an (k_asv (k_asv (k_asv (k_asv (k_asv (k_as0 (k_lst rfl rfl (k_wp rfl (k_wv (k_add h fun t_37 h => ?_)))))))))))))))))))))))))))))))))))))))))))))))))))))))))))))))))))))))))))))))))))))))))))))))))))))))))))))))))))))))))))))))))
  show w_l_bent_row_5 _ [some (.lst t_8.2), some (.fz row_1), some (.fz t_3.1), some (.fz t_13.d), some t_37]
  refine k_retv (k_w2 (k_val (k_w2 (k_pk rfl (k_val (k_wN (k_ac (k_fz (k_wN (k_ac (k_fz (k_call (k_ac (k_pk rfl (k_an (k_mvp rfl (k_mv0 ⟨rfl, _, rfl, k_post h (fun t_38 h => k_ac (k_fz (k_w2 (k_pk rfl (k_val (k_c (k_wp rfl (k_wv (k_ix h fun t_39 h => k_an (k_asv (k_asv (k_as0 (k_tup rfl rfl (k_ac (k_fz (k_wN (k_ac (k_fz (k_call (k_ac (k_pk rfl (k_an (k_mvp rfl (k_mv0 ⟨rfl, _, rfl, k_post h (fun t_40 h => k_ac (k_fz (k_w2 (k_pk rfl (k_val (k_c (k_wp rfl (k_wv (k_ix h fun t_41 h => k_an (k_asv (k_asv (k_as0 (k_tup rfl rfl (k_ac (k_fz (k_call (k_ac (k_pk rfl (k_an (k_mvp rfl (k_mv0 ⟨rfl, _, rfl, k_post h (fun t_42 h => k_an (k_asv (k_asv (k_asv (k_as0 (k_lst rfl rfl (k_wp rfl (k_wv (k_add h fun t_43 h => k_val (k_call (k_ac (k_pk rfl (k_ac (k_val (k_c (k_an (k_mvp rfl (k_mvv (k_mv0 ⟨rfl, _, _, rfl, k_post h (fun t_44 h => k_wv (k_wv (k_ix h fun t_45 h => hrt _ _ h))) (fun x z => hx x _ z)⟩))))))))))))))))))) (fun x z => hx x _ z)⟩))))))))))))))))))))) (fun x z => hx x _ z)⟩)))))))))))))))))))))))) (fun x z => hx x _ z)⟩)))))))))))))))))
def w_l_bent_1 : WS := sSet 2 (wCall f_l_take (aCons (oPk 0) (aCons (oFz (wN opLen (aCons (oPk 1) (aNil)))) (aNil))))
def w_l_bent_2 : WS := sSet 3 (wCall f_l_bent_row (aCons (oPk 0) (aCons (oFz (w2 opIx (oPk 1) (oPk 2))) (aNil))))
def w_l_bent_3 : WS := sSet 4 (wN opTup (aCons (oFz (w2 opAdd (oVal (wC (.str "zz"))) (oVal (w2 opIx (oVal (wC (.str "abcdefgh"))) (oVal (w2 opSub (oVal (wN opLen (aCons (oPk 1) (aNil)))) (oVal (wC (.int 1))))))))) (aCons (oFz (w2 opIx (oVal (w2 opIx (oPk 1) (oVal (wC (.int 0))))) (oVal (wC (.int 1))))) (aNil))))
def w_l_bent_4 : WS := sSet 5 (wVar 1)
def w_l_bent_5b : WS := sSet 5 (w2 opAdd (oPk 5) (oVal (wN opTup (aCons (oFz (wN opTup (aCons (oFz (w2 opAdd (oVal (wC (.str "zz"))) (oPk 6))) (aCons (oFz (w2 opIx (oVal (w2 opIx (oPk 1) (oVal (wC (.int 0))))) (oVal (wC (.int 1))))) (aNil))))) (aNil)))))
def w_l_bent_5 : WS := sFor (iSeq (wSl opSl (oVal (wC (.str "abcdefgh"))) (pNo) (pInt (w2 opSub (oVal (w2 opIx (oVal (wKl [.int 8, .int 9])) (oVal (wCall f_l_take (aCons (oPk 0) (aCons (oVal (wC (.int 2))) (aNil))))))) (oVal (wN opLen (aCons (oPk 1) (aNil)))))))) (.nm 6)
  (w_l_bent_5b)
def w_l_bent_6 : WS := sSet 7 (wN opLst (aCons (oFz (wVar 1)) (aCons (oFz (w2 opAdd (oVal (w2 opAdd (oVal (wSl opSl (oPk 1) (pNo) (pInt (wVar 2)))) (oVal (wN opTup (aCons (oFz (wVar 3)) (aNil)))))) (oVal (wSl opSl (oPk 1) (pInt (w2 opAdd (oPk 2) (oVal (wC (.int 1))))) (pNo))))) (aCons (oFz (w1 opRev (oPk 1))) (aCons (oFz (w2 opAdd (oPk 1) (oVal (wSl opSl (oPk 1) (pInt (wVar 2)) (pInt (w2 opAdd (oPk 2) (oVal (wC (.int 1))))))))) (aCons (oFz (wN opTup (aNil))) (aCons (oFz (wVar 5)) (aNil))))))))
def w_l_bent_7 : WS := sRet (oVal (w2 opIx (oVal (w2 opAdd (oPk 7) (oVal (wN opLst (aCons (oFz (wN opList (aCons (oPk 1) (aNil)))) (aCons (oFz (w2 opAdd (oPk 1) (oVal (wN opTup (aCons (oFz (wVar 4)) (aNil)))))) (aCons (oFz (w2 opAdd (oVal (wN opTup (aCons (oFz (wVar 4)) (aNil)))) (oPk 1))) (aCons (oFz (wCall f_l_odd (aCons (oPk 0) (aNil)))) (aNil))))))))) (oVal (wCall f_l_take (aCons (oPk 0) (aCons (oVal (wC (.int 10))) (aNil)))))))
def w_l_bent : WS := sSeq (w_l_bent_1) (sSeq (w_l_bent_2) (sSeq (w_l_bent_3) (sSeq (w_l_bent_4) (sSeq (w_l_bent_5) (sSeq (w_l_bent_6) (w_l_bent_7))))))
abbrev RT_l_bent : Type := D × List D
def n_l_bent_b1 (stock_1 : D) (d_1 : D) (s_1 : M) : R (M) :=
  R.bind (nAdd (.str "zz") d_1) fun t_16 =>
  R.bind (nIx stock_1 (.int 0)) fun t_17 =>
  R.bind (nIx t_17 (.int 1)) fun t_18 =>
  R.bind (nAdd s_1.d (.tup [(.tup [t_16.d, t_18])])) fun t_19 =>
  .ok t_19
def n_l_bent (held_1 : List D) (stock_1 : D) : R (RT_l_bent) :=
  R.bind (nLen stock_1) fun t_1 =>
  R.bind (n_l_take held_1 t_1) fun t_2 =>
  R.bind (nIx stock_1 t_2.1) fun t_3 =>
  R.bind (n_l_bent_row t_2.2 t_3) fun t_4 =>
  R.bind (nLen stock_1) fun t_5 =>
  R.bind (nSub t_5 (.int 1)) fun t_6 =>
  R.bind (nIx (.str "abcdefgh") t_6) fun t_7 =>
  R.bind (nAdd (.str "zz") t_7) fun t_8 =>
  R.bind (nIx stock_1 (.int 0)) fun t_9 =>
  R.bind (nIx t_9 (.int 1)) fun t_10 =>
  R.bind (n_l_take t_4.2 (.int 2)) fun t_11 =>
  R.bind (nIx (.lst [.int 8, .int 9]) t_11.1) fun t_12 =>
  R.bind (nLen stock_1) fun t_13 =>
  R.bind (nSub t_12 t_13) fun t_14 =>
  R.bind (nInt t_14) fun i_1 =>
  R.bind (nSl (.str "abcdefgh") none (some i_1)) fun t_15 =>
  R.bind (nItems t_15.d) fun ds_1 =>
  R.bind (R.forS (n_l_bent_b1 stock_1) ds_1 (.fz stock_1)) fun s_2 =>
  R.bind (nInt t_2.1) fun i_2 =>
  R.bind (nSl stock_1 none (some i_2)) fun t_20 =>
  R.bind (nAdd t_20.d (.tup [t_4.1])) fun t_21 =>
  R.bind (nAdd t_2.1 (.int 1)) fun t_22 =>
  R.bind (nInt t_22.d) fun i_3 =>
  R.bind (nSl stock_1 (some i_3) none) fun t_23 =>
  R.bind (nAdd t_21.d t_23.d) fun t_24 =>
  R.bind (nRev stock_1) fun t_25 =>
  R.bind (nInt t_2.1) fun i_4 =>
  R.bind (nAdd t_2.1 (.int 1)) fun t_26 =>
  R.bind (nInt t_26.d) fun i_5 =>
  R.bind (nSl stock_1 (some i_4) (some i_5)) fun t_27 =>
  R.bind (nAdd stock_1 t_27.d) fun t_28 =>
  R.bind (nList stock_1) fun t_29 =>
  R.bind (nAdd stock_1 (.tup [(.tup [t_8.d, t_10])])) fun t_30 =>
  R.bind (nAdd (.tup [(.tup [t_8.d, t_10])]) stock_1) fun t_31 =>
  R.bind (n_l_odd t_11.2) fun t_32 =>
  R.bind (nAdd (.lst [stock_1, t_24.d, t_25.d, t_28.d, (.tup []), s_2.d]) (.lst [(.lst t_29), t_30.d, t_31.d, t_32.1])) fun t_33 =>
  R.bind (n_l_take t_32.2 (.int 10)) fun t_34 =>
  R.bind (nIx t_33.d t_34.1) fun t_35 =>
  .ok (t_35, t_34.2)
abbrev sp_l_bent (ms : List M) (Q : M → En → Prop) (X : Xn → Prop) : Prop := ∃ (held_1 : List D) (stock_1 : D), ms = [(.lst held_1), (.fz stock_1)] ∧ (n_l_bent held_1 stock_1).post (fun r => Q (M.fz r.1) [some (.lst r.2), none]) X
abbrev f_l_bent : Fn := ⟨2, [0], sp_l_bent⟩
theorem mono_l_bent : MonoF sp_l_bent := fun ms Q Q' X X' hq hx ⟨held_1, stock_1, e, h⟩ => ⟨held_1, stock_1, e, post_imp h (fun _ h => hq _ _ h) hx⟩
theorem j_l_bent (ms : List M) (Q : M → En → Prop) (X : Xn → Prop) (h : sp_l_bent ms Q X) : wFn 8 2 [0] w_l_bent ms Q X := by
  obtain ⟨held_1, stock_1, rfl, h⟩ := h
  refine wFn_of (e0 := [some (.lst held_1), some (.fz stock_1), none, none, none, none, none, none]) rfl fun E hrt hnx hx => ?_
  show (sSeq w_l_bent_1 (sSeq w_l_bent_2 (sSeq w_l_bent_3 (sSeq w_l_bent_4 (sSeq w_l_bent_5 (sSeq w_l_bent_6 (w_l_bent_7))))))) _ _
  refine k_seq (k_set (k_call (k_ac (k_pk rfl (k_ac (k_fz (k_wN (k_ac (k_pk rfl (k_an (k_asp rfl (k_as0 (k_len h fun t_1 h => k_an (k_mvp rfl (k_mvv (k_mv0 ⟨rfl, _, _, rfl, k_post h (fun t_2 h => ?_) (fun x z => hx x _ z)⟩))))))))))))))))
  show (sSeq w_l_bent_2 (sSeq w_l_bent_3 (sSeq w_l_bent_4 (sSeq w_l_bent_5 (sSeq w_l_bent_6 (w_l_bent_7)))))) _ [some (.lst t_2.2), some (.fz stock_1), some (.fz t_2.1), none, none, none, none, none]
  refine k_seq (k_set (k_call (k_ac (k_pk rfl (k_ac (k_fz (k_w2 (k_pk rfl (k_pk rfl (k_wp rfl (k_wp rfl (k_ix h fun t_3 h => k_an (k_mvp rfl (k_mvv (k_mv0 ⟨rfl, _, _, rfl, k_post h (fun t_4 h => ?_) (fun x z => hx x _ z)⟩)))))))))))))))
  show (sSeq w_l_bent_3 (sSeq w_l_bent_4 (sSeq w_l_bent_5 (sSeq w_l_bent_6 (w_l_bent_7))))) _ [some (.lst t_4.2), some (.fz stock_1), some (.fz t_2.1), some (.fz t_4.1), none, none, none, none]
  refine k_seq (k_set (k_wN (k_ac (k_fz (k_w2 (k_val (k_c (k_val (k_w2 (k_val (k_c (k_val (k_w2 (k_val (k_wN (k_ac (k_pk rfl (k_an (k_asp rfl (k_as0 (k_len h fun t_5 h => k_val (k_c (k_wv (k_wv (k_sub h fun t_6 h => k_wv (k_wv (k_ix h fun t_7 h => k_wv (k_wv (k_add h fun t_8 h => k_ac (k_fz (k_w2 (k_val (k_w2 (k_pk rfl (k_val (k_c (k_wp rfl (k_wv (k_ix h fun t_9 h => k_val (k_c (k_wv (k_wv (k_ix h fun t_10 h => k_an (k_asv (k_asv (k_as0 (k_tup rfl rfl (?_))))))))))))))))))))))))))))))))))))))))))))))))
  show (sSeq w_l_bent_4 (sSeq w_l_bent_5 (sSeq w_l_bent_6 (w_l_bent_7)))) _ [some (.lst t_4.2), some (.fz stock_1), some (.fz t_2.1), some (.fz t_4.1), some (.fz (.tup [t_8.d, t_10])), none, none, none]
  refine k_seq (k_set (k_varF rfl (?_)))
  show (sSeq w_l_bent_5 (sSeq w_l_bent_6 (w_l_bent_7))) _ [some (.lst t_4.2), some (.fz stock_1), some (.fz t_2.1), some (.fz t_4.1), some (.fz (.tup [t_8.d, t_10])), some (.fz stock_1), none, none]
  refine k_seq (k_for (k_iseq (k_wsl (k_val (k_c (k_pno (k_pint (k_w2 (k_val (k_w2 (k_val (k_kl (k_val (k_call (k_ac (k_pk rfl (k_ac (k_val (k_c (k_an (k_mvp rfl (k_mvv (k_mv0 ⟨rfl, _, _, rfl, k_post h (fun t_11 h => k_wv (k_wv (k_ix h fun t_12 h => k_val (k_wN (k_ac (k_pk rfl (k_an (k_asp rfl (k_as0 (k_len h fun t_13 h => k_wv (k_wv (k_sub h fun t_14 h => j_pint h fun i_1 h => k_wv (k_sl h fun t_15 h => k_items h fun ds_1 h => j_forSb (fun (s_1 : M) (j_1 : Option M) => [some (.lst t_11.2), some (.fz stock_1), some (.fz t_2.1), some (.fz t_4.1), some (.fz (.tup [t_8.d, t_10])), some s_1, j_1, none]) ?_ ?_ _ (.fz stock_1) none h))))))))))))) (fun x z => hx x _ z)⟩)))))))))))))))))))))))
  · intro d_1 s_1 j_1 N S hn h
    refine g_nm (?_)
    show w_l_bent_5b _ [some (.lst t_11.2), some (.fz stock_1), some (.fz t_2.1), some (.fz t_4.1), some (.fz (.tup [t_8.d, t_10])), some s_1, some (.fz d_1), none]
    refine k_set (k_w2 (k_pk rfl (k_val (k_wN (k_ac (k_fz (k_wN (k_ac (k_fz (k_w2 (k_val (k_c (k_pk rfl (k_wv (k_wp rfl (k_add h fun t_16 h => k_ac (k_fz (k_w2 (k_val (k_w2 (k_pk rfl (k_val (k_c (k_wp rfl (k_wv (k_ix h fun t_17 h => k_val (k_c (k_wv (k_wv (k_ix h fun t_18 h => k_an (k_asv (k_asv (k_as0 (k_tup rfl rfl (k_an (k_asv (k_as0 (k_tup rfl rfl (k_wp rfl (k_wv (k_add h fun t_19 h => ?_)))))))))))))))))))))))))))))))))))))))))
    exact hn t_19 (some (.fz d_1)) h
  · intro s_2 j_2 h
    show (sSeq w_l_bent_6 (w_l_bent_7)) _ [some (.lst t_11.2), some (.fz stock_1), some (.fz t_2.1), some (.fz t_4.1), some (.fz (.tup [t_8.d, t_10])), some s_2, j_2, none]
    refine k_seq (k_set (k_wN (k_ac (k_fz (k_varF rfl (k_ac (k_fz (k_w2 (k_val (k_w2 (k_val (k_wsl (k_pk rfl (k_pno (k_pint (k_varF rfl (j_pint h fun i_2 h => k_wp rfl (k_sl h fun t_20 h => k_val (k_wN (k_ac (k_fz (k_varF rfl (k_an (k_asv (k_as0 (k_tup rfl rfl (k_wv (k_wv (k_add h fun t_21 h => k_val (k_wsl (k_pk rfl (k_pint (k_w2 (k_pk rfl (k_val (k_c (k_wp rfl (k_wv (k_add h fun t_22 h => j_pint h fun i_3 h => k_pno (k_wp rfl (k_sl h fun t_23 h => k_wv (k_wv (k_add h fun t_24 h => k_ac (k_fz (k_w1 (k_pk rfl (k_wp rfl (k_rev h fun t_25 h => k_ac (k_fz (k_w2 (k_pk rfl (k_val (k_wsl (k_pk rfl (k_pint (k_varF rfl (j_pint h fun i_4 h => k_pint (k_w2 (k_pk rfl (k_val (k_c (k_wp rfl (k_wv (k_add h fun t_26 h => j_pint h fun i_5 h => k_wp rfl (k_sl h fun t_27 h => k_wp rfl (k_wv (k_add h fun t_28 h => k_ac (k_fz (k_wN (k_an (k_as0 (k_tup rfl rfl (k_ac (k_fz (k_var rfl (k_an (k_asv (k_asv (k_asv (k_asv (k_asv (k_asv (k_as0 (k_lst rfl rfl (?_)))))))))))))))))))))))))))))))))))))))))))))))))))))))))))))))))))))))))))))))))))))
    show w_l_bent_7 _ [some (.lst t_11.2), some (.fz stock_1), some (.fz t_2.1), some (.fz t_4.1), some (.fz (.tup [t_8.d, t_10])), some (.fz s_2.d), j_2, some (.lst [stock_1, t_24.d, t_25.d, t_28.d, (.tup []), s_2.d])]
    refine k_retv (k_w2 (k_val (k_w2 (k_pk rfl (k_val (k_wN (k_ac (k_fz (k_wN (k_ac (k_pk rfl (k_an (k_asp rfl (k_as0 (k_list h fun t_29 h => k_ac (k_fz (k_w2 (k_pk rfl (k_val (k_wN (k_ac (k_fz (k_varF rfl (k_an (k_asv (k_as0 (k_tup rfl rfl (k_wp rfl (k_wv (k_add h fun t_30 h => k_ac (k_fz (k_w2 (k_val (k_wN (k_ac (k_fz (k_varF rfl (k_an (k_asv (k_as0 (k_tup rfl rfl (k_pk rfl (k_wv (k_wp rfl (k_add h fun t_31 h => k_ac (k_fz (k_call (k_ac (k_pk rfl (k_an (k_mvp rfl (k_mv0 ⟨rfl, _, rfl, k_post h (fun t_32 h => k_an (k_asv (k_asv (k_asv (k_asv (k_as0 (k_lst rfl rfl (k_wp rfl (k_wv (k_add h fun t_33 h => k_val (k_call (k_ac (k_pk rfl (k_ac (k_val (k_c (k_an (k_mvp rfl (k_mvv (k_mv0 ⟨rfl, _, _, rfl, k_post h (fun t_34 h => k_wv (k_wv (k_ix h fun t_35 h => hrt _ _ h))) (fun x z => hx x _ z)⟩)))))))))))))))))))) (fun x z => hx x _ z)⟩))))))))))))))))))))))))))))))))))))))))))))))))))))
def w_l_told : WS := sRet (oVal (wAnd (wN opIsi (aCons (oPk 0) (aCons (oVal (wC (.ty "bool"))) (aNil)))) (w2 (opEq false) (oPk 0) (oPk 1))))
abbrev RT_l_told : Type := Bool
def n_l_told (found_1 : D) (due_1 : D) : R (RT_l_told) :=
  R.bind (nIsi "bool" found_1) fun t_1 =>
  R.bind (andB t_1 (nEq false found_1 due_1)) fun c_1 =>
  .ok c_1
abbrev sp_l_told (ms : List M) (Q : M → En → Prop) (X : Xn → Prop) : Prop := ∃ (found_1 : D) (due_1 : D), ms = [(.fz found_1), (.fz due_1)] ∧ (n_l_told found_1 due_1).post (fun r => Q (M.fz (.bl r)) [none, none]) X
abbrev f_l_told : Fn := ⟨2, [], sp_l_told⟩
theorem mono_l_told : MonoF sp_l_told := fun ms Q Q' X X' hq hx ⟨found_1, due_1, e, h⟩ => ⟨found_1, due_1, e, post_imp h (fun _ h => hq _ _ h) hx⟩
theorem j_l_told (ms : List M) (Q : M → En → Prop) (X : Xn → Prop) (h : sp_l_told ms Q X) : wFn 2 2 [] w_l_told ms Q X := by
  obtain ⟨found_1, due_1, rfl, h⟩ := h
  refine wFn_of (e0 := [some (.fz found_1), some (.fz due_1)]) rfl fun E hrt hnx hx => ?_
  refine k_retv (k_wand (k_wN (k_ac (k_pk rfl (k_ac (k_val (k_c (k_an (k_asp rfl (k_asv (k_as0 (k_isi h fun t_1 h => j_wand (fun v => M.fz (.bl v)) (fun v => [some (.fz found_1), some (.fz due_1)]) h (fun J0 h => k_w2 (k_pk rfl (k_pk rfl (k_wp rfl (k_wp rfl (k_eq h fun t_2 h => J0 t_2 h)))))) (fun J0 h => J0 false h) (fun c_1 h => hrt _ _ h)))))))))))))
def w_law_1 : WS := sSet 1 (wCall f_l_stock (aCons (oVal (wCall f_l_digits (aCons (oFz (wVar 0)) (aCons (oVal (wC (.int 0))) (aNil))))) (aNil)))
def w_law_2 : WS := sIf (tNotW (tTru (oVal (wCall f_l_told (aCons (oFz (wCall f_is_stock (aCons (oFz (wVar 1)) (aNil)))) (aCons (oVal (wC (.bl true))) (aNil)))))))
  (sRet (oVal (wC (.bl false))))
  (sNx)
def w_law_3b_1 : WS := sIf (tVal (w2 (opEq true) (oVal (wCall f_ports_of (aCons (oFz (wVar 1)) (aCons (oFz (wVar 2)) (aNil))))) (oPk 3)))
  (sRet (oVal (wC (.bl false))))
  (sNx)
def w_law_3b_2b_1 : WS := sSet 5 (wCall f_mate_of (aCons (oFz (wVar 4)) (aNil)))
def w_law_3b_2b_2 : WS := sIf (tOrW (tNotW (tTru (oVal (wCall f_l_spec (aCons (oFz (wVar 5)) (aNil)))))) (tOrW (tVal (w2 (opEq true) (oVal (w2 opIx (oPk 5) (oVal (wC (.int 0))))) (oVal (w2 opIx (oPk 4) (oVal (wC (.int 0))))))) (tOrW (tVal (w2 (opEq false) (oVal (w2 opIx (oPk 5) (oVal (wC (.int 1))))) (oVal (w2 opIx (oPk 4) (oVal (wC (.int 1))))))) (tVal (w2 (opEq true) (oVal (wCall f_mate_of (aCons (oFz (wVar 5)) (aNil)))) (oPk 4))))))
  (sRet (oVal (wC (.bl false))))
  (sNx)
def w_law_3b_2b : WS := sSeq (w_law_3b_2b_1) (w_law_3b_2b_2)
def w_law_3b_2 : WS := sFor (iSeq (wVar 3)) (.nm 4)
  (w_law_3b_2b)
def w_law_3b : WS := sSeq (w_law_3b_1) (w_law_3b_2)
def w_law_3 : WS := sFor (iSeq (wVar 1)) (.tp [.nm 2, .nm 3])
  (w_law_3b)
def w_law_4b_1 : WS := sSet 7 (wCall f_l_digits (aCons (oFz (wVar 0)) (aCons (oFz (wVar 6)) (aNil))))
def w_law_4b_2 : WS := sSet 4 (w2 opIx (oVal (w2 opIx (oVal (w2 opIx (oPk 1) (oVal (wC (.int 0))))) (oVal (wC (.int 1))))) (oVal (wC (.int 0))))
def w_law_4b_3 : WS := sSet 8 (w2 opIx (oVal (wN opLst (aCons (oFz (wCall f_l_text (aCons (oPk 7) (aNil)))) (aCons (oFz (wCall f_l_bent_spec (aCons (oPk 7) (aCons (oFz (wVar 4)) (aNil))))) (aCons (oFz (wCall f_l_bent (aCons (oPk 7) (aCons (oFz (wVar 1)) (aNil))))) (aCons (oFz (wCall f_l_odd (aCons (oPk 7) (aNil)))) (aNil))))))) (oVal (wCall f_l_take (aCons (oPk 7) (aCons (oVal (wC (.int 4))) (aNil))))))
def w_law_4b_4 : WS := sIf (tOrW (tNotW (tTru (oVal (wCall f_l_told (aCons (oFz (wCall f_is_name (aCons (oFz (wVar 8)) (aNil)))) (aCons (oFz (wCall f_l_name (aCons (oFz (wVar 8)) (aNil)))) (aNil))))))) (tNotW (tTru (oVal (wCall f_l_told (aCons (oFz (wCall f_is_spec (aCons (oFz (wVar 8)) (aNil)))) (aCons (oFz (wCall f_l_spec (aCons (oFz (wVar 8)) (aNil)))) (aNil))))))))
  (sRet (oVal (wC (.bl false))))
  (sNx)
def w_law_4b_5 : WS := sIf (tNotW (tTru (oVal (wCall f_l_told (aCons (oFz (wCall f_is_stock (aCons (oFz (wVar 8)) (aNil)))) (aCons (oFz (wCall f_l_right (aCons (oFz (wVar 8)) (aNil)))) (aNil)))))))
  (sRet (oVal (wC (.bl false))))
  (sNx)
def w_law_4b : WS := sSeq (w_law_4b_1) (sSeq (w_law_4b_2) (sSeq (w_law_4b_3) (sSeq (w_law_4b_4) (w_law_4b_5))))
def w_law_4 : WS := sFor (iR2 (oVal (wC (.int 1))) (oVal (wN opLen (aCons (oPk 0) (aNil))))) (.nm 6)
  (w_law_4b)
def w_law_5 : WS := sRet (oVal (wC (.bl true)))
def w_law : WS := sSeq (w_law_1) (sSeq (w_law_2) (sSeq (w_law_3) (sSeq (w_law_4) (w_law_5))))
abbrev RT_law : Type := Bool
def n_law_b4 (d_2 : D) (s_2 : Unit) (K : (Unit) → R (RT_law)) : R (RT_law) :=
  R.bind (n_mate_of d_2) fun t_7 =>
  R.bind (n_l_spec t_7) fun t_8 =>
  R.bind (orB (!t_8) (R.bind (nIx t_7 (.int 0)) fun t_9 => R.bind (nIx d_2 (.int 0)) fun t_10 => R.bind (nEq true t_9 t_10) fun t_11 => orB t_11 (R.bind (nIx t_7 (.int 1)) fun t_12 => R.bind (nIx d_2 (.int 1)) fun t_13 => R.bind (nEq false t_12 t_13) fun t_14 => orB t_14 (R.bind (n_mate_of t_7) fun t_15 => nEq true t_15 d_2)))) fun c_3 =>
  if c_3 = true then
  .ok false
  else
  K ()
def n_law_b1 (t_2 : D × List D) (d_1 : D) (s_1 : Unit) (K : (Unit) → R (RT_law)) : R (RT_law) :=
  R.bind (nUn2 d_1) fun p_1 =>
  R.bind (n_ports_of t_2.1 p_1.1) fun t_5 =>
  R.bind (nEq true t_5 p_1.2) fun t_6 =>
  if t_6 = true then
  .ok false
  else
  R.bind (nItems p_1.2) fun ds_2 =>
  R.forN (n_law_b4) (fun (s_3 : Unit) =>
  K ()) ds_2 ()
def n_law_b5 (script_1 : D) (t_2 : D × List D) (d_3 : D) (s_5 : Unit) (K : (Unit) → R (RT_law)) : R (RT_law) :=
  R.bind (n_l_digits script_1 d_3) fun t_18 =>
  R.bind (nIx t_2.1 (.int 0)) fun t_19 =>
  R.bind (nIx t_19 (.int 1)) fun t_20 =>
  R.bind (nIx t_20 (.int 0)) fun t_21 =>
  R.bind (n_l_text t_18) fun t_22 =>
  R.bind (n_l_bent_spec t_22.2 t_21) fun t_23 =>
  R.bind (n_l_bent t_23.2 t_2.1) fun t_24 =>
  R.bind (n_l_odd t_24.2) fun t_25 =>
  R.bind (n_l_take t_25.2 (.int 4)) fun t_26 =>
  R.bind (nIx (.lst [t_22.1, t_23.1, t_24.1, t_25.1]) t_26.1) fun t_27 =>
  R.bind (n_is_name t_27) fun t_28 =>
  R.bind (n_l_name t_27) fun t_29 =>
  R.bind (n_l_told (.bl t_28) (.bl t_29)) fun t_30 =>
  R.bind (orB (!t_30) (R.bind (n_is_spec t_27) fun t_31 => R.bind (n_l_spec t_27) fun t_32 => R.bind (n_l_told (.bl t_31) (.bl t_32)) fun t_33 => .ok ((!t_33)))) fun c_4 =>
  if c_4 = true then
  .ok false
  else
  R.bind (n_is_stock t_27) fun t_34 =>
  R.bind (n_l_right t_27) fun t_35 =>
  R.bind (n_l_told (.bl t_34) (.bl t_35)) fun t_36 =>
  if (!t_36) = true then
  .ok false
  else
  K ()
def n_law (script_1 : D) : R (RT_law) :=
  R.bind (n_l_digits script_1 (.int 0)) fun t_1 =>
  R.bind (n_l_stock t_1) fun t_2 =>
  R.bind (n_is_stock t_2.1) fun t_3 =>
  R.bind (n_l_told (.bl t_3) (.bl true)) fun t_4 =>
  if (!t_4) = true then
  .ok false
  else
  R.bind (nItems t_2.1) fun ds_1 =>
  R.forN (n_law_b1 t_2) (fun (s_4 : Unit) =>
  R.bind (nLen script_1) fun t_17 =>
  R.bind (nR2 (.int 1) t_17) fun ds_3 =>
  R.forN (n_law_b5 script_1 t_2) (fun (s_6 : Unit) =>
  .ok true) ds_3 ()) ds_1 ()
abbrev sp_law (ms : List M) (Q : M → En → Prop) (X : Xn → Prop) : Prop := ∃ (script_1 : D), ms = [(.fz script_1)] ∧ (n_law script_1).post (fun r => Q (M.fz (.bl r)) [none]) X
abbrev f_law : Fn := ⟨1, [], sp_law⟩
theorem mono_law : MonoF sp_law := fun ms Q Q' X X' hq hx ⟨script_1, e, h⟩ => ⟨script_1, e, post_imp h (fun _ h => hq _ _ h) hx⟩
theorem j_law (ms : List M) (Q : M → En → Prop) (X : Xn → Prop) (h : sp_law ms Q X) : wFn 9 1 [] w_law ms Q X := by
  obtain ⟨script_1, rfl, h⟩ := h
  refine wFn_of (e0 := [some (.fz script_1), none, none, none, none, none, none, none, none]) rfl fun E hrt hnx hx => ?_
  show (sSeq w_law_1 (sSeq w_law_2 (sSeq w_law_3 (sSeq w_law_4 (w_law_5))))) _ _
  refine k_seq (k_set (k_call (k_ac (k_val (k_call (k_ac (k_fz (k_varF rfl (k_ac (k_val (k_c (k_an (k_mvv (k_mvv (k_mv0 ⟨rfl, _, _, rfl, k_post h (fun t_1 h => k_an (k_mvv (k_mv0 ⟨rfl, _, rfl, k_post h (fun t_2 h => ?_) (fun x z => hx x _ z)⟩))) (fun x z => hx x _ z)⟩)))))))))))))))
  show (sSeq w_law_2 (sSeq w_law_3 (sSeq w_law_4 (w_law_5)))) _ [some (.fz script_1), some (.fz t_2.1), none, none, none, none, none, none, none]
  refine k_seq (k_sif (k_tnot (k_ttru (k_val (k_call (k_ac (k_fz (k_call (k_ac (k_fz (k_varF rfl (k_an (k_mvv (k_mv0 ⟨rfl, _, rfl, k_post h (fun t_3 h => k_ac (k_val (k_c (k_an (k_mvv (k_mvv (k_mv0 ⟨rfl, _, _, rfl, k_post h (fun t_4 h => k_wv (j_truB (j_sif h (fun h => ?_) (fun h => ?_)))) (fun x z => hx x _ z)⟩))))))) (fun x z => hx x _ z)⟩))))))))))))))
  · refine k_retv (k_c (hrt _ _ h))
  · refine k_nx ?_
    show (sSeq w_law_3 (sSeq w_law_4 (w_law_5))) _ [some (.fz script_1), some (.fz t_2.1), none, none, none, none, none, none, none]
    refine k_seq (k_for (k_iseq (k_varF rfl (k_items h fun ds_1 h => j_forN (fun (s_1 : Unit) (j_1 : Option M × Option M × Option M × Option M) => [some (.fz script_1), some (.fz t_2.1), j_1.1, j_1.2.1, j_1.2.2.1, j_1.2.2.2, none, none, none]) ?_ ?_ _ () (none, none, none, none) h))))
    · intro d_1 s_1 j_1 N K hn h
      refine g_un2P h fun p_1 h => g_cons (g_nm (g_cons (g_nm (g_nil (?_)))))
      show w_law_3b _ [some (.fz script_1), some (.fz t_2.1), some (.fz p_1.1), some (.fz p_1.2), j_1.2.2.1, j_1.2.2.2, none, none, none]
      refine k_seq (k_sif (k_tval (k_w2 (k_val (k_call (k_ac (k_fz (k_varF rfl (k_ac (k_fz (k_varF rfl (k_an (k_mvv (k_mvv (k_mv0 ⟨rfl, _, _, rfl, k_post h (fun t_5 h => k_pk rfl (k_wv (k_wp rfl (k_eq h fun t_6 h => j_tv (j_sif h (fun h => ?_) (fun h => ?_)))))) (fun x z => hx x _ z)⟩)))))))))))))))
      · refine k_retv (k_c (hrt _ _ h))
      · refine k_nx ?_
        show w_law_3b_2 _ [some (.fz script_1), some (.fz t_2.1), some (.fz p_1.1), some (.fz p_1.2), j_1.2.2.1, j_1.2.2.2, none, none, none]
        refine k_for (k_iseq (k_varF rfl (k_items h fun ds_2 h => j_forN (fun (s_2 : Unit) (j_2 : Option M × Option M) => [some (.fz script_1), some (.fz t_2.1), some (.fz p_1.1), some (.fz p_1.2), j_2.1, j_2.2, none, none, none]) ?_ ?_ _ () (j_1.2.2.1, j_1.2.2.2) h)))
        · intro d_2 s_2 j_2 N K hn h
          refine g_nm (?_)
          show w_law_3b_2b _ [some (.fz script_1), some (.fz t_2.1), some (.fz p_1.1), some (.fz p_1.2), some (.fz d_2), j_2.2, none, none, none]
          refine k_seq (k_set (k_call (k_ac (k_fz (k_varF rfl (k_an (k_mvv (k_mv0 ⟨rfl, _, rfl, k_post h (fun t_7 h => ?_) (fun x z => hx x _ z)⟩))))))))
          show w_law_3b_2b_2 _ [some (.fz script_1), some (.fz t_2.1), some (.fz p_1.1), some (.fz p_1.2), some (.fz d_2), some (.fz t_7), none, none, none]
          refine k_sif (k_tor (k_tnot (k_ttru (k_val (k_call (k_ac (k_fz (k_varF rfl (k_an (k_mvv (k_mv0 ⟨rfl, _, rfl, k_post h (fun t_8 h => k_wv (j_truB (j_tor (fun v => v) (fun v => [some (.fz script_1), some (.fz t_2.1), some (.fz p_1.1), some (.fz p_1.2), some (.fz d_2), some (.fz t_7), none, none, none]) h (fun J24 h => J24 true h) (fun J24 h => k_tor (k_tval (k_w2 (k_val (k_w2 (k_pk rfl (k_val (k_c (k_wp rfl (k_wv (k_ix (asc h) fun t_9 h => k_val (k_w2 (k_pk rfl (k_val (k_c (k_wp rfl (k_wv (k_ix (asc h) fun t_10 h => k_wv (k_wv (k_eq (asc h) fun t_11 h => j_tv (j_tor (fun v => v) (fun v => [some (.fz script_1), some (.fz t_2.1), some (.fz p_1.1), some (.fz p_1.2), some (.fz d_2), some (.fz t_7), none, none, none]) h (fun J25 h => J25 true h) (fun J25 h => k_tor (k_tval (k_w2 (k_val (k_w2 (k_pk rfl (k_val (k_c (k_wp rfl (k_wv (k_ix (asc h) fun t_12 h => k_val (k_w2 (k_pk rfl (k_val (k_c (k_wp rfl (k_wv (k_ix (asc h) fun t_13 h => k_wv (k_wv (k_eq (asc h) fun t_14 h => j_tv (j_tor (fun v => v) (fun v => [some (.fz script_1), some (.fz t_2.1), some (.fz p_1.1), some (.fz p_1.2), some (.fz d_2), some (.fz t_7), none, none, none]) h (fun J26 h => J26 true h) (fun J26 h => k_tval (k_w2 (k_val (k_call (k_ac (k_fz (k_varF rfl (k_an (k_mvv (k_mv0 ⟨rfl, _, rfl, k_post (asc h) (fun t_15 h => k_pk rfl (k_wv (k_wp rfl (k_eq h fun t_16 h => j_tv (J26 t_16 h))))) (fun x z => hx x _ z)⟩)))))))))) (fun c_1 h => J25 c_1 h)))))))))))))))))))))) (fun c_2 h => J24 c_2 h)))))))))))))))))))))) (fun c_3 h => j_sif h (fun h => ?_) (fun h => ?_))))) (fun x z => hx x _ z)⟩)))))))))))
          · refine k_retv (k_c (hrt _ _ h))
          · refine k_nx ?_
            exact hn () ((some (.fz d_2)), (some (.fz t_7))) h
        · intro s_3 j_3 h
          exact hn () ((some (.fz p_1.1)), (some (.fz p_1.2)), j_3.1, j_3.2) h
    · intro s_4 j_4 h
      show (sSeq w_law_4 (w_law_5)) _ [some (.fz script_1), some (.fz t_2.1), j_4.1, j_4.2.1, j_4.2.2.1, j_4.2.2.2, none, none, none]
      refine k_seq (k_for (k_ir2 (k_val (k_c (k_val (k_wN (k_ac (k_pk rfl (k_an (k_asp rfl (k_as0 (k_len h fun t_17 h => k_wv (k_wv (k_r2 h fun ds_3 h => j_forN (fun (s_5 : Unit) (j_5 : Option M × Option M × Option M × Option M) => [some (.fz script_1), some (.fz t_2.1), j_4.1, j_4.2.1, j_5.1, j_4.2.2.2, j_5.2.1, j_5.2.2.1, j_5.2.2.2]) ?_ ?_ _ () (j_4.2.2.1, none, none, none) h))))))))))))))
      · intro d_3 s_5 j_5 N K hn h
        refine g_nm (?_)
        show w_law_4b _ [some (.fz script_1), some (.fz t_2.1), j_4.1, j_4.2.1, j_5.1, j_4.2.2.2, some (.fz d_3), j_5.2.2.1, j_5.2.2.2]
        refine k_seq (k_set (k_call (k_ac (k_fz (k_varF rfl (k_ac (k_fz (k_varF rfl (k_an (k_mvv (k_mvv (k_mv0 ⟨rfl, _, _, rfl, k_post h (fun t_18 h => ?_) (fun x z => hx x _ z)⟩))))))))))))
        show (sSeq w_law_4b_2 (sSeq w_law_4b_3 (sSeq w_law_4b_4 (w_law_4b_5)))) _ [some (.fz script_1), some (.fz t_2.1), j_4.1, j_4.2.1, j_5.1, j_4.2.2.2, some (.fz d_3), some (.lst t_18), j_5.2.2.2]
        refine k_seq (k_set (k_w2 (k_val (k_w2 (k_val (k_w2 (k_pk rfl (k_val (k_c (k_wp rfl (k_wv (k_ix h fun t_19 h => k_val (k_c (k_wv (k_wv (k_ix h fun t_20 h => k_val (k_c (k_wv (k_wv (k_ix h fun t_21 h => ?_))))))))))))))))))))
        show (sSeq w_law_4b_3 (sSeq w_law_4b_4 (w_law_4b_5))) _ [some (.fz script_1), some (.fz t_2.1), j_4.1, j_4.2.1, some (.fz t_21), j_4.2.2.2, some (.fz d_3), some (.lst t_18), j_5.2.2.2]
        refine k_seq (k_set (k_w2 (k_val (k_wN (k_ac (k_fz (k_call (k_ac (k_pk rfl (k_an (k_mvp rfl (k_mv0 ⟨rfl, _, rfl, k_post h (fun t_22 h => k_ac (k_fz (k_call (k_ac (k_pk rfl (k_ac (k_fz (k_varF rfl (k_an (k_mvp rfl (k_mvv (k_mv0 ⟨rfl, _, _, rfl, k_post h (fun t_23 h => k_ac (k_fz (k_call (k_ac (k_pk rfl (k_ac (k_fz (k_varF rfl (k_an (k_mvp rfl (k_mvv (k_mv0 ⟨rfl, _, _, rfl, k_post h (fun t_24 h => k_ac (k_fz (k_call (k_ac (k_pk rfl (k_an (k_mvp rfl (k_mv0 ⟨rfl, _, rfl, k_post h (fun t_25 h => k_an (k_asv (k_asv (k_asv (k_asv (k_as0 (k_lst rfl rfl (k_val (k_call (k_ac (k_pk rfl (k_ac (k_val (k_c (k_an (k_mvp rfl (k_mvv (k_mv0 ⟨rfl, _, _, rfl, k_post h (fun t_26 h => k_wv (k_wv (k_ix h fun t_27 h => ?_))) (fun x z => hx x _ z)⟩)))))))))))))))))) (fun x z => hx x _ z)⟩)))))))) (fun x z => hx x _ z)⟩)))))))))))) (fun x z => hx x _ z)⟩)))))))))))) (fun x z => hx x _ z)⟩))))))))))))
        show (sSeq w_law_4b_4 (w_law_4b_5)) _ [some (.fz script_1), some (.fz t_2.1), j_4.1, j_4.2.1, some (.fz t_21), j_4.2.2.2, some (.fz d_3), some (.lst t_26.2), some (.fz t_27)]
        refine k_seq (k_sif (k_tor (k_tnot (k_ttru (k_val (k_call (k_ac (k_fz (k_call (k_ac (k_fz (k_varF rfl (k_an (k_mvv (k_mv0 ⟨rfl, _, rfl, k_post h (fun t_28 h => k_ac (k_fz (k_call (k_ac (k_fz (k_varF rfl (k_an (k_mvv (k_mv0 ⟨rfl, _, rfl, k_post h (fun t_29 h => k_an (k_mvv (k_mvv (k_mv0 ⟨rfl, _, _, rfl, k_post h (fun t_30 h => k_wv (j_truB (j_tor (fun v => v) (fun v => [some (.fz script_1), some (.fz t_2.1), j_4.1, j_4.2.1, some (.fz t_21), j_4.2.2.2, some (.fz d_3), some (.lst t_26.2), some (.fz t_27)]) h (fun J29 h => J29 true h) (fun J29 h => k_tnot (k_ttru (k_val (k_call (k_ac (k_fz (k_call (k_ac (k_fz (k_varF rfl (k_an (k_mvv (k_mv0 ⟨rfl, _, rfl, k_post (asc h) (fun t_31 h => k_ac (k_fz (k_call (k_ac (k_fz (k_varF rfl (k_an (k_mvv (k_mv0 ⟨rfl, _, rfl, k_post (asc h) (fun t_32 h => k_an (k_mvv (k_mvv (k_mv0 ⟨rfl, _, _, rfl, k_post (asc h) (fun t_33 h => k_wv (j_truB (J29 (!t_33) h))) (fun x z => hx x _ z)⟩)))) (fun x z => hx x _ z)⟩))))))))) (fun x z => hx x _ z)⟩))))))))))))) (fun c_4 h => j_sif h (fun h => ?_) (fun h => ?_))))) (fun x z => hx x _ z)⟩)))) (fun x z => hx x _ z)⟩))))))))) (fun x z => hx x _ z)⟩)))))))))))))))
        · refine k_retv (k_c (hrt _ _ h))
        · refine k_nx ?_
          show w_law_4b_5 _ [some (.fz script_1), some (.fz t_2.1), j_4.1, j_4.2.1, some (.fz t_21), j_4.2.2.2, some (.fz d_3), some (.lst t_26.2), some (.fz t_27)]
          refine k_sif (k_tnot (k_ttru (k_val (k_call (k_ac (k_fz (k_call (k_ac (k_fz (k_varF rfl (k_an (k_mvv (k_mv0 ⟨rfl, _, rfl, k_post h (fun t_34 h => k_ac (k_fz (k_call (k_ac (k_fz (k_varF rfl (k_an (k_mvv (k_mv0 ⟨rfl, _, rfl, k_post h (fun t_35 h => k_an (k_mvv (k_mvv (k_mv0 ⟨rfl, _, _, rfl, k_post h (fun t_36 h => k_wv (j_truB (j_sif h (fun h => ?_) (fun h => ?_)))) (fun x z => hx x _ z)⟩)))) (fun x z => hx x _ z)⟩))))))))) (fun x z => hx x _ z)⟩)))))))))))))
          · refine k_retv (k_c (hrt _ _ h))
          · refine k_nx ?_
            exact hn () ((some (.fz t_21)), (some (.fz d_3)), (some (.lst t_26.2)), (some (.fz t_27))) h
      · intro s_6 j_6 h
        show w_law_5 _ [some (.fz script_1), some (.fz t_2.1), j_4.1, j_4.2.1, j_6.1, j_4.2.2.2, j_6.2.1, j_6.2.2.1, j_6.2.2.2]
        refine k_retv (k_c (hrt _ _ h))
end VW

set_option Elab.async false
set_option linter.all false
set_option maxRecDepth 100000
/-! L0: what the operations of plain programs give. -/
namespace VW
open PySem PySem.Spec PyProof.Rows L2 R
@[simp] theorem fz_d (d : D) : (M.fz d).d = d := Eq.trans rfl rfl
@[simp] theorem lst_d (d : List D) : (M.lst d).d = .lst d := Eq.trans rfl rfl
@[simp] theorem dK_d (d : List (Key × D)) : (M.dK d).d = .dK d := Eq.trans rfl rfl
@[simp] theorem dT_d (d : List (List Key × D)) : (M.dT d).d = .dT d := Eq.trans rfl rfl
theorem size24 : sizeLine = 16777216 := sizeLine_eq
theorem need_of {α : Type} {c : Bool} {r : R α} (h : c = true) : need c r = r := by rw [h]; rfl
theorem ble_of {a b : Nat} (h : a ≤ b) : Nat.ble a b = true := Nat.ble_eq_true_of_le h
/-! numbers -/
@[simp] theorem nAdd_ii (i j : Int) : nAdd (.int i) (.int j) = .ok (.fz (.int (i + j))) := Eq.trans rfl rfl
@[simp] theorem nSub_ii (i j : Int) : nSub (.int i) (.int j) = .ok (.int (i - j)) := Eq.trans rfl rfl
@[simp] theorem nNeg_i (i : Int) : nNeg (.int i) = .ok (.int (-i)) := Eq.trans rfl rfl
theorem nMod_ii {i j : Int} (h : 0 < j) : nMod (.int i) (.int j) = .ok (.int (i % j)) := need_of (decide_eq_true h)
theorem nDiv_ii {i j : Int} (h : 0 < j) (h' : j < 1073741824) : nDiv (.int i) (.int j) = .ok (.int (i / j)) := need_of (decide_eq_true (⟨h, h'⟩ : CDiv i j))
theorem nMul_r {i j : Int} (h : -(2 ^ 64) < j) (h' : j < 2 ^ 64) : nMul (.int i) (.int j) = .ok (.fz (.int (i * j))) := need_of (decide_eq_true (.inr ⟨h, h'⟩ : CMul i j))
theorem nMul_l {i j : Int} (h : -(2 ^ 64) < i) (h' : i < 2 ^ 64) : nMul (.int i) (.int j) = .ok (.fz (.int (i * j))) := need_of (decide_eq_true (.inl ⟨h, h'⟩ : CMul i j))
theorem nPow_ii {i j : Int} (h : CPow i j) : nPow (.int i) (.int j) = .ok (.int (i ^ j.toNat)) := need_of (decide_eq_true h)
@[simp] theorem nInt_i (i : Int) : nInt (.int i) = .ok i := Eq.trans rfl rfl
/-! texts, tuples, lists -/
theorem nAdd_ss {s t : Str} (h : s.length + t.length ≤ sizeLine) : nAdd (.str s) (.str t) = .ok (.fz (.str (s ++ t))) := need_of (ble_of h)
theorem nAdd_tt {s t : List D} (h : s.length + t.length ≤ sizeLine) : nAdd (.tup s) (.tup t) = .ok (.fz (.tup (s ++ t))) := need_of (ble_of h)
theorem nAdd_ll {s t : List D} (h : s.length + t.length ≤ sizeLine) : nAdd (.lst s) (.lst t) = .ok (.lst (s ++ t)) := need_of (ble_of h)
theorem nApp_of {ds : List D} {d : D} (h : ds.length < 16777216) : nApp ds d = .ok (ds ++ [d]) := need_of (decide_eq_true h)
theorem nExt_of {ds es : List D} (h : ds.length + es.length ≤ 16777216) : nExt ds (.lst es) = .ok (ds ++ es) := need_of (decide_eq_true h)
@[simp] theorem nLen_tup (ds : List D) : nLen (.tup ds) = .ok (.int ds.length) := Eq.trans rfl rfl
@[simp] theorem nLen_lst (ds : List D) : nLen (.lst ds) = .ok (.int ds.length) := Eq.trans rfl rfl
@[simp] theorem nLen_scr (ds : List Int) : nLen (.scr ds) = .ok (.int ds.length) := Eq.trans rfl rfl
@[simp] theorem nLen_dK (ds : List (Key × D)) : nLen (.dK ds) = .ok (.int ds.length) := Eq.trans rfl rfl
theorem nLen_str {s : Str} (h : s.length ≤ sizeLine) : nLen (.str s) = .ok (.int s.length) := need_of (ble_of h)
@[simp] theorem nItems_tup (ds : List D) : nItems (.tup ds) = .ok ds := Eq.trans rfl rfl
@[simp] theorem nItems_lst (ds : List D) : nItems (.lst ds) = .ok ds := Eq.trans rfl rfl
@[simp] theorem nItems_str (s : Str) : nItems (.str s) = .ok (s.cps.toList.map sgn) := Eq.trans rfl rfl
@[simp] theorem nTuple_tup (ds : List D) : nTuple (.tup ds) = .ok (.tup ds) := Eq.trans rfl rfl
@[simp] theorem nTuple_lst (ds : List D) : nTuple (.lst ds) = .ok (.tup ds) := Eq.trans rfl rfl
@[simp] theorem nList_tup (ds : List D) : nList (.tup ds) = .ok ds := Eq.trans rfl rfl
@[simp] theorem nList_lst (ds : List D) : nList (.lst ds) = .ok ds := Eq.trans rfl rfl
@[simp] theorem nSl_tup (ds : List D) (lo hi : Option Int) : nSl (.tup ds) lo hi = .ok (.fz (.tup (cutD ds lo hi))) := Eq.trans rfl rfl
@[simp] theorem nSl_lst (ds : List D) (lo hi : Option Int) : nSl (.lst ds) lo hi = .ok (.lst (cutD ds lo hi)) := Eq.trans rfl rfl
theorem nSl_str {s : Str} {lo hi : Option Int} (h : s.length ≤ sizeLine) : nSl (.str s) lo hi = .ok (.fz (.str (cutS s lo hi))) := need_of (ble_of h)
@[simp] theorem nRev_tup (ds : List D) : nRev (.tup ds) = .ok (.fz (.tup ds.reverse)) := Eq.trans rfl rfl
@[simp] theorem nRev_lst (ds : List D) : nRev (.lst ds) = .ok (.lst ds.reverse) := Eq.trans rfl rfl
@[simp] theorem nUn2_tup (a b : D) : nUn2 (.tup [a, b]) = .ok (a, b) := Eq.trans rfl rfl
@[simp] theorem nUn3_tup (a b c : D) : nUn3 (.tup [a, b, c]) = .ok (a, b, c) := Eq.trans rfl rfl
@[simp] theorem nUn4_tup (a b c d : D) : nUn4 (.tup [a, b, c, d]) = .ok (a, b, c, d) := Eq.trans rfl rfl
theorem nIx_tup {ds : List D} {i : Int} {d : D} (h : atI ds i = some d) : nIx (.tup ds) (.int i) = .ok d := by
  show (ofO (some i)).bind (fun i => ofO (atI ds i)) = _
  show ofO (atI ds i) = _
  rw [h]
  rfl
theorem nIx_lst {ds : List D} {i : Int} {d : D} (h : atI ds i = some d) : nIx (.lst ds) (.int i) = .ok d := by
  show ofO (atI ds i) = _
  rw [h]
  rfl
theorem nIx_scr {ds : List Int} {i : Int} {d : Int} (h : atI ds i = some d) : nIx (.scr ds) (.int i) = .ok (.int d) := by
  show (ofO (atI ds i)).bind _ = _
  rw [h]
  rfl
theorem nIx_str {s : Str} {i : Int} {c : Nat} (h : atI s.cps.toList i = some c) (hl : s.length ≤ sizeLine) : nIx (.str s) (.int i) = .ok (sgn c) := by
  show (ofO (atI s.cps.toList i)).bind _ = _
  rw [h]
  exact need_of (ble_of hl)
theorem nIx_dK {kvs : List (Key × D)} {k : D} {y : Key} {d : D} (h : keyK k = some y) (h' : getK kvs y = some d) : nIx (.dK kvs) k = .ok d := by
  show (ofO (keyK k)).bind _ = _
  rw [h]
  show ofO (getK kvs y) = _
  rw [h']
  rfl
theorem nIx_dT {kvs : List (List Key × D)} {k : D} {y : List Key} {d : D} (h : keyT k = some y) (h' : getK kvs y = some d) : nIx (.dT kvs) k = .ok d := by
  show (ofO (keyT k)).bind _ = _
  rw [h]
  show ofO (getK kvs y) = _
  rw [h']
  rfl
theorem atI_2 {α : Type} (a b c : α) (l : List α) : atI (a :: b :: c :: l) 2 = some c := atI_nat (j := 2) rfl
theorem atI_3 {α : Type} (a b c d : α) (l : List α) : atI (a :: b :: c :: d :: l) 3 = some d := atI_nat (j := 3) rfl
@[simp] theorem nIx_t0 (a : D) (l : List D) : nIx (.tup (a :: l)) (.int 0) = .ok a := nIx_tup (atI_0 _ _)
@[simp] theorem nIx_t1 (a b : D) (l : List D) : nIx (.tup (a :: b :: l)) (.int 1) = .ok b := nIx_tup (atI_1 _ _ _)
@[simp] theorem nIx_t2 (a b c : D) (l : List D) : nIx (.tup (a :: b :: c :: l)) (.int 2) = .ok c := nIx_tup (atI_2 _ _ _ _)
@[simp] theorem nIx_t3 (a b c d : D) (l : List D) : nIx (.tup (a :: b :: c :: d :: l)) (.int 3) = .ok d := nIx_tup (atI_3 _ _ _ _ _)
@[simp] theorem nIx_l0 (a : D) (l : List D) : nIx (.lst (a :: l)) (.int 0) = .ok a := nIx_lst (atI_0 _ _)
@[simp] theorem nIx_l1 (a b : D) (l : List D) : nIx (.lst (a :: b :: l)) (.int 1) = .ok b := nIx_lst (atI_1 _ _ _)
@[simp] theorem nIx_l2 (a b c : D) (l : List D) : nIx (.lst (a :: b :: c :: l)) (.int 2) = .ok c := nIx_lst (atI_2 _ _ _ _)
@[simp] theorem nStL_0 (a d : D) (l : List D) : nStL (a :: l) (.int 0) d = .ok (d :: l) := by
  have e : ixN (a :: l).length 0 = some 0 := by
    unfold ixN
    simp
  show (ofO (ixN (a :: l).length 0)).bind _ = _
  rw [e]
  rfl
/-! == and order -/
@[simp] theorem nEq_ii (neg : Bool) (i j : Int) : nEq neg (.int i) (.int j) = .ok (if neg = true then !decide (i = j) else decide (i = j)) := by
  show need true (R.ok (if neg = true then !eqD (.int i) (.int j) else eqD (.int i) (.int j))) = _
  rw [eqD_int]
  rfl
@[simp] theorem nEq_ss (neg : Bool) (i j : Str) : nEq neg (.str i) (.str j) = .ok (if neg = true then !decide (i = j) else decide (i = j)) := by
  show need true (R.ok (if neg = true then !eqD (.str i) (.str j) else eqD (.str i) (.str j))) = _
  rw [eqD_str]
  rfl
theorem nE_ii (i j : Int) : nEq false (.int i) (.int j) = .ok (decide (i = j)) := nEq_ii false i j
theorem nN_ii (i j : Int) : nEq true (.int i) (.int j) = .ok (!decide (i = j)) := nEq_ii true i j
theorem nE_ss (i j : Str) : nEq false (.str i) (.str j) = .ok (decide (i = j)) := nEq_ss false i j
theorem nN_ss (i j : Str) : nEq true (.str i) (.str j) = .ok (!decide (i = j)) := nEq_ss true i j
theorem nE_of {a b : D} (h : eqOk a b = true) : nEq false a b = .ok (eqD a b) := need_of h
theorem nN_of {a b : D} (h : eqOk a b = true) : nEq true a b = .ok (!eqD a b) := need_of h
theorem nEq_of {neg : Bool} {a b : D} (h : eqOk a b = true) : nEq neg a b = .ok (if neg = true then !eqD a b else eqD a b) := need_of h
@[simp] theorem nOrd_ii (o : Od) (i j : Int) : nOrd o (.int i) (.int j) = .ok (o.int i j) := Eq.trans rfl rfl
@[simp] theorem nOrd_ss (s t : Str) : nOrd .lt (.str s) (.str t) = .ok (ltS s t) := Eq.trans rfl rfl
@[simp] theorem od_lt (i j : Int) : Od.lt.int i j = decide (i < j) := Eq.trans rfl rfl
@[simp] theorem od_le (i j : Int) : Od.le.int i j = decide (i ≤ j) := Eq.trans rfl rfl
@[simp] theorem od_gt (i j : Int) : Od.gt.int i j = decide (j < i) := Eq.trans rfl rfl
@[simp] theorem od_ge (i j : Int) : Od.ge.int i j = decide (j ≤ i) := Eq.trans rfl rfl
/-! truth -/
@[simp] theorem nTru_bl (b : Bool) : nTru (.bl b) = .ok b := Eq.trans rfl rfl
@[simp] theorem nTru_lst (ds : List D) : nTru (.lst ds) = .ok (!ds.isEmpty) := Eq.trans rfl rfl
@[simp] theorem nTru_tup (ds : List D) : nTru (.tup ds) = .ok (!ds.isEmpty) := Eq.trans rfl rfl
@[simp] theorem nTru_non : nTru .non = .ok false := Eq.trans rfl rfl
@[simp] theorem nTru_int (i : Int) : nTru (.int i) = .ok (i != 0) := Eq.trans rfl rfl
theorem nIsi_of {T t : String} {d : D} (h : tyNm d = some t) (hT : isiTs.contains T = true) : nIsi T d = .ok (isiB t T) := by
  unfold nIsi
  rw [h]
  exact need_of hT
def isTup : D → Bool
  | .tup _ => true
  | _ => false
def isLst : D → Bool
  | .lst _ => true
  | _ => false
def isStr : D → Bool
  | .str _ => true
  | _ => false
def isBl : D → Bool
  | .bl _ => true
  | _ => false
def isIntB : D → Bool
  | .int _ => true
  | .bl _ => true
  | _ => false
section
variable {n : Nat} {d : D}
theorem isi_by {T : String} {f : D → Bool} (hT : isiTs.contains T = true) (hf : ∀ d t, tyNm d = some t → isiB t T = f d) (h : Sm n d) : nIsi T d = .ok (f d) := by
  obtain ⟨t, e⟩ := h.ty
  rw [nIsi_of e hT, hf d t e]
theorem isi_tuple (h : Sm n d) : nIsi "tuple" d = .ok (isTup d) := isi_by (by decide +kernel) (fun d t e => by cases d <;> cases e <;> simp [isiB, isTup]) h
theorem isi_list (h : Sm n d) : nIsi "list" d = .ok (isLst d) := isi_by (by decide +kernel) (fun d t e => by cases d <;> cases e <;> simp [isiB, isLst]) h
theorem isi_str (h : Sm n d) : nIsi "str" d = .ok (isStr d) := isi_by (by decide +kernel) (fun d t e => by cases d <;> cases e <;> simp [isiB, isStr]) h
theorem isi_bool (h : Sm n d) : nIsi "bool" d = .ok (isBl d) := isi_by (by decide +kernel) (fun d t e => by cases d <;> cases e <;> simp [isiB, isBl]) h
theorem isi_int (h : Sm n d) : nIsi "int" d = .ok (isIntB d) := isi_by (by decide +kernel) (fun d t e => by cases d <;> cases e <;> simp [isiB, isIntB]) h
end
@[simp] theorem isi_bool_bl (b : Bool) : nIsi "bool" (.bl b) = .ok true := nIsi_of (t := "bool") rfl (by decide +kernel)
/-! ranges -/
theorem rngB_of {i : Int} (h : 0 ≤ i) (h' : i < 1000000000) : rngB i := ⟨by omega, by omega⟩
theorem nR1_i {i : Int} (h : 0 ≤ i) (h' : i < 1000000000) : nR1 (.int i) = .ok (rngD 0 i.toNat) := by
  have e : rngB i := ⟨by omega, by omega⟩
  unfold nR1
  simp only [intD, ofO, R.bind]
  exact need_of (decide_eq_true e)
theorem nR1_n {n : Nat} (h : (n : Int) < 1000000000) : nR1 (.int n) = .ok (rngD 0 n) := by
  rw [nR1_i (Int.natCast_nonneg n) h, Int.toNat_natCast]
theorem nR2_i {i j : Int} (h : rngB i) (h' : rngB j) : nR2 (.int i) (.int j) = .ok (rngD i (j - i).toNat) := by
  unfold nR2
  simp only [intD, ofO, R.bind, decide_eq_true h, decide_eq_true h', Bool.and_self, need_true]
theorem nR2_n {a b : Nat} (h : (a : Int) < 1000000000) (h' : (b : Int) < 1000000000) : nR2 (.int a) (.int b) = .ok (rngD a (b - a)) := by
  rw [nR2_i (rngB_of (Int.natCast_nonneg a) h) (rngB_of (Int.natCast_nonneg b) h')]
  have e : ((b : Int) - (a : Int)).toNat = b - a := by omega
  rw [e]
theorem rngD_0 (n : Nat) : rngD 0 n = (List.range n).map fun (k : Nat) => D.int k := by
  unfold rngD
  refine List.map_congr_left fun k _ => ?_
  rw [Int.zero_add]
theorem rngD_len (i : Int) (n : Nat) : (rngD i n).length = n := by
  unfold rngD
  rw [List.length_map, List.length_range]
theorem rngD_mem {i : Int} {n : Nat} {d : D} (h : d ∈ rngD i n) : ∃ k : Nat, k < n ∧ d = .int (i + k) := by
  unfold rngD at h
  obtain ⟨k, hk, rfl⟩ := List.mem_map.mp h
  exact ⟨k, List.mem_range.mp hk, rfl⟩
theorem rngD_at {i : Int} {n k : Nat} {d : D} (h : (rngD i n)[k]? = some d) : k < n ∧ d = .int (i + k) := by
  unfold rngD at h
  rw [List.getElem?_map] at h
  by_cases hk : k < n
  · rw [List.getElem?_range hk] at h
    cases h
    exact ⟨hk, rfl⟩
  · rw [List.getElem?_eq_none (by rw [List.length_range]; omega)] at h
    cases h
/-! comprehensions -/
theorem lcM'_map {f : D → R D} {g : D → D} : ∀ {ds : List D}, (∀ d ∈ ds, f d = .ok (g d)) → lcM' f ds = .ok (ds.map g)
  | [], _ => rfl
  | d :: ds, h => by
    unfold lcM'
    rw [h d List.mem_cons_self, lcM'_map fun d hd => h d (List.mem_cons_of_mem _ hd)]
    rfl
theorem lcM_map {f : D → R D} {g : D → D} {ds : List D} (hl : ds.length ≤ sizeLine) (h : ∀ d ∈ ds, f d = .ok (g d)) : lcM f ds = .ok (ds.map g) := by
  unfold lcM
  rw [need_of (ble_of hl), lcM'_map h]
theorem lcF'_map {f : D → R (Option D)} {g : D → Option D} : ∀ {ds : List D}, (∀ d ∈ ds, f d = .ok (g d)) → lcF' f ds = .ok (ds.filterMap g)
  | [], _ => rfl
  | d :: ds, h => by
    unfold lcF'
    rw [h d List.mem_cons_self, lcF'_map fun d hd => h d (List.mem_cons_of_mem _ hd), List.filterMap_cons]
    cases g d <;> rfl
theorem lcF_map {f : D → R (Option D)} {g : D → Option D} {ds : List D} (hl : ds.length ≤ sizeLine) (h : ∀ d ∈ ds, f d = .ok (g d)) : lcF f ds = .ok (ds.filterMap g) := by
  unfold lcF
  rw [need_of (ble_of hl), lcF'_map h]
/-- a comprehension that carries something: what holds of it and of the items -/
theorem lcS'_inv {σ : Type} {f : D → σ → R (D × σ)} (I : σ → Prop) (A : D → Prop) : ∀ {ds : List D} {s : σ}, I s → (∀ d ∈ ds, ∀ s, I s → ∃ x s', f d s = .ok (x, s') ∧ A x ∧ I s') → ∃ xs s', lcS' f ds s = .ok (xs, s') ∧ xs.length = ds.length ∧ (∀ x ∈ xs, A x) ∧ I s'
  | [], s, hi, _ => ⟨[], s, rfl, rfl, fun _ z => absurd z List.not_mem_nil, hi⟩
  | d :: ds, s, hi, h => by
    obtain ⟨x, s1, e, ha, hi1⟩ := h d List.mem_cons_self s hi
    obtain ⟨xs, s2, e2, hl, hA, hi2⟩ := lcS'_inv I A hi1 fun d hd => h d (List.mem_cons_of_mem _ hd)
    refine ⟨x :: xs, s2, ?_, congrArg (· + 1) hl, fun y hy => ?_, hi2⟩
    · unfold lcS'
      rw [e]
      show (lcS' f ds s1).bind _ = _
      rw [e2]
      rfl
    · rcases List.mem_cons.mp hy with rfl | hy
      · exact ha
      · exact hA y hy
theorem lcS_inv {σ : Type} {f : D → σ → R (D × σ)} (I : σ → Prop) (A : D → Prop) {ds : List D} {s : σ} (hl : ds.length ≤ sizeLine) (hi : I s) (h : ∀ d ∈ ds, ∀ s, I s → ∃ x s', f d s = .ok (x, s') ∧ A x ∧ I s') : ∃ xs s', lcS f ds s = .ok (xs, s') ∧ xs.length = ds.length ∧ (∀ x ∈ xs, A x) ∧ I s' := by
  obtain ⟨xs, s', e, h⟩ := lcS'_inv I A hi h
  refine ⟨xs, s', ?_, h⟩
  unfold lcS
  rw [need_of (ble_of hl), e]
/-! loops -/
theorem forS_fold {σ : Type} {body : D → σ → R σ} {g : D → σ → σ} : ∀ {ds : List D} {s : σ}, (∀ d ∈ ds, ∀ s, body d s = .ok (g d s)) → forS body ds s = .ok (ds.foldl (fun s d => g d s) s)
  | [], _, _ => rfl
  | d :: ds, s, h => by
    unfold forS
    rw [h d List.mem_cons_self]
    exact forS_fold fun d hd => h d (List.mem_cons_of_mem _ hd)
theorem forS_inv {σ : Type} {body : D → σ → R σ} (I : Nat → σ → Prop) : ∀ {ds : List D} {s : σ} (k : Nat), I k s → (∀ j d s, ds[j]? = some d → I (k + j) s → ∃ s', body d s = .ok s' ∧ I (k + j + 1) s') → ∃ s', forS body ds s = .ok s' ∧ I (k + ds.length) s'
  | [], s, k, hi, _ => ⟨s, rfl, hi⟩
  | d :: ds, s, k, hi, h => by
    obtain ⟨s1, e, h1⟩ := h 0 d s rfl hi
    obtain ⟨s2, e2, h2⟩ := forS_inv I (ds := ds) (s := s1) (k + 1) h1 fun j d s hd hs => by
      have := h (j + 1) d s (by simpa using hd) (by rw [show k + (j + 1) = k + 1 + j by omega]; exact hs)
      rw [show k + (j + 1) + 1 = k + 1 + j + 1 by omega] at this
      exact this
    refine ⟨s2, ?_, ?_⟩
    · unfold forS
      rw [e]
      exact e2
    · rw [List.length_cons, show k + (ds.length + 1) = k + 1 + ds.length by omega]
      exact h2
/-- a loop that leaves at the first thing that isn't so -/
theorem forN_all {σ β : Type} {body : D → σ → (σ → R β) → R β} {after : σ → R β} {s : σ} {p : D → Bool} {r : R β} : ∀ {ds : List D}, (∀ d ∈ ds, ∀ K, body d s K = if p d = true then K s else r) → forN body after ds s = if ds.all p = true then after s else r
  | [], _ => rfl
  | d :: ds, h => by
    unfold forN
    rw [h d List.mem_cons_self]
    cases hp : p d with
    | true =>
      rw [if_pos rfl, forN_all fun d hd => h d (List.mem_cons_of_mem _ hd), List.all_cons, hp, Bool.true_and]
    | false =>
      rw [if_neg Bool.false_ne_true, List.all_cons, hp]
      rfl
end VW

set_option Elab.async false
set_option linter.all false
set_option maxRecDepth 100000
/-! P0: names, specs, rows, stocks: plain facts. -/
namespace VW
open PySem PySem.Spec PyProof.Rows L2
def letters : List Nat := ("abcdefghijklmnopqrstuvwxyz" : Str).cps.toList
def isNameS (s : Str) : Bool := decide (1 ≤ s.length) && decide (s.length ≤ 8) && s.cps.toList.all fun c => decide (c ∈ letters)
def isName : D → Bool
  | .str s => isNameS s
  | _ => false
def isSide : D → Bool
  | .str s => decide (s = "+") || decide (s = "-")
  | _ => false
def isSpec : D → Bool
  | .tup [a, b] => isName a && isSide b
  | _ => false
def isPorts : D → Bool
  | .tup ps => decide (1 ≤ ps.length) && decide (ps.length ≤ 4) && ps.all isSpec
  | _ => false
def isRow : D → Bool
  | .tup [a, b] => isName a && isPorts b
  | _ => false
theorem side_in (z : Str) : xorB false (inV (V.str z) [V.str "+", V.str "-"]) = isSide (.str z) := by
  simp only [xorB, inV, isSide, List.any_cons, List.any_nil, eqV, Bool.or_false, Bool.false_eq_true, if_false]
  have e : ∀ a b : Str, (a == b) = decide (b = a) := fun a b => by
    rw [Bool.eq_iff_iff, beq_iff_eq, decide_eq_true_eq]
    exact eq_comm
  rw [e, e]
def nameOf : D → Str
  | .tup (.str n :: _) => n
  | _ => ""
def rises : Str → List D → Bool
  | _, [] => true
  | a, r :: rs => isRow r && ltS a (nameOf r) && rises (nameOf r) rs
def isStock : D → Bool
  | .tup rows => decide (1 ≤ rows.length) && decide (rows.length ≤ 8) && rises "" rows
  | _ => false
theorem row_form {r : D} (h : isRow r = true) : ∃ n ps, r = .tup [.str n, .tup ps] ∧ isNameS n = true := by
  unfold isRow at h
  split at h
  · rename_i a b
    rw [Bool.and_eq_true] at h
    obtain ⟨h1, h2⟩ := h
    unfold isName at h1
    split at h1
    · unfold isPorts at h2
      split at h2
      · exact ⟨_, _, rfl, h1⟩
      · cases h2
    · cases h1
  · cases h
def mateS (s : Str) : Str := if s = "+" then "-" else "+"
theorem side_eq {n : Nat} {b : D} (hb : Sm n b) : (eqD b (.str "+") || eqD b (.str "-")) = isSide b := by
  cases b with
  | str s => rw [eqD_str, eqD_str]; rfl
  | _ =>
    first
      | rfl
      | (cases n <;> exact hb.elim)
      | (rw [eqD_tup_str, eqD_tup_str]; rfl)
      | (rw [eqD_lst_str, eqD_lst_str]; rfl)
def Text : D → Prop
  | .str s => s.length ≤ 10 ∧ PyData.strOk s = true
  | _ => False
theorem join_signs (cs : List Nat) : (Txt.join "" (cs.map fun c => (⟨#[c]⟩ : Str))).cps.toList = cs := by
  have glue : ∀ (xs : List Str), (Txt.join "" xs).cps.toList = (xs.map fun x => x.cps.toList).flatten := by
    intro xs
    have e1 : Txt.join "" xs = Str.join "" xs := StrLaws.glued_eq_join "" xs
    rw [e1]
    have e2 := TL.tl_join "" xs
    have e3 : ∀ l : List (List Nat), TL.joinL [] l = l.flatten := by
      intro l
      induction l with
      | nil => rfl
      | cons a l ih =>
        cases l with
        | nil => simp [TL.joinL]
        | cons b l =>
          show a ++ ([] ++ TL.joinL [] (b :: l)) = _
          rw [ih]
          rfl
    exact e2.trans (e3 _)
  rw [glue, List.map_map]
  induction cs with
  | nil => rfl
  | cons c cs ih =>
    rw [List.map_cons, List.flatten_cons, ih]
    rfl
theorem signs_sum (cs : List Nat) : ((cs.map fun c => (⟨#[c]⟩ : Str)).map (·.length)).sum = cs.length := by
  induction cs with
  | nil => rfl
  | cons c cs ih =>
    rw [List.map_cons, List.map_cons, List.sum_cons, ih, List.length_cons]
    show 1 + cs.length = _
    omega
def l16 : Str := "abcdefghijklmnop"
def L16 : List Nat := l16.cps.toList
theorem L16_len : L16.length = 16 := by decide
theorem L16_nd : L16.Nodup := by decide +kernel
theorem L16_in : ∀ c ∈ L16, c ∈ letters ∧ c < 0x110000 := fun c hc => by
  have := List.all_eq_true.mp (show L16.all (fun c => decide (c ∈ letters) && decide (c < 0x110000)) = true by decide +kernel) c hc
  rw [Bool.and_eq_true, decide_eq_true_eq, decide_eq_true_eq] at this
  exact this
theorem L16_ix : ∀ c ∈ L16, ∃ i rest, Builtin.Str.occurrences l16 ⟨#[c]⟩ 0 l16.length 1 = i :: rest ∧ i < 16 ∧ L16[i]? = some c := fun c hc => by
  have := List.all_eq_true.mp (show L16.all (fun c => match Builtin.Str.occurrences l16 ⟨#[c]⟩ 0 l16.length 1 with
    | i :: _ => decide (i < 16) && decide (L16[i]? = some c)
    | [] => false) = true by decide +kernel) c hc
  split at this
  · rename_i i rest e
    rw [Bool.and_eq_true, decide_eq_true_eq, decide_eq_true_eq] at this
    exact ⟨i, rest, e, this.1, this.2⟩
  · cases this
theorem cut_to {w : Str} {a : Int} (h : 0 ≤ a) : (cutS w none (some a)).cps.toList = w.cps.toList.take a.toNat := by
  unfold cutS HT.sIx
  have hn : w.length = w.cps.toList.length := by rw [Array.length_toList]; rfl
  rw [List.toList_toArray]
  dsimp only
  rw [if_neg (by omega), hn, List.drop_zero, Nat.sub_zero, List.take_eq_take_iff]
  omega
theorem nodup_ix {α : Type} {l : List α} (h : l.Nodup) {i j : Nat} (hi : i < l.length) (hj : j < l.length) (e : l[i] = l[j]) : i = j := by
  have p := List.pairwise_iff_getElem.mp h
  rcases Nat.lt_trichotomy i j with z | z | z
  · exact absurd e (p i j hi hj z)
  · exact z
  · exact absurd e.symm (p j i hj hi z)
theorem cut_from {w : Str} {a : Int} (h : 0 ≤ a) : (cutS w (some a) none).cps.toList = w.cps.toList.drop a.toNat := by
  unfold cutS HT.sIx
  have hn : w.length = w.cps.toList.length := by rw [Array.length_toList]; rfl
  rw [List.toList_toArray]
  dsimp only
  rw [if_neg (by omega), hn]
  rcases Nat.le_total a.toNat w.cps.toList.length with l | l
  · rw [Nat.min_eq_left l, List.take_of_length_le (by rw [List.length_drop]; exact Nat.le_refl _)]
  · rw [Nat.min_eq_right l, List.drop_of_length_le (Nat.le_refl _), List.drop_of_length_le l, List.take_nil]
theorem cut_last {w : Str} : (cutS w none (some (-1))).cps.toList = w.cps.toList.dropLast := by
  unfold cutS HT.sIx
  have hn : w.length = w.cps.toList.length := by rw [Array.length_toList]; rfl
  rw [List.toList_toArray]
  dsimp only
  rw [if_pos (by decide), hn, List.drop_zero, Nat.sub_zero, List.dropLast_eq_take]
  congr 1
  omega
def Names (ns : List Str) : Prop := ns.Nodup ∧ ∀ s ∈ ns, isNameS s = true ∧ Sm 0 (.str s)
def pick (S : List Str) (st : Int) (k : Nat) : Str := S.getD ((st + (k : Int)) % 4).toNat ""
theorem pick_at {S : List Str} (hS : S.length = 4) (st : Int) (k : Nat) : atI (S.map D.str) ((st + (k : Int)) % 4) = some (.str (pick S st k)) := by
  have h0 : 0 ≤ (st + (k : Int)) % 4 := Int.emod_nonneg _ (by decide)
  have h1 : (st + (k : Int)) % 4 < 4 := Int.emod_lt_of_pos _ (by decide)
  have hl : ((st + (k : Int)) % 4).toNat < S.length := by omega
  unfold atI ixN
  rw [if_pos h0, List.length_map, if_pos (by omega)]
  show (S.map D.str)[((st + (k : Int)) % 4).toNat]? = _
  rw [List.getElem?_map, List.getElem?_eq_getElem hl]
  unfold pick
  rw [List.getD_eq_getElem?_getD, List.getElem?_eq_getElem hl]
  rfl
theorem pick_names {S : List Str} (hS : S.length = 4) (h : Names S) {st : Int} {n : Nat} (hn : n ≤ 4) : Names ((List.range n).map (pick S st)) := by
  have inS : ∀ k, ∃ i, ∃ hi : i < S.length, ((st + (k : Nat)) % 4 : Int).toNat = i ∧ pick S st k = S[i] := fun k => by
    have h0 : 0 ≤ (st + (k : Int)) % 4 := Int.emod_nonneg _ (by decide)
    have h1 : (st + (k : Int)) % 4 < 4 := Int.emod_lt_of_pos _ (by decide)
    have hl : ((st + (k : Int)) % 4).toNat < S.length := by omega
    refine ⟨_, hl, rfl, ?_⟩
    unfold pick
    rw [List.getD_eq_getElem?_getD, List.getElem?_eq_getElem hl]
    rfl
  refine ⟨?_, fun s hs => ?_⟩
  · rw [List.nodup_iff_pairwise_ne] at *
    refine List.pairwise_map.mpr ?_
    refine List.Pairwise.imp_of_mem ?_ (List.pairwise_lt_range (n := n))
    intro i j hi hj lt e
    have hi := List.mem_range.mp hi
    have hj := List.mem_range.mp hj
    obtain ⟨x, hx, ex, px⟩ := inS i
    obtain ⟨y, hy, ey, py⟩ := inS j
    rw [px, py] at e
    have := nodup_ix h.1 hx hy e
    omega
  · obtain ⟨k, _, rfl⟩ := List.mem_map.mp hs
    obtain ⟨x, hx, _, px⟩ := inS k
    rw [px]
    exact h.2 _ (List.getElem_mem hx)
theorem name_of {s : Str} {l : List Nat} (e : s.cps.toList = l) (h1 : 1 ≤ l.length) (h8 : l.length ≤ 8) (hl : ∀ c ∈ l, c ∈ L16) : isNameS s = true ∧ Sm 0 (.str s) := by
  have hn : s.length = l.length := by rw [← e, Array.length_toList]; rfl
  refine ⟨?_, by rw [hn]; omega, ?_⟩
  · unfold isNameS
    rw [e, hn, decide_eq_true h1, decide_eq_true h8, Bool.true_and, Bool.true_and, List.all_eq_true]
    exact fun c hc => decide_eq_true (L16_in c (hl c hc)).1
  · show s.cps.all (· < 0x110000) = true
    rw [← Array.all_toList, e, List.all_eq_true]
    exact fun c hc => decide_eq_true (L16_in c (hl c hc)).2
theorem four_names {w b c d : Str} {cs : List Nat} {a o : Nat} {x : Nat} (h2 : 2 ≤ cs.length) (h7 : cs.length ≤ 7) (hcs : ∀ c ∈ cs, c ∈ L16) (ha : a < cs.length) (hx : cs[a]? = some x) (ho : o ∈ L16) (ne : o ≠ x)
    (ew : w.cps.toList = cs) (eb : b.cps.toList = cs.take a ++ [o] ++ cs.drop (a + 1)) (ec : c.cps.toList = cs ++ [o]) (ed : d.cps.toList = cs.dropLast) : Names [w, b, c, d] := by
  have lb : b.cps.toList.length = cs.length := by
    rw [eb, List.length_append, List.length_append, List.length_take, List.length_drop]
    show _ + 1 + _ = _
    omega
  have lc : c.cps.toList.length = cs.length + 1 := by rw [ec, List.length_append]; rfl
  have ld : d.cps.toList.length = cs.length - 1 := by rw [ed, List.length_dropLast]
  have wb : w ≠ b := fun e => by
    have e2 : cs = cs.take a ++ [o] ++ cs.drop (a + 1) := by rw [← eb, ← e, ew]
    have e3 : cs[a]? = some o := by
      have lt : (cs.take a).length = a := by rw [List.length_take]; omega
      rw [e2, List.append_assoc, List.getElem?_append_right (by rw [lt]; exact Nat.le_refl _), lt, Nat.sub_self]
      rfl
    rw [hx] at e3
    exact ne (Option.some.inj e3).symm
  have lw : w.cps.toList.length = cs.length := by rw [ew]
  refine ⟨?_, fun s hs => ?_⟩
  · simp only [List.nodup_cons, List.mem_cons, List.not_mem_nil, or_false, not_or, List.nodup_nil, and_true, not_false_eq_true]
    refine ⟨⟨wb, fun e => ?_, fun e => ?_⟩, ⟨fun e => ?_, fun e => ?_⟩, fun e => ?_⟩
    · rw [e] at lw; omega
    · rw [e] at lw; omega
    · rw [e] at lb; omega
    · rw [e] at lb; omega
    · rw [e] at lc; omega
  · simp only [List.mem_cons, List.not_mem_nil, or_false] at hs
    rcases hs with rfl | rfl | rfl | rfl
    · exact name_of ew (by omega) (by omega) hcs
    · refine name_of eb (by rw [← eb, lb]; omega) (by rw [← eb, lb]; omega) fun x hx => ?_
      rcases List.mem_append.mp hx with hx | hx
      · rcases List.mem_append.mp hx with hx | hx
        · exact hcs x (List.mem_of_mem_take hx)
        · have : x = o := by simpa using hx
          subst this
          exact ho
      · exact hcs x (List.mem_of_mem_drop hx)
    · refine name_of ec (by rw [← ec, lc]; omega) (by rw [← ec, lc]; omega) fun x hx => ?_
      rcases List.mem_append.mp hx with hx | hx
      · exact hcs x hx
      · have : x = o := by simpa using hx
        subst this
        exact ho
    · exact name_of ed (by rw [← ed, ld]; omega) (by rw [← ed, ld]; omega) fun x hx => hcs x (List.mem_of_mem_take (by rw [List.dropLast_eq_take] at hx; exact hx))
theorem rows_names : ∀ {rows : List D}, rows.all isRow = true → ∃ ns : List Str, ns.length = rows.length ∧ rows.map nameOf = ns ∧ (∀ n ∈ ns, isNameS n = true) ∧ ∀ r ∈ rows, ∃ ps, r = .tup [.str (nameOf r), .tup ps] := fun {rows} h => by
  refine ⟨_, List.length_map _, rfl, fun n hn => ?_, fun r hr => ?_⟩
  · obtain ⟨r, hr, rfl⟩ := List.mem_map.mp hn
    obtain ⟨n, ps, rfl, e⟩ := row_form (List.all_eq_true.mp h r hr)
    exact e
  · obtain ⟨n, ps, rfl, e⟩ := row_form (List.all_eq_true.mp h r hr)
    exact ⟨ps, rfl⟩
theorem rises_iff : ∀ (a : Str) (rows : List D), rows.all isRow = true → (rises a rows = true ↔ (a :: rows.map nameOf).Pairwise fun a b => ltS a b = true)
  | a, [], _ => by simp [rises]
  | a, r :: rows, h => by
    rw [List.all_cons, Bool.and_eq_true] at h
    unfold rises
    rw [h.1, Bool.true_and, Bool.and_eq_true, rises_iff (nameOf r) rows h.2, List.map_cons]
    constructor
    · rintro ⟨h1, h2⟩
      refine List.pairwise_cons.mpr ⟨fun x hx => ?_, h2⟩
      rcases List.mem_cons.mp hx with rfl | hx
      · exact h1
      · exact ltS_trans h1 ((List.pairwise_cons.mp h2).1 x hx)
    · intro h
      obtain ⟨h1, h2⟩ := List.pairwise_cons.mp h
      exact ⟨h1 _ List.mem_cons_self, h2⟩
theorem rises_all : ∀ (a : Str) (rows : List D), rises a rows = true → rows.all isRow = true
  | _, [], _ => rfl
  | a, r :: rows, h => by
    unfold rises at h
    rw [Bool.and_eq_true, Bool.and_eq_true] at h
    rw [List.all_cons, h.1.1, rises_all _ rows h.2]
    rfl
theorem ltS_empty {n : Str} (h : isNameS n = true) : ltS "" n = true := by
  unfold isNameS at h
  rw [Bool.and_eq_true, Bool.and_eq_true, decide_eq_true_eq] at h
  have h1 := h.1.1
  unfold ltS
  have e : ("" : Str).cps.toList = [] := by decide
  rw [e]
  have h2 : 1 ≤ n.cps.toList.length := by rw [Array.length_toList]; exact h1
  cases q : n.cps.toList with
  | nil => rw [q] at h2; exact absurd h2 (by decide)
  | cons c cs => exact decide_eq_true (List.nil_lt_cons _ _)
theorem rises_sorted {rows : List D} (h : rows.all isRow = true) : rises "" rows = (decide ((rows.map nameOf).mergeSort leS = rows.map nameOf) && decide ((dedK ((rows.map nameOf).map Sum.inr)).length = (rows.map nameOf).length)) := by
  obtain ⟨ns, _, e, hn, _⟩ := rows_names h
  rw [Bool.eq_iff_iff, rises_iff "" rows h, Bool.and_eq_true, decide_eq_true_eq, decide_eq_true_eq, e, sort_fix]
  have l : ((ns.map (Sum.inr : Str → Key))).length = ns.length := List.length_map _
  rw [← l, dedK_len_iff, nodup_keys, ← rising_iff, List.pairwise_cons]
  exact ⟨fun h => h.2, fun h => ⟨fun n z => ltS_empty (hn n z), h⟩⟩
theorem strs_py (ns : List Str) : D.pys (ns.map D.str) = some (ns.map PyData.str) := by
  induction ns with
  | nil => rfl
  | cons n ns ih =>
    rw [List.map_cons]
    unfold D.pys
    rw [ih]
    rfl
theorem strs_sortOk (ns : List Str) : sortOk (ns.map PyData.str) = true := by
  unfold sortOk
  rw [Bool.and_eq_true, Bool.and_eq_true, Bool.or_eq_true, List.all_eq_true, List.all_eq_true]
  refine ⟨⟨fun p hp => ?_, fun p hp => ?_⟩, .inr ?_⟩
  · obtain ⟨n, _, rfl⟩ := List.mem_map.mp hp
    rw [List.all_eq_true]
    intro q hq
    obtain ⟨k, _, rfl⟩ := List.mem_map.mp hq
    rfl
  · obtain ⟨n, _, rfl⟩ := List.mem_map.mp hp
    rfl
  · rw [List.all_eq_true]
    intro q hq
    obtain ⟨k, _, rfl⟩ := List.mem_map.mp hq
    rfl
theorem strs_nob (ns : List Str) : NoBs (ns.map PyData.str) = true := by
  induction ns with
  | nil => rfl
  | cons n ns ih => exact ih
theorem eqD_strs (ns ks : List Str) : eqD (.lst (ns.map D.str)) (.lst (ks.map D.str)) = decide (ns = ks) := by
  have nb : ∀ l : List Str, nob (.lst (l.map D.str)) = true := fun l => by
    unfold nob D.py
    rw [strs_py]
    exact strs_nob l
  rw [Bool.eq_iff_iff, eqD_iff (nb ns) (nb ks), decide_eq_true_eq]
  constructor
  · intro h
    have h := D.lst.inj h
    exact (List.map_inj_right fun a b e => D.str.inj e).mp h
  · intro h
    rw [h]
theorem name_ok {n : Str} (h : isNameS n = true) : PyData.strOk n = true := by
  unfold isNameS at h
  rw [Bool.and_eq_true] at h
  show n.cps.all (· < 0x110000) = true
  rw [← Array.all_toList, List.all_eq_true]
  intro c hc
  have h1 := of_decide_eq_true (List.all_eq_true.mp h.2 c hc)
  exact decide_eq_true (of_decide_eq_true (List.all_eq_true.mp (show letters.all (fun c => decide (c < 0x110000)) = true by decide +kernel) c h1))
theorem strs_can {ns : List Str} (h : ∀ n ∈ ns, PyData.strOk n = true) : canD (.lst (ns.map D.str)) = true := by
  have e : (D.lst (ns.map D.str)).py = some (.list (ns.map PyData.str)) := by
    unfold D.py
    rw [strs_py]
    rfl
  unfold canD
  rw [e]
  have h1 : PyData.canLayAll0 (ns.map PyData.str) = true := by
    induction ns with
    | nil => rfl
    | cons n ns ih =>
      rw [List.map_cons]
      unfold PyData.canLayAll0
      rw [ih (fun k hk => h k (List.mem_cons_of_mem _ hk)) (by unfold D.py; rw [strs_py]; rfl), Bool.and_true]
      exact h n List.mem_cons_self
  have h2 : PyData.depthAll (ns.map PyData.str) = 0 := by
    clear h h1 e
    induction ns with
    | nil => rfl
    | cons n ns ih =>
      rw [List.map_cons]
      unfold PyData.depthAll
      rw [ih]
      rfl
  show (PyData.canLayAll0 (ns.map PyData.str) && decide (PyData.depthAll (ns.map PyData.str) + 1 ≤ 64)) = true
  rw [h1, h2]
  rfl
def GPort (p : D) : Prop := ∃ a s : Str, p = .tup [.str a, .str s] ∧ isNameS a = true ∧ (s = "+" ∨ s = "-")
def GRow (r : D) : Prop := ∃ (n : Str) (ps : List D), r = .tup [.str n, .tup ps] ∧ isNameS n = true ∧ 1 ≤ ps.length ∧ ps.length ≤ 4 ∧ ∀ p ∈ ps, GPort p
def PyPort (q : PyData) : Prop := ∃ a s : Str, q = .tuple [.str a, .str s]
theorem ports_py : ∀ {ps : List D}, (∀ p ∈ ps, GPort p) → ∃ qs, D.pys ps = some qs ∧ (∀ q ∈ qs, PyPort q) ∧ PyData.depthAll qs ≤ 1
  | [], _ => ⟨[], rfl, fun _ z => absurd z List.not_mem_nil, Nat.zero_le _⟩
  | p :: ps, h => by
    obtain ⟨qs, e, hq, hd⟩ := ports_py (ps := ps) fun p hp => h p (List.mem_cons_of_mem _ hp)
    obtain ⟨a, s, rfl, _⟩ := h p List.mem_cons_self
    refine ⟨.tuple [.str a, .str s] :: qs, ?_, fun q hq' => ?_, ?_⟩
    · unfold D.pys
      rw [e]
      rfl
    · rcases List.mem_cons.mp hq' with rfl | hq'
      · exact ⟨a, s, rfl⟩
      · exact hq q hq'
    · unfold PyData.depthAll
      exact Nat.max_le.mpr ⟨Nat.le_refl _, hd⟩
theorem alike_ports : ∀ {ps qs : List PyData}, (∀ q ∈ ps, PyPort q) → (∀ q ∈ qs, PyPort q) → PySem.W.alikeAll ps qs = true
  | [], _, _, _ => by cases ‹List PyData› <;> rfl
  | _ :: _, [], _, _ => rfl
  | p :: ps, q :: qs, h, h' => by
    obtain ⟨a, s, rfl⟩ := h p List.mem_cons_self
    obtain ⟨b, t, rfl⟩ := h' q List.mem_cons_self
    unfold PySem.W.alikeAll
    rw [alike_ports (fun q hq => h q (List.mem_cons_of_mem _ hq)) fun q hq => h' q (List.mem_cons_of_mem _ hq), Bool.and_true]
    rfl
def PyRow (q : PyData) : Prop := ∃ (n : Str) (qs : List PyData), q = .tuple [.str n, .tuple qs] ∧ (∀ q ∈ qs, PyPort q) ∧ PyData.depthAll qs ≤ 1
theorem row_py {r : D} (h : GRow r) : ∃ q, r.py = some q ∧ ∃ qs, q = .tuple [.str (nameOf r), .tuple qs] ∧ (∀ q ∈ qs, PyPort q) ∧ PyData.depthAll qs ≤ 1 := by
  obtain ⟨n, ps, rfl, _, _, _, hp⟩ := h
  obtain ⟨qs, e, hq, hd⟩ := ports_py hp
  refine ⟨_, ?_, qs, rfl, hq, hd⟩
  simp only [D.py, D.pys, e, Option.map_some]
  rfl
theorem rows_py : ∀ {R : List D}, (∀ r ∈ R, GRow r) → ∃ qs, D.pys R = some qs ∧ ∀ q ∈ qs, PyRow q
  | [], _ => ⟨[], rfl, fun _ z => absurd z List.not_mem_nil⟩
  | r :: R, h => by
    obtain ⟨qs, e, hq⟩ := rows_py (R := R) fun p hp => h p (List.mem_cons_of_mem _ hp)
    obtain ⟨q, e1, ps, e2, hp, hd⟩ := row_py (h r List.mem_cons_self)
    refine ⟨q :: qs, ?_, fun x hx => ?_⟩
    · unfold D.pys
      rw [e, e1]
    · rcases List.mem_cons.mp hx with rfl | hx
      · exact ⟨_, ps, e2, hp, hd⟩
      · exact hq x hx
theorem alike_rows {p q : PyData} (h : PyRow p) (h' : PyRow q) : PySem.W.alike p q = true := by
  obtain ⟨n, ps, rfl, hp, _⟩ := h
  obtain ⟨k, qs, rfl, hq, _⟩ := h'
  show (true && (PySem.W.alikeAll ps qs && true)) = true
  rw [alike_ports hp hq]
  rfl
theorem rows_ok {qs : List PyData} (h : ∀ q ∈ qs, PyRow q) : sortOk qs = true := by
  unfold sortOk
  rw [Bool.and_eq_true, Bool.and_eq_true, Bool.or_eq_true, List.all_eq_true, List.all_eq_true]
  refine ⟨⟨fun p hp => ?_, fun p hp => ?_⟩, .inl ?_⟩
  · rw [List.all_eq_true]
    exact fun q hq => alike_rows (h p hp) (h q hq)
  · obtain ⟨n, ps, rfl, _, hd⟩ := h p hp
    refine decide_eq_true ?_
    show max 0 (max (PyData.depthAll ps + 1) 0) + 1 ≤ 60
    omega
  · rw [List.all_eq_true]
    intro q hq
    obtain ⟨n, ps, rfl, _⟩ := h q hq
    rfl
theorem ltD_rows {r r' : D} (h : GRow r) (h' : GRow r') (ne : nameOf r ≠ nameOf r') : ltD r r' = ltS (nameOf r) (nameOf r') := by
  obtain ⟨q, e, qs, rfl, hq, _⟩ := row_py h
  obtain ⟨q', e', qs', rfl, hq', _⟩ := row_py h'
  unfold ltD
  rw [e, e']
  show PySem.W.dataLt _ _ = _
  have al : PySem.W.alike (PyData.tuple qs) (.tuple qs') = true := alike_ports hq hq'
  rw [PySem.W.dataLt_pair rfl al]
  have ev : ¬ PyData.eqv (.str (nameOf r)) (.str (nameOf r')) = true := fun z => ne (by
    have z : (nameOf r == nameOf r') = true := z
    exact eq_of_beq z)
  rw [if_neg ev]
  exact PySem.W.dataLt_str _ _
theorem ltD_self {r : D} : ltD r r = false := by
  unfold ltD
  cases r.py with
  | none => rfl
  | some p => exact PySem.W.dataLt_self p
theorem sort_rows {R : List D} (h : ∀ r ∈ R, GRow r) (nd : (R.map nameOf).Nodup) : (sortD R).map nameOf = (R.map nameOf).mergeSort leS := by
  unfold sortD
  refine List.map_mergeSort fun a ha b hb => ?_
  unfold leD
  by_cases e : nameOf b = nameOf a
  · have eab : a = b := by
      obtain ⟨i, hi, rfl⟩ := List.getElem_of_mem ha
      obtain ⟨j, hj, rfl⟩ := List.getElem_of_mem hb
      have : i = j := nodup_ix nd (by rw [List.length_map]; exact hi) (by rw [List.length_map]; exact hj) (by rw [List.getElem_map, List.getElem_map]; exact e.symm)
      subst this
      rfl
    subst eab
    rw [ltD_self, leS_not, ltS_irr]
  · rw [ltD_rows (h b hb) (h a ha) e, leS_not]
theorem grow_row {r : D} (h : GRow r) : isRow r = true := by
  obtain ⟨n, ps, rfl, hn, l1, l4, hp⟩ := h
  show (isNameS n && (decide (1 ≤ ps.length) && decide (ps.length ≤ 4) && ps.all isSpec)) = true
  rw [hn, decide_eq_true l1, decide_eq_true l4, Bool.true_and, Bool.true_and, Bool.true_and, List.all_eq_true]
  intro p hm
  obtain ⟨a, s, rfl, ha, hs⟩ := hp p hm
  show (isNameS a && (decide (s = "+") || decide (s = "-"))) = true
  rw [ha]
  rcases hs with rfl | rfl <;> decide +kernel
theorem sort_rises {R : List D} (h : ∀ r ∈ R, GRow r) (nd : (R.map nameOf).Nodup) : rises "" (sortD R) = true := by
  have mem : ∀ r ∈ sortD R, GRow r := fun r hr => h r ((List.mergeSort_perm R leD).mem_iff.mp hr)
  have all : (sortD R).all isRow = true := List.all_eq_true.mpr fun r hr => grow_row (mem r hr)
  rw [rises_sorted all, sort_rows h nd, Bool.and_eq_true, decide_eq_true_eq, decide_eq_true_eq]
  have p := List.mergeSort_perm (R.map nameOf) leS
  refine ⟨sort_fix.mpr (List.pairwise_mergeSort leS_trans leS_total _), ?_⟩
  have l : (((R.map nameOf).mergeSort leS).map (Sum.inr : Str → Key)).length = ((R.map nameOf).mergeSort leS).length := List.length_map _
  rw [← l, dedK_len_iff, nodup_keys]
  exact p.nodup_iff.mpr nd
def pool : List Str := ["a", "add", "adder", "cut", "ring", "outer", "rule", "abcdefgh"]
def poolAt (st : Nat) (k : Nat) : Str := pool.getD ((st + 3 * k) % 8) ""
theorem pool_names : ∀ st, st < 8 → Names ((List.range 4).map (poolAt st)) := fun st h => by
  have := List.all_eq_true.mp (show (List.range 8).all (fun st => decide (((List.range 4).map (poolAt st)).Nodup) && ((List.range 4).map (poolAt st)).all (fun s => isNameS s && smB 0 (.str s))) = true by decide +kernel) st (List.mem_range.mpr h)
  rw [Bool.and_eq_true, decide_eq_true_eq, List.all_eq_true] at this
  refine ⟨this.1, fun s hs => ?_⟩
  have h2 := this.2 s hs
  rw [Bool.and_eq_true] at h2
  exact ⟨h2.1, Sm.of h2.2⟩
theorem sm_two {n : Nat} {a b : D} (ha : Sm n a) (hb : Sm n b) : Sm (n + 1) (.tup [a, b]) := ⟨by simp, fun d hd => by
  simp at hd
  rcases hd with rfl | rfl
  · exact ha
  · exact hb⟩
theorem sm_one {n : Nat} {a : D} (ha : Sm n a) : Sm (n + 1) (.tup [a]) := ⟨by simp, fun d hd => by
  simp at hd
  subst hd
  exact ha⟩
theorem sm_lst2 {n : Nat} {a b : D} (ha : Sm n a) (hb : Sm n b) : Sm (n + 1) (.lst [a, b]) := ⟨by simp, fun d hd => by
  simp at hd
  rcases hd with rfl | rfl
  · exact ha
  · exact hb⟩
theorem sm_tup {n : Nat} {ds : List D} (hl : ds.length ≤ 1000) (h : ∀ d ∈ ds, Sm n d) : Sm (n + 1) (.tup ds) := ⟨hl, h⟩
theorem name_sm {n : Str} (h : isNameS n = true) : Sm 0 (.str n) := by
  refine ⟨?_, name_ok h⟩
  unfold isNameS at h
  rw [Bool.and_eq_true, Bool.and_eq_true, decide_eq_true_eq, decide_eq_true_eq] at h
  have := h.1.2
  omega
theorem grow_sm {r : D} (h : GRow r) : Sm 3 r := by
  obtain ⟨n, ps, rfl, hn, _, l4, hp⟩ := h
  refine sm_two ((name_sm hn).mono (by decide)) (sm_tup (by omega) fun p hm => ?_)
  obtain ⟨a, s, rfl, ha, hs⟩ := hp p hm
  refine sm_two (name_sm ha) ?_
  rcases hs with rfl | rfl
  · exact Sm.of (by decide +kernel)
  · exact Sm.of (by decide +kernel)
def Pair (d : D) : Prop := ∃ a b : Str, d = .tup [.str a, .str b] ∧ Sm 0 (.str a) ∧ Sm 0 (.str b)
def Row (d : D) : Prop := ∃ (n : Str) (ps : List D), d = .tup [.str n, .tup ps] ∧ Sm 0 (.str n) ∧ 1 ≤ ps.length ∧ ps.length ≤ 4 ∧ ∀ p ∈ ps, Pair p
theorem pair_sm {p : D} (h : Pair p) : Sm 1 p := by
  obtain ⟨a, b, rfl, ha, hb⟩ := h
  exact sm_two ha hb
theorem cut_mem {ds : List D} {lo hi : Option Int} {d : D} (h : d ∈ cutD ds lo hi) : d ∈ ds := List.mem_of_mem_drop (List.mem_of_mem_take h)
theorem cut_len (ds : List D) (lo hi : Option Int) : (cutD ds lo hi).length ≤ ds.length := by
  unfold cutD
  rw [List.length_take, List.length_drop]
  omega
theorem rep_mem {ds : List D} {k : Int} {d : D} (h : d ∈ repD ds k) : d ∈ ds := by
  unfold repD at h
  obtain ⟨l, hl, hd⟩ := List.mem_flatten.mp h
  rw [(List.mem_replicate.mp hl).2] at hd
  exact hd
theorem rep_len (ds : List D) (k : Int) : (repD ds k).length = k.toNat * ds.length := by
  unfold repD
  exact len_rep _ _
theorem cut1_len {ds : List D} (h : 1 ≤ ds.length) : (cutD ds none (some 1)).length = 1 := by
  cases ds with
  | nil => exact absurd h (by decide)
  | cons d ds =>
    unfold cutD HT.sIx
    simp
def Stk (d : D) : Prop := ∃ rows, d = .tup rows ∧ 1 ≤ rows.length ∧ rows.length ≤ 4 ∧ ∀ r ∈ rows, Row r
theorem row_sm {r : D} (h : Row r) : Sm 3 r := by
  obtain ⟨n, ps, rfl, hn, _, l4, hp⟩ := h
  exact sm_two (hn.mono (by decide)) (sm_tup (by omega) fun d hd => pair_sm (hp d hd))
theorem gport_pair {p : D} (h : GPort p) : Pair p := by
  obtain ⟨a, s, rfl, ha, hs⟩ := h
  refine ⟨a, s, rfl, name_sm ha, ?_⟩
  rcases hs with rfl | rfl
  · exact Sm.of (by decide +kernel)
  · exact Sm.of (by decide +kernel)
theorem grow_Row {r : D} (h : GRow r) : Row r := by
  obtain ⟨n, ps, rfl, hn, l1, l4, hp⟩ := h
  exact ⟨n, ps, rfl, name_sm hn, l1, l4, fun p hm => gport_pair (hp p hm)⟩
end VW

set_option Elab.async false
set_option linter.all false
set_option maxRecDepth 100000
namespace VW
open PySem PySem.Spec PyProof.Rows L2 R
theorem r_take {h m : Int} (h0 : 0 < m) (h1 : m < 1073741824) : n_l_take [.int h] (.int m) = .ok (.int (h % m), [.int (h / m)]) := by
  simp [n_l_take, nMod_ii h0, nDiv_ii h0 h1]
theorem r_digits {ns : List Int} {k : Int} (hk : 0 ≤ k) : ∃ h, n_l_digits (.scr ns) (.int k) = .ok [.int h] := by
  unfold n_l_digits
  simp only [nLen_scr, ok_bind, nOrd_ii, od_lt]
  have key : ∀ c : Int, ∃ h, (R.bind (nPow (.int 10) (.int 18)) fun t_5 => R.bind (nOrd .ge (.int c) t_5) fun t_6 =>
      if t_6 = true then R.bind (nPow (.int 10) (.int 18)) fun t_7 => R.bind (nSub (.int c) t_7) fun t_8 => .ok [t_8]
      else R.bind (nMul (.int c) (.int 48271)) fun t_9 => R.bind (nMul (.int 7919) (.int k)) fun t_10 => R.bind (nAdd t_9.d t_10.d) fun t_11 => R.bind (nAdd t_11.d (.int 11)) fun t_12 => R.bind (nMod t_12.d (.int 2147483647)) fun t_13 =>
        R.bind (nR1 (.int 12)) fun ds_1 => R.bind (R.forS n_l_digits_b1 ds_1 (.fz (.int 0), t_13)) fun s_2 => .ok [s_2.1.d]) = .ok [.int h] := fun c => by
    have e10 : nPow (.int 10) (.int 18) = .ok (.int (10 ^ 18)) := nPow_ii ⟨by decide, by decide, by decide⟩
    simp only [e10, ok_bind, nOrd_ii, od_ge, nSub_ii]
    by_cases hc : (10 : Int) ^ 18 ≤ c
    · rw [if_pos (decide_eq_true hc)]
      exact ⟨_, rfl⟩
    · rw [if_neg (by simpa using hc)]
      simp only [nMul_r (i := c) (j := 48271) (by decide) (by decide), nMul_l (i := 7919) (j := k) (by decide) (by decide), ok_bind, nAdd_ii, fz_d, nMod_ii (j := 2147483647) (by decide), nR1_i (i := 12) (by decide) (by decide)]
      obtain ⟨s, e, t, n, rfl, _⟩ := forS_inv (body := n_l_digits_b1) (ds := rngD 0 (12 : Int).toNat) (s := (.fz (.int 0), .int ((c * 48271 + 7919 * k + 11) % 2147483647))) (fun _ s => ∃ t n : Int, s = (.fz (.int t), .int n) ∧ 0 ≤ n ∧ n < 2147483647) 0
        ⟨_, _, rfl, Int.emod_nonneg _ (by decide), Int.emod_lt_of_pos _ (by decide)⟩ fun j d s hd hs => by
          obtain ⟨t, n, rfl, h0, h1⟩ := hs
          obtain ⟨_, rfl⟩ := rngD_at hd
          refine ⟨(.fz (.int (t * 2147483587 + (n * n + 48271 * n + (0 + j)) % 2147483629 * 69621 % 2147483587)), .int ((n * n + 48271 * n + (0 + j)) % 2147483629)), ?_, _, _, rfl, Int.emod_nonneg _ (by decide), Int.lt_trans (Int.emod_lt_of_pos _ (by decide)) (by decide)⟩
          have a0 := Int.emod_nonneg (n * n + 48271 * n + (0 + j)) (b := 2147483629) (by decide)
          have a1 := Int.emod_lt_of_pos (n * n + 48271 * n + (0 + j)) (b := 2147483629) (by decide)
          unfold n_l_digits_b1
          simp only [nMul_r (i := n) (j := n) (by omega) (by omega), nMul_l (i := 48271) (j := n) (by decide) (by decide), ok_bind, nAdd_ii, fz_d, nMod_ii (j := 2147483629) (by decide), nMul_r (j := 2147483587) (by decide) (by decide), nMul_r (j := 69621) (by decide) (by decide), nMod_ii (j := 2147483587) (by decide)]
      rw [e]
      exact ⟨t, rfl⟩
  by_cases hc : k < (ns.length : Int)
  · obtain ⟨c, _, hx⟩ := atI_some hk hc
    rw [decide_eq_true hc]
    simp only [if_true, nIx_scr hx, ok_bind]
    exact key c
  · rw [decide_eq_false hc]
    simp only [Bool.false_eq_true, if_false, ok_bind]
    exact key 0
theorem sm_str {n : Nat} {s : Str} (h : Sm n (.str s)) : s.length ≤ 1000 ∧ PyData.strOk s = true := by cases n <;> exact h
theorem sm_items {n : Nat} {ds : List D} (h : Sm n (.tup ds)) : ds.length ≤ 1000 ∧ ∀ d ∈ ds, Sm n d := by
  cases n with
  | zero => exact h.elim
  | succ n => exact ⟨h.1, fun d hd => (h.2 d hd).mono (Nat.le_succ n)⟩
theorem nIn_sgn (neg : Bool) (c : Nat) (t : Str) : nIn neg (sgn c) (.str t) = .ok (xorB neg (decide (c ∈ t.cps.toList))) := rfl
theorem b_true {b : Bool} (h : b = true) : (!b) = false := by rw [h]; rfl
theorem isi_tup {n : Nat} {ds : List D} (h : Sm n (.tup ds)) : nIsi "tuple" (.tup ds) = .ok true := isi_tuple h
theorem notTup {n : Nat} {d : D} (h : Sm n d) (ht : isTup d = false) : nIsi "tuple" d = .ok false := by rw [isi_tuple h, ht]
theorem r_is_name {n : Nat} {d : D} (hd : Sm n d) : n_is_name d = .ok (isName d) := by
  unfold n_is_name
  rw [isi_str hd]
  cases d with
  | str s =>
    have hl := le_size (sm_str hd).1
    simp only [isStr, ok_bind, Bool.not_true, nLen_str hl, nOrd_ii, od_le, andB_ok, orB_ok, Bool.false_or, nItems_str]
    show _ = R.ok (isNameS s)
    unfold isNameS
    rw [show decide ((1 : Int) ≤ (s.length : Int)) = decide (1 ≤ s.length) by rw [decide_eq_decide]; omega, show decide ((s.length : Int) ≤ 8) = decide (s.length ≤ 8) by rw [decide_eq_decide]; omega]
    cases h : (decide (1 ≤ s.length) && decide (s.length ≤ 8)) with
    | false => rfl
    | true =>
      simp only [Bool.not_true, Bool.false_eq_true, if_false, Bool.true_and]
      rw [forN_all (p := fun d => match d with
        | .str s => s.cps.toList.all fun c => decide (c ∈ letters)
        | _ => false) (r := .ok false)]
      · rw [List.all_map]
        have e : ((fun d => match d with
          | D.str s => s.cps.toList.all fun c => decide (c ∈ letters)
          | _ => false) ∘ sgn) = fun c => decide (c ∈ letters) := by
          funext c
          show ([c].all fun c => decide (c ∈ letters)) = _
          simp
        rw [e]
        cases s.cps.toList.all fun c => decide (c ∈ letters) <;> rfl
      · intro d hd K
        obtain ⟨c, _, rfl⟩ := List.mem_map.mp hd
        unfold n_is_name_b1
        rw [nIn_sgn]
        show (if (xorB true (decide (c ∈ letters))) = true then _ else _) = if ([c].all fun c => decide (c ∈ letters)) = true then _ else _
        by_cases hc : c ∈ letters <;> simp [hc, xorB]
  | _ => first
    | rfl
    | (cases n <;> exact hd.elim)
theorem r_l_name {n : Nat} {d : D} (hd : Sm n d) : n_l_name d = .ok (isName d) := by
  unfold n_l_name
  rw [isi_str hd]
  cases d with
  | str s =>
    have hl := le_size (sm_str hd).1
    simp only [isStr, ok_bind, Bool.not_true, nLen_str hl, nOrd_ii, od_gt, orB_ok, Bool.false_or, nItems_str, nEq_ii, Bool.false_eq_true, if_false]
    show _ = R.ok (isNameS s)
    unfold isNameS
    by_cases h0 : s.length = 0
    · simp [h0]
    by_cases h8 : 8 < s.length
    · rw [if_pos (by simp; omega)]
      simp [show ¬ s.length ≤ 8 by omega]
    rw [if_neg (by simp; omega)]
    simp only [show 1 ≤ s.length by omega, show s.length ≤ 8 by omega, decide_true, Bool.true_and]
    have hsz : (s.cps.toList.map sgn).length ≤ sizeLine := by
      rw [List.length_map, Array.length_toList]
      exact hl
    rw [lcF_map (g := fun d => match d with
      | .str s => if s.cps.toList.all (fun c => decide (c ∈ letters)) = true then none else some d
      | _ => none) hsz]
    · simp only [ok_bind, nLen_lst, nEq_ii, Bool.false_eq_true, if_false]
      congr 1
      rw [Bool.eq_iff_iff, decide_eq_true_eq, List.all_eq_true]
      rw [show ((0 : Int)) = ((0 : Nat) : Int) from rfl, Int.ofNat_inj, List.length_eq_zero_iff, List.filterMap_eq_nil_iff]
      constructor
      · intro h c hc
        have z := h _ (List.mem_map_of_mem hc)
        have z : (if [c].all (fun c => decide (c ∈ letters)) = true then none else some (sgn c)) = none := z
        by_cases hc : c ∈ letters
        · exact decide_eq_true hc
        · simp [hc] at z
      · intro h d hd
        obtain ⟨c, hc, rfl⟩ := List.mem_map.mp hd
        show (if [c].all (fun c => decide (c ∈ letters)) = true then none else some (sgn c)) = none
        have := of_decide_eq_true (h c hc)
        simp [this]
    · intro d hd
      obtain ⟨c, _, rfl⟩ := List.mem_map.mp hd
      rw [nIn_sgn]
      show (if (xorB true (decide (c ∈ letters))) = true then (R.ok (some (sgn c)) : R (Option D)) else R.ok none) = R.ok (if [c].all (fun c => decide (c ∈ letters)) = true then none else some (sgn c))
      by_cases hc : c ∈ letters <;> simp [hc, xorB]
  | _ => first
    | rfl
    | (cases n <;> exact hd.elim)
theorem r_is_spec {n : Nat} {d : D} (hd : Sm n d) : n_is_spec d = .ok (isSpec d) := by
  unfold n_is_spec
  rw [isi_tuple hd]
  cases d with
  | tup ds =>
    obtain ⟨hl, hi⟩ := sm_items hd
    match ds, hl, hi with
    | [], _, _ => rfl
    | [_], _, _ => rfl
    | _ :: _ :: _ :: l, _, _ =>
      have e : decide (((l.length + 1 + 1 + 1 : Nat) : Int) = 2) = false := decide_eq_false (by omega)
      simp only [isTup, ok_bind, Bool.not_true, nLen_tup, nN_ii, List.length_cons, e]
      rfl
    | [a, b], _, hi =>
      have ha := hi a (by simp)
      have hb := hi b (by simp)
      simp only [isTup, ok_bind, Bool.not_true, nLen_tup, nN_ii, nIx_t0, nIx_t1, r_is_name ha, isi_str hb, orB_ok]
      show _ = R.ok (isName a && isSide b)
      cases hn : isName a with
      | false => rfl
      | true =>
        cases b with
        | str s =>
          have e : nIn false (.str s) (.tup [.str "+", .str "-"]) = .ok (isSide (.str s)) := by
            show R.ok (xorB false (inV (V.str s) [V.str "+", V.str "-"])) = _
            rw [side_in]
          simp [isStr, e]
        | _ => first
          | rfl
          | (cases n <;> exact hb.elim)
  | _ => first
    | rfl
    | (cases n <;> exact hd.elim)
theorem r_l_spec {n : Nat} {d : D} (hn : n ≤ 60) (hd : Sm n d) : n_l_spec d = .ok (isSpec d) := by
  unfold n_l_spec
  rw [isi_tuple hd]
  cases d with
  | tup ds =>
    obtain ⟨hl, hi⟩ := sm_items hd
    match ds, hl, hi with
    | [], _, _ => rfl
    | [_], _, _ => rfl
    | _ :: _ :: _ :: l, _, _ =>
      have e : decide (((l.length + 1 + 1 + 1 : Nat) : Int) = 2) = false := decide_eq_false (by omega)
      simp only [isTup, ok_bind, Bool.not_true, nLen_tup, nN_ii, List.length_cons, e]
      rfl
    | [a, b], _, hi =>
      have ha := hi a (by simp)
      have hb := hi b (by simp)
      have e1 : nEq false b (.str "+") = .ok (eqD b (.str "+")) := nEq_of (hb.eqOk (k := 0) (Sm.of (by decide +kernel)) hn (by decide))
      have e2 : nEq false b (.str "-") = .ok (eqD b (.str "-")) := nEq_of (hb.eqOk (k := 0) (Sm.of (by decide +kernel)) hn (by decide))
      simp only [isTup, ok_bind, Bool.not_true, nLen_tup, nN_ii, nIx_t0, nIx_t1, r_l_name ha, orB_ok, e1, e2, side_eq hb]
      show _ = R.ok (isName a && isSide b)
      cases hn : isName a <;> rfl
  | _ => first
    | rfl
    | (cases n <;> exact hd.elim)
end VW

set_option Elab.async false
set_option linter.all false
set_option maxRecDepth 100000
namespace VW
open PySem PySem.Spec PyProof.Rows L2 R
theorem nAll_map (p : D → Bool) (ds : List D) : nAll (.lst (ds.map fun d => .bl (p d))) = .ok (ds.all p) := by
  unfold nAll
  simp only [bools_map, ofO, ok_bind, all_map]
theorem nSorted_of {ds : List D} {ps : List PyData} (hp : D.pys ds = some ps) (hs : sortOk ps = true) : nSorted (.lst ds) = .ok (sortD ds) := by
  unfold nSorted
  simp only [hp, ofO, ok_bind, hs, need_true]
theorem nLenSet_of {ds : List D} {ks : List Key} (hk : keysK ds = some ks) (hl : ks.length ≤ 4000) : nLenSet (.lst ds) = .ok (.int (dedK ks).length) := by
  unfold nLenSet
  simp only [hk, ofO, ok_bind, need_of (ble_of hl)]
theorem nDict_tup {ds : List D} {kvs : List (Key × D)} (h : pairsK ds = some kvs) : nDict (.tup ds) = .ok (mergeD [] kvs) := by
  unfold nDict
  simp only [h, ofO, ok_bind]
theorem nDict_lst {ds : List D} {kvs : List (Key × D)} (h : pairsK ds = some kvs) : nDict (.lst ds) = .ok (mergeD [] kvs) := by
  unfold nDict
  simp only [h, ofO, ok_bind]
theorem le_nat' (n : Nat) (k : Nat) : decide ((n : Int) ≤ (k : Int)) = decide (n ≤ k) := by rw [decide_eq_decide]; omega
theorem len_le (l k : Nat) (h : k < 100) : decide ((l : Int) ≤ OfNat.ofNat k) = decide (l ≤ k) := by rw [decide_eq_decide]; exact Int.ofNat_le
theorem d14 (l : Nat) : (decide ((1 : Int) ≤ (l : Int)) && decide ((l : Int) ≤ 4)) = (decide (1 ≤ l) && decide (l ≤ 4)) := by
  rw [show decide ((1 : Int) ≤ (l : Int)) = decide (1 ≤ l) by rw [decide_eq_decide]; omega, show decide ((l : Int) ≤ 4) = decide (l ≤ 4) by rw [decide_eq_decide]; omega]
theorem d18 (l : Nat) : (decide ((1 : Int) ≤ (l : Int)) && decide ((l : Int) ≤ 8)) = (decide (1 ≤ l) && decide (l ≤ 8)) := by
  rw [show decide ((1 : Int) ≤ (l : Int)) = decide (1 ≤ l) by rw [decide_eq_decide]; omega, show decide ((l : Int) ≤ 8) = decide (l ≤ 8) by rw [decide_eq_decide]; omega]
theorem r_is_kind_row {n : Nat} {d : D} (hd : Sm n d) : n_is_kind_row d = .ok (isRow d) := by
  unfold n_is_kind_row
  rw [isi_tuple hd]
  cases d with
  | tup ds =>
    obtain ⟨hl, hi⟩ := sm_items hd
    match ds, hl, hi with
    | [], _, _ => rfl
    | [_], _, _ => rfl
    | _ :: _ :: _ :: l, _, _ =>
      have e : decide (((l.length + 1 + 1 + 1 : Nat) : Int) = 2) = false := decide_eq_false (by omega)
      simp only [isTup, ok_bind, Bool.not_true, nLen_tup, nN_ii, List.length_cons, e]
      rfl
    | [a, b], _, hi =>
      have ha := hi a (by simp)
      have hb := hi b (by simp)
      simp only [isTup, ok_bind, Bool.not_true, nLen_tup, nN_ii, nIx_t0, nIx_t1, r_is_name ha, isi_tuple hb, orB_ok]
      show _ = R.ok (isName a && isPorts b)
      cases hn : isName a with
      | false => rfl
      | true =>
        cases b with
        | tup ps =>
          obtain ⟨hpl, hp⟩ := sm_items hb
          have em : lcM (fun d_1 : D => R.bind (n_is_spec d_1) fun t_13 => .ok (.bl t_13)) ps = .ok (ps.map fun d => .bl (isSpec d)) := lcM_map (le_size hpl) fun d hd => by rw [r_is_spec (hp d hd)]; rfl
          simp only [isTup, nLen_tup, ok_bind, nOrd_ii, od_le, andB_ok, d14, Bool.not_true, orB_ok, nItems_tup, em, nAll_map]
          show _ = R.ok (true && (decide (1 ≤ ps.length) && decide (ps.length ≤ 4) && ps.all isSpec))
          cases (decide (1 ≤ ps.length) && decide (ps.length ≤ 4)) <;> rfl
        | _ => first
          | rfl
          | (cases n <;> exact hb.elim)
  | _ => first
    | rfl
    | (cases n <;> exact hd.elim)
theorem isRow_form {r : D} (h : isRow r = true) : ∃ ps, r = .tup [.str (nameOf r), .tup ps] := by
  obtain ⟨n, ps, rfl, _⟩ := row_form h
  exact ⟨ps, rfl⟩
theorem forN_cons {σ β : Type} {body : D → σ → (σ → R β) → R β} {after : σ → R β} {d : D} {ds : List D} {s : σ} : R.forN body after (d :: ds) s = body d s fun s => R.forN body after ds s := rfl
theorem forS_cons {σ : Type} {body : D → σ → R σ} {d : D} {ds : List D} {s : σ} : R.forS body (d :: ds) s = (body d s).bind fun s => R.forS body ds s := rfl
theorem b_is_stock {n : Nat} {r : D} {a : Str} {K : D → R Bool} (h : Sm n r) : n_is_stock_b1 r (.str a) K = if (isRow r && ltS a (nameOf r)) = true then K (.str (nameOf r)) else .ok false := by
  unfold n_is_stock_b1
  rw [r_is_kind_row h]
  simp only [ok_bind]
  cases hr : isRow r with
  | false => rfl
  | true =>
    obtain ⟨ps, e⟩ := isRow_form hr
    have e0 : nIx r (.int 0) = .ok (.str (nameOf r)) := by rw [e]; exact nIx_t0 _ _
    simp only [e0, ok_bind, Bool.not_true, nOrd_ss, orB_ok, Bool.false_or, Bool.true_and]
    cases ltS a (nameOf r) <;> rfl
theorem g_is_stock : ∀ {rows : List D} {n : Nat} {a : Str}, (∀ r ∈ rows, Sm n r) → R.forN n_is_stock_b1 (fun _ => .ok true) rows (.str a) = .ok (rises a rows)
  | [], _, _, _ => rfl
  | r :: rows, n, a, h => by
    rw [forN_cons, b_is_stock (h r List.mem_cons_self), g_is_stock fun x hx => h x (List.mem_cons_of_mem _ hx)]
    show _ = R.ok (isRow r && ltS a (nameOf r) && rises (nameOf r) rows)
    cases (isRow r && ltS a (nameOf r)) <;> rfl
theorem r_is_stock {n : Nat} {d : D} (hd : Sm n d) : n_is_stock d = .ok (isStock d) := by
  unfold n_is_stock
  rw [isi_tuple hd]
  cases d with
  | tup ds =>
    obtain ⟨hl, hi⟩ := sm_items hd
    simp only [isTup, ok_bind, Bool.not_true, nLen_tup, nOrd_ii, od_le, andB_ok, d18, orB_ok, nItems_tup, g_is_stock hi, Bool.false_or]
    show _ = R.ok (decide (1 ≤ ds.length) && decide (ds.length ≤ 8) && rises "" ds)
    cases (decide (1 ≤ ds.length) && decide (ds.length ≤ 8)) <;> rfl
  | _ => first
    | rfl
    | (cases n <;> exact hd.elim)
theorem b_right {n : Nat} {d : D} (hn : n ≤ 60) (hd : Sm n d) (s : Unit) (K : Unit → R Bool) : n_l_right_b1 d s K = if isRow d = true then K () else .ok false := by
  unfold n_l_right_b1
  rw [isi_tuple hd]
  cases d with
  | tup ds =>
    obtain ⟨hl, hi⟩ := sm_items hd
    match ds, hl, hi with
    | [], _, _ => rfl
    | [_], _, _ => rfl
    | _ :: _ :: _ :: l, _, _ =>
      have e : decide (((l.length + 1 + 1 + 1 : Nat) : Int) = 2) = false := decide_eq_false (by omega)
      simp only [isTup, ok_bind, Bool.not_true, nLen_tup, nN_ii, List.length_cons, e]
      rfl
    | [a, b], _, hi =>
      have ha := hi a (by simp)
      have hb := hi b (by simp)
      simp only [isTup, ok_bind, Bool.not_true, nLen_tup, nN_ii, nIx_t0, nIx_t1, r_l_name ha, isi_tuple hb, orB_ok]
      rw [show isRow (.tup [a, b]) = (isName a && isPorts b) from rfl]
      cases hnm : isName a with
      | false => rfl
      | true =>
        cases b with
        | tup ps =>
          obtain ⟨hpl, hp⟩ := sm_items hb
          have em : lcM (fun d_1 : D => R.bind (n_l_spec d_1) fun t_13 => .ok (.bl t_13)) ps = .ok (ps.map fun d => .bl (isSpec d)) := lcM_map (le_size hpl) fun d hd => by rw [r_l_spec hn (hp d hd)]; rfl
          simp only [isTup, nLen_tup, ok_bind, nOrd_ii, od_le, andB_ok, d14, Bool.not_true, orB_ok, nItems_tup, em, nAll_map]
          rw [show isPorts (.tup ps) = (decide (1 ≤ ps.length) && decide (ps.length ≤ 4) && ps.all isSpec) from rfl]
          cases (decide (1 ≤ ps.length) && decide (ps.length ≤ 4)) <;> cases ps.all isSpec <;> rfl
        | _ => first
          | rfl
          | (cases n <;> exact hb.elim)
  | _ => first
    | rfl
    | (cases n <;> exact hd.elim)
theorem r_l_right {n : Nat} {d : D} (hn : n ≤ 60) (hd : Sm n d) : n_l_right d = .ok (isStock d) := by
  unfold n_l_right
  rw [isi_tuple hd]
  cases d with
  | tup ds =>
    obtain ⟨hl, hi⟩ := sm_items hd
    simp only [isTup, ok_bind, Bool.not_true, nLen_tup, nE_ii, nOrd_ii, od_gt, orB_ok, nItems_tup, Bool.false_or]
    show _ = R.ok (decide (1 ≤ ds.length) && decide (ds.length ≤ 8) && rises "" ds)
    by_cases h0 : ds.length = 0
    · rw [if_pos (by simp [h0])]
      simp [h0]
    by_cases h8 : 8 < ds.length
    · rw [if_pos (by rw [Bool.or_eq_true]; exact .inr (decide_eq_true (by omega)))]
      simp [show ¬ ds.length ≤ 8 by omega]
    rw [if_neg (by rw [decide_eq_false (show ¬ (ds.length : Int) = 0 by omega), decide_eq_false (show ¬ (8 : Int) < ds.length by omega)]; exact Bool.false_ne_true)]
    simp only [show 1 ≤ ds.length by omega, show ds.length ≤ 8 by omega, decide_true, Bool.true_and]
    rw [forN_all (p := isRow) (r := .ok false) fun d hd K => b_right hn (hi d hd) () K]
    cases ha : ds.all isRow with
    | false =>
      rw [if_neg Bool.false_ne_true]
      cases hr : rises "" ds with
      | false => rfl
      | true => rw [rises_all _ _ hr] at ha; cases ha
    | true =>
      rw [if_pos rfl]
      have er := rises_sorted ha
      obtain ⟨ns, nl, en, hns, hf⟩ := rows_names ha
      have em : lcM (fun d_3 : D => nIx d_3 (.int 0)) ds = .ok (ds.map fun r => .str (nameOf r)) := lcM_map (le_size hl) fun r hr => by
        obtain ⟨ps, e⟩ := hf r hr
        rw [e]
        exact nIx_t0 _ _
      have ek : (ds.map fun r => D.str (nameOf r)) = ns.map D.str := by
        rw [← en, List.map_map]
        rfl
      rw [en] at er
      have hst : ∀ n ∈ ns, PyData.strOk n = true := fun n z => name_ok (hns n z)
      have c1 : canD (.lst (ns.map D.str)) = true := strs_can hst
      have c2 : canD (.lst (sortD (ns.map D.str))) = true := by
        rw [sort_strs]
        exact strs_can fun n z => hst n ((List.mergeSort_perm ns leS).mem_iff.mp z)
      simp only [em, ek, ok_bind, nSorted_of (strs_py ns) (strs_sortOk ns), nE_of (eqOk_of c1 c2), nLenSet_of (keysK_strs ns) (by rw [List.length_map]; omega), nLen_lst, nE_ii, andB_ok]
      rw [er, sort_strs, eqD_strs, List.length_map]
      congr 1
      congr 1
      · rw [decide_eq_decide]
        exact eq_comm
      · rw [decide_eq_decide]
        omega
  | _ => first
    | rfl
    | (cases n <;> exact hd.elim)
theorem r_l_told (a b : Bool) : n_l_told (.bl a) (.bl b) = .ok (a == b) := by
  have e : nEq false (.bl a) (.bl b) = .ok (a == b) := (nE_of rfl).trans (by cases a <;> cases b <;> rfl)
  simp [n_l_told, e]
theorem r_mate_of (n s : Str) : n_mate_of (.tup [.str n, .str s]) = .ok (.tup [.str n, .str (mateS s)]) := by
  unfold n_mate_of mateS
  simp only [nIx_t1, nIx_t0, ok_bind, nE_ss]
  by_cases h : s = "+" <;> simp [h]
end VW

set_option Elab.async false
set_option linter.all false
set_option maxRecDepth 100000
namespace VW
open PySem PySem.Spec PyProof.Rows L2 R
theorem d_take (h : Int) {m : Int} (h0 : 0 < m) (h1 : m < 1073741824) : ∃ i h', n_l_take [.int h] (.int m) = .ok (.int i, [.int h']) ∧ 0 ≤ i ∧ i < m :=
  ⟨_, _, r_take h0 h1, Int.emod_nonneg _ (by omega), Int.emod_lt_of_pos _ h0⟩
/-- one of some things -/
theorem ix_of {xs : List D} {i : Int} (h0 : 0 ≤ i) (h1 : i < xs.length) : ∃ x, x ∈ xs ∧ nIx (.lst xs) (.int i) = .ok x := by
  obtain ⟨x, hx, e⟩ := atI_some h0 h1
  exact ⟨x, List.mem_of_getElem? hx, nIx_lst e⟩
theorem ixt_of {xs : List D} {i : Int} (h0 : 0 ≤ i) (h1 : i < xs.length) : ∃ x, xs[i.toNat]? = some x ∧ x ∈ xs ∧ nIx (.tup xs) (.int i) = .ok x := by
  obtain ⟨x, hx, e⟩ := atI_some h0 h1
  exact ⟨x, hx, List.mem_of_getElem? hx, nIx_tup e⟩
theorem strsD_map (ts : List Str) : strsD (ts.map D.str) = some ts := by
  induction ts with
  | nil => rfl
  | cons t ts ih =>
    show (strsD (ts.map D.str)).map (t :: ·) = _
    rw [ih]
    rfl
theorem nJoin_of {s : Str} {ts : List Str} (h : (ts.map (·.length)).sum + ts.length * s.length ≤ 16777216) : nJoin (.str s) (.lst (ts.map D.str)) = .ok (.str (Txt.join s ts)) := by
  unfold nJoin
  simp only [strsD_map, ofO, ok_bind, need_of (ble_of h)]
theorem sgns_eq (cs : List Nat) : cs.map sgn = (cs.map fun c => (⟨#[c]⟩ : Str)).map D.str := by
  rw [List.map_map]
  rfl
theorem nJoin_sgns {cs : List Nat} (h : cs.length ≤ 1000) : ∃ w : Str, nJoin (.str "") (.lst (cs.map sgn)) = .ok (.str w) ∧ w.cps.toList = cs := by
  refine ⟨_, ?_, join_signs cs⟩
  rw [sgns_eq]
  refine nJoin_of ?_
  rw [signs_sum, List.length_map]
  show cs.length + cs.length * 0 ≤ _
  omega
theorem all_sgn {xs : List D} {A : Nat → Prop} (h : ∀ x ∈ xs, ∃ c, x = sgn c ∧ A c) : ∃ cs : List Nat, xs = cs.map sgn ∧ ∀ c ∈ cs, A c := by
  induction xs with
  | nil => exact ⟨[], rfl, fun _ z => absurd z List.not_mem_nil⟩
  | cons x xs ih =>
    obtain ⟨c, rfl, hc⟩ := h x List.mem_cons_self
    obtain ⟨cs, rfl, hcs⟩ := ih fun y hy => h y (List.mem_cons_of_mem _ hy)
    exact ⟨c :: cs, rfl, fun y hy => (List.mem_cons.mp hy).elim (fun e => e ▸ hc) (hcs y)⟩
theorem slen (w : Str) : w.length = w.cps.toList.length := (Array.length_toList).symm
theorem nSIx_of {s t : Str} {i : Nat} {rest : List Nat} (h : Builtin.Str.occurrences s t 0 s.length 1 = i :: rest) : nSIx (.str s) (.str t) = .ok (.int i) := by
  unfold nSIx
  simp only [h]
theorem add_toList (a b : Str) : (a ++ b).cps.toList = a.cps.toList ++ b.cps.toList := by
  show (a.cps ++ b.cps).toList = _
  exact Array.toList_append
theorem d_words (h : Int) {n : Int} (n0 : 0 ≤ n) (n4 : n ≤ 4) : ∃ ns h', n_l_words [.int h] (.int n) = .ok (ns.map D.str, [.int h']) ∧ ns.length = n.toNat ∧ Names ns := by
  unfold n_l_words
  obtain ⟨t, h1, e1, t0, t1⟩ := d_take h (m := 6) (by decide) (by decide)
  simp only [e1, ok_bind, nAdd_ii, fz_d, nR1_i (i := 2 + t) (by omega) (by omega)]
  obtain ⟨xs, s, e2, xl, hx, h2, rfl⟩ := lcS_inv (f := fun (d_2 : D) (s : List D) => R.bind (n_l_take s (.int 16)) fun t_5 => R.bind (nIx (.str "abcdefghijklmnop") t_5.1) fun t_6 => .ok ((t_6, t_5.2)))
    (fun s => ∃ h : Int, s = [.int h]) (fun x => ∃ c, x = sgn c ∧ c ∈ L16) (ds := rngD 0 (2 + t).toNat) (s := [.int h1]) (by rw [rngD_len]; exact le_size (by omega)) ⟨h1, rfl⟩ fun d _ s hs => by
      obtain ⟨g, rfl⟩ := hs
      obtain ⟨i, g', e, i0, i1⟩ := d_take g (m := 16) (by decide) (by decide)
      obtain ⟨c, hc, ec⟩ := atI_some (xs := l16.cps.toList) i0 (by rw [show l16.cps.toList.length = 16 from L16_len]; exact i1)
      refine ⟨sgn c, [.int g'], ?_, ⟨c, rfl, List.mem_of_getElem? hc⟩, g', rfl⟩
      simp only [e, ok_bind, nIx_str (s := "abcdefghijklmnop") ec (by decide)]
  obtain ⟨cs, rfl, hcs⟩ := all_sgn hx
  rw [rngD_len, List.length_map] at xl
  obtain ⟨w, e3, wl⟩ := nJoin_sgns (cs := cs) (by omega)
  have wn : w.length = cs.length := by rw [slen, wl]
  have wz : w.length ≤ sizeLine := le_size (by omega)
  obtain ⟨a, h3, e4, a0, a1⟩ := d_take h2 (m := (w.length : Int)) (by omega) (by omega)
  obtain ⟨c, hc, ec⟩ := atI_some (xs := w.cps.toList) a0 (by rw [← slen]; exact a1)
  have hcL : c ∈ L16 := hcs c (by rw [← wl]; exact List.mem_of_getElem? hc)
  obtain ⟨ix, rest, eo, ix1, ixc⟩ := L16_ix c hcL
  obtain ⟨j, h4, e5, j0, j1⟩ := d_take h3 (m := 15) (by decide) (by decide)
  obtain ⟨o, ho, eo2⟩ := atI_some (xs := l16.cps.toList) (i := ((ix : Int) + 1 + j) % 16) (by omega) (by rw [show l16.cps.toList.length = 16 from L16_len]; omega)
  have hoL : o ∈ L16 := List.mem_of_getElem? ho
  have oc : o ≠ c := fun z => by
    subst z
    have e1 : (((ix : Int) + 1 + j) % 16).toNat = ix := by
      have l1 : (((ix : Int) + 1 + j) % 16).toNat < L16.length := by rw [L16_len]; omega
      have l2 : ix < L16.length := by rw [L16_len]; exact ix1
      have g1 : L16[(((ix : Int) + 1 + j) % 16).toNat] = o := Option.some.inj ((List.getElem?_eq_getElem l1).symm.trans ho)
      have g2 : L16[ix] = o := Option.some.inj ((List.getElem?_eq_getElem l2).symm.trans ixc)
      exact nodup_ix L16_nd l1 l2 (g1.trans g2.symm)
    omega
  have eo' : nSIx (.str "abcdefghijklmnop") (sgn c) = .ok (.int ix) := nSIx_of eo
  obtain ⟨b1, hb1⟩ : ∃ b, b = cutS w none (some a) := ⟨_, rfl⟩
  have b1c : b1.cps.toList = cs.take a.toNat := by rw [hb1, cut_to a0, wl]
  obtain ⟨b2, hb2⟩ : ∃ b, b = cutS w (some (a + 1)) none := ⟨_, rfl⟩
  have b2c : b2.cps.toList = cs.drop (a + 1).toNat := by rw [hb2, cut_from (by omega), wl]
  obtain ⟨d1, hd1⟩ : ∃ b, b = cutS w none (some (-1)) := ⟨_, rfl⟩
  have d1c : d1.cps.toList = cs.dropLast := by rw [hd1, cut_last, wl]
  have b1l : b1.length ≤ cs.length := by rw [slen, b1c, List.length_take]; omega
  have b2l : b2.length ≤ cs.length := by rw [slen, b2c, List.length_drop]; omega
  have e6 : nAdd (.str b1) (sgn o) = .ok (.fz (.str (b1 ++ ⟨#[o]⟩))) := nAdd_ss (by show b1.length + 1 ≤ _; exact le_size (by omega))
  have l6 : (b1 ++ (⟨#[o]⟩ : Str)).length = b1.length + 1 := by rw [slen, add_toList, List.length_append, ← slen]; rfl
  have e7 : nAdd (.str (b1 ++ ⟨#[o]⟩)) (.str b2) = .ok (.fz (.str (b1 ++ ⟨#[o]⟩ ++ b2))) := nAdd_ss (by rw [l6]; exact le_size (by omega))
  have e8 : nAdd (.str w) (sgn o) = .ok (.fz (.str (w ++ ⟨#[o]⟩))) := nAdd_ss (by show w.length + 1 ≤ _; exact le_size (by omega))
  obtain ⟨st, h5, e9, s0, s1⟩ := d_take h4 (m := 4) (by decide) (by decide)
  have nm : Names [w, b1 ++ ⟨#[o]⟩ ++ b2, w ++ ⟨#[o]⟩, d1] := four_names (a := a.toNat) (x := c) (o := o) (by omega) (by omega) hcs (by omega) (by rw [← wl]; exact hc) hoL oc wl
    (by rw [add_toList, add_toList, b1c, b2c, show (a + 1).toNat = a.toNat + 1 by omega]) (by rw [add_toList, wl]) d1c
  obtain ⟨S, hS⟩ : ∃ S, S = [w, b1 ++ ⟨#[o]⟩ ++ b2, w ++ ⟨#[o]⟩, d1] := ⟨_, rfl⟩
  have em : lcM (fun d_3 : D => R.bind (nAdd (.int st) d_3) fun t_26 => R.bind (nMod t_26.d (.int 4)) fun t_27 => nIx (.lst [.str w, .str (b1 ++ ⟨#[o]⟩ ++ b2), .str (w ++ ⟨#[o]⟩), .str d1]) t_27) (rngD 0 n.toNat) =
      .ok ((rngD 0 n.toNat).map fun d => match d with
        | .int k => .str (pick S st k.toNat)
        | _ => .non) := by
    refine lcM_map (by rw [rngD_len]; exact le_size (by omega)) fun d hd => ?_
    obtain ⟨k, hk, rfl⟩ := rngD_mem hd
    simp only [nAdd_ii, ok_bind, fz_d, nMod_ii (j := 4) (by decide), Int.zero_add]
    have := pick_at (S := S) (by rw [hS]; rfl) st k
    rw [hS] at this
    rw [Int.toNat_natCast, hS]
    exact nIx_lst this
  refine ⟨(List.range n.toNat).map (pick S st), h5, ?_, by rw [List.length_map, List.length_range], pick_names (by rw [hS]; rfl) (hS ▸ nm) (by omega)⟩
  have e9' : nSl (.str w) none (some a) = .ok (.fz (.str b1)) := by rw [nSl_str wz, hb1]
  have e10 : nSl (.str w) (some (a + 1)) none = .ok (.fz (.str b2)) := by rw [nSl_str wz, hb2]
  have e11 : nSl (.str w) none (some (-1)) = .ok (.fz (.str d1)) := by rw [nSl_str wz, hd1]
  simp only [e2, ok_bind, e3, nLen_str wz, e4, nIx_str ec wz, eo', nAdd_ii, fz_d, e5, nMod_ii (j := 16) (by decide), nIx_str (s := "abcdefghijklmnop") eo2 (by decide), nInt_i, e9', e6, e10, e7, e8, nNeg_i, e11, e9, nR1_i n0 (by omega), em]
  congr 2
  rw [rngD_0, List.map_map, List.map_map]
  rfl
end VW

set_option Elab.async false
set_option linter.all false
set_option maxRecDepth 100000
namespace VW
open PySem PySem.Spec PyProof.Rows L2 R
theorem str_at {ns : List Str} {k : Nat} (h : k < ns.length) : nIx (.lst (ns.map D.str)) (.int k) = .ok (.str ns[k]) := by
  refine nIx_lst (atI_nat ?_)
  rw [List.getElem?_map, List.getElem?_eq_getElem h]
  rfl
theorem str_some {ns : List Str} {i : Int} (h0 : 0 ≤ i) (h1 : i < ns.length) : ∃ s, s ∈ ns ∧ nIx (.lst (ns.map D.str)) (.int i) = .ok (.str s) := by
  obtain ⟨x, hx, e⟩ := ix_of (xs := ns.map D.str) h0 (by rw [List.length_map]; exact h1)
  obtain ⟨s, hs, rfl⟩ := List.mem_map.mp hx
  exact ⟨s, hs, e⟩
theorem plus_at {i : Int} (h0 : 0 ≤ i) (h1 : i < 2) : ∃ s : Str, (s = "+" ∨ s = "-") ∧ nIx (.str "+-") (.int i) = .ok (.str s) := by
  rcases (show i = 0 ∨ i = 1 by omega) with rfl | rfl
  · exact ⟨"+", .inl rfl, nIx_str (c := 43) (by decide) (by decide)⟩
  · exact ⟨"-", .inr rfl, nIx_str (c := 45) (by decide) (by decide)⟩
/-- the ports of a row -/
theorem d_ports {T : List Str} (h : Int) {x : List D} (T1 : 1 ≤ T.length) (T3 : T.length ≤ 4) (nT : Names T) (n : Nat) (hn : n ≤ 4) : ∃ h' ps, R.forS (n_l_stock_b4 (T.map D.str, x)) (rngD 0 n) ([.int h], []) = .ok ([.int h'], ps) ∧ ps.length = n ∧ ∀ p ∈ ps, GPort p := by
  obtain ⟨s, e, h', ps, rfl, hl, hp⟩ := forS_inv (body := n_l_stock_b4 (T.map D.str, x)) (ds := rngD 0 n) (s := ([.int h], [])) (fun k s => ∃ (h : Int) (ps : List D), s = ([.int h], ps) ∧ ps.length = k ∧ ∀ p ∈ ps, GPort p) 0 ⟨h, [], rfl, rfl, fun _ z => absurd z List.not_mem_nil⟩ fun j d s hd hs => by
    obtain ⟨h, ps, rfl, hl, hp⟩ := hs
    obtain ⟨hj, rfl⟩ := rngD_at hd
    obtain ⟨a, h1, e1, a0, a1⟩ := d_take h (m := (T.length : Int)) (by omega) (by omega)
    obtain ⟨t, ht, e2⟩ := str_some (ns := T) a0 a1
    obtain ⟨b, h2, e3, b0, b1⟩ := d_take h1 (m := 2) (by decide) (by decide)
    obtain ⟨sd, hsd, e4⟩ := plus_at b0 b1
    refine ⟨([.int h2], ps ++ [.tup [.str t, .str sd]]), ?_, h2, _, rfl, by rw [List.length_append, hl]; rfl, fun p hm => ?_⟩
    · unfold n_l_stock_b4
      simp only [nLen_lst, List.length_map, ok_bind, e1, e2, e3, e4, nApp_of (show ps.length < 16777216 by omega)]
    · rcases List.mem_append.mp hm with hm | hm
      · exact hp p hm
      · have : p = .tup [.str t, .str sd] := by simpa using hm
        subst this
        exact ⟨t, sd, rfl, (nT.2 t ht).1, hsd⟩
  rw [rngD_len, Nat.zero_add] at hl
  exact ⟨h', ps, e, hl, hp⟩
theorem eq_nil (R : List D) (hR : ∀ r ∈ R, GRow r) (h4 : R.length ≤ 4) : nEq true (.lst R) (.lst ([] : List D)) = .ok (!R.isEmpty) := by
  obtain ⟨qs, e, hq⟩ := rows_py hR
  have c1 : canD (.lst R) = true := by
    have : Sm 4 (.lst R) := ⟨by omega, fun r hr => grow_sm (hR r hr)⟩
    exact this.can (by decide)
  rw [nN_of (eqOk_of c1 (by decide +kernel))]
  congr 2
  unfold eqD D.py
  rw [e]
  cases R with
  | nil => cases e; rfl
  | cons r R =>
    cases qs with
    | nil =>
      unfold D.pys at e
      split at e <;> simp at e
    | cons q qs => rfl
theorem b_stock {T S : List Str} {y z : List D} (T1 : 1 ≤ T.length) (T3 : T.length ≤ 4) (nT : Names T) (lS : S.length = 4) (nS : Names S) (k : Nat) (hk : k < 4) (h : Int) (Rw : List D) (lR : Rw.length = k) (nR : Rw.map nameOf = S.take k) (gR : ∀ r ∈ Rw, GRow r) :
    ∃ h' R', n_l_stock_b1 (T.map D.str, y) (z, S.map D.str) (.int k) ([.int h], Rw) = .ok ([.int h'], R') ∧ R'.length = k + 1 ∧ R'.map nameOf = S.take (k + 1) ∧ ∀ r ∈ R', GRow r := by
  unfold n_l_stock_b1
  obtain ⟨a, h1, e1, a0, a1⟩ := d_take h (m := 4) (by decide) (by decide)
  obtain ⟨h2, ps, e2, pl, gp⟩ := d_ports h1 (x := y) T1 T3 nT (1 + a).toNat (by omega)
  simp only [e1, ok_bind, nAdd_ii, fz_d, nR1_i (i := 1 + a) (by omega) (by omega), e2, eq_nil Rw gR (by omega)]
  have fin : ∀ (h3 : Int) (s5 : M) (ps : List D), nTuple s5.d = .ok (.tup ps) → 1 ≤ ps.length → ps.length ≤ 4 → (∀ p ∈ ps, GPort p) →
      ∃ h' R', (R.bind (nIx (.lst (S.map D.str)) (.int k)) fun t_29 => R.bind (nTuple s5.d) fun t_30 => R.bind (nApp Rw (.tup [t_29, t_30])) fun rows_1 => R.ok (([D.int h3], rows_1) : List D × List D)) = .ok ([.int h'], R') ∧ R'.length = k + 1 ∧ R'.map nameOf = S.take (k + 1) ∧ ∀ r ∈ R', GRow r := fun h3 s5 ps e p1 p4 gp => by
    refine ⟨h3, Rw ++ [.tup [.str S[k], .tup ps]], ?_, by rw [List.length_append, lR]; rfl, ?_, fun r hr => ?_⟩
    · simp only [str_at (show k < S.length by omega), ok_bind, e, nApp_of (show Rw.length < 16777216 by omega)]
    · rw [List.map_append, nR, List.take_succ, List.getElem?_eq_getElem (show k < S.length by omega)]
      rfl
    · rcases List.mem_append.mp hr with hr | hr
      · exact gR r hr
      · have : r = .tup [.str S[k], .tup ps] := by simpa using hr
        subst this
        exact ⟨S[k], ps, rfl, (nS.2 _ (List.getElem_mem _)).1, p1, p4, gp⟩
  cases Rw with
  | nil =>
    simp only [List.isEmpty_nil, Bool.not_true, Bool.false_eq_true, if_false, ok_bind]
    exact fin h2 (.lst ps) ps rfl (by omega) (by omega) gp
  | cons r Rw =>
    obtain ⟨b, h3, e3, _, _⟩ := d_take h2 (m := 3) (by decide) (by decide)
    obtain ⟨n0, p0, e0, _, q1, q4, gq⟩ := gR r List.mem_cons_self
    simp only [List.isEmpty_cons, Bool.not_false, if_true, e3, ok_bind, nE_ii]
    by_cases hb : b = 0
    · simp only [hb, decide_true, if_true, nIx_l0, ok_bind, e0, nIx_t1]
      rw [e0] at fin
      exact fin h3 (.fz (.tup p0)) p0 rfl q1 q4 gq
    · simp only [hb, decide_false, Bool.false_eq_true, if_false, ok_bind]
      exact fin h3 (.lst ps) ps rfl (by omega) (by omega) gp
theorem d_stock (h : Int) : ∃ rows h', n_l_stock [.int h] = .ok (.tup rows, [.int h']) ∧ rises "" rows = true ∧ 1 ≤ rows.length ∧ rows.length ≤ 4 ∧ ∀ r ∈ rows, GRow r := by
  unfold n_l_stock
  obtain ⟨st, h1, e1, s0, s1⟩ := d_take h (m := 8) (by decide) (by decide)
  have em : lcM (fun d_1 : D => R.bind (nMul (.int 3) d_1) fun t_2 => R.bind (nAdd (.int st) t_2.d) fun t_3 => R.bind (nMod t_3.d (.int 8)) fun t_4 => nIx (.lst [.str "a", .str "add", .str "adder", .str "cut", .str "ring", .str "outer", .str "rule", .str "abcdefgh"]) t_4) (rngD 0 (4 : Int).toNat) =
      .ok ((rngD 0 (4 : Int).toNat).map fun d => match d with
        | .int k => .str (poolAt st.toNat k.toNat)
        | _ => .non) := by
    refine lcM_map (by rw [rngD_len]; exact le_size (by decide)) fun d hd => ?_
    obtain ⟨k, hk, rfl⟩ := rngD_mem hd
    simp only [nMul_l (i := 3) (j := 0 + (k : Int)) (by decide) (by decide), nAdd_ii, ok_bind, fz_d, nMod_ii (j := 8) (by decide)]
    have a0 : 0 ≤ (st + 3 * (0 + (k : Int))) % 8 := Int.emod_nonneg _ (by decide)
    have a1 : (st + 3 * (0 + (k : Int))) % 8 < 8 := Int.emod_lt_of_pos _ (by decide)
    have e1 : ((st + 3 * (0 + (k : Int))) % 8).toNat = (st.toNat + 3 * k) % 8 := by omega
    have hl : (st.toNat + 3 * k) % 8 < pool.length := by show _ < 8; omega
    have := str_at (ns := pool) hl
    rw [show (((st.toNat + 3 * k) % 8 : Nat) : Int) = (st + 3 * (0 + (k : Int))) % 8 by omega] at this
    refine Eq.trans this ?_
    show R.ok _ = R.ok (D.str (pool.getD ((st.toNat + 3 * (0 + (k : Int)).toNat) % 8) ""))
    rw [show (0 + (k : Int)).toNat = k by omega, List.getD_eq_getElem?_getD, List.getElem?_eq_getElem hl]
    rfl
  have em2 : ((rngD 0 (4 : Int).toNat).map fun d => match d with
        | .int k => D.str (poolAt st.toNat k.toNat)
        | _ => .non) = ((List.range 4).map (poolAt st.toNat)).map D.str := by
    rw [rngD_0, List.map_map, List.map_map]
    rfl
  obtain ⟨c, h2, e3, _, _⟩ := d_take h1 (m := 2) (by decide) (by decide)
  have hS : ∃ S h3, (if (decide (c = 0)) = true then (R.bind (n_l_words [.int h2] (.int 4)) fun t_9 => .ok (t_9.2, t_9.1) : R (List D × List D)) else .ok ([.int h2], ((List.range 4).map (poolAt st.toNat)).map D.str)) = .ok ([.int h3], S.map D.str) ∧ S.length = 4 ∧ Names S := by
    by_cases hc : c = 0
    · obtain ⟨S, h3, e, l, n⟩ := d_words h2 (n := 4) (by decide) (by decide)
      exact ⟨S, h3, by simp only [hc, decide_true, if_true, e, ok_bind], l, n⟩
    · exact ⟨(List.range 4).map (poolAt st.toNat), h2, by simp only [hc, decide_false, Bool.false_eq_true, if_false], by rw [List.length_map, List.length_range], pool_names _ (by omega)⟩
  obtain ⟨S, h3, e4, lS, nS⟩ := hS
  obtain ⟨t, h4, e5, t0, t1⟩ := d_take h3 (m := 3) (by decide) (by decide)
  obtain ⟨T, h5, e6, lT, nT⟩ := d_words h4 (n := 1 + t) (by omega) (by omega)
  obtain ⟨n, h6, e7, n0, n1⟩ := d_take h5 (m := 4) (by decide) (by decide)
  obtain ⟨s, e8, h7, Rw, rfl, lR, nR, gR⟩ := forS_inv (body := n_l_stock_b1 (T.map D.str, [.int h5]) ([.int h3], S.map D.str)) (ds := rngD 0 (1 + n).toNat) (s := ([.int h6], [])) (fun k s => ∃ (h : Int) (Rw : List D), s = ([.int h], Rw) ∧ Rw.length = k ∧ Rw.map nameOf = S.take k ∧ ∀ r ∈ Rw, GRow r) 0 ⟨h6, [], rfl, rfl, rfl, fun _ z => absurd z List.not_mem_nil⟩ fun j d s hd hs => by
    obtain ⟨h, Rw, rfl, lR, nR, gR⟩ := hs
    obtain ⟨hj, rfl⟩ := rngD_at hd
    rw [Nat.zero_add] at lR nR ⊢
    rw [Int.zero_add]
    obtain ⟨h', R', e, l, nn, g⟩ := b_stock (y := [.int h5]) (z := [.int h3]) (by omega) (by omega) nT lS nS j (by omega) h Rw lR nR gR
    exact ⟨_, e, h', R', rfl, l, nn, g⟩
  rw [rngD_len, Nat.zero_add] at lR
  obtain ⟨ps, ep, hps⟩ := rows_py gR
  have nd : (Rw.map nameOf).Nodup := by
    rw [nR]
    exact List.Sublist.nodup (List.take_sublist _ _) nS.1
  have pm := List.mergeSort_perm Rw leD
  have sl : (sortD Rw).length = Rw.length := pm.length_eq
  refine ⟨sortD Rw, h7, ?_, sort_rises gR nd, by rw [sl]; omega, by rw [sl]; omega, fun r hr => gR r (pm.mem_iff.mp hr)⟩
  simp only [e1, ok_bind, nR1_i (i := 4) (by decide) (by decide), em, em2, e3, nE_ii, e4, e5, nAdd_ii, fz_d, e6, e7, nR1_i (i := 1 + n) (by omega) (by omega), e8, nSorted_of ep (rows_ok hps), nTuple_lst]
end VW

set_option Elab.async false
set_option linter.all false
set_option maxRecDepth 100000
namespace VW
open PySem PySem.Spec PyProof.Rows L2 R
theorem d_text (h : Int) : ∃ s h', n_l_text [.int h] = .ok (.str s, [.int h']) ∧ s.length ≤ 10 ∧ PyData.strOk s = true := by
  unfold n_l_text
  obtain ⟨a, h1, e1, a0, a1⟩ := d_take h (m := 2) (by decide) (by decide)
  obtain ⟨sg, hsg, e2⟩ : ∃ sg : Str, (1 ≤ sg.length ∧ sg.length ≤ 100 ∧ ∀ c ∈ sg.cps.toList, c < 0x110000) ∧ nIx (.lst [.str "abcdefghijklmnopqrstuvwxyz", .str "abcdefghijklmnopqrstuvwxyzA1 -_."]) (.int a) = .ok (.str sg) := by
    rcases (show a = 0 ∨ a = 1 by omega) with rfl | rfl
    · refine ⟨_, ⟨by decide, by decide, ?_⟩, nIx_l0 _ _⟩
      exact fun c hc => of_decide_eq_true (List.all_eq_true.mp (show ("abcdefghijklmnopqrstuvwxyz" : Str).cps.toList.all (fun c => decide (c < 0x110000)) = true by decide +kernel) c hc)
    · refine ⟨_, ⟨by decide, by decide, ?_⟩, nIx_l1 _ _ _⟩
      exact fun c hc => of_decide_eq_true (List.all_eq_true.mp (show ("abcdefghijklmnopqrstuvwxyzA1 -_." : Str).cps.toList.all (fun c => decide (c < 0x110000)) = true by decide +kernel) c hc)
  obtain ⟨l1, l2, hc⟩ := hsg
  obtain ⟨n, h3, e3, n0, n1⟩ := d_take h1 (m := 11) (by decide) (by decide)
  have sz : sg.length ≤ sizeLine := le_size (by omega)
  obtain ⟨xs, s, e4, xl, hx, h4, rfl⟩ := lcS_inv (f := fun (d_2 : D) (s : List D) => R.bind (nLen (.str sg)) fun t_7 => R.bind (n_l_take s t_7) fun t_8 => R.bind (nIx (.str sg) t_8.1) fun t_9 => .ok ((t_9, t_8.2)))
    (fun s => ∃ h : Int, s = [.int h]) (fun x => ∃ c, x = sgn c ∧ c < 0x110000) (ds := rngD 0 n.toNat) (s := [.int h3]) (by rw [rngD_len]; exact le_size (by omega)) ⟨h3, rfl⟩ fun d _ s hs => by
      obtain ⟨g, rfl⟩ := hs
      obtain ⟨i, g', e, i0, i1⟩ := d_take g (m := (sg.length : Int)) (by omega) (by omega)
      obtain ⟨c, hcc, ec⟩ := atI_some (xs := sg.cps.toList) i0 (by rw [← slen]; exact i1)
      refine ⟨sgn c, [.int g'], ?_, ⟨c, rfl, hc c (List.mem_of_getElem? hcc)⟩, g', rfl⟩
      simp only [nLen_str sz, e, ok_bind, nIx_str ec sz]
  obtain ⟨cs, rfl, hcs⟩ := all_sgn hx
  rw [rngD_len, List.length_map] at xl
  obtain ⟨w, e5, wl⟩ := nJoin_sgns (cs := cs) (by omega)
  refine ⟨w, h4, ?_, by rw [slen, wl]; omega, ?_⟩
  · simp only [e1, ok_bind, e2, e3, nR1_i n0 (show n < 1000000000 by omega), e4, e5]
  · show w.cps.all (· < 0x110000) = true
    rw [← Array.all_toList, wl, List.all_eq_true]
    exact fun c hc => decide_eq_true (hcs c hc)
theorem nAddT {s t : List D} (h : s.length + t.length ≤ 1000) : nAdd (.tup s) (.tup t) = .ok (.fz (.tup (s ++ t))) := nAdd_tt (le_size h)
theorem nAddL {s t : List D} (h : s.length + t.length ≤ 1000) : nAdd (.lst s) (.lst t) = .ok (.lst (s ++ t)) := nAdd_ll (le_size h)
theorem text_sm {s : Str} (h : s.length ≤ 10 ∧ PyData.strOk s = true) : Sm 0 (.str s) := ⟨by omega, h.2⟩
theorem sm_in {n : Nat} {xs : List D} (h : xs.all (smB n) = true) {x : D} (hx : x ∈ xs) : Sm n x := Sm.of (List.all_eq_true.mp h x hx)
theorem d_odd (h : Int) : ∃ x h', n_l_odd [.int h] = .ok (x, [.int h']) ∧ Sm 4 x := by
  unfold n_l_odd
  obtain ⟨a, h1, e1, a0, a1⟩ := d_take h (m := 12) (by decide) (by decide)
  obtain ⟨x, hx, e2⟩ := ix_of (xs := [.int 0, .int 1, .bl true, .bl false, .non, .str "", .tup [], .lst [], .str "+", .tup [.str "n", .str "+"], .lst [.str "n", .str "+"], .tup [.tup [.str "a", .tup [.tup [.str "n", .str "+"]]]]]) a0 a1
  exact ⟨x, h1, by simp only [e1, ok_bind, e2], sm_in (by decide +kernel) hx⟩
theorem sm_lst {n : Nat} {ds : List D} (hl : ds.length ≤ 1000) (h : ∀ d ∈ ds, Sm n d) : Sm (n + 1) (.lst ds) := ⟨hl, h⟩
theorem all_cons {A : D → Prop} {x : D} {xs : List D} (h : A x) (t : ∀ y ∈ xs, A y) : ∀ y ∈ x :: xs, A y := fun y hy => (List.mem_cons.mp hy).elim (fun e => e ▸ h) (t y)
theorem all_nil {A : D → Prop} : ∀ y ∈ ([] : List D), A y := fun _ z => absurd z List.not_mem_nil
theorem d_bent_spec (h : Int) {p : D} (hp : Pair p) : ∃ x h', n_l_bent_spec [.int h] p = .ok (x, [.int h']) ∧ Sm 6 x := by
  obtain ⟨a, b, rfl, ha, hb⟩ := hp
  unfold n_l_bent_spec
  obtain ⟨i, h1, e1, i0, i1⟩ := d_take h (m := 9) (by decide) (by decide)
  obtain ⟨sd, hsd, e2⟩ := ix_of (xs := [.str "*", .str "", .str "+-", .str "--", .str " ", .bl true, .non, .int 1, .tup [.str "+"]]) i0 i1
  obtain ⟨tx, h2, e3, ht⟩ := d_text h1
  obtain ⟨od, h3, e4, ho⟩ := d_odd h2
  obtain ⟨j, h4, e5, j0, j1⟩ := d_take h3 (m := 8) (by decide) (by decide)
  have sp : Sm 6 (.str "+") := Sm.of (by decide +kernel)
  have hs : Sm 4 sd := sm_in (by decide +kernel) hsd
  obtain ⟨x, hx, e6⟩ := ix_of (xs := [.tup [.str a, .str b], .lst [.str a, .str b], .tup [.str a], .tup [.str a, .str b, .str "+"], .tup [.str b, .str a], .tup [.str a, sd], .tup [.str tx, .str b], .tup [od, .str b]]) j0 j1
  refine ⟨x, h4, ?_, ?_⟩
  · simp only [e1, ok_bind, e2, nIx_t0, nIx_t1, nAddT, nAddL, List.length_cons, List.length_nil, Nat.reduceAdd, Nat.reduceLeDiff, e3, e4, fz_d, List.cons_append, List.nil_append, lst_d, e5, e6]
  · have a5 : Sm 5 (.str a) := ha.mono (by decide)
    have b5 : Sm 5 (.str b) := hb.mono (by decide)
    exact (all_cons (sm_two a5 b5) (all_cons (sm_lst2 a5 b5) (all_cons (sm_one a5) (all_cons (sm_tup (by simp) (all_cons a5 (all_cons b5 (all_cons (Sm.of (by decide +kernel)) all_nil)))) (all_cons (sm_two b5 a5) (all_cons (sm_two a5 (hs.mono (by decide))) (all_cons (sm_two ((text_sm ht).mono (by decide)) b5) (all_cons (sm_two (ho.mono (by decide)) b5) all_nil)))))))) x hx
theorem nMulT {ds : List D} {k : Int} (h0 : ds ≠ []) (h1 : 2 ≤ k) (h2 : k ≤ 1000) (h3 : ds.length ≤ 1000) : nMul (.tup ds) (.int k) = .ok (.fz (.tup (repD ds k))) := by
  refine need_of ?_
  rw [decide_eq_true h1, decide_eq_true h2, decide_eq_true h3]
  cases ds with
  | nil => exact absurd rfl h0
  | cons d ds => rfl
theorem d_bent_row (h : Int) {r : D} (hr : Row r) : ∃ x h', n_l_bent_row [.int h] r = .ok (x, [.int h']) ∧ Sm 10 x := by
  obtain ⟨nm, ps, rfl, hn, p1, p4, hp⟩ := hr
  unfold n_l_bent_row
  obtain ⟨i, h1, e1, i0, i1⟩ := d_take h (m := (ps.length : Int)) (by omega) (by omega)
  obtain ⟨p, _, hpm, e2⟩ := ixt_of (xs := ps) i0 i1
  obtain ⟨b, h2, e3, hb⟩ := d_bent_spec h1 (hp p hpm)
  obtain ⟨tx, h3, e4, ht⟩ := d_text h2
  obtain ⟨od, h4, e5, ho⟩ := d_odd h3
  obtain ⟨od2, h5, e6, ho2⟩ := d_odd h4
  obtain ⟨j, h6, e7, j0, j1⟩ := d_take h5 (m := 12) (by decide) (by decide)
  have ne : ps ≠ [] := fun z => by rw [z] at p1; exact absurd p1 (by decide)
  have psm : ∀ q ∈ ps, Sm 6 q := fun q hq => (pair_sm (hp q hq)).mono (by decide)
  obtain ⟨A, hA⟩ : ∃ A, A = cutD ps none (some i) ++ [b] ++ cutD ps (some (i + 1)) none := ⟨_, rfl⟩
  have lc : (cutD ps none (some i)).length ≤ 4 := Nat.le_trans (cut_len _ _ _) p4
  have lc' : (cutD ps (some (i + 1)) none).length ≤ 4 := Nat.le_trans (cut_len _ _ _) p4
  have eA1 : nAdd (.tup (cutD ps none (some i))) (.tup [b]) = .ok (.fz (.tup (cutD ps none (some i) ++ [b]))) := nAddT (by simp; omega)
  have eA2 : nAdd (.tup (cutD ps none (some i) ++ [b])) (.tup (cutD ps (some (i + 1)) none)) = .ok (.fz (.tup A)) := by rw [hA]; exact nAddT (by simp; omega)
  have sA : Sm 7 (.tup A) := sm_tup (by rw [hA]; simp; omega) fun d hd => by
    rw [hA] at hd
    rcases List.mem_append.mp hd with hd | hd
    · rcases List.mem_append.mp hd with hd | hd
      · exact psm d (cut_mem hd)
      · have : d = b := by simpa using hd
        exact this ▸ hb
    · exact psm d (cut_mem hd)
  obtain ⟨B, hB⟩ : ∃ B, B = cutD ps none (some 1) := ⟨_, rfl⟩
  have lB : B.length = 1 := by rw [hB]; exact cut1_len p1
  have eB1 : nMul (.tup B) (.int 4) = .ok (.fz (.tup (repD B 4))) := nMulT (fun z => by rw [z] at lB; cases lB) (by decide) (by decide) (by omega)
  have lB4 : (repD B 4).length = 4 := by rw [rep_len, lB]; rfl
  have eB2 : nAdd (.tup ps) (.tup (repD B 4)) = .ok (.fz (.tup (ps ++ repD B 4))) := nAddT (by omega)
  have sB : Sm 7 (.tup (ps ++ repD B 4)) := sm_tup (by rw [List.length_append]; omega) fun d hd => by
    rcases List.mem_append.mp hd with hd | hd
    · exact psm d hd
    · exact psm d (cut_mem (hB ▸ rep_mem hd))
  have eC : nMul (.tup ps) (.int 5) = .ok (.fz (.tup (repD ps 5))) := nMulT ne (by decide) (by decide) (by omega)
  have eD : nMul (.tup ps) (.int 4) = .ok (.fz (.tup (repD ps 4))) := nMulT ne (by decide) (by decide) (by omega)
  have sCut : ∀ (k : Int) (lo hi : Option Int), k.toNat ≤ 5 → Sm 7 (.tup (cutD (repD ps k) lo hi)) := fun k lo hi hk => sm_tup (Nat.le_trans (cut_len _ _ _) (by rw [rep_len]; exact Nat.le_trans (Nat.mul_le_mul hk p4) (by decide))) fun d hd => psm d (rep_mem (cut_mem hd))
  have n9 : Sm 9 (.str nm) := hn.mono (by decide)
  have sps : Sm 7 (.tup ps) := sm_tup (by omega) psm
  have spl : Sm 7 (.lst ps) := sm_lst (by omega) psm
  obtain ⟨x, hx, e8⟩ := ix_of (xs := [.tup [.str nm, .tup A], .tup [.str nm, .tup []], .tup [.str nm, .tup (ps ++ repD B 4)], .tup [.str nm, .tup (cutD (repD ps 5) none (some 5))], .tup [.str nm, .tup (cutD (repD ps 4) none (some 4))], .tup [.str nm, .lst ps], .lst [.str nm, .tup ps], .tup [.str nm], .tup [.str nm, .tup ps, .int 1],
    .tup [.str tx, .tup ps], .tup [od, .tup ps], od2]) j0 j1
  refine ⟨x, h6, ?_, ?_⟩
  · simp only [nIx_t0, nIx_t1, ok_bind, nLen_tup, e1, nInt_i, nSl_tup, e2, e3, fz_d, eA1, nAdd_ii, eA2, ← hB, eB1, eB2, eC, eD, nList_tup, nAddT, nAddL, List.length_cons, List.length_nil, Nat.reduceAdd, Nat.reduceLeDiff, List.cons_append, List.nil_append, lst_d, e4, e5, e6, e7, e8]
  · exact (all_cons (sm_two n9 (sA.mono (by decide))) (all_cons (sm_two n9 (Sm.of (by decide +kernel))) (all_cons (sm_two n9 (sB.mono (by decide))) (all_cons (sm_two n9 ((sCut 5 _ _ (by decide)).mono (by decide))) (all_cons (sm_two n9 ((sCut 4 _ _ (by decide)).mono (by decide)))
      (all_cons (sm_two n9 (spl.mono (by decide))) (all_cons (sm_lst2 n9 (sps.mono (by decide))) (all_cons (sm_one n9) (all_cons (sm_tup (by simp) (all_cons n9 (all_cons (sps.mono (by decide)) (all_cons (Sm.of (by decide +kernel)) all_nil))))
      (all_cons (sm_two ((text_sm ht).mono (by decide)) (sps.mono (by decide))) (all_cons (sm_two (ho.mono (by decide)) (sps.mono (by decide))) (all_cons (ho2.mono (by decide)) all_nil)))))))))))) x hx
end VW

set_option Elab.async false
set_option linter.all false
set_option maxRecDepth 100000
namespace VW
open PySem PySem.Spec PyProof.Rows L2 R
theorem cutS_take {w : Str} {a : Int} (h : 0 ≤ a) : (cutS w none (some a)).cps.toList = w.cps.toList.take a.toNat := cut_to h
theorem d_bent (h : Int) {st : D} (hs : Stk st) : ∃ x h', n_l_bent [.int h] st = .ok (x, [.int h']) ∧ Sm 50 x := by
  obtain ⟨rows, rfl, l1, l4, hr⟩ := hs
  unfold n_l_bent
  obtain ⟨i, h1, e1, i0, i1⟩ := d_take h (m := (rows.length : Int)) (by omega) (by omega)
  obtain ⟨r, _, hrm, e2⟩ := ixt_of (xs := rows) i0 i1
  obtain ⟨b, h2, e3, hb⟩ := d_bent_row h1 (hr r hrm)
  obtain ⟨c, h3, e4, c0, c1⟩ := d_take h2 (m := 2) (by decide) (by decide)
  obtain ⟨k, hk, e5⟩ : ∃ k : Int, (k = 8 ∨ k = 9) ∧ nIx (.lst [.int 8, .int 9]) (.int c) = .ok (.int k) := by
    rcases (show c = 0 ∨ c = 1 by omega) with rfl | rfl
    · exact ⟨8, .inl rfl, nIx_l0 _ _⟩
    · exact ⟨9, .inr rfl, nIx_l1 _ _ _⟩
  obtain ⟨r0, rs, eR⟩ : ∃ r0 rs, rows = r0 :: rs := by
    cases rows with
    | nil => exact absurd l1 (by decide)
    | cons r rs => exact ⟨r, rs, rfl⟩
  obtain ⟨n0, p0, e0, hn0, q1, q4, gq⟩ := hr r0 (by rw [eR]; exact List.mem_cons_self)
  have x0 : nIx (.tup rows) (.int 0) = .ok r0 := by rw [eR]; exact nIx_t0 _ _
  have x1 : nIx r0 (.int 1) = .ok (.tup p0) := by rw [e0]; exact nIx_t1 _ _ _
  have sp0 : Sm 7 (.tup p0) := sm_tup (by omega) fun d hd => (pair_sm (gq d hd)).mono (by decide)
  obtain ⟨cc, hcc, ecc⟩ := atI_some (xs := ("abcdefgh" : Str).cps.toList) (i := (rows.length : Int) - 1) (by omega) (by show _ < (8 : Int); omega)
  have hcl : cc < 0x110000 := of_decide_eq_true (List.all_eq_true.mp (show ("abcdefgh" : Str).cps.toList.all (fun c => decide (c < 0x110000)) = true by decide +kernel) cc (List.mem_of_getElem? hcc))
  have e6 : nIx (.str "abcdefgh") (.int ((rows.length : Int) - 1)) = .ok (sgn cc) := nIx_str ecc (by decide)
  have zz : ∀ c < 0x110000, ∃ w : Str, nAdd (.str "zz") (sgn c) = .ok (.fz (.str w)) ∧ Sm 0 (.str w) := fun c hc => by
    refine ⟨_, nAdd_ss (by show 2 + 1 ≤ sizeLine; exact le_size (by decide)), ?_, ?_⟩
    · show 3 ≤ 1000
      decide
    · show (("zz" : Str).cps ++ #[c]).all (· < 0x110000) = true
      rw [Array.all_append]
      simp [hc]
      decide +kernel
  obtain ⟨w, e7, hw⟩ := zz cc hcl
  obtain ⟨more, hmore⟩ : ∃ m, m = D.tup [.str w, .tup p0] := ⟨_, rfl⟩
  have smore : Sm 10 more := hmore ▸ sm_two (n := 9) (hw.mono (by decide)) (sp0.mono (by decide))
  have rsm : ∀ r ∈ rows, Sm 10 r := fun r hm => (row_sm (hr r hm)).mono (by decide)
  -- the loop
  obtain ⟨sg, hsg⟩ : ∃ s, s = cutS "abcdefgh" none (some (k - rows.length)) := ⟨_, rfl⟩
  have e8 : nSl (.str "abcdefgh") none (some (k - rows.length)) = .ok (.fz (.str sg)) := by rw [nSl_str (by decide), hsg]
  have sgl : sg.cps.toList = ("abcdefgh" : Str).cps.toList.take (k - rows.length).toNat := by rw [hsg]; exact cut_to (by omega)
  have sgn8 : sg.cps.toList.length ≤ 8 := by rw [sgl, List.length_take]; exact Nat.min_le_right _ _
  have sgc : ∀ c ∈ sg.cps.toList, c < 0x110000 := fun c hc => by
    rw [sgl] at hc
    exact of_decide_eq_true (List.all_eq_true.mp (show ("abcdefgh" : Str).cps.toList.all (fun c => decide (c < 0x110000)) = true by decide +kernel) c (List.mem_of_mem_take hc))
  obtain ⟨s, e9, G, rfl, lG, hG⟩ := forS_inv (body := n_l_bent_b1 (.tup rows)) (ds := sg.cps.toList.map sgn) (s := .fz (.tup rows)) (fun k s => ∃ G, s = .fz (.tup G) ∧ G.length ≤ 4 + k ∧ ∀ d ∈ G, Sm 10 d) 0 ⟨rows, rfl, by omega, rsm⟩ fun j d s hd hs => by
    obtain ⟨G, rfl, lG, hG⟩ := hs
    have hj := (List.getElem?_eq_some_iff.mp hd).1
    rw [List.length_map] at hj
    obtain ⟨c, hc, rfl⟩ := List.mem_map.mp (List.mem_of_getElem? hd)
    obtain ⟨w, e, hw⟩ := zz c (sgc c hc)
    refine ⟨.fz (.tup (G ++ [.tup [.str w, .tup p0]])), ?_, _, rfl, by simp; omega, fun d hd => ?_⟩
    · unfold n_l_bent_b1
      simp only [e, ok_bind, x0, x1, fz_d, nAddT (s := G) (t := [.tup [.str w, .tup p0]]) (by simp; omega)]
    · rcases List.mem_append.mp hd with hd | hd
      · exact hG d hd
      · have : d = .tup [.str w, .tup p0] := by simpa using hd
        exact this ▸ sm_two (n := 9) (hw.mono (by decide)) (sp0.mono (by decide))
  rw [List.length_map, Nat.zero_add] at lG
  obtain ⟨od, h4, e10, ho⟩ := d_odd h3
  obtain ⟨j, h5, e11, j0, j1⟩ := d_take h4 (m := 10) (by decide) (by decide)
  have lc : ∀ lo hi, (cutD rows lo hi).length ≤ 4 := fun lo hi => Nat.le_trans (cut_len _ _ _) l4
  obtain ⟨A, hA⟩ : ∃ A, A = cutD rows none (some i) ++ [b] ++ cutD rows (some (i + 1)) none := ⟨_, rfl⟩
  have c1 := lc none (some i)
  have c2 := lc (some (i + 1)) none
  have c3 := lc (some i) (some (i + 1))
  have eA1 : nAdd (.tup (cutD rows none (some i))) (.tup [b]) = .ok (.fz (.tup (cutD rows none (some i) ++ [b]))) := nAddT (by simp; omega)
  have eA2 : nAdd (.tup (cutD rows none (some i) ++ [b])) (.tup (cutD rows (some (i + 1)) none)) = .ok (.fz (.tup A)) := by rw [hA]; exact nAddT (by simp; omega)
  have eB : nAdd (.tup rows) (.tup (cutD rows (some i) (some (i + 1)))) = .ok (.fz (.tup (rows ++ cutD rows (some i) (some (i + 1))))) := nAddT (by omega)
  have eC : nAdd (.tup rows) (.tup [more]) = .ok (.fz (.tup (rows ++ [more]))) := nAddT (by simp; omega)
  have eD : nAdd (.tup [more]) (.tup rows) = .ok (.fz (.tup ([more] ++ rows))) := nAddT (by simp; omega)
  obtain ⟨x, hx, e12⟩ := ix_of (xs := [.tup rows, .tup A, .tup rows.reverse, .tup (rows ++ cutD rows (some i) (some (i + 1))), .tup [], .tup G, .lst rows, .tup (rows ++ [more]), .tup ([more] ++ rows), od]) j0 j1
  refine ⟨x, h5, ?_, ?_⟩
  · simp only [nLen_tup, ok_bind, e1, e2, e3, nSub_ii, e6, e7, x0, x1, e4, e5, nInt_i, e8, fz_d, nItems_str, e9, nSl_tup, eA1, nAdd_ii, eA2, nRev_tup, eB, nList_tup, ← hmore, eC, eD, e10, nAddL, List.length_cons, List.length_nil, Nat.reduceAdd, Nat.reduceLeDiff, List.cons_append, List.nil_append, lst_d, e11]
    exact (congrArg (fun z => R.bind z _) e12).trans rfl
  · have big : ∀ (ds : List D), ds.length ≤ 20 → (∀ d ∈ ds, Sm 10 d) → Sm 50 (.tup ds) := fun ds hl h => (sm_tup (by omega) h).mono (by decide)
    exact (all_cons (big _ (by omega) rsm) (all_cons (big _ (by rw [hA]; simp; omega) (fun d hd => by
        rw [hA] at hd
        rcases List.mem_append.mp hd with hd | hd
        · rcases List.mem_append.mp hd with hd | hd
          · exact rsm d (cut_mem hd)
          · have : d = b := by simpa using hd
            exact this ▸ hb
        · exact rsm d (cut_mem hd))) (all_cons (big _ (by simp; omega) (fun d hd => rsm d (List.mem_reverse.mp hd))) (all_cons (big _ (by simp; omega) (fun d hd => (List.mem_append.mp hd).elim (rsm d) (fun h => rsm d (cut_mem h))))
      (all_cons (Sm.of (by decide +kernel)) (all_cons (big _ (by omega) hG) (all_cons ((sm_lst (by omega) rsm).mono (by decide)) (all_cons (big _ (by simp; omega) (fun d hd => (List.mem_append.mp hd).elim (rsm d) (fun h => by
        have : d = more := by simpa using h
        exact this ▸ smore))) (all_cons (big _ (by simp; omega) (all_cons smore rsm)) (all_cons (ho.mono (by decide)) all_nil)))))))))) x hx
end VW

set_option Elab.async false
set_option linter.all false
set_option maxRecDepth 100000
namespace VW
open PySem PySem.Spec PyProof.Rows L2 R
/-- the pairs of a stock's rows -/
def portsD : D → D
  | .tup [_, p] => p
  | _ => .non
theorem rows_pairs : ∀ {rows : List D}, (∀ r ∈ rows, GRow r) → pairsK rows = some (rows.map fun r => ((Sum.inr (nameOf r) : Key), portsD r))
  | [], _ => rfl
  | r :: rows, h => by
    obtain ⟨n, ps, rfl, _⟩ := h r List.mem_cons_self
    unfold pairsK
    rw [rows_pairs fun x hx => h x (List.mem_cons_of_mem _ hx)]
    rfl
theorem stock_nodup {rows : List D} (hr : rises "" rows = true) : (rows.map nameOf).Nodup := by
  have ha := rises_all _ _ hr
  rw [rises_sorted ha, Bool.and_eq_true, decide_eq_true_eq, decide_eq_true_eq] at hr
  have l : ((rows.map nameOf).map (Sum.inr : Str → Key)).length = (rows.map nameOf).length := List.length_map _
  exact nodup_keys.mp (dedK_len_iff.mp (hr.2.trans l.symm))
theorem stock_dict {rows : List D} (hr : rises "" rows = true) (hg : ∀ r ∈ rows, GRow r) : nDict (.tup rows) = .ok (rows.map fun r => ((Sum.inr (nameOf r) : Key), portsD r)) := by
  rw [nDict_tup (rows_pairs hg), mergeD_nil]
  rw [List.map_map]
  have e : ((fun x : Key × D => x.1) ∘ fun r => ((Sum.inr (nameOf r) : Key), portsD r)) = (Sum.inr ∘ nameOf) := rfl
  rw [e, ← List.map_map]
  exact nodup_keys.mpr (stock_nodup hr)
theorem stock_get {rows : List D} (hr : rises "" rows = true) {r : D} (hm : r ∈ rows) : getK (rows.map fun r => ((Sum.inr (nameOf r) : Key), portsD r)) (Sum.inr (nameOf r)) = some (portsD r) := by
  refine getK_mem ?_ (List.mem_map.mpr ⟨r, hm, rfl⟩)
  rw [List.map_map]
  have e : ((fun x : Key × D => x.1) ∘ fun r => ((Sum.inr (nameOf r) : Key), portsD r)) = (Sum.inr ∘ nameOf) := rfl
  rw [e, ← List.map_map]
  exact nodup_keys.mpr (stock_nodup hr)
theorem r_ports_of {rows : List D} (hr : rises "" rows = true) (hg : ∀ r ∈ rows, GRow r) {r : D} (hm : r ∈ rows) : n_ports_of (.tup rows) (.str (nameOf r)) = .ok (portsD r) := by
  unfold n_ports_of
  simp only [stock_dict hr hg, ok_bind, nIx_dK (k := .str (nameOf r)) (y := Sum.inr (nameOf r)) rfl (stock_get hr hm)]
theorem sm_nob : ∀ {n : Nat} {d : D}, Sm n d → (∀ b, d ≠ .bl b) → True := fun _ _ => trivial
theorem ports_nob {ps : List D} (h : ∀ p ∈ ps, GPort p) : nob (.tup ps) = true := by
  obtain ⟨qs, e, hq, hz⟩ := ports_py h
  clear hz
  unfold nob D.py
  rw [e]
  show NoBs qs = true
  clear e
  induction qs with
  | nil => rfl
  | cons q qs ih =>
    obtain ⟨a, s, rfl⟩ := hq q List.mem_cons_self
    unfold NoBs
    rw [ih fun x hx => hq x (List.mem_cons_of_mem _ hx)]
    rfl
theorem eq_self {n : Nat} {x : D} (hx : Sm n x) (hn : n ≤ 60) (hb : nob x = true) : nEq true x x = .ok false := by
  rw [nN_of (hx.eqOk hx hn hn), (eqD_iff hb hb).mpr rfl]
  rfl
theorem mate_side {s : Str} (h : s = "+" ∨ s = "-") : mateS s ≠ s ∧ mateS (mateS s) = s ∧ (mateS s = "+" ∨ mateS s = "-") := by
  rcases h with rfl | rfl <;> decide +kernel
theorem b_port {p : D} (hp : GPort p) (K : Unit → R Bool) : n_law_b4 p () K = K () := by
  obtain ⟨n, s, rfl, hn, hs⟩ := hp
  obtain ⟨h1, h2, h3⟩ := mate_side hs
  have sd : ∀ {t : Str}, (t = "+" ∨ t = "-") → Sm 0 (.str t) := fun h => by
    rcases h with rfl | rfl <;> exact Sm.of (by decide +kernel)
  have hd : Sm 1 (.tup [.str n, .str (mateS s)]) := sm_two (name_sm hn) (sd h3)
  have hsp : isSpec (.tup [.str n, .str (mateS s)]) = true := by
    show (isNameS n && isSide (.str (mateS s))) = true
    rw [hn]
    rcases h3 with e | e <;> rw [e] <;> decide +kernel
  have e5 : nEq true (.tup [.str n, .str s]) (.tup [.str n, .str s]) = .ok false := eq_self (n := 1) (sm_two (name_sm hn) (sd hs)) (by decide) rfl
  unfold n_law_b4
  simp only [r_mate_of, ok_bind, r_l_spec (by decide) hd, hsp, nIx_t0, nIx_t1, nN_ss, nE_ss, h1, h2, e5, decide_true, decide_false, Bool.not_true, orB_ok, Bool.or_self, Bool.false_or, Bool.false_eq_true, if_false]
theorem b_row {rows : List D} {x : List D} (hr : rises "" rows = true) (hg : ∀ r ∈ rows, GRow r) {r : D} (hm : r ∈ rows) (K : Unit → R Bool) : n_law_b1 (.tup rows, x) r () K = K () := by
  obtain ⟨n, ps, e, hn, l1, l4, hp⟩ := hg r hm
  have e1 := r_ports_of hr hg hm
  have en : nameOf r = n := by rw [e]; rfl
  have ep : portsD r = .tup ps := by rw [e]; rfl
  rw [en, ep] at e1
  have sps : Sm 4 (.tup ps) := sm_tup (by omega) fun p h => (pair_sm (gport_pair (hp p h))).mono (by decide)
  unfold n_law_b1
  rw [e]
  simp only [nUn2_tup, ok_bind, e1, eq_self sps (by decide) (ports_nob hp), Bool.false_eq_true, if_false, nItems_tup]
  rw [forN_all (p := fun _ => true) (r := .no) fun d hd K => by rw [b_port (hp d hd)]; rfl]
  rw [List.all_eq_true.mpr fun _ _ => rfl]
  rfl
theorem d_digits (ns : List Int) {k : Int} (hk : 0 ≤ k) : ∃ h, n_l_digits (.scr ns) (.int k) = .ok [.int h] := r_digits hk
theorem b_cell {ns : List Int} {rows x : List D} (l1 : 1 ≤ rows.length) (l4 : rows.length ≤ 4) (hg : ∀ r ∈ rows, GRow r) {k : Int} (hk : 0 ≤ k) (K : Unit → R Bool) : n_law_b5 (.scr ns) (.tup rows, x) (.int k) () K = K () := by
  obtain ⟨r0, rs, eR⟩ : ∃ r0 rs, rows = r0 :: rs := by
    cases rows with
    | nil => exact absurd l1 (by decide)
    | cons r rs => exact ⟨r, rs, rfl⟩
  obtain ⟨n0, p0, e0, _, q1, _, gq⟩ := hg r0 (by rw [eR]; exact List.mem_cons_self)
  obtain ⟨s0, ss, eS⟩ : ∃ s0 ss, p0 = s0 :: ss := by
    cases p0 with
    | nil => exact absurd q1 (by decide)
    | cons r rs => exact ⟨r, rs, rfl⟩
  have gs : GPort s0 := gq s0 (by rw [eS]; exact List.mem_cons_self)
  have x0 : nIx (.tup rows) (.int 0) = .ok r0 := by rw [eR]; exact nIx_t0 _ _
  have x1 : nIx r0 (.int 1) = .ok (.tup p0) := by rw [e0]; exact nIx_t1 _ _ _
  have x2 : nIx (.tup p0) (.int 0) = .ok s0 := by rw [eS]; exact nIx_t0 _ _
  obtain ⟨h0, e1⟩ := d_digits ns hk
  obtain ⟨tx, h1, e2, ht⟩ := d_text h0
  obtain ⟨bs, h2, e3, hbs⟩ := d_bent_spec h1 (gport_pair gs)
  obtain ⟨bt, h3, e4, hbt⟩ := d_bent h2 (st := .tup rows) ⟨rows, rfl, l1, l4, fun r hm => grow_Row (hg r hm)⟩
  obtain ⟨od, h4, e5, ho⟩ := d_odd h3
  obtain ⟨j, h5, e6, j0, j1⟩ := d_take h4 (m := 4) (by decide) (by decide)
  obtain ⟨y, hy, e7⟩ := ix_of (xs := [.str tx, bs, bt, od]) j0 j1
  have sy : Sm 50 y := (all_cons ((text_sm ht).mono (by decide)) (all_cons (hbs.mono (by decide)) (all_cons hbt (all_cons (ho.mono (by decide)) all_nil)))) y hy
  unfold n_law_b5
  simp only [e1, ok_bind, x0, x1, x2, e2, e3, e4, e5, e6, e7, r_is_name sy, r_l_name sy, r_is_spec sy, r_l_spec (by decide) sy, r_is_stock sy, r_l_right (by decide) sy, r_l_told, beq_self_eq_true, Bool.not_true, orB_ok, Bool.or_self, Bool.false_eq_true, if_false]
theorem forN_thru {β : Type} {body : D → Unit → (Unit → R β) → R β} {after : Unit → R β} {ds : List D} (h : ∀ d ∈ ds, ∀ K, body d () K = K ()) : R.forN body after ds () = after () := by
  induction ds with
  | nil => rfl
  | cons d ds ih => rw [forN_cons, h d List.mem_cons_self, ih fun x hx => h x (List.mem_cons_of_mem _ hx)]
theorem rng_63 {n : Nat} (hl : n ≤ 63) : rngB (n : Int) := rngB_of (Int.natCast_nonneg _) (Int.lt_of_le_of_lt (Int.ofNat_le.mpr hl) (by decide))
theorem law_cells {ns : List Int} {rows x : List D} (l1 : 1 ≤ rows.length) (l4 : rows.length ≤ 4) (hg : ∀ r ∈ rows, GRow r) (n : Nat) : R.forN (n_law_b5 (.scr ns) (.tup rows, x)) (fun _ => .ok true) (rngD 1 n) () = .ok true :=
  forN_thru fun d hd K => by
    obtain ⟨k, hk, rfl⟩ := rngD_mem hd
    exact b_cell l1 l4 hg (by omega) K
theorem law_rows {rows x : List D} (hr : rises "" rows = true) (hg : ∀ r ∈ rows, GRow r) (after : Unit → R Bool) : R.forN (n_law_b1 (.tup rows, x)) after rows () = after () :=
  forN_thru fun d hd K => b_row hr hg hd K
theorem law_k01 (ns : List Int) (hl : ns.length ≤ 63) : n_law (.scr ns) = .ok true := by
  obtain ⟨h0, e1⟩ := d_digits ns (k := 0) (by decide)
  obtain ⟨rows, h1, e2, hr, l1, l4, hg⟩ := d_stock h0
  have sst : Sm 4 (.tup rows) := sm_tup (by omega) fun r h => grow_sm (hg r h)
  have ist : isStock (.tup rows) = true := by
    show (decide (1 ≤ rows.length) && decide (rows.length ≤ 8) && rises "" rows) = true
    rw [decide_eq_true l1, decide_eq_true (show rows.length ≤ 8 by omega), hr]
    rfl
  have e3 : nR2 (.int 1) (.int (ns.length : Int)) = .ok (rngD 1 ((ns.length : Int) - 1).toNat) := nR2_i (rngB_of (by decide) (by decide)) (rng_63 hl)
  unfold n_law
  simp only [e1, ok_bind, e2, r_is_stock sst, ist, r_l_told, beq_self_eq_true, Bool.not_true, Bool.false_eq_true, if_false, nItems_tup]
  rw [law_rows hr hg]
  simp only [nLen_scr, ok_bind, e3]
  exact law_cells l1 l4 hg _
end VW

set_option Elab.async false
set_option linter.all false
set_option maxRecDepth 100000
set_option maxHeartbeats 8000000
namespace VW
open PySem PySem.Spec PyProof.Rows L2 R
namespace LK01
theorem law_true (ns : List Int) (hl : ns.length ≤ 63) : n_law (.scr ns) = .ok true := law_k01 ns hl
def top (i : Nat) : Stmt := PySem.Challenge.pw_weave_k01_names_and_stocks.main.body.getD i (.Pass ⟨0, 0, 0, 0⟩)
section
variable {P : Program} {w : World} {K : PySem.W.Frag} {mg : Str → Option Value} {base : Heap} {xr : Xn → Value → Option Addr → Hp → Prop}
abbrev t_is_name : Stmt := top 5
abbrev n_Nis_name : List Str := ["thing", "sign"]
theorem c_is_name : FnScope n_Nis_name ["thing"] (defScope t_is_name) := ⟨rfl, rfl, rfl, by decide +kernel, rfl, by decide +kernel, by decide +kernel⟩
theorem s_is_name {f : Addr} {k : Nat}
    (m_len : mg "len" = none)
    (m_LONGEST : Cst mg "LONGEST" (.int (8)))
    (m_isinstance : mg "isinstance" = none)
    (m_str : mg "str" = none)
    (m_LETTERS : Cst mg "LETTERS" (.str "abcdefghijklmnopqrstuvwxyz"))
    (cdv : Value) (A : Around) (outer : List Env) (s : Shared) (H : Hp) (E : XK) (vs : List V) (hr : Room k (A.deeper (envOfC "is_name" (defScope t_is_name) s.heap.objs.size f cdv))) :
    SSs (yOf P w K mg base xr n_Nis_name "is_name" (defScope t_is_name) f cdv A outer s H E) (pinOf [] vs) (defBody t_is_name) w_is_name :=
  yseq (yif ((stw_or (st_not (ttru (so_val (xblt m_isinstance call_isi snd_isi boot_isinstance (xcons (xp 0) (xcons (so_val (xTy m_str boot_str)) (sa_nil))))))) (stw_or1 (st_not (tchn .LtE .LtE (op_ordAll hr.units .le) (op_ordAll hr.units .le) (snd_ord .le) (snd_ord .le) (so_val (xI)) (so_val (xblt m_len call_lenAll snd_len PySem.boot_len (xcons (xp 0) (sa_nil)))) (so_val (xG m_LONGEST)))))).st)
  (sss_one (yret (so_val (xB))))
  (sss_nil))
  (yseq (yfor (passes_of rfl) rfl (si_seq (xv 0)) (gn 1 c_is_name.nd)
  (sss_one (yif (tcmp .NotIn (op_inAll hr.units true) (snd_in true) (xp 1) (so_val (xG m_LETTERS)))
  (sss_one (yret (so_val (xB))))
  (sss_nil))))
  (sss_one (yret (so_val (xB)))))
abbrev t_is_spec : Stmt := top 6
abbrev n_Nis_spec : List Str := ["thing"]
theorem c_is_spec : FnScope n_Nis_spec ["thing"] (defScope t_is_spec) := ⟨rfl, rfl, rfl, by decide +kernel, rfl, by decide +kernel, by decide +kernel⟩
theorem s_is_spec {f : Addr} {k : Nat}
    (m_len : mg "len" = none)
    (m_isinstance : mg "isinstance" = none)
    (m_tuple : mg "tuple" = none)
    (m_str : mg "str" = none)
    (F_is_name : Cal P w K mg base xr k "is_name" f_is_name)
    (cdv : Value) (A : Around) (outer : List Env) (s : Shared) (H : Hp) (E : XK) (vs : List V) (hr : Room k (A.deeper (envOfC "is_spec" (defScope t_is_spec) s.heap.objs.size f cdv))) :
    SSs (yOf P w K mg base xr n_Nis_spec "is_spec" (defScope t_is_spec) f cdv A outer s H E) (pinOf [] vs) (defBody t_is_spec) w_is_spec :=
  yseq (yif ((stw_or (st_not (ttru (so_val (xblt m_isinstance call_isi snd_isi boot_isinstance (xcons (xp 0) (xcons (so_val (xTy m_tuple boot_tuple)) (sa_nil))))))) (stw_or (tcmp .NotEq (op_neAll hr.units) snd_ne (so_val (xblt m_len call_lenAll snd_len PySem.boot_len (xcons (xp 0) (sa_nil)))) (so_val (xI))) (stw_or1 (st_not (ttru (so_val (xc F_is_name hr (xcons (so_fz (xix (xp 0) (so_val (xI)) hr.units)) (sa_nil))))))))).st)
  (sss_one (yret (so_val (xB))))
  (sss_nil))
  (sss_one (yret (so_val (se_and (xblt m_isinstance call_isi snd_isi boot_isinstance (xcons (so_val (xix (xp 0) (so_val (xI)) hr.units)) (xcons (so_val (xTy m_str boot_str)) (sa_nil)))) (se_one (xcmp .In (op_inAll hr.units false) (snd_in false) (so_val (xix (xp 0) (so_val (xI)) hr.units)) (so_val (se_asC (.tup [.str "+", .str "-"]) (se_tup (xcons (so_val (xS)) (xcons (so_val (xS)) (sa_nil))))))))))))
abbrev t_is_kind_row : Stmt := top 7
abbrev n_Nis_kind_row : List Str := ["thing", "spec"]
theorem c_is_kind_row : FnScope n_Nis_kind_row ["thing"] (defScope t_is_kind_row) := ⟨rfl, rfl, rfl, by decide +kernel, rfl, by decide +kernel, by decide +kernel⟩
theorem s_is_kind_row {f : Addr} {k : Nat}
    (m_len : mg "len" = none)
    (m_isinstance : mg "isinstance" = none)
    (m_tuple : mg "tuple" = none)
    (m_MOST_PORTS : Cst mg "MOST_PORTS" (.int (4)))
    (m_all : mg "all" = none)
    (F_is_name : Cal P w K mg base xr k "is_name" f_is_name)
    (F_is_spec : Cal P w K mg base xr k "is_spec" f_is_spec)
    (cdv : Value) (A : Around) (outer : List Env) (s : Shared) (H : Hp) (E : XK) (vs : List V) (hr : Room k (A.deeper (envOfC "is_kind_row" (defScope t_is_kind_row) s.heap.objs.size f cdv))) :
    SSs (yOf P w K mg base xr n_Nis_kind_row "is_kind_row" (defScope t_is_kind_row) f cdv A outer s H E) (pinOf [] vs) (defBody t_is_kind_row) w_is_kind_row :=
  yseq (yif ((stw_or (st_not (ttru (so_val (xblt m_isinstance call_isi snd_isi boot_isinstance (xcons (xp 0) (xcons (so_val (xTy m_tuple boot_tuple)) (sa_nil))))))) (stw_or (tcmp .NotEq (op_neAll hr.units) snd_ne (so_val (xblt m_len call_lenAll snd_len PySem.boot_len (xcons (xp 0) (sa_nil)))) (so_val (xI))) (stw_or1 (st_not (ttru (so_val (xc F_is_name hr (xcons (so_fz (xix (xp 0) (so_val (xI)) hr.units)) (sa_nil))))))))).st)
  (sss_one (yret (so_val (xB))))
  (sss_nil))
  (yseq (yif ((stw_or (st_not (ttru (so_val (xblt m_isinstance call_isi snd_isi boot_isinstance (xcons (so_val (xix (xp 0) (so_val (xI)) hr.units)) (xcons (so_val (xTy m_tuple boot_tuple)) (sa_nil))))))) (stw_or1 (st_not (tchn .LtE .LtE (op_ordAll hr.units .le) (op_ordAll hr.units .le) (snd_ord .le) (snd_ord .le) (so_val (xI)) (so_val (xblt m_len call_lenAll snd_len PySem.boot_len (xcons (so_val (xix (xp 0) (so_val (xI)) hr.units)) (sa_nil)))) (so_val (xG m_MOST_PORTS)))))).st)
  (sss_one (yret (so_val (xB))))
  (sss_nil))
  (sss_one (yret (so_val (xblt m_all (cr_all rfl) snd_all boot_all (xcons (so_val (xlc [("spec", 1)] [1] rfl c_is_kind_row.nd (si_seq (xix (xp 0) (so_val (xI)) hr.units)) (blk_ok rfl) (fun _ _ _ _ _ => gn 1 c_is_kind_row.nd) (fun _ _ _ _ _ => sts_nil) (fun _ _ _ _ _ => xc F_is_spec hr (xcons (so_fz (xv 1)) (sa_nil))))) (sa_nil)))))))
abbrev t_is_stock : Stmt := top 8
abbrev n_Nis_stock : List Str := ["thing", "ahead", "row"]
theorem c_is_stock : FnScope n_Nis_stock ["thing"] (defScope t_is_stock) := ⟨rfl, rfl, rfl, by decide +kernel, rfl, by decide +kernel, by decide +kernel⟩
theorem s_is_stock {f : Addr} {k : Nat}
    (m_len : mg "len" = none)
    (m_MOST_KINDS : Cst mg "MOST_KINDS" (.int (8)))
    (m_isinstance : mg "isinstance" = none)
    (m_tuple : mg "tuple" = none)
    (F_is_kind_row : Cal P w K mg base xr k "is_kind_row" f_is_kind_row)
    (cdv : Value) (A : Around) (outer : List Env) (s : Shared) (H : Hp) (E : XK) (vs : List V) (hr : Room k (A.deeper (envOfC "is_stock" (defScope t_is_stock) s.heap.objs.size f cdv))) :
    SSs (yOf P w K mg base xr n_Nis_stock "is_stock" (defScope t_is_stock) f cdv A outer s H E) (pinOf [] vs) (defBody t_is_stock) w_is_stock :=
  yseq (yif ((stw_or (st_not (ttru (so_val (xblt m_isinstance call_isi snd_isi boot_isinstance (xcons (xp 0) (xcons (so_val (xTy m_tuple boot_tuple)) (sa_nil))))))) (stw_or1 (st_not (tchn .LtE .LtE (op_ordAll hr.units .le) (op_ordAll hr.units .le) (snd_ord .le) (snd_ord .le) (so_val (xI)) (so_val (xblt m_len call_lenAll snd_len PySem.boot_len (xcons (xp 0) (sa_nil)))) (so_val (xG m_MOST_KINDS)))))).st)
  (sss_one (yret (so_val (xB))))
  (sss_nil))
  (yseq (yset 1 (xS) c_is_stock.nd)
  (yseq (yfor (passes_of rfl) rfl (si_seq (xv 0)) (gn 2 c_is_stock.nd)
  (yseq (yif ((stw_or (st_not (ttru (so_val (xc F_is_kind_row hr (xcons (so_fz (xv 2)) (sa_nil)))))) (stw_or1 (st_not (tcmp .Lt (op_ordAll hr.units .lt) (snd_ord .lt) (xp 1) (so_val (xix (xp 2) (so_val (xI)) hr.units)))))).st)
  (sss_one (yret (so_val (xB))))
  (sss_nil))
  (sss_one (yset 1 (xix (xp 2) (so_val (xI)) hr.units) c_is_stock.nd))))
  (sss_one (yret (so_val (xB))))))
abbrev t_mate_of : Stmt := top 9
abbrev n_Nmate_of : List Str := ["spec"]
theorem c_mate_of : FnScope n_Nmate_of ["spec"] (defScope t_mate_of) := ⟨rfl, rfl, rfl, by decide +kernel, rfl, by decide +kernel, by decide +kernel⟩
theorem s_mate_of {f : Addr} {k : Nat}
    (cdv : Value) (A : Around) (outer : List Env) (s : Shared) (H : Hp) (E : XK) (vs : List V) (hr : Room k (A.deeper (envOfC "mate_of" (defScope t_mate_of) s.heap.objs.size f cdv))) :
    SSs (yOf P w K mg base xr n_Nmate_of "mate_of" (defScope t_mate_of) f cdv A outer s H E) (pinOf [] vs) (defBody t_mate_of) w_mate_of :=
  yseq (yif (tcmp .Eq (op_eqAll hr.units) snd_eq (so_val (xix (xp 0) (so_val (xI)) hr.units)) (so_val (xS)))
  (sss_one (yret (so_val (se_tup (xcons (so_fz (xix (xp 0) (so_val (xI)) hr.units)) (xcons (so_val (xS)) (sa_nil)))))))
  (sss_nil))
  (sss_one (yret (so_val (se_tup (xcons (so_fz (xix (xp 0) (so_val (xI)) hr.units)) (xcons (so_val (xS)) (sa_nil)))))))
abbrev t_ports_of : Stmt := top 10
abbrev n_Nports_of : List Str := ["stock", "kind"]
theorem c_ports_of : FnScope n_Nports_of ["stock", "kind"] (defScope t_ports_of) := ⟨rfl, rfl, rfl, by decide +kernel, rfl, by decide +kernel, by decide +kernel⟩
theorem s_ports_of {f : Addr} {k : Nat}
    (m_dict : mg "dict" = none)
    (cdv : Value) (A : Around) (outer : List Env) (s : Shared) (H : Hp) (E : XK) (vs : List V) (hr : Room k (A.deeper (envOfC "ports_of" (defScope t_ports_of) s.heap.objs.size f cdv))) :
    SSs (yOf P w K mg base xr n_Nports_of "ports_of" (defScope t_ports_of) f cdv A outer s H E) (pinOf [] vs) (defBody t_ports_of) w_ports_of :=
  sss_one (yret (so_val (xix (so_val (xty m_dict (call_dictAll rfl) snd_dict boot_dict (xcons (xp 0) (sa_nil)))) (xp 1) hr.units)))
abbrev t__law_digits : Stmt := top 12
abbrev n_N_law_digits : List Str := ["_law_script", "_law_k", "_law_cell", "_law_total", "_law_number", "_law_turn"]
theorem c__law_digits : FnScope n_N_law_digits ["_law_script", "_law_k"] (defScope t__law_digits) := ⟨rfl, rfl, rfl, by decide +kernel, rfl, by decide +kernel, by decide +kernel⟩
theorem s__law_digits {f : Addr} {k : Nat}
    (m_len : mg "len" = none)
    (m_range : mg "range" = none)
    (cdv : Value) (A : Around) (outer : List Env) (s : Shared) (H : Hp) (E : XK) (vs : List V) (hr : Room k (A.deeper (envOfC "_law_digits" (defScope t__law_digits) s.heap.objs.size f cdv))) :
    SSs (yOf P w K mg base xr n_N_law_digits "_law_digits" (defScope t__law_digits) f cdv A outer s H E) (pinOf [] vs) (defBody t__law_digits) w_l_digits :=
  yseq (yset 2 (se_if (tcmp .Lt (op_ordAll hr.units .lt) (snd_ord .lt) (xp 1) (so_val (xblt m_len call_lenAll snd_len PySem.boot_len (xcons (xp 0) (sa_nil))))) (xix (xp 0) (xp 1) hr.units) (xI)) c__law_digits.nd)
  (yseq (yif (tcmp .GtE (op_ordAll hr.units .ge) (snd_ord .ge) (xp 2) (so_val (se_bin op_pow snd_pow (so_val (xI)) (so_val (xI)))))
  (sss_one (yret (so_val (se_lst (xcons (so_fz (se_bin op_sub snd_sub (xp 2) (so_val (se_bin op_pow snd_pow (so_val (xI)) (so_val (xI)))))) (sa_nil))))))
  (sss_nil))
  (yseq (yset 3 (xI) c__law_digits.nd)
  (yseq (yset 4 (se_bin op_mod snd_mod (so_val (se_bin op_addAll snd_add (so_val (se_bin op_addAll snd_add (so_val (se_bin op_mulAll snd_mul (xp 2) (so_val (xI)))) (so_val (se_bin op_mulAll snd_mul (so_val (xI)) (xp 1))))) (so_val (xI)))) (so_val (xI))) c__law_digits.nd)
  (yseq (yfor (passes_of rfl) rfl (xr1 m_range (so_val (xI))) (gn 5 c__law_digits.nd)
  (yseq (yset 4 (se_bin op_mod snd_mod (so_val (se_bin op_addAll snd_add (so_val (se_bin op_addAll snd_add (so_val (se_bin op_mulAll snd_mul (xp 4) (xp 4))) (so_val (se_bin op_mulAll snd_mul (so_val (xI)) (xp 4))))) (xp 5))) (so_val (xI))) c__law_digits.nd)
  (sss_one (yset 3 (se_bin op_addAll snd_add (so_val (se_bin op_mulAll snd_mul (xp 3) (so_val (xI)))) (so_val (se_bin op_mod snd_mod (so_val (se_bin op_mulAll snd_mul (xp 4) (so_val (xI)))) (so_val (xI))))) c__law_digits.nd))))
  (sss_one (yret (so_val (se_lst (xcons (so_fz (xv 3)) (sa_nil))))))))))
abbrev t__law_take : Stmt := top 13
abbrev n_N_law_take : List Str := ["_law_held", "_law_many", "_law_found"]
theorem c__law_take : FnScope n_N_law_take ["_law_held", "_law_many"] (defScope t__law_take) := ⟨rfl, rfl, rfl, by decide +kernel, rfl, by decide +kernel, by decide +kernel⟩
theorem s__law_take {f : Addr} {k : Nat}
    (cdv : Value) (A : Around) (outer : List Env) (s : Shared) (H : Hp) (E : XK) (vs : List V) (hr : Room k (A.deeper (envOfC "_law_take" (defScope t__law_take) s.heap.objs.size f cdv))) :
    SSs (yOf P w K mg base xr n_N_law_take "_law_take" (defScope t__law_take) f cdv A outer s H E) (pinOf [0] vs) (defBody t__law_take) w_l_take :=
  yseq (yset 2 (se_bin op_mod snd_mod (so_val (xix (xp 0) (so_val (xI)) hr.units)) (xp 1)) c__law_take.nd)
  (yseq (yst 0 (se_bin op_fdiv snd_div (so_val (xix (xp 0) (so_val (xI)) hr.units)) (xp 1)) (so_val (xI)) hr.units)
  (sss_one (yret (xp 2))))
abbrev t__law_words : Stmt := top 14
abbrev n_N_law_words : List Str := ["_law_held", "_law_many", "_law_letters", "_law_word", "_law_at", "_law_other", "_law_some", "_law_start", "_law_k"]
theorem c__law_words : FnScope n_N_law_words ["_law_held", "_law_many"] (defScope t__law_words) := ⟨rfl, rfl, rfl, by decide +kernel, rfl, by decide +kernel, by decide +kernel⟩
theorem s__law_words {f : Addr} {k : Nat}
    (m_range : mg "range" = none)
    (m_len : mg "len" = none)
    (F__law_take : Cal P w K mg base xr k "_law_take" f_l_take)
    (cdv : Value) (A : Around) (outer : List Env) (s : Shared) (H : Hp) (E : XK) (vs : List V) (hr : Room k (A.deeper (envOfC "_law_words" (defScope t__law_words) s.heap.objs.size f cdv))) :
    SSs (yOf P w K mg base xr n_N_law_words "_law_words" (defScope t__law_words) f cdv A outer s H E) (pinOf [0] vs) (defBody t__law_words) w_l_words :=
  yseq (yset 2 (xS) c__law_words.nd)
  (yseq (yset 3 (xmt PySem.F.plainAttrs_str PySem.F.slot_str_join PySem.F.type_str_join mt_join snd_join (so_val (xS)) (xcons (so_val (xlc [("_law_k", 8)] [8] rfl c__law_words.nd (xr1 m_range (so_val (se_bin op_addAll snd_add (so_val (xI)) (so_val (xc F__law_take hr (xcons (xp 0) (xcons (so_val (xI)) (sa_nil)))))))) (blk_ok rfl) (fun _ _ _ _ _ => gn 8 c__law_words.nd) (fun _ _ _ _ _ => sts_nil) (fun _ _ _ _ _ => xix (xp 2) (so_val (xc F__law_take hr (xcons (xp 0) (xcons (so_val (xI)) (sa_nil))))) hr.units))) (sa_nil))) c__law_words.nd)
  (yseq (yset 4 (xc F__law_take hr (xcons (xp 0) (xcons (so_fz (xblt m_len call_lenAll snd_len PySem.boot_len (xcons (xp 3) (sa_nil)))) (sa_nil)))) c__law_words.nd)
  (yseq (yset 5 (xix (xp 2) (so_val (se_bin op_mod snd_mod (so_val (se_bin op_addAll snd_add (so_val (se_bin op_addAll snd_add (so_val (xmt PySem.F.plainAttrs_str PySem.F.slot_str_index PySem.F.type_str_index mt_sindex snd_sIx (xp 2) (xcons (so_val (xix (xp 3) (xp 4) hr.units)) (sa_nil)))) (so_val (xI)))) (so_val (xc F__law_take hr (xcons (xp 0) (xcons (so_val (xI)) (sa_nil))))))) (so_val (xI)))) hr.units) c__law_words.nd)
  (yseq (yset 6 (se_lst (xcons (so_fz (xv 3)) (xcons (so_fz (se_bin op_addAll snd_add (so_val (se_bin op_addAll snd_add (so_val (xsl (xp 3) (sp_no) (sp_int (xv 4)))) (xp 5))) (so_val (xsl (xp 3) (sp_int (se_bin op_addAll snd_add (xp 4) (so_val (xI)))) (sp_no))))) (xcons (so_fz (se_bin op_addAll snd_add (xp 3) (xp 5))) (xcons (so_fz (xsl (xp 3) (sp_no) (sp_int (se_un un_neg snd_neg (so_val (xI)))))) (sa_nil)))))) c__law_words.nd)
  (yseq (yset 7 (xc F__law_take hr (xcons (xp 0) (xcons (so_val (xI)) (sa_nil)))) c__law_words.nd)
  (sss_one (yret (so_val (xlc [("_law_k", 8)] [8] rfl c__law_words.nd (xr1 m_range (xp 1)) (blk_ok rfl) (fun _ _ _ _ _ => gn 8 c__law_words.nd) (fun _ _ _ _ _ => sts_nil) (fun _ _ _ _ _ => xix (xp 6) (so_val (se_bin op_mod snd_mod (so_val (se_bin op_addAll snd_add (xp 7) (xp 8))) (so_val (xI)))) hr.units))))))))))
abbrev t__law_stock : Stmt := top 15
abbrev n_N_law_stock : List Str := ["_law_held", "_law_pool", "_law_start", "_law_kinds", "_law_sorts", "_law_rows", "_law_k", "_law_ports", "_law_p"]
theorem c__law_stock : FnScope n_N_law_stock ["_law_held"] (defScope t__law_stock) := ⟨rfl, rfl, rfl, by decide +kernel, rfl, by decide +kernel, by decide +kernel⟩
theorem s__law_stock {f : Addr} {k : Nat}
    (m_range : mg "range" = none)
    (m_len : mg "len" = none)
    (m_tuple : mg "tuple" = none)
    (m_sorted : mg "sorted" = none)
    (F__law_take : Cal P w K mg base xr k "_law_take" f_l_take)
    (F__law_words : Cal P w K mg base xr k "_law_words" f_l_words)
    (cdv : Value) (A : Around) (outer : List Env) (s : Shared) (H : Hp) (E : XK) (vs : List V) (hr : Room k (A.deeper (envOfC "_law_stock" (defScope t__law_stock) s.heap.objs.size f cdv))) :
    SSs (yOf P w K mg base xr n_N_law_stock "_law_stock" (defScope t__law_stock) f cdv A outer s H E) (pinOf [0] vs) (defBody t__law_stock) w_l_stock :=
  yseq (yset 1 (se_asL [.str "a", .str "add", .str "adder", .str "cut", .str "ring", .str "outer", .str "rule", .str "abcdefgh"] (se_lst (xcons (so_val (xS)) (xcons (so_val (xS)) (xcons (so_val (xS)) (xcons (so_val (xS)) (xcons (so_val (xS)) (xcons (so_val (xS)) (xcons (so_val (xS)) (xcons (so_val (xS)) (sa_nil))))))))))) c__law_stock.nd)
  (yseq (yset 2 (xc F__law_take hr (xcons (xp 0) (xcons (so_val (xI)) (sa_nil)))) c__law_stock.nd)
  (yseq (ysetLc 3 [("_law_k", 6)] [6] rfl c__law_stock.nd (xr1 m_range (so_val (xI))) (blk_ok rfl) (fun _ _ _ _ _ => gn 6 c__law_stock.nd) (fun _ _ _ _ _ => sts_nil) (fun _ _ _ _ _ => xix (xp 1) (so_val (se_bin op_mod snd_mod (so_val (se_bin op_addAll snd_add (xp 2) (so_val (se_bin op_mulAll snd_mul (so_val (xI)) (xp 6))))) (so_val (xI)))) hr.units))
  (yseq (yif (tcmp .Eq (op_eqAll hr.units) snd_eq (so_val (xc F__law_take hr (xcons (xp 0) (xcons (so_val (xI)) (sa_nil))))) (so_val (xI)))
  (sss_one (yset 3 (xc F__law_words hr (xcons (xp 0) (xcons (so_val (xI)) (sa_nil)))) c__law_stock.nd))
  (sss_nil))
  (yseq (yset 4 (xc F__law_words hr (xcons (xp 0) (xcons (so_fz (se_bin op_addAll snd_add (so_val (xI)) (so_val (xc F__law_take hr (xcons (xp 0) (xcons (so_val (xI)) (sa_nil))))))) (sa_nil)))) c__law_stock.nd)
  (yseq (yset 5 (se_lst (sa_nil)) c__law_stock.nd)
  (yseq (yfor (passes_of rfl) rfl (xr1 m_range (so_val (se_bin op_addAll snd_add (so_val (xI)) (so_val (xc F__law_take hr (xcons (xp 0) (xcons (so_val (xI)) (sa_nil)))))))) (gn 6 c__law_stock.nd)
  (yseq (yset 7 (se_lst (sa_nil)) c__law_stock.nd)
  (yseq (yfor (passes_of rfl) rfl (xr1 m_range (so_val (se_bin op_addAll snd_add (so_val (xI)) (so_val (xc F__law_take hr (xcons (xp 0) (xcons (so_val (xI)) (sa_nil)))))))) (gn 8 c__law_stock.nd)
  (sss_one (yex (xm 7 PySem.F.plainAttrs_list PySem.F.slot_list_append PySem.F.type_list_append mt_append snd_append (xcons (so_fz (se_tup (xcons (so_fz (xix (xp 4) (so_val (xc F__law_take hr (xcons (xp 0) (xcons (so_fz (xblt m_len call_lenAll snd_len PySem.boot_len (xcons (xp 4) (sa_nil)))) (sa_nil))))) hr.units)) (xcons (so_fz (xix (so_val (xS)) (so_val (xc F__law_take hr (xcons (xp 0) (xcons (so_val (xI)) (sa_nil))))) hr.units)) (sa_nil))))) (sa_nil))))))
  (yseq (yif ((stw_and (tcmp .NotEq (op_neAll hr.units) snd_ne (xp 5) (so_val (se_lst (sa_nil)))) (stw_and1 (tcmp .Eq (op_eqAll hr.units) snd_eq (so_val (xc F__law_take hr (xcons (xp 0) (xcons (so_val (xI)) (sa_nil))))) (so_val (xI))))).st)
  (sss_one (yset 7 (xix (so_val (xix (xp 5) (so_val (xI)) hr.units)) (so_val (xI)) hr.units) c__law_stock.nd))
  (sss_nil))
  (sss_one (yex (xm 5 PySem.F.plainAttrs_list PySem.F.slot_list_append PySem.F.type_list_append mt_append snd_append (xcons (so_fz (se_tup (xcons (so_fz (xix (xp 3) (xp 6) hr.units)) (xcons (so_fz (xty m_tuple call_tupleF snd_tuple boot_tuple (xcons (xp 7) (sa_nil)))) (sa_nil))))) (sa_nil)))))))))
  (sss_one (yret (so_val (xty m_tuple call_tupleF snd_tuple boot_tuple (xcons (so_val (xblt m_sorted (call_sort hr.units) snd_sorted boot_sorted (xcons (xp 5) (sa_nil)))) (sa_nil))))))))))))
abbrev t__law_name : Stmt := top 16
abbrev n_N_law_name : List Str := ["_law_thing", "_law_sign"]
theorem c__law_name : FnScope n_N_law_name ["_law_thing"] (defScope t__law_name) := ⟨rfl, rfl, rfl, by decide +kernel, rfl, by decide +kernel, by decide +kernel⟩
theorem s__law_name {f : Addr} {k : Nat}
    (m_len : mg "len" = none)
    (m_isinstance : mg "isinstance" = none)
    (m_str : mg "str" = none)
    (cdv : Value) (A : Around) (outer : List Env) (s : Shared) (H : Hp) (E : XK) (vs : List V) (hr : Room k (A.deeper (envOfC "_law_name" (defScope t__law_name) s.heap.objs.size f cdv))) :
    SSs (yOf P w K mg base xr n_N_law_name "_law_name" (defScope t__law_name) f cdv A outer s H E) (pinOf [] vs) (defBody t__law_name) w_l_name :=
  yseq (yif ((stw_or (st_not (ttru (so_val (xblt m_isinstance call_isi snd_isi boot_isinstance (xcons (xp 0) (xcons (so_val (xTy m_str boot_str)) (sa_nil))))))) (stw_or (tcmp .Eq (op_eqAll hr.units) snd_eq (so_val (xblt m_len call_lenAll snd_len PySem.boot_len (xcons (xp 0) (sa_nil)))) (so_val (xI))) (stw_or1 (tcmp .Gt (op_ordAll hr.units .gt) (snd_ord .gt) (so_val (xblt m_len call_lenAll snd_len PySem.boot_len (xcons (xp 0) (sa_nil)))) (so_val (xI)))))).st)
  (sss_one (yret (so_val (xB))))
  (sss_nil))
  (sss_one (yret (so_val (xcmp .Eq (op_eqAll hr.units) snd_eq (so_val (xblt m_len call_lenAll snd_len PySem.boot_len (xcons (so_val (xlc [("_law_sign", 1)] [1] rfl c__law_name.nd (si_seq (xv 0)) (blk_ok rfl) (fun _ _ _ _ _ => gn 1 c__law_name.nd) (fun _ _ _ _ _ => sts_one (tcmp .NotIn (op_inAll hr.units true) (snd_in true) (xp 1) (so_val (xS)))) (fun _ _ _ _ _ => xv 1))) (sa_nil)))) (so_val (xI))))))
abbrev t__law_spec : Stmt := top 17
abbrev n_N_law_spec : List Str := ["_law_thing"]
theorem c__law_spec : FnScope n_N_law_spec ["_law_thing"] (defScope t__law_spec) := ⟨rfl, rfl, rfl, by decide +kernel, rfl, by decide +kernel, by decide +kernel⟩
theorem s__law_spec {f : Addr} {k : Nat}
    (m_len : mg "len" = none)
    (m_isinstance : mg "isinstance" = none)
    (m_tuple : mg "tuple" = none)
    (F__law_name : Cal P w K mg base xr k "_law_name" f_l_name)
    (cdv : Value) (A : Around) (outer : List Env) (s : Shared) (H : Hp) (E : XK) (vs : List V) (hr : Room k (A.deeper (envOfC "_law_spec" (defScope t__law_spec) s.heap.objs.size f cdv))) :
    SSs (yOf P w K mg base xr n_N_law_spec "_law_spec" (defScope t__law_spec) f cdv A outer s H E) (pinOf [] vs) (defBody t__law_spec) w_l_spec :=
  yseq (yif ((stw_or (st_not (ttru (so_val (xblt m_isinstance call_isi snd_isi boot_isinstance (xcons (xp 0) (xcons (so_val (xTy m_tuple boot_tuple)) (sa_nil))))))) (stw_or (tcmp .NotEq (op_neAll hr.units) snd_ne (so_val (xblt m_len call_lenAll snd_len PySem.boot_len (xcons (xp 0) (sa_nil)))) (so_val (xI))) (stw_or1 (st_not (ttru (so_val (xc F__law_name hr (xcons (so_fz (xix (xp 0) (so_val (xI)) hr.units)) (sa_nil))))))))).st)
  (sss_one (yret (so_val (xB))))
  (sss_nil))
  (sss_one (yret (so_val (se_or (xcmp .Eq (op_eqAll hr.units) snd_eq (so_val (xix (xp 0) (so_val (xI)) hr.units)) (so_val (xS))) (se_one (xcmp .Eq (op_eqAll hr.units) snd_eq (so_val (xix (xp 0) (so_val (xI)) hr.units)) (so_val (xS))))))))
abbrev t__law_right : Stmt := top 18
abbrev n_N_law_right : List Str := ["_law_thing", "_law_row", "_law_kinds", "_law_spec_here"]
theorem c__law_right : FnScope n_N_law_right ["_law_thing"] (defScope t__law_right) := ⟨rfl, rfl, rfl, by decide +kernel, rfl, by decide +kernel, by decide +kernel⟩
theorem s__law_right {f : Addr} {k : Nat}
    (m_len : mg "len" = none)
    (m_isinstance : mg "isinstance" = none)
    (m_tuple : mg "tuple" = none)
    (m_all : mg "all" = none)
    (m_set : mg "set" = none)
    (m_sorted : mg "sorted" = none)
    (F__law_name : Cal P w K mg base xr k "_law_name" f_l_name)
    (F__law_spec : Cal P w K mg base xr k "_law_spec" f_l_spec)
    (cdv : Value) (A : Around) (outer : List Env) (s : Shared) (H : Hp) (E : XK) (vs : List V) (hr : Room k (A.deeper (envOfC "_law_right" (defScope t__law_right) s.heap.objs.size f cdv))) :
    SSs (yOf P w K mg base xr n_N_law_right "_law_right" (defScope t__law_right) f cdv A outer s H E) (pinOf [] vs) (defBody t__law_right) w_l_right :=
  yseq (yif ((stw_or (st_not (ttru (so_val (xblt m_isinstance call_isi snd_isi boot_isinstance (xcons (xp 0) (xcons (so_val (xTy m_tuple boot_tuple)) (sa_nil))))))) (stw_or (tcmp .Eq (op_eqAll hr.units) snd_eq (so_val (xblt m_len call_lenAll snd_len PySem.boot_len (xcons (xp 0) (sa_nil)))) (so_val (xI))) (stw_or1 (tcmp .Gt (op_ordAll hr.units .gt) (snd_ord .gt) (so_val (xblt m_len call_lenAll snd_len PySem.boot_len (xcons (xp 0) (sa_nil)))) (so_val (xI)))))).st)
  (sss_one (yret (so_val (xB))))
  (sss_nil))
  (yseq (yfor (passes_of rfl) rfl (si_seq (xv 0)) (gn 1 c__law_right.nd)
  (yseq (yif ((stw_or (st_not (ttru (so_val (xblt m_isinstance call_isi snd_isi boot_isinstance (xcons (xp 1) (xcons (so_val (xTy m_tuple boot_tuple)) (sa_nil))))))) (stw_or (tcmp .NotEq (op_neAll hr.units) snd_ne (so_val (xblt m_len call_lenAll snd_len PySem.boot_len (xcons (xp 1) (sa_nil)))) (so_val (xI))) (stw_or (st_not (ttru (so_val (xc F__law_name hr (xcons (so_fz (xix (xp 1) (so_val (xI)) hr.units)) (sa_nil)))))) (stw_or1 (st_not (ttru (so_val (xblt m_isinstance call_isi snd_isi boot_isinstance (xcons (so_val (xix (xp 1) (so_val (xI)) hr.units)) (xcons (so_val (xTy m_tuple boot_tuple)) (sa_nil))))))))))).st)
  (sss_one (yret (so_val (xB))))
  (sss_nil))
  (sss_one (yif ((stw_or (st_not (tchn .LtE .LtE (op_ordAll hr.units .le) (op_ordAll hr.units .le) (snd_ord .le) (snd_ord .le) (so_val (xI)) (so_val (xblt m_len call_lenAll snd_len PySem.boot_len (xcons (so_val (xix (xp 1) (so_val (xI)) hr.units)) (sa_nil)))) (so_val (xI)))) (stw_or1 (st_not (ttru (so_val (xblt m_all (cr_all rfl) snd_all boot_all (xcons (so_val (xlc [("_law_spec_here", 3)] [3] rfl c__law_right.nd (si_seq (xix (xp 1) (so_val (xI)) hr.units)) (blk_ok rfl) (fun _ _ _ _ _ => gn 3 c__law_right.nd) (fun _ _ _ _ _ => sts_nil) (fun _ _ _ _ _ => xc F__law_spec hr (xcons (so_fz (xv 3)) (sa_nil))))) (sa_nil)))))))).st)
  (sss_one (yret (so_val (xB))))
  (sss_nil)))))
  (yseq (ysetLc 2 [("_law_row", 1)] [1] rfl c__law_right.nd (si_seq (xv 0)) (blk_ok rfl) (fun _ _ _ _ _ => gn 1 c__law_right.nd) (fun _ _ _ _ _ => sts_nil) (fun _ _ _ _ _ => xix (xp 1) (so_val (xI)) hr.units))
  (sss_one (yret (so_val (se_and (xcmp .Eq (op_eqAll hr.units) snd_eq (xp 2) (so_val (xblt m_sorted (call_sort hr.units) snd_sorted boot_sorted (xcons (xp 2) (sa_nil))))) (se_one (xcmp .Eq (op_eqAll hr.units) snd_eq (so_val (xlenset m_len m_set rfl (xp 2))) (so_val (xblt m_len call_lenAll snd_len PySem.boot_len (xcons (xp 2) (sa_nil))))))))))))
abbrev t__law_text : Stmt := top 19
abbrev n_N_law_text : List Str := ["_law_held", "_law_signs", "_law_k"]
theorem c__law_text : FnScope n_N_law_text ["_law_held"] (defScope t__law_text) := ⟨rfl, rfl, rfl, by decide +kernel, rfl, by decide +kernel, by decide +kernel⟩
theorem s__law_text {f : Addr} {k : Nat}
    (m_range : mg "range" = none)
    (m_len : mg "len" = none)
    (F__law_take : Cal P w K mg base xr k "_law_take" f_l_take)
    (cdv : Value) (A : Around) (outer : List Env) (s : Shared) (H : Hp) (E : XK) (vs : List V) (hr : Room k (A.deeper (envOfC "_law_text" (defScope t__law_text) s.heap.objs.size f cdv))) :
    SSs (yOf P w K mg base xr n_N_law_text "_law_text" (defScope t__law_text) f cdv A outer s H E) (pinOf [0] vs) (defBody t__law_text) w_l_text :=
  yseq (yset 1 (xix (so_val (se_asL [.str "abcdefghijklmnopqrstuvwxyz", .str "abcdefghijklmnopqrstuvwxyzA1 -_."] (se_lst (xcons (so_val (xS)) (xcons (so_val (xS)) (sa_nil)))))) (so_val (xc F__law_take hr (xcons (xp 0) (xcons (so_val (xI)) (sa_nil))))) hr.units) c__law_text.nd)
  (sss_one (yret (so_val (xmt PySem.F.plainAttrs_str PySem.F.slot_str_join PySem.F.type_str_join mt_join snd_join (so_val (xS)) (xcons (so_val (xlc [("_law_k", 2)] [2] rfl c__law_text.nd (xr1 m_range (so_val (xc F__law_take hr (xcons (xp 0) (xcons (so_val (xI)) (sa_nil)))))) (blk_ok rfl) (fun _ _ _ _ _ => gn 2 c__law_text.nd) (fun _ _ _ _ _ => sts_nil) (fun _ _ _ _ _ => xix (xp 1) (so_val (xc F__law_take hr (xcons (xp 0) (xcons (so_fz (xblt m_len call_lenAll snd_len PySem.boot_len (xcons (xp 1) (sa_nil)))) (sa_nil))))) hr.units))) (sa_nil))))))
abbrev t__law_odd : Stmt := top 20
abbrev n_N_law_odd : List Str := ["_law_held"]
theorem c__law_odd : FnScope n_N_law_odd ["_law_held"] (defScope t__law_odd) := ⟨rfl, rfl, rfl, by decide +kernel, rfl, by decide +kernel, by decide +kernel⟩
theorem s__law_odd {f : Addr} {k : Nat}
    (F__law_take : Cal P w K mg base xr k "_law_take" f_l_take)
    (cdv : Value) (A : Around) (outer : List Env) (s : Shared) (H : Hp) (E : XK) (vs : List V) (hr : Room k (A.deeper (envOfC "_law_odd" (defScope t__law_odd) s.heap.objs.size f cdv))) :
    SSs (yOf P w K mg base xr n_N_law_odd "_law_odd" (defScope t__law_odd) f cdv A outer s H E) (pinOf [0] vs) (defBody t__law_odd) w_l_odd :=
  sss_one (yret (so_val (xix (so_val (se_asL [.int 0, .int 1, .bl true, .bl false, .non, .str "", .tup [], .lst [], .str "+", .tup [.str "n", .str "+"], .lst [.str "n", .str "+"], .tup [.tup [.str "a", .tup [.tup [.str "n", .str "+"]]]]] (se_lst (xcons (so_val (xI)) (xcons (so_val (xI)) (xcons (so_val (xB)) (xcons (so_val (xB)) (xcons (so_val (xN)) (xcons (so_val (xS)) (xcons (so_fz (se_tup (sa_nil))) (xcons (so_fz (se_lst (sa_nil))) (xcons (so_val (xS)) (xcons (so_fz (se_asC (.tup [.str "n", .str "+"]) (se_tup (xcons (so_val (xS)) (xcons (so_val (xS)) (sa_nil)))))) (xcons (so_fz (se_asL [.str "n", .str "+"] (se_lst (xcons (so_val (xS)) (xcons (so_val (xS)) (sa_nil)))))) (xcons (so_fz (se_asC (.tup [.tup [.str "a", .tup [.tup [.str "n", .str "+"]]]]) (se_tup (xcons (so_fz (se_asC (.tup [.str "a", .tup [.tup [.str "n", .str "+"]]]) (se_tup (xcons (so_val (xS)) (xcons (so_fz (se_asC (.tup [.tup [.str "n", .str "+"]]) (se_tup (xcons (so_fz (se_asC (.tup [.str "n", .str "+"]) (se_tup (xcons (so_val (xS)) (xcons (so_val (xS)) (sa_nil)))))) (sa_nil))))) (sa_nil)))))) (sa_nil))))) (sa_nil)))))))))))))))) (so_val (xc F__law_take hr (xcons (xp 0) (xcons (so_val (xI)) (sa_nil))))) hr.units)))
abbrev t__law_bent_spec : Stmt := top 21
abbrev n_N_law_bent_spec : List Str := ["_law_held", "_law_spec_here", "_law_side", "_law_some"]
theorem c__law_bent_spec : FnScope n_N_law_bent_spec ["_law_held", "_law_spec_here"] (defScope t__law_bent_spec) := ⟨rfl, rfl, rfl, by decide +kernel, rfl, by decide +kernel, by decide +kernel⟩
theorem s__law_bent_spec {f : Addr} {k : Nat}
    (F__law_take : Cal P w K mg base xr k "_law_take" f_l_take)
    (F__law_odd : Cal P w K mg base xr k "_law_odd" f_l_odd)
    (F__law_text : Cal P w K mg base xr k "_law_text" f_l_text)
    (cdv : Value) (A : Around) (outer : List Env) (s : Shared) (H : Hp) (E : XK) (vs : List V) (hr : Room k (A.deeper (envOfC "_law_bent_spec" (defScope t__law_bent_spec) s.heap.objs.size f cdv))) :
    SSs (yOf P w K mg base xr n_N_law_bent_spec "_law_bent_spec" (defScope t__law_bent_spec) f cdv A outer s H E) (pinOf [0] vs) (defBody t__law_bent_spec) w_l_bent_spec :=
  yseq (yset 2 (xix (so_val (se_asL [.str "*", .str "", .str "+-", .str "--", .str " ", .bl true, .non, .int 1, .tup [.str "+"]] (se_lst (xcons (so_val (xS)) (xcons (so_val (xS)) (xcons (so_val (xS)) (xcons (so_val (xS)) (xcons (so_val (xS)) (xcons (so_val (xB)) (xcons (so_val (xN)) (xcons (so_val (xI)) (xcons (so_fz (se_asC (.tup [.str "+"]) (se_tup (xcons (so_val (xS)) (sa_nil))))) (sa_nil))))))))))))) (so_val (xc F__law_take hr (xcons (xp 0) (xcons (so_val (xI)) (sa_nil))))) hr.units) c__law_bent_spec.nd)
  (yseq (yset 3 (se_lst (xcons (so_fz (xv 1)) (xcons (so_fz (se_lst (xcons (so_fz (xix (xp 1) (so_val (xI)) hr.units)) (xcons (so_fz (xix (xp 1) (so_val (xI)) hr.units)) (sa_nil))))) (xcons (so_fz (se_tup (xcons (so_fz (xix (xp 1) (so_val (xI)) hr.units)) (sa_nil)))) (xcons (so_fz (se_bin op_addAll snd_add (xp 1) (so_val (se_asC (.tup [.str "+"]) (se_tup (xcons (so_val (xS)) (sa_nil))))))) (xcons (so_fz (se_tup (xcons (so_fz (xix (xp 1) (so_val (xI)) hr.units)) (xcons (so_fz (xix (xp 1) (so_val (xI)) hr.units)) (sa_nil))))) (xcons (so_fz (se_tup (xcons (so_fz (xix (xp 1) (so_val (xI)) hr.units)) (xcons (so_fz (xv 2)) (sa_nil))))) (sa_nil)))))))) c__law_bent_spec.nd)
  (sss_one (yret (so_val (xix (so_val (se_bin op_addAll snd_add (xp 3) (so_val (se_lst (xcons (so_fz (se_tup (xcons (so_fz (xc F__law_text hr (xcons (xp 0) (sa_nil)))) (xcons (so_fz (xix (xp 1) (so_val (xI)) hr.units)) (sa_nil))))) (xcons (so_fz (se_tup (xcons (so_fz (xc F__law_odd hr (xcons (xp 0) (sa_nil)))) (xcons (so_fz (xix (xp 1) (so_val (xI)) hr.units)) (sa_nil))))) (sa_nil))))))) (so_val (xc F__law_take hr (xcons (xp 0) (xcons (so_val (xI)) (sa_nil))))) hr.units)))))
abbrev t__law_bent_row : Stmt := top 22
abbrev n_N_law_bent_row : List Str := ["_law_held", "_law_row", "_law_place", "_law_ports", "_law_some"]
theorem c__law_bent_row : FnScope n_N_law_bent_row ["_law_held", "_law_row"] (defScope t__law_bent_row) := ⟨rfl, rfl, rfl, by decide +kernel, rfl, by decide +kernel, by decide +kernel⟩
theorem s__law_bent_row {f : Addr} {k : Nat}
    (m_len : mg "len" = none)
    (m_list : mg "list" = none)
    (F__law_take : Cal P w K mg base xr k "_law_take" f_l_take)
    (F__law_bent_spec : Cal P w K mg base xr k "_law_bent_spec" f_l_bent_spec)
    (F__law_odd : Cal P w K mg base xr k "_law_odd" f_l_odd)
    (F__law_text : Cal P w K mg base xr k "_law_text" f_l_text)
    (cdv : Value) (A : Around) (outer : List Env) (s : Shared) (H : Hp) (E : XK) (vs : List V) (hr : Room k (A.deeper (envOfC "_law_bent_row" (defScope t__law_bent_row) s.heap.objs.size f cdv))) :
    SSs (yOf P w K mg base xr n_N_law_bent_row "_law_bent_row" (defScope t__law_bent_row) f cdv A outer s H E) (pinOf [0] vs) (defBody t__law_bent_row) w_l_bent_row :=
  yseq (yset 2 (xc F__law_take hr (xcons (xp 0) (xcons (so_fz (xblt m_len call_lenAll snd_len PySem.boot_len (xcons (so_val (xix (xp 1) (so_val (xI)) hr.units)) (sa_nil)))) (sa_nil)))) c__law_bent_row.nd)
  (yseq (yset 3 (se_bin op_addAll snd_add (so_val (se_bin op_addAll snd_add (so_val (xsl (so_val (xix (xp 1) (so_val (xI)) hr.units)) (sp_no) (sp_int (xv 2)))) (so_val (se_tup (xcons (so_fz (xc F__law_bent_spec hr (xcons (xp 0) (xcons (so_fz (xix (so_val (xix (xp 1) (so_val (xI)) hr.units)) (xp 2) hr.units)) (sa_nil))))) (sa_nil)))))) (so_val (xsl (so_val (xix (xp 1) (so_val (xI)) hr.units)) (sp_int (se_bin op_addAll snd_add (xp 2) (so_val (xI)))) (sp_no)))) c__law_bent_row.nd)
  (yseq (yset 4 (se_lst (xcons (so_fz (se_tup (xcons (so_fz (xix (xp 1) (so_val (xI)) hr.units)) (xcons (so_fz (xv 3)) (sa_nil))))) (xcons (so_fz (se_tup (xcons (so_fz (xix (xp 1) (so_val (xI)) hr.units)) (xcons (so_fz (se_tup (sa_nil))) (sa_nil))))) (xcons (so_fz (se_tup (xcons (so_fz (xix (xp 1) (so_val (xI)) hr.units)) (xcons (so_fz (se_bin op_addAll snd_add (so_val (xix (xp 1) (so_val (xI)) hr.units)) (so_val (se_bin op_mulAll snd_mul (so_val (xsl (so_val (xix (xp 1) (so_val (xI)) hr.units)) (sp_no) (sp_int (xI)))) (so_val (xI)))))) (sa_nil))))) (xcons (so_fz (se_tup (xcons (so_fz (xix (xp 1) (so_val (xI)) hr.units)) (xcons (so_fz (xsl (so_val (se_bin op_mulAll snd_mul (so_val (xix (xp 1) (so_val (xI)) hr.units)) (so_val (xI)))) (sp_no) (sp_int (xI)))) (sa_nil))))) (sa_nil)))))) c__law_bent_row.nd)
  (yseq (yset 4 (se_bin op_addAll snd_add (xp 4) (so_val (se_lst (xcons (so_fz (se_tup (xcons (so_fz (xix (xp 1) (so_val (xI)) hr.units)) (xcons (so_fz (xsl (so_val (se_bin op_mulAll snd_mul (so_val (xix (xp 1) (so_val (xI)) hr.units)) (so_val (xI)))) (sp_no) (sp_int (xI)))) (sa_nil))))) (xcons (so_fz (se_tup (xcons (so_fz (xix (xp 1) (so_val (xI)) hr.units)) (xcons (so_fz (xty m_list call_list_of snd_list boot_list (xcons (so_val (xix (xp 1) (so_val (xI)) hr.units)) (sa_nil)))) (sa_nil))))) (xcons (so_fz (se_lst (xcons (so_fz (xix (xp 1) (so_val (xI)) hr.units)) (xcons (so_fz (xix (xp 1) (so_val (xI)) hr.units)) (sa_nil))))) (xcons (so_fz (se_tup (xcons (so_fz (xix (xp 1) (so_val (xI)) hr.units)) (sa_nil)))) (xcons (so_fz (se_bin op_addAll snd_add (xp 1) (so_val (se_asC (.tup [.int 1]) (se_tup (xcons (so_val (xI)) (sa_nil))))))) (sa_nil))))))))) c__law_bent_row.nd)
  (sss_one (yret (so_val (xix (so_val (se_bin op_addAll snd_add (xp 4) (so_val (se_lst (xcons (so_fz (se_tup (xcons (so_fz (xc F__law_text hr (xcons (xp 0) (sa_nil)))) (xcons (so_fz (xix (xp 1) (so_val (xI)) hr.units)) (sa_nil))))) (xcons (so_fz (se_tup (xcons (so_fz (xc F__law_odd hr (xcons (xp 0) (sa_nil)))) (xcons (so_fz (xix (xp 1) (so_val (xI)) hr.units)) (sa_nil))))) (xcons (so_fz (xc F__law_odd hr (xcons (xp 0) (sa_nil)))) (sa_nil)))))))) (so_val (xc F__law_take hr (xcons (xp 0) (xcons (so_val (xI)) (sa_nil))))) hr.units)))))))
abbrev t__law_bent : Stmt := top 23
abbrev n_N_law_bent : List Str := ["_law_held", "_law_stock_here", "_law_place", "_law_row", "_law_more", "_law_great", "_law_sign", "_law_some"]
theorem c__law_bent : FnScope n_N_law_bent ["_law_held", "_law_stock_here"] (defScope t__law_bent) := ⟨rfl, rfl, rfl, by decide +kernel, rfl, by decide +kernel, by decide +kernel⟩
theorem s__law_bent {f : Addr} {k : Nat}
    (m_len : mg "len" = none)
    (m_list : mg "list" = none)
    (F__law_take : Cal P w K mg base xr k "_law_take" f_l_take)
    (F__law_bent_row : Cal P w K mg base xr k "_law_bent_row" f_l_bent_row)
    (F__law_odd : Cal P w K mg base xr k "_law_odd" f_l_odd)
    (cdv : Value) (A : Around) (outer : List Env) (s : Shared) (H : Hp) (E : XK) (vs : List V) (hr : Room k (A.deeper (envOfC "_law_bent" (defScope t__law_bent) s.heap.objs.size f cdv))) :
    SSs (yOf P w K mg base xr n_N_law_bent "_law_bent" (defScope t__law_bent) f cdv A outer s H E) (pinOf [0] vs) (defBody t__law_bent) w_l_bent :=
  yseq (yset 2 (xc F__law_take hr (xcons (xp 0) (xcons (so_fz (xblt m_len call_lenAll snd_len PySem.boot_len (xcons (xp 1) (sa_nil)))) (sa_nil)))) c__law_bent.nd)
  (yseq (yset 3 (xc F__law_bent_row hr (xcons (xp 0) (xcons (so_fz (xix (xp 1) (xp 2) hr.units)) (sa_nil)))) c__law_bent.nd)
  (yseq (yset 4 (se_tup (xcons (so_fz (se_bin op_addAll snd_add (so_val (xS)) (so_val (xix (so_val (xS)) (so_val (se_bin op_sub snd_sub (so_val (xblt m_len call_lenAll snd_len PySem.boot_len (xcons (xp 1) (sa_nil)))) (so_val (xI)))) hr.units)))) (xcons (so_fz (xix (so_val (xix (xp 1) (so_val (xI)) hr.units)) (so_val (xI)) hr.units)) (sa_nil)))) c__law_bent.nd)
  (yseq (yset 5 (xv 1) c__law_bent.nd)
  (yseq (yfor (passes_of rfl) rfl (si_seq (xsl (so_val (xS)) (sp_no) (sp_int (se_bin op_sub snd_sub (so_val (xix (so_val (se_asL [.int 8, .int 9] (se_lst (xcons (so_val (xI)) (xcons (so_val (xI)) (sa_nil)))))) (so_val (xc F__law_take hr (xcons (xp 0) (xcons (so_val (xI)) (sa_nil))))) hr.units)) (so_val (xblt m_len call_lenAll snd_len PySem.boot_len (xcons (xp 1) (sa_nil)))))))) (gn 6 c__law_bent.nd)
  (sss_one (yset 5 (se_bin op_addAll snd_add (xp 5) (so_val (se_tup (xcons (so_fz (se_tup (xcons (so_fz (se_bin op_addAll snd_add (so_val (xS)) (xp 6))) (xcons (so_fz (xix (so_val (xix (xp 1) (so_val (xI)) hr.units)) (so_val (xI)) hr.units)) (sa_nil))))) (sa_nil))))) c__law_bent.nd)))
  (yseq (yset 7 (se_lst (xcons (so_fz (xv 1)) (xcons (so_fz (se_bin op_addAll snd_add (so_val (se_bin op_addAll snd_add (so_val (xsl (xp 1) (sp_no) (sp_int (xv 2)))) (so_val (se_tup (xcons (so_fz (xv 3)) (sa_nil)))))) (so_val (xsl (xp 1) (sp_int (se_bin op_addAll snd_add (xp 2) (so_val (xI)))) (sp_no))))) (xcons (so_fz (xrev (xp 1))) (xcons (so_fz (se_bin op_addAll snd_add (xp 1) (so_val (xsl (xp 1) (sp_int (xv 2)) (sp_int (se_bin op_addAll snd_add (xp 2) (so_val (xI)))))))) (xcons (so_fz (se_tup (sa_nil))) (xcons (so_fz (xv 5)) (sa_nil)))))))) c__law_bent.nd)
  (sss_one (yret (so_val (xix (so_val (se_bin op_addAll snd_add (xp 7) (so_val (se_lst (xcons (so_fz (xty m_list call_list_of snd_list boot_list (xcons (xp 1) (sa_nil)))) (xcons (so_fz (se_bin op_addAll snd_add (xp 1) (so_val (se_tup (xcons (so_fz (xv 4)) (sa_nil)))))) (xcons (so_fz (se_bin op_addAll snd_add (so_val (se_tup (xcons (so_fz (xv 4)) (sa_nil)))) (xp 1))) (xcons (so_fz (xc F__law_odd hr (xcons (xp 0) (sa_nil)))) (sa_nil))))))))) (so_val (xc F__law_take hr (xcons (xp 0) (xcons (so_val (xI)) (sa_nil))))) hr.units)))))))))
abbrev t__law_told : Stmt := top 24
abbrev n_N_law_told : List Str := ["_law_found", "_law_due"]
theorem c__law_told : FnScope n_N_law_told ["_law_found", "_law_due"] (defScope t__law_told) := ⟨rfl, rfl, rfl, by decide +kernel, rfl, by decide +kernel, by decide +kernel⟩
theorem s__law_told {f : Addr} {k : Nat}
    (m_isinstance : mg "isinstance" = none)
    (m_bool : mg "bool" = none)
    (cdv : Value) (A : Around) (outer : List Env) (s : Shared) (H : Hp) (E : XK) (vs : List V) (hr : Room k (A.deeper (envOfC "_law_told" (defScope t__law_told) s.heap.objs.size f cdv))) :
    SSs (yOf P w K mg base xr n_N_law_told "_law_told" (defScope t__law_told) f cdv A outer s H E) (pinOf [] vs) (defBody t__law_told) w_l_told :=
  sss_one (yret (so_val (se_and (xblt m_isinstance call_isi snd_isi boot_isinstance (xcons (xp 0) (xcons (so_val (xTy m_bool boot_bool)) (sa_nil)))) (se_one (xcmp .Eq (op_eqAll hr.units) snd_eq (xp 0) (xp 1))))))
abbrev t_law : Stmt := top 25
abbrev n_Nlaw : List Str := ["_law_script", "_law_stock_here", "_law_kind", "_law_ports", "_law_spec_here", "_law_mate", "_law_k", "_law_held", "_law_thing"]
theorem c_law : FnScope n_Nlaw ["_law_script"] (defScope t_law) := ⟨rfl, rfl, rfl, by decide +kernel, rfl, by decide +kernel, by decide +kernel⟩
theorem s_law {f : Addr} {k : Nat}
    (m_range : mg "range" = none)
    (m_len : mg "len" = none)
    (F__law_digits : Cal P w K mg base xr k "_law_digits" f_l_digits)
    (F__law_stock : Cal P w K mg base xr k "_law_stock" f_l_stock)
    (F_is_stock : Cal P w K mg base xr k "is_stock" f_is_stock)
    (F__law_told : Cal P w K mg base xr k "_law_told" f_l_told)
    (F_ports_of : Cal P w K mg base xr k "ports_of" f_ports_of)
    (F_mate_of : Cal P w K mg base xr k "mate_of" f_mate_of)
    (F__law_spec : Cal P w K mg base xr k "_law_spec" f_l_spec)
    (F__law_odd : Cal P w K mg base xr k "_law_odd" f_l_odd)
    (F__law_bent : Cal P w K mg base xr k "_law_bent" f_l_bent)
    (F__law_bent_spec : Cal P w K mg base xr k "_law_bent_spec" f_l_bent_spec)
    (F__law_text : Cal P w K mg base xr k "_law_text" f_l_text)
    (F__law_take : Cal P w K mg base xr k "_law_take" f_l_take)
    (F_is_spec : Cal P w K mg base xr k "is_spec" f_is_spec)
    (F__law_name : Cal P w K mg base xr k "_law_name" f_l_name)
    (F_is_name : Cal P w K mg base xr k "is_name" f_is_name)
    (F__law_right : Cal P w K mg base xr k "_law_right" f_l_right)
    (cdv : Value) (A : Around) (outer : List Env) (s : Shared) (H : Hp) (E : XK) (vs : List V) (hr : Room k (A.deeper (envOfC "law" (defScope t_law) s.heap.objs.size f cdv))) :
    SSs (yOf P w K mg base xr n_Nlaw "law" (defScope t_law) f cdv A outer s H E) (pinOf [] vs) (defBody t_law) w_law :=
  yseq (yset 1 (xc F__law_stock hr (xcons (so_val (xc F__law_digits hr (xcons (so_fz (xv 0)) (xcons (so_val (xI)) (sa_nil))))) (sa_nil))) c_law.nd)
  (yseq (yif (st_not (ttru (so_val (xc F__law_told hr (xcons (so_fz (xc F_is_stock hr (xcons (so_fz (xv 1)) (sa_nil)))) (xcons (so_val (xB)) (sa_nil)))))))
  (sss_one (yret (so_val (xB))))
  (sss_nil))
  (yseq (yfor (passes_of rfl) rfl (si_seq (xv 1)) (gtup rfl (gcons (gn 2 c_law.nd) (gcons (gn 3 c_law.nd) (gnil))))
  (yseq (yif (tcmp .NotEq (op_neAll hr.units) snd_ne (so_val (xc F_ports_of hr (xcons (so_fz (xv 1)) (xcons (so_fz (xv 2)) (sa_nil))))) (xp 3))
  (sss_one (yret (so_val (xB))))
  (sss_nil))
  (sss_one (yfor (passes_of rfl) rfl (si_seq (xv 3)) (gn 4 c_law.nd)
  (yseq (yset 5 (xc F_mate_of hr (xcons (so_fz (xv 4)) (sa_nil))) c_law.nd)
  (sss_one (yif ((stw_or (st_not (ttru (so_val (xc F__law_spec hr (xcons (so_fz (xv 5)) (sa_nil)))))) (stw_or (tcmp .NotEq (op_neAll hr.units) snd_ne (so_val (xix (xp 5) (so_val (xI)) hr.units)) (so_val (xix (xp 4) (so_val (xI)) hr.units))) (stw_or (tcmp .Eq (op_eqAll hr.units) snd_eq (so_val (xix (xp 5) (so_val (xI)) hr.units)) (so_val (xix (xp 4) (so_val (xI)) hr.units))) (stw_or1 (tcmp .NotEq (op_neAll hr.units) snd_ne (so_val (xc F_mate_of hr (xcons (so_fz (xv 5)) (sa_nil)))) (xp 4)))))).st)
  (sss_one (yret (so_val (xB))))
  (sss_nil))))))))
  (yseq (yfor (passes_of rfl) rfl (xr2 m_range (so_val (xI)) (so_val (xblt m_len call_lenAll snd_len PySem.boot_len (xcons (xp 0) (sa_nil))))) (gn 6 c_law.nd)
  (yseq (yset 7 (xc F__law_digits hr (xcons (so_fz (xv 0)) (xcons (so_fz (xv 6)) (sa_nil)))) c_law.nd)
  (yseq (yset 4 (xix (so_val (xix (so_val (xix (xp 1) (so_val (xI)) hr.units)) (so_val (xI)) hr.units)) (so_val (xI)) hr.units) c_law.nd)
  (yseq (yset 8 (xix (so_val (se_lst (xcons (so_fz (xc F__law_text hr (xcons (xp 7) (sa_nil)))) (xcons (so_fz (xc F__law_bent_spec hr (xcons (xp 7) (xcons (so_fz (xv 4)) (sa_nil))))) (xcons (so_fz (xc F__law_bent hr (xcons (xp 7) (xcons (so_fz (xv 1)) (sa_nil))))) (xcons (so_fz (xc F__law_odd hr (xcons (xp 7) (sa_nil)))) (sa_nil))))))) (so_val (xc F__law_take hr (xcons (xp 7) (xcons (so_val (xI)) (sa_nil))))) hr.units) c_law.nd)
  (yseq (yif ((stw_or (st_not (ttru (so_val (xc F__law_told hr (xcons (so_fz (xc F_is_name hr (xcons (so_fz (xv 8)) (sa_nil)))) (xcons (so_fz (xc F__law_name hr (xcons (so_fz (xv 8)) (sa_nil)))) (sa_nil))))))) (stw_or1 (st_not (ttru (so_val (xc F__law_told hr (xcons (so_fz (xc F_is_spec hr (xcons (so_fz (xv 8)) (sa_nil)))) (xcons (so_fz (xc F__law_spec hr (xcons (so_fz (xv 8)) (sa_nil)))) (sa_nil))))))))).st)
  (sss_one (yret (so_val (xB))))
  (sss_nil))
  (sss_one (yif (st_not (ttru (so_val (xc F__law_told hr (xcons (so_fz (xc F_is_stock hr (xcons (so_fz (xv 8)) (sa_nil)))) (xcons (so_fz (xc F__law_right hr (xcons (so_fz (xv 8)) (sa_nil)))) (sa_nil)))))))
  (sss_one (yret (so_val (xB))))
  (sss_nil))))))))
  (sss_one (yret (so_val (xB)))))))
end
def d_is_name : He.DefD := ⟨("is_name", none), "is_name", "is_name", defArgs t_is_name, defBody t_is_name, defScope t_is_name, [], []⟩
def d_is_spec : He.DefD := ⟨("is_spec", none), "is_spec", "is_spec", defArgs t_is_spec, defBody t_is_spec, defScope t_is_spec, [], []⟩
def d_is_kind_row : He.DefD := ⟨("is_kind_row", none), "is_kind_row", "is_kind_row", defArgs t_is_kind_row, defBody t_is_kind_row, defScope t_is_kind_row, [], []⟩
def d_is_stock : He.DefD := ⟨("is_stock", none), "is_stock", "is_stock", defArgs t_is_stock, defBody t_is_stock, defScope t_is_stock, [], []⟩
def d_mate_of : He.DefD := ⟨("mate_of", none), "mate_of", "mate_of", defArgs t_mate_of, defBody t_mate_of, defScope t_mate_of, [], []⟩
def d_ports_of : He.DefD := ⟨("ports_of", none), "ports_of", "ports_of", defArgs t_ports_of, defBody t_ports_of, defScope t_ports_of, [], []⟩
def d__law_digits : He.DefD := ⟨("_law_digits", none), "_law_digits", "_law_digits", defArgs t__law_digits, defBody t__law_digits, defScope t__law_digits, [], []⟩
def d__law_take : He.DefD := ⟨("_law_take", none), "_law_take", "_law_take", defArgs t__law_take, defBody t__law_take, defScope t__law_take, [], []⟩
def d__law_words : He.DefD := ⟨("_law_words", none), "_law_words", "_law_words", defArgs t__law_words, defBody t__law_words, defScope t__law_words, [], []⟩
def d__law_stock : He.DefD := ⟨("_law_stock", none), "_law_stock", "_law_stock", defArgs t__law_stock, defBody t__law_stock, defScope t__law_stock, [], []⟩
def d__law_name : He.DefD := ⟨("_law_name", none), "_law_name", "_law_name", defArgs t__law_name, defBody t__law_name, defScope t__law_name, [], []⟩
def d__law_spec : He.DefD := ⟨("_law_spec", none), "_law_spec", "_law_spec", defArgs t__law_spec, defBody t__law_spec, defScope t__law_spec, [], []⟩
def d__law_right : He.DefD := ⟨("_law_right", none), "_law_right", "_law_right", defArgs t__law_right, defBody t__law_right, defScope t__law_right, [], []⟩
def d__law_text : He.DefD := ⟨("_law_text", none), "_law_text", "_law_text", defArgs t__law_text, defBody t__law_text, defScope t__law_text, [], []⟩
def d__law_odd : He.DefD := ⟨("_law_odd", none), "_law_odd", "_law_odd", defArgs t__law_odd, defBody t__law_odd, defScope t__law_odd, [], []⟩
def d__law_bent_spec : He.DefD := ⟨("_law_bent_spec", none), "_law_bent_spec", "_law_bent_spec", defArgs t__law_bent_spec, defBody t__law_bent_spec, defScope t__law_bent_spec, [], []⟩
def d__law_bent_row : He.DefD := ⟨("_law_bent_row", none), "_law_bent_row", "_law_bent_row", defArgs t__law_bent_row, defBody t__law_bent_row, defScope t__law_bent_row, [], []⟩
def d__law_bent : He.DefD := ⟨("_law_bent", none), "_law_bent", "_law_bent", defArgs t__law_bent, defBody t__law_bent, defScope t__law_bent, [], []⟩
def d__law_told : He.DefD := ⟨("_law_told", none), "_law_told", "_law_told", defArgs t__law_told, defBody t__law_told, defScope t__law_told, [], []⟩
def d_law : He.DefD := ⟨("law", none), "law", "law", defArgs t_law, defBody t_law, defScope t_law, [], []⟩
def fns : List He.DefD := [d_is_name, d_is_spec, d_is_kind_row, d_is_stock, d_mate_of, d_ports_of, d__law_digits, d__law_take, d__law_words, d__law_stock, d__law_name, d__law_spec, d__law_right, d__law_text, d__law_odd, d__law_bent_spec, d__law_bent_row, d__law_bent, d__law_told, d_law]
def fas : List He.Fa := [.glo "is_name", .glo "is_spec", .glo "is_kind_row", .glo "is_stock", .glo "mate_of", .glo "ports_of", .glo "_law_digits", .glo "_law_take", .glo "_law_words", .glo "_law_stock", .glo "_law_name", .glo "_law_spec", .glo "_law_right", .glo "_law_text", .glo "_law_odd", .glo "_law_bent_spec", .glo "_law_bent_row", .glo "_law_bent", .glo "_law_told", .glo "law", .free "len", .int "LONGEST" (8), .free "isinstance", .free "str", .str "LETTERS" "abcdefghijklmnopqrstuvwxyz", .free "tuple", .int "MOST_PORTS" (4), .free "all", .int "MOST_KINDS" (8), .free "dict", .free "range", .free "sorted", .free "set", .free "list", .free "bool"]
def nms0 : List Str := ["LONGEST", "MOST_KINDS", "MOST_PORTS", "LETTERS", "is_name", "is_spec", "is_kind_row", "is_stock", "mate_of", "ports_of", "_law_digits", "_law_take", "_law_words", "_law_stock", "_law_name", "_law_spec", "_law_right", "_law_text", "_law_odd", "_law_bent_spec", "_law_bent_row", "_law_bent", "_law_told"]
def nms : List Str := nms0
abbrev Rw : PySem.W.OpenRow := PySem.W.OpenLaw.row PySem.Challenge.rw_weave_k01_names_and_stocks
abbrev qv : Program := PySem.W.view Rw.prog [25]
abbrev hk : PySem.W.Hook := He.hookD 4 fas fns
def ob (s : PySem.W.SharedT) : He.AlD := He.obsDG 4 fas fns (HandSHeadRun.getT s)
theorem ob_eq (s : PySem.W.SharedT) : ob s = hk.obs s.abs := He.obsDG_eq (HandSHeadRun.getT_eq s)
set_option maxHeartbeats 0 in
theorem run (w : World) : HandSHeadRun.RunEq Rw qv hk ob 1960 nms w := by
  intro os
  kernel_rfl
theorem facts {w : World} {K : PySem.W.Frag} {h : Heap} {mg : Str → Option Value} {f : Addr} (X : K.In h) (G : h.Ns mainGlobals mg) (hfa : mg ("law" : Str) = some (.ref f)) (c : He.SaysD fas fns K) :
    ∃ fd : FuncData, (∀ (s : Shared) (v : Value), BindsTo s fd ⟨[v], []⟩ [("_law_script", v)]) ∧ ∀ base : Heap, K.In base → base.Ns mainGlobals mg → FnOk (PySem.Challenge.rw_weave_k01_names_and_stocks).prog w K mg base (L2.CX (PySem.Challenge.rw_weave_k01_names_and_stocks).prog w) 6 f fd ["_law_script"] (spOf K (fun _ _ _ _ => False) f_law) := by
  obtain ⟨fd_is_name, D_is_name⟩ := c.def_ 0 (d := d_is_name) rfl
  obtain ⟨fd_is_spec, D_is_spec⟩ := c.def_ 1 (d := d_is_spec) rfl
  obtain ⟨fd_is_kind_row, D_is_kind_row⟩ := c.def_ 2 (d := d_is_kind_row) rfl
  obtain ⟨fd_is_stock, D_is_stock⟩ := c.def_ 3 (d := d_is_stock) rfl
  obtain ⟨fd_mate_of, D_mate_of⟩ := c.def_ 4 (d := d_mate_of) rfl
  obtain ⟨fd_ports_of, D_ports_of⟩ := c.def_ 5 (d := d_ports_of) rfl
  obtain ⟨fd__law_digits, D__law_digits⟩ := c.def_ 6 (d := d__law_digits) rfl
  obtain ⟨fd__law_take, D__law_take⟩ := c.def_ 7 (d := d__law_take) rfl
  obtain ⟨fd__law_words, D__law_words⟩ := c.def_ 8 (d := d__law_words) rfl
  obtain ⟨fd__law_stock, D__law_stock⟩ := c.def_ 9 (d := d__law_stock) rfl
  obtain ⟨fd__law_name, D__law_name⟩ := c.def_ 10 (d := d__law_name) rfl
  obtain ⟨fd__law_spec, D__law_spec⟩ := c.def_ 11 (d := d__law_spec) rfl
  obtain ⟨fd__law_right, D__law_right⟩ := c.def_ 12 (d := d__law_right) rfl
  obtain ⟨fd__law_text, D__law_text⟩ := c.def_ 13 (d := d__law_text) rfl
  obtain ⟨fd__law_odd, D__law_odd⟩ := c.def_ 14 (d := d__law_odd) rfl
  obtain ⟨fd__law_bent_spec, D__law_bent_spec⟩ := c.def_ 15 (d := d__law_bent_spec) rfl
  obtain ⟨fd__law_bent_row, D__law_bent_row⟩ := c.def_ 16 (d := d__law_bent_row) rfl
  obtain ⟨fd__law_bent, D__law_bent⟩ := c.def_ 17 (d := d__law_bent) rfl
  obtain ⟨fd__law_told, D__law_told⟩ := c.def_ 18 (d := d__law_told) rfl
  obtain ⟨fd_law, D_law⟩ := c.def_ 19 (d := d_law) rfl
  have m_len : mg "len" = none := He.free_ok X G (c.fact 20 (f := .free "len") rfl)
  have m_LONGEST : Cst mg "LONGEST" (.int (8)) := cst_int (He.int_ok X G (c.fact 21 (f := .int "LONGEST" (8)) rfl))
  have m_isinstance : mg "isinstance" = none := He.free_ok X G (c.fact 22 (f := .free "isinstance") rfl)
  have m_str : mg "str" = none := He.free_ok X G (c.fact 23 (f := .free "str") rfl)
  have m_LETTERS : Cst mg "LETTERS" (.str "abcdefghijklmnopqrstuvwxyz") := cst_str (He.str_ok X G (c.fact 24 (f := .str "LETTERS" "abcdefghijklmnopqrstuvwxyz") rfl))
  have m_tuple : mg "tuple" = none := He.free_ok X G (c.fact 25 (f := .free "tuple") rfl)
  have m_MOST_PORTS : Cst mg "MOST_PORTS" (.int (4)) := cst_int (He.int_ok X G (c.fact 26 (f := .int "MOST_PORTS" (4)) rfl))
  have m_all : mg "all" = none := He.free_ok X G (c.fact 27 (f := .free "all") rfl)
  have m_MOST_KINDS : Cst mg "MOST_KINDS" (.int (8)) := cst_int (He.int_ok X G (c.fact 28 (f := .int "MOST_KINDS" (8)) rfl))
  have m_dict : mg "dict" = none := He.free_ok X G (c.fact 29 (f := .free "dict") rfl)
  have m_range : mg "range" = none := He.free_ok X G (c.fact 30 (f := .free "range") rfl)
  have m_sorted : mg "sorted" = none := He.free_ok X G (c.fact 31 (f := .free "sorted") rfl)
  have m_set : mg "set" = none := He.free_ok X G (c.fact 32 (f := .free "set") rfl)
  have m_list : mg "list" = none := He.free_ok X G (c.fact 33 (f := .free "list") rfl)
  have m_bool : mg "bool" = none := He.free_ok X G (c.fact 34 (f := .free "bool") rfl)
  have g_is_name := He.glo_ok X G (c.fact 0 (f := .glo "is_name") rfl)
  have g_is_spec := He.glo_ok X G (c.fact 1 (f := .glo "is_spec") rfl)
  have g_is_kind_row := He.glo_ok X G (c.fact 2 (f := .glo "is_kind_row") rfl)
  have g_is_stock := He.glo_ok X G (c.fact 3 (f := .glo "is_stock") rfl)
  have g_mate_of := He.glo_ok X G (c.fact 4 (f := .glo "mate_of") rfl)
  have g_ports_of := He.glo_ok X G (c.fact 5 (f := .glo "ports_of") rfl)
  have g__law_digits := He.glo_ok X G (c.fact 6 (f := .glo "_law_digits") rfl)
  have g__law_take := He.glo_ok X G (c.fact 7 (f := .glo "_law_take") rfl)
  have g__law_words := He.glo_ok X G (c.fact 8 (f := .glo "_law_words") rfl)
  have g__law_stock := He.glo_ok X G (c.fact 9 (f := .glo "_law_stock") rfl)
  have g__law_name := He.glo_ok X G (c.fact 10 (f := .glo "_law_name") rfl)
  have g__law_spec := He.glo_ok X G (c.fact 11 (f := .glo "_law_spec") rfl)
  have g__law_right := He.glo_ok X G (c.fact 12 (f := .glo "_law_right") rfl)
  have g__law_text := He.glo_ok X G (c.fact 13 (f := .glo "_law_text") rfl)
  have g__law_odd := He.glo_ok X G (c.fact 14 (f := .glo "_law_odd") rfl)
  have g__law_bent_spec := He.glo_ok X G (c.fact 15 (f := .glo "_law_bent_spec") rfl)
  have g__law_bent_row := He.glo_ok X G (c.fact 16 (f := .glo "_law_bent_row") rfl)
  have g__law_bent := He.glo_ok X G (c.fact 17 (f := .glo "_law_bent") rfl)
  have g__law_told := He.glo_ok X G (c.fact 18 (f := .glo "_law_told") rfl)
  have g_law := He.glo_ok X G (c.fact 19 (f := .glo "law") rfl)
  have e := hfa.symm.trans g_law
  cases e
  refine ⟨fd_law, FunD.bindsA (ps := ["_law_script"]) D_law (fun _ _ _ _ _ _ us hl => match us, hl with | [_], _ => rfl) |> fun b s v => b s [v] rfl, fun base KX NX => ?_⟩
  have C_is_name : Cal (PySem.Challenge.rw_weave_k01_names_and_stocks).prog w K mg base (fun _ _ _ _ => False) 1 "is_name" f_is_name := cal_of (kp := []) (toFun D_is_name) g_is_name (FunD.bindsN (ps := ["thing"]) D_is_name fun _ _ _ _ _ _ us hl => match us, hl with | [_], _ => rfl) c_is_name (fun cdv A outer s H E vs hr => s_is_name (k := 0) m_len m_LONGEST m_isinstance m_str m_LETTERS cdv A outer s H E vs hr) mono_is_name fun ms Q X _ h => j_is_name ms Q X h
  have C_is_spec : Cal (PySem.Challenge.rw_weave_k01_names_and_stocks).prog w K mg base (fun _ _ _ _ => False) 2 "is_spec" f_is_spec := cal_of (kp := []) (toFun D_is_spec) g_is_spec (FunD.bindsN (ps := ["thing"]) D_is_spec fun _ _ _ _ _ _ us hl => match us, hl with | [_], _ => rfl) c_is_spec (fun cdv A outer s H E vs hr => s_is_spec (k := 1) m_len m_isinstance m_tuple m_str (C_is_name.up (by decide)) cdv A outer s H E vs hr) mono_is_spec fun ms Q X _ h => j_is_spec ms Q X h
  have C_is_kind_row : Cal (PySem.Challenge.rw_weave_k01_names_and_stocks).prog w K mg base (fun _ _ _ _ => False) 3 "is_kind_row" f_is_kind_row := cal_of (kp := []) (toFun D_is_kind_row) g_is_kind_row (FunD.bindsN (ps := ["thing"]) D_is_kind_row fun _ _ _ _ _ _ us hl => match us, hl with | [_], _ => rfl) c_is_kind_row (fun cdv A outer s H E vs hr => s_is_kind_row (k := 2) m_len m_isinstance m_tuple m_MOST_PORTS m_all (C_is_name.up (by decide)) (C_is_spec.up (by decide)) cdv A outer s H E vs hr) mono_is_kind_row fun ms Q X _ h => j_is_kind_row ms Q X h
  have C_is_stock : Cal (PySem.Challenge.rw_weave_k01_names_and_stocks).prog w K mg base (fun _ _ _ _ => False) 4 "is_stock" f_is_stock := cal_of (kp := []) (toFun D_is_stock) g_is_stock (FunD.bindsN (ps := ["thing"]) D_is_stock fun _ _ _ _ _ _ us hl => match us, hl with | [_], _ => rfl) c_is_stock (fun cdv A outer s H E vs hr => s_is_stock (k := 3) m_len m_MOST_KINDS m_isinstance m_tuple (C_is_kind_row.up (by decide)) cdv A outer s H E vs hr) mono_is_stock fun ms Q X _ h => j_is_stock ms Q X h
  have C_mate_of : Cal (PySem.Challenge.rw_weave_k01_names_and_stocks).prog w K mg base (fun _ _ _ _ => False) 1 "mate_of" f_mate_of := cal_of (kp := []) (toFun D_mate_of) g_mate_of (FunD.bindsN (ps := ["spec"]) D_mate_of fun _ _ _ _ _ _ us hl => match us, hl with | [_], _ => rfl) c_mate_of (fun cdv A outer s H E vs hr => s_mate_of (k := 0)  cdv A outer s H E vs hr) mono_mate_of fun ms Q X _ h => j_mate_of ms Q X h
  have C_ports_of : Cal (PySem.Challenge.rw_weave_k01_names_and_stocks).prog w K mg base (fun _ _ _ _ => False) 1 "ports_of" f_ports_of := cal_of (kp := []) (toFun D_ports_of) g_ports_of (FunD.bindsN (ps := ["stock", "kind"]) D_ports_of fun _ _ _ _ _ _ us hl => match us, hl with | [_, _], _ => rfl) c_ports_of (fun cdv A outer s H E vs hr => s_ports_of (k := 0) m_dict cdv A outer s H E vs hr) mono_ports_of fun ms Q X _ h => j_ports_of ms Q X h
  have C__law_digits : Cal (PySem.Challenge.rw_weave_k01_names_and_stocks).prog w K mg base (fun _ _ _ _ => False) 1 "_law_digits" f_l_digits := cal_of (kp := []) (toFun D__law_digits) g__law_digits (FunD.bindsN (ps := ["_law_script", "_law_k"]) D__law_digits fun _ _ _ _ _ _ us hl => match us, hl with | [_, _], _ => rfl) c__law_digits (fun cdv A outer s H E vs hr => s__law_digits (k := 0) m_len m_range cdv A outer s H E vs hr) mono_l_digits fun ms Q X _ h => j_l_digits ms Q X h
  have C__law_take : Cal (PySem.Challenge.rw_weave_k01_names_and_stocks).prog w K mg base (fun _ _ _ _ => False) 1 "_law_take" f_l_take := cal_of (kp := [0]) (toFun D__law_take) g__law_take (FunD.bindsN (ps := ["_law_held", "_law_many"]) D__law_take fun _ _ _ _ _ _ us hl => match us, hl with | [_, _], _ => rfl) c__law_take (fun cdv A outer s H E vs hr => s__law_take (k := 0)  cdv A outer s H E vs hr) mono_l_take fun ms Q X _ h => j_l_take ms Q X h
  have C__law_words : Cal (PySem.Challenge.rw_weave_k01_names_and_stocks).prog w K mg base (fun _ _ _ _ => False) 2 "_law_words" f_l_words := cal_of (kp := [0]) (toFun D__law_words) g__law_words (FunD.bindsN (ps := ["_law_held", "_law_many"]) D__law_words fun _ _ _ _ _ _ us hl => match us, hl with | [_, _], _ => rfl) c__law_words (fun cdv A outer s H E vs hr => s__law_words (k := 1) m_range m_len (C__law_take.up (by decide)) cdv A outer s H E vs hr) mono_l_words fun ms Q X _ h => j_l_words ms Q X h
  have C__law_stock : Cal (PySem.Challenge.rw_weave_k01_names_and_stocks).prog w K mg base (fun _ _ _ _ => False) 3 "_law_stock" f_l_stock := cal_of (kp := [0]) (toFun D__law_stock) g__law_stock (FunD.bindsN (ps := ["_law_held"]) D__law_stock fun _ _ _ _ _ _ us hl => match us, hl with | [_], _ => rfl) c__law_stock (fun cdv A outer s H E vs hr => s__law_stock (k := 2) m_range m_len m_tuple m_sorted (C__law_take.up (by decide)) (C__law_words.up (by decide)) cdv A outer s H E vs hr) mono_l_stock fun ms Q X _ h => j_l_stock ms Q X h
  have C__law_name : Cal (PySem.Challenge.rw_weave_k01_names_and_stocks).prog w K mg base (fun _ _ _ _ => False) 1 "_law_name" f_l_name := cal_of (kp := []) (toFun D__law_name) g__law_name (FunD.bindsN (ps := ["_law_thing"]) D__law_name fun _ _ _ _ _ _ us hl => match us, hl with | [_], _ => rfl) c__law_name (fun cdv A outer s H E vs hr => s__law_name (k := 0) m_len m_isinstance m_str cdv A outer s H E vs hr) mono_l_name fun ms Q X _ h => j_l_name ms Q X h
  have C__law_spec : Cal (PySem.Challenge.rw_weave_k01_names_and_stocks).prog w K mg base (fun _ _ _ _ => False) 2 "_law_spec" f_l_spec := cal_of (kp := []) (toFun D__law_spec) g__law_spec (FunD.bindsN (ps := ["_law_thing"]) D__law_spec fun _ _ _ _ _ _ us hl => match us, hl with | [_], _ => rfl) c__law_spec (fun cdv A outer s H E vs hr => s__law_spec (k := 1) m_len m_isinstance m_tuple (C__law_name.up (by decide)) cdv A outer s H E vs hr) mono_l_spec fun ms Q X _ h => j_l_spec ms Q X h
  have C__law_right : Cal (PySem.Challenge.rw_weave_k01_names_and_stocks).prog w K mg base (fun _ _ _ _ => False) 3 "_law_right" f_l_right := cal_of (kp := []) (toFun D__law_right) g__law_right (FunD.bindsN (ps := ["_law_thing"]) D__law_right fun _ _ _ _ _ _ us hl => match us, hl with | [_], _ => rfl) c__law_right (fun cdv A outer s H E vs hr => s__law_right (k := 2) m_len m_isinstance m_tuple m_all m_set m_sorted (C__law_name.up (by decide)) (C__law_spec.up (by decide)) cdv A outer s H E vs hr) mono_l_right fun ms Q X _ h => j_l_right ms Q X h
  have C__law_text : Cal (PySem.Challenge.rw_weave_k01_names_and_stocks).prog w K mg base (fun _ _ _ _ => False) 2 "_law_text" f_l_text := cal_of (kp := [0]) (toFun D__law_text) g__law_text (FunD.bindsN (ps := ["_law_held"]) D__law_text fun _ _ _ _ _ _ us hl => match us, hl with | [_], _ => rfl) c__law_text (fun cdv A outer s H E vs hr => s__law_text (k := 1) m_range m_len (C__law_take.up (by decide)) cdv A outer s H E vs hr) mono_l_text fun ms Q X _ h => j_l_text ms Q X h
  have C__law_odd : Cal (PySem.Challenge.rw_weave_k01_names_and_stocks).prog w K mg base (fun _ _ _ _ => False) 2 "_law_odd" f_l_odd := cal_of (kp := [0]) (toFun D__law_odd) g__law_odd (FunD.bindsN (ps := ["_law_held"]) D__law_odd fun _ _ _ _ _ _ us hl => match us, hl with | [_], _ => rfl) c__law_odd (fun cdv A outer s H E vs hr => s__law_odd (k := 1) (C__law_take.up (by decide)) cdv A outer s H E vs hr) mono_l_odd fun ms Q X _ h => j_l_odd ms Q X h
  have C__law_bent_spec : Cal (PySem.Challenge.rw_weave_k01_names_and_stocks).prog w K mg base (fun _ _ _ _ => False) 3 "_law_bent_spec" f_l_bent_spec := cal_of (kp := [0]) (toFun D__law_bent_spec) g__law_bent_spec (FunD.bindsN (ps := ["_law_held", "_law_spec_here"]) D__law_bent_spec fun _ _ _ _ _ _ us hl => match us, hl with | [_, _], _ => rfl) c__law_bent_spec (fun cdv A outer s H E vs hr => s__law_bent_spec (k := 2) (C__law_take.up (by decide)) (C__law_odd.up (by decide)) (C__law_text.up (by decide)) cdv A outer s H E vs hr) mono_l_bent_spec fun ms Q X _ h => j_l_bent_spec ms Q X h
  have C__law_bent_row : Cal (PySem.Challenge.rw_weave_k01_names_and_stocks).prog w K mg base (fun _ _ _ _ => False) 4 "_law_bent_row" f_l_bent_row := cal_of (kp := [0]) (toFun D__law_bent_row) g__law_bent_row (FunD.bindsN (ps := ["_law_held", "_law_row"]) D__law_bent_row fun _ _ _ _ _ _ us hl => match us, hl with | [_, _], _ => rfl) c__law_bent_row (fun cdv A outer s H E vs hr => s__law_bent_row (k := 3) m_len m_list (C__law_take.up (by decide)) (C__law_bent_spec.up (by decide)) (C__law_odd.up (by decide)) (C__law_text.up (by decide)) cdv A outer s H E vs hr) mono_l_bent_row fun ms Q X _ h => j_l_bent_row ms Q X h
  have C__law_bent : Cal (PySem.Challenge.rw_weave_k01_names_and_stocks).prog w K mg base (fun _ _ _ _ => False) 5 "_law_bent" f_l_bent := cal_of (kp := [0]) (toFun D__law_bent) g__law_bent (FunD.bindsN (ps := ["_law_held", "_law_stock_here"]) D__law_bent fun _ _ _ _ _ _ us hl => match us, hl with | [_, _], _ => rfl) c__law_bent (fun cdv A outer s H E vs hr => s__law_bent (k := 4) m_len m_list (C__law_take.up (by decide)) (C__law_bent_row.up (by decide)) (C__law_odd.up (by decide)) cdv A outer s H E vs hr) mono_l_bent fun ms Q X _ h => j_l_bent ms Q X h
  have C__law_told : Cal (PySem.Challenge.rw_weave_k01_names_and_stocks).prog w K mg base (fun _ _ _ _ => False) 1 "_law_told" f_l_told := cal_of (kp := []) (toFun D__law_told) g__law_told (FunD.bindsN (ps := ["_law_found", "_law_due"]) D__law_told fun _ _ _ _ _ _ us hl => match us, hl with | [_, _], _ => rfl) c__law_told (fun cdv A outer s H E vs hr => s__law_told (k := 0) m_isinstance m_bool cdv A outer s H E vs hr) mono_l_told fun ms Q X _ h => j_l_told ms Q X h
  exact fnok_of (kp := []) (sp := sp_law) (toFun D_law) c_law (fun cdv A outer s H E vs hr => s_law (k := 5) m_range m_len (C__law_digits.up (by decide)) (C__law_stock.up (by decide)) (C_is_stock.up (by decide)) (C__law_told.up (by decide)) (C_ports_of.up (by decide)) (C_mate_of.up (by decide)) (C__law_spec.up (by decide)) (C__law_odd.up (by decide)) (C__law_bent.up (by decide)) (C__law_bent_spec.up (by decide)) (C__law_text.up (by decide)) (C__law_take.up (by decide)) (C_is_spec.up (by decide)) (C__law_name.up (by decide)) (C_is_name.up (by decide)) (C__law_right.up (by decide)) cdv A outer s H E vs hr) fun ms Q X _ h => j_law ms Q X h
end LK01
end VW
open PySem PySem.W PySem.Calls PyProof.Rows
set_option maxHeartbeats 0
theorem PySem.Challenge.cw_weave_k01_names_and_stocks_holds : PySem.Challenge.rw_weave_k01_names_and_stocks.Holds := by
  w_on; o_law
  refine HandSHeadRun.head_any (r := OpenLaw.row PySem.Challenge.rw_weave_k01_names_and_stocks) (q := VW.LK01.qv) (H := VW.LK01.hk) (ob := VW.LK01.ob) (M := 1960) (loose := VW.LK01.nms) (d := HandSHeadRun.topDef (OpenLaw.row PySem.Challenge.rw_weave_k01_names_and_stocks).prog 25) (kwd := []) VW.LK01.ob_eq
    (by kernel_rfl) (fun s => by kernel_rfl) VW.LK01.run (by kernel_rfl) (by kernel_rfl) (by kernel_rfl) (by rfl) (by first | assumption | decide +kernel) (by decide +kernel) ⟨rfl, rfl, rfl, rfl, rfl, by decide +kernel⟩ ?hw ?hc
  case hw => w_witness2
  case hc =>
    refine VW.walk_ofW (l := PySem.Challenge.rw_weave_k01_names_and_stocks) (n := 63) (k := 6) (x := "_law_script") rfl (by decide) (by kernel_rfl) ⟨rfl, by decide, by decide⟩ ?F
    intro w mg fa h Y G hmg0
    obtain ⟨K, KX, c⟩ := Y
    have hmg : mg ("law" : PySem.Str) = some (.ref fa) := by
      have e : (HandSHeadRun.topDef (OpenLaw.row PySem.Challenge.rw_weave_k01_names_and_stocks).prog 25).name = ("law" : PySem.Str) := by kernel_rfl
      rw [← e]
      exact hmg0
    obtain ⟨fd, hb, hF⟩ := VW.LK01.facts (w := w) KX G hmg c
    refine ⟨K, fd, _, KX, hb, fun H a ns hl _ hS => VW.law_sp (sp := VW.sp_law) (fun ns hl Q X q => ⟨_, rfl, ?_⟩) H a ns hl hS, hF⟩
    rw [VW.LK01.law_true ns hl]
    exact q

