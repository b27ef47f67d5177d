import PyProof.Rows.All
import Wide.All
import OpenK.AllK
import Wide.FinOn
import HandS.ForMost
import HandS.ForExc
import HandS.CallSlots
import HandS.IsInst
import HandS.Wide
import HandS.Deep
import HandS.TupAny
import HandS.Conv
import HandS.Replace
import HandS.Zip
import HandS.Style
import HandS.Dict
import PySem.Challenge.RW_slashwise_k10_kinds_written
set_option Elab.async false
set_option linter.all false
set_option maxRecDepth 100000
/-! M: defs as functions over plain data. D: data; W: a value (data, a mutable object by its number, a fresh list); O: a mutable object -/
namespace M
open PySem L2

abbrev D := PyData
inductive W where
  | d (x : D)
  | obj (i : Nat)
  | fl (xs : List D)
  | ro (xs : List D)
inductive O where
  | lst (xs : List D)
  | fz (xs : List D)
  | dct (kvs : List (Str × W))
abbrev Mem := List O
abbrev Env := List (Option W)
structure Exn where
  cls : Str
  fs : List (Str × D)
inductive Res (α : Type) where
  | ok (a : α) (m : Mem)
  | err (e : Exn) (m : Mem)
  | bad
def Res.bind {α β : Type} (r : Res α) (k : α → Mem → Res β) : Res β :=
  match r with
  | .ok a m => k a m
  | .err e m => .err e m
  | .bad => .bad
@[simp] theorem Res.bind_ok {α β : Type} (a : α) (m : Mem) (k : α → Mem → Res β) : (Res.ok a m).bind k = k a m := rfl
@[simp] theorem Res.bind_err {α β : Type} (e : Exn) (m : Mem) (k : α → Mem → Res β) : (Res.err e m : Res α).bind k = .err e m := rfl
@[simp] theorem Res.bind_bad {α β : Type} (k : α → Mem → Res β) : (Res.bad : Res α).bind k = .bad := rfl

/-! ### data on the heap -/
def KL (K : PySem.W.Frag) (a : Addr) (xs : List V) : Prop :=
  ∃ (o : Obj) (its : Array Value) (n : Nat), K.lookup a = some o ∧ o.cls = .type "list" ∧ o.dict = none ∧ o.data = .seq its n ∧ its.size ≤ sizeLine ∧ Vals xs its.toList
def KT (K : PySem.W.Frag) (a : Addr) (xs : List V) : Prop :=
  ∃ (o : Obj) (its : Array Value) (n : Nat), K.lookup a = some o ∧ o.cls = .type "tuple" ∧ o.data = .seq its n ∧ its.size ≤ sizeLine ∧ Vals xs its.toList
def LsI (K : PySem.W.Frag) (lv : List Addr) (H : Hp) (a : Addr) (xs : List V) : Prop := (a ∉ lv ∧ Rd H a (.lst xs)) ∨ KL K a xs
def LsT (lv : List Addr) (H : Hp) (a : Addr) (xs : List V) : Prop := a ∉ lv ∧ H a = some (.lst xs)
def TpI (K : PySem.W.Frag) (lv : List Addr) (H : Hp) (a : Addr) (xs : List V) : Prop := (a ∉ lv ∧ H a = some (.tup xs)) ∨ KT K a xs
mutual
inductive Rep (K : PySem.W.Frag) (lv : List Addr) (H : Hp) : V → D → Prop
  | non : Rep K lv H .non .none
  | bl (b : Bool) : Rep K lv H (.bl b) (.bool b)
  | int (i : Int) : Rep K lv H (.int i) (.int i)
  | str (x : Str) : Rep K lv H (.str x) (.str x)
  | lst {a : Addr} {xs : List V} {ds : List D} : LsT lv H a xs → Reps K lv H xs ds → Rep K lv H (.ref a) (.list ds)
  | tup {a : Addr} {xs : List V} {ds : List D} : TpI K lv H a xs → Reps K lv H xs ds → Rep K lv H (.ref a) (.tuple ds)
inductive Reps (K : PySem.W.Frag) (lv : List Addr) (H : Hp) : List V → List D → Prop
  | nil : Reps K lv H [] []
  | cons {v : V} {vs : List V} {d : D} {ds : List D} : Rep K lv H v d → Reps K lv H vs ds → Reps K lv H (v :: vs) (d :: ds)
end
/-- what was held is held -/
structure Mo (lv : List Addr) (H : Hp) (lv' : List Addr) (H' : Hp) : Prop where
  keep : ∀ a o, H a = some o → a ∉ lv → H' a = some o
  out : ∀ a o, H a = some o → a ∉ lv → a ∉ lv'
section
variable {K : PySem.W.Frag} {lv lv' : List Addr} {H H' : Hp}
theorem LsI.mono {a : Addr} {xs : List V} (h : LsI K lv H a xs) (m : Mo lv H lv' H') : LsI K lv' H' a xs := by
  rcases h with ⟨n, h | ⟨o, h⟩⟩ | h
  · exact .inl ⟨m.out _ _ h n, .inl (m.keep _ _ h n)⟩
  · exact .inl ⟨m.out _ _ h n, .inr ⟨o, m.keep _ _ h n⟩⟩
  · exact .inr h
theorem LsT.mono {a : Addr} {xs : List V} (h : LsT lv H a xs) (m : Mo lv H lv' H') : LsT lv' H' a xs := ⟨m.out _ _ h.2 h.1, m.keep _ _ h.2 h.1⟩
theorem LsT.sq {a : Addr} {xs : List V} (h : LsT lv H a xs) : SqL K H a xs := .inl (.inl h.2)
theorem TpI.mono {a : Addr} {xs : List V} (h : TpI K lv H a xs) (m : Mo lv H lv' H') : TpI K lv' H' a xs := by
  rcases h with ⟨n, h⟩ | h
  · exact .inl ⟨m.out _ _ h n, m.keep _ _ h n⟩
  · exact .inr h
theorem LsI.sq {a : Addr} {xs : List V} (h : LsI K lv H a xs) : SqL K H a xs := by
  rcases h with ⟨_, h⟩ | h
  · exact .inl h
  · exact .inr h
theorem TpI.sq {a : Addr} {xs : List V} (h : TpI K lv H a xs) : SqT K H a xs := by
  rcases h with ⟨_, h⟩ | h
  · exact .inl (.inl h)
  · exact .inr h
mutual
theorem Rep.mono (m : Mo lv H lv' H') : ∀ {v : V} {d : D}, Rep K lv H v d → Rep K lv' H' v d
  | _, _, .non => .non
  | _, _, .bl b => .bl b
  | _, _, .int i => .int i
  | _, _, .str x => .str x
  | _, _, .lst h r => .lst (h.mono m) (Reps.mono m r)
  | _, _, .tup h r => .tup (h.mono m) (Reps.mono m r)
theorem Reps.mono (m : Mo lv H lv' H') : ∀ {vs : List V} {ds : List D}, Reps K lv H vs ds → Reps K lv' H' vs ds
  | _, _, .nil => .nil
  | _, _, .cons h r => .cons (Rep.mono m h) (Reps.mono m r)
end
mutual
theorem Rep.dp : ∀ {v : V} {d : D}, Rep K lv H v d → Dp K H v d
  | _, _, .non => .non
  | _, _, .bl b => .bl b
  | _, _, .int i => .int i
  | _, _, .str x => .str x
  | _, _, .lst h r => .lst h.sq (Reps.dp r)
  | _, _, .tup h r => .tup h.sq (Reps.dp r)
theorem Reps.dp : ∀ {vs : List V} {ds : List D}, Reps K lv H vs ds → DpAll K H vs ds
  | _, _, .nil => .nil
  | _, _, .cons h r => .cons (Rep.dp h) (Reps.dp r)
end
theorem Reps.length : ∀ {vs : List V} {ds : List D}, Reps K lv H vs ds → vs.length = ds.length
  | _, _, .nil => rfl
  | _, _, .cons _ r => by rw [List.length_cons, List.length_cons, Reps.length r]
theorem Reps.append : ∀ {vs us : List V} {ds es : List D}, Reps K lv H vs ds → Reps K lv H us es → Reps K lv H (vs ++ us) (ds ++ es)
  | _, _, _, _, .nil, s => s
  | _, _, _, _, .cons h r, s => .cons h (Reps.append r s)
theorem Reps.get : ∀ {vs : List V} {ds : List D} {i : Nat} {d : D}, Reps K lv H vs ds → ds[i]? = some d → ∃ v, vs[i]? = some v ∧ Rep K lv H v d
  | _, _, _, _, .nil, e => by simp at e
  | _, _, 0, _, .cons h r, e => by simp at e; subst e; exact ⟨_, rfl, h⟩
  | _, _, i + 1, d, .cons h r, e => by
    obtain ⟨v, h1, h2⟩ := Reps.get (i := i) (d := d) r (by simpa using e)
    exact ⟨v, by simpa using h1, h2⟩
theorem Reps.get' : ∀ {vs : List V} {ds : List D} {i : Nat} {v : V}, Reps K lv H vs ds → vs[i]? = some v → ∃ d, ds[i]? = some d ∧ Rep K lv H v d
  | _, _, _, _, .nil, e => by simp at e
  | _, _, 0, _, .cons h r, e => by simp at e; subst e; exact ⟨_, rfl, h⟩
  | _, _, i + 1, d, .cons h r, e => by
    obtain ⟨v, h1, h2⟩ := Reps.get' (i := i) (v := d) r (by simpa using e)
    exact ⟨v, by simpa using h1, h2⟩
theorem Reps.take : ∀ {vs : List V} {ds : List D} (n : Nat), Reps K lv H vs ds → Reps K lv H (vs.take n) (ds.take n)
  | _, _, 0, _ => .nil
  | _, _, _ + 1, .nil => .nil
  | _, _, n + 1, .cons h r => .cons h (Reps.take n r)
theorem Reps.drop : ∀ {vs : List V} {ds : List D} (n : Nat), Reps K lv H vs ds → Reps K lv H (vs.drop n) (ds.drop n)
  | _, _, 0, r => r
  | _, _, _ + 1, .nil => .nil
  | _, _, n + 1, .cons h r => Reps.drop n r
theorem Reps.set {v : V} {d : D} (h : Rep K lv H v d) : ∀ {vs : List V} {ds : List D} (i : Nat), Reps K lv H vs ds → Reps K lv H (vs.set i v) (ds.set i d)
  | _, _, _, .nil => .nil
  | _, _, 0, .cons _ t => .cons h t
  | _, _, i + 1, .cons q t => .cons q (Reps.set h i t)
theorem Reps.eraseIdx : ∀ {vs : List V} {ds : List D} (i : Nat), Reps K lv H vs ds → Reps K lv H (vs.eraseIdx i) (ds.eraseIdx i)
  | _, _, _, .nil => .nil
  | _, _, 0, .cons _ t => t
  | _, _, i + 1, .cons q t => .cons q (Reps.eraseIdx i t)
theorem Reps.dropLast : ∀ {vs : List V} {ds : List D}, Reps K lv H vs ds → Reps K lv H vs.dropLast ds.dropLast := fun {vs ds} r => by
  rw [List.dropLast_eq_take, List.dropLast_eq_take, r.length]; exact r.take _
theorem Reps.reverse : ∀ {vs : List V} {ds : List D}, Reps K lv H vs ds → Reps K lv H vs.reverse ds.reverse
  | _, _, .nil => .nil
  | _, _, .cons h r => by rw [List.reverse_cons, List.reverse_cons]; exact (Reps.reverse r).append (.cons h .nil)
theorem Reps.one {v : V} {d : D} (h : Rep K lv H v d) : Reps K lv H [v] [d] := .cons h .nil
theorem Reps.ints : ∀ (ns : List Int), Reps K lv H (ns.map V.int) (ns.map PyData.int)
  | [] => .nil
  | n :: ns => .cons (.int n) (Reps.ints ns)
theorem Reps.vints : ∀ {vs : List V} {ns : List Int}, Reps K lv H vs (ns.map PyData.int) → vs = ns.map V.int
  | [], [], _ => rfl
  | v :: vs, n :: ns, .cons h r => by cases h; rw [Reps.vints r]; rfl
theorem Reps.vstrs : ∀ {vs : List V} {ns : List Str}, Reps K lv H vs (ns.map PyData.str) → vs = ns.map V.str
  | [], [], _ => rfl
  | v :: vs, n :: ns, .cons h r => by cases h; rw [Reps.vstrs r]; rfl
theorem Reps.vbls : ∀ {vs : List V} {ns : List Bool}, Reps K lv H vs (ns.map PyData.bool) → vs = ns.map V.bl
  | [], [], _ => rfl
  | v :: vs, n :: ns, .cons h r => by cases h; rw [Reps.vbls r]; rfl
end

/-! ### the world: the objects' places; those that no data holds (objects that may change, fresh lists); the heap -/
structure Wd where
  io : List Addr
  lv : List Addr
  H : Hp
def RepW (K : PySem.W.Frag) (G : Wd) (v : V) : W → Prop
  | .d x => Rep K G.lv G.H v x
  | .obj i => ∃ a, G.io[i]? = some a ∧ v = .ref a
  | .fl _ => False
  | .ro ds => ∃ a vs, v = .ref a ∧ LsI K G.lv G.H a vs ∧ Reps K G.lv G.H vs ds
def RepR (K : PySem.W.Frag) (H0 : Hp) (G : Wd) (v : V) : W → Prop
  | .d x => Rep K G.lv G.H v x
  | .obj i => ∃ a, G.io[i]? = some a ∧ v = .ref a
  | .fl ds => ∃ p vs, v = .ref p ∧ H0 p = none ∧ p ∉ G.io ∧ p ∈ G.lv ∧ G.H p = some (.lst vs) ∧ Reps K G.lv G.H vs ds
  | .ro ds => ∃ a vs, v = .ref a ∧ LsI K G.lv G.H a vs ∧ Reps K G.lv G.H vs ds
def ORep (K : PySem.W.Frag) (G : Wd) (a : Addr) : O → Prop
  | .lst ds => a ∈ G.lv ∧ ∃ vs, G.H a = some (.lst vs) ∧ Reps K G.lv G.H vs ds
  | .fz ds => a ∉ G.lv ∧ ∃ vs, G.H a = some (.lst vs) ∧ Reps K G.lv G.H vs ds
  | .dct kvs => a ∈ G.lv ∧ ∃ ks : List (Key × V), G.H a = some (.dK ks) ∧ Paired (fun (p : Key × V) (q : Str × W) => p.1 = Sum.inr q.1 ∧ RepW K G p.2 q.2) ks kvs
def okW (n : Nat) : W → Bool
  | .obj j => decide (j < n)
  | .fl _ => false
  | _ => true
def okO (n : Nat) : O → Bool
  | .dct kvs => kvs.all fun p => okW n p.2
  | _ => true
structure RelM (K : PySem.W.Frag) (G : Wd) (m : Mem) : Prop where
  dw : ∀ (i : Nat) (o : O), m[i]? = some o → okO i o = true
  len : G.io.length = m.length
  nd : G.io.Nodup
  lt : ∀ a ∈ G.lv, G.H a ≠ none
  it : ∀ a ∈ G.io, G.H a ≠ none
  ob : ∀ (i : Nat) (a : Addr) (o : O), G.io[i]? = some a → m[i]? = some o → ORep K G a o
structure Le (G G' : Wd) : Prop where
  lt : ∀ a ∈ G.lv, G.H a ≠ none
  io : ∃ κ : List Addr, G'.io = G.io ++ κ ∧ ∀ a ∈ κ, G.H a = none
  lv : ∀ a ∈ G'.lv, a ∈ G.lv ∨ G.H a = none
  stay : ∀ a ∈ G.lv, a ∉ G.io → a ∈ G'.lv
  keep : ∀ a o, G.H a = some o → ¬ (a ∈ G.io ∧ a ∈ G.lv) → G'.H a = some o
  tr : ∀ a, G'.H a = none → G.H a = none
theorem Le.refl {K : PySem.W.Frag} {G : Wd} {m : Mem} (R : RelM K G m) : Le G G := ⟨R.lt, ⟨[], by simp, fun _ h => nomatch h⟩, fun _ h => .inl h, fun _ h _ => h, fun _ _ h _ => h, fun _ h => h⟩
theorem Le.nio {G G' : Wd} (a : Le G G') {c : Addr} (h : G.H c ≠ none) (n : c ∉ G.io) : c ∉ G'.io := by
  obtain ⟨κ, e, nk⟩ := a.io
  rw [e]
  intro z
  rcases List.mem_append.mp z with z | z
  · exact n z
  · exact h (nk _ z)
theorem Le.nlv {G G' : Wd} (a : Le G G') {c : Addr} (h : G.H c ≠ none) (n : c ∉ G.lv) : c ∉ G'.lv := fun z => by
  rcases a.lv c z with z | z
  · exact n z
  · exact h z
theorem Le.trans {G G1 G2 : Wd} (a : Le G G1) (b : Le G1 G2) : Le G G2 := by
  obtain ⟨κ1, e1, n1⟩ := a.io
  obtain ⟨κ2, e2, n2⟩ := b.io
  refine ⟨a.lt, ⟨κ1 ++ κ2, by rw [e2, e1, List.append_assoc], fun c hc => ?_⟩, fun c hc => ?_, fun c hc n => b.stay c (a.stay c hc n) (a.nio (a.lt c hc) n), fun c o h n => ?_, fun c h => a.tr c (b.tr c h)⟩
  · rcases List.mem_append.mp hc with h | h
    · exact n1 c h
    · exact a.tr c (n2 c h)
  · rcases b.lv c hc with h | h
    · exact a.lv c h
    · exact .inr (a.tr c h)
  · have hn : G.H c ≠ none := by rw [h]; simp
    refine b.keep c o (a.keep c o h n) fun ⟨z1, z2⟩ => ?_
    by_cases z : c ∈ G.io
    · exact n ⟨z, Classical.byContradiction fun q => a.nlv hn q z2⟩
    · exact a.nio hn z z1
theorem Le.mo {G G' : Wd} (a : Le G G') : Mo G.lv G.H G'.lv G'.H := ⟨fun c o h n => a.keep c o h fun z => n z.2, fun c o h n => a.nlv (by rw [h]; simp) n⟩
theorem Le.iget {G G' : Wd} (a : Le G G') {i : Nat} {c : Addr} (h : G.io[i]? = some c) : G'.io[i]? = some c := by
  obtain ⟨κ, e, _⟩ := a.io
  rw [e, List.getElem?_append_left (List.getElem?_eq_some_iff.mp h).1]; exact h
section
variable {K : PySem.W.Frag} {G G' : Wd} {H0 H1 : Hp}
theorem RepW.mono {v : V} {w : W} (h : RepW K G v w) (le : Le G G') : RepW K G' v w := by
  cases w with
  | d x => exact Rep.mono le.mo h
  | obj i => obtain ⟨a, h1, h2⟩ := h; exact ⟨a, le.iget h1, h2⟩
  | fl _ => exact h
  | ro ds => obtain ⟨a, vs, h1, h2, h3⟩ := h; exact ⟨a, vs, h1, h2.mono le.mo, h3.mono le.mo⟩
theorem RepR.mono {v : V} {w : W} (h : RepR K H0 G v w) (le : Le G G') : RepR K H0 G' v w := by
  cases w with
  | d x => exact Rep.mono le.mo h
  | obj i => obtain ⟨a, h1, h2⟩ := h; exact ⟨a, le.iget h1, h2⟩
  | fl ds =>
    obtain ⟨p, vs, e, h0, h1, h2, h3, r⟩ := h
    have hp : G.H p ≠ none := by rw [h3]; simp
    exact ⟨p, vs, e, h0, le.nio hp h1, le.stay _ h2 h1, le.keep _ _ h3 (fun z => h1 z.1), Reps.mono le.mo r⟩
  | ro ds => obtain ⟨a, vs, h1, h2, h3⟩ := h; exact ⟨a, vs, h1, h2.mono le.mo, h3.mono le.mo⟩
theorem RepR.weak {v : V} {w : W} (h : RepR K H1 G v w) (t : ∀ a, H1 a = none → H0 a = none) : RepR K H0 G v w := by
  cases w with
  | d x => exact h
  | obj i => exact h
  | fl ds => obtain ⟨p, vs, e, h0, r⟩ := h; exact ⟨p, vs, e, t p h0, r⟩
  | ro ds => exact h
theorem RepW.r {v : V} {w : W} (h : RepW K G v w) : RepR K H0 G v w := by
  cases w with
  | d x => exact h
  | obj i => exact h
  | fl _ => exact False.elim h
  | ro ds => exact h
theorem ORep.mono {a : Addr} {ob : O} (h : ORep K G a ob) (le : Le G G') (hl : a ∈ G.lv → a ∈ G'.lv) (hl2 : a ∉ G.lv → a ∉ G'.lv) (e : G'.H a = G.H a) : ORep K G' a ob := by
  cases ob with
  | lst ds => obtain ⟨h1, vs, h2, r⟩ := h; exact ⟨hl h1, vs, by rw [e]; exact h2, Reps.mono le.mo r⟩
  | fz ds => obtain ⟨h1, vs, h2, r⟩ := h; exact ⟨hl2 h1, vs, by rw [e]; exact h2, Reps.mono le.mo r⟩
  | dct kvs =>
    obtain ⟨h1, ks, h2, r⟩ := h
    exact ⟨hl h1, ks, by rw [e]; exact h2, Paired.mono (fun _ _ z => ⟨z.1, z.2.mono le⟩) r⟩
end

/-! ### worlds that grow -/
section
variable {K : PySem.W.Frag} {G G0 : Wd} {m : Mem} {p : Addr} {o : HO}
theorem upd_none {H : Hp} {a : Addr} (e : upd H p o a = none) : H a = none := by
  unfold upd at e
  split at e
  · cases e
  · exact e
theorem RelM.ne (R : RelM K G m) (h : G.H p = none) : p ∉ G.io ∧ p ∉ G.lv := ⟨fun z => R.it p z h, fun z => R.lt p z h⟩
/-- a new thing that is held as data -/
theorem Le.new (R : RelM K G m) (h : G.H p = none) : Le G ⟨G.io, G.lv, upd G.H p o⟩ :=
  ⟨R.lt, ⟨[], by simp, fun _ z => nomatch z⟩, fun _ z => .inl z, fun _ z _ => z, fun a u e _ => by show upd G.H p o a = _; rw [upd_ne (ne_of_none e h)]; exact e, fun a e => upd_none e⟩
theorem RelM.new (R : RelM K G m) (h : G.H p = none) : RelM K ⟨G.io, G.lv, upd G.H p o⟩ m := by
  have ne : ∀ a, G.H a ≠ none → a ≠ p := fun a z e => z (e ▸ h)
  refine ⟨R.dw, R.len, R.nd, fun a z => ?_, fun a z => ?_, fun i a ob e1 e2 => (R.ob i a ob e1 e2).mono (Le.new R h) (fun z => z) (fun z => z) ?_⟩
  · show upd G.H p o a ≠ none
    rw [upd_ne (ne a (R.lt a z))]; exact R.lt a z
  · show upd G.H p o a ≠ none
    rw [upd_ne (ne a (R.it a z))]; exact R.it a z
  · exact upd_ne (ne a (R.it a (List.mem_of_getElem? e1)))
/-- a new thing that no data holds -/
theorem Le.newL (R : RelM K G m) (h : G.H p = none) : Le G ⟨G.io, p :: G.lv, upd G.H p o⟩ :=
  ⟨R.lt, ⟨[], by simp, fun _ z => nomatch z⟩, fun a z => by
    rcases List.mem_cons.mp z with z | z
    · exact .inr (z ▸ h)
    · exact .inl z, fun _ z _ => List.mem_cons_of_mem _ z, fun a u e _ => by show upd G.H p o a = _; rw [upd_ne (ne_of_none e h)]; exact e, fun a e => upd_none e⟩
theorem RelM.newL (R : RelM K G m) (h : G.H p = none) : RelM K ⟨G.io, p :: G.lv, upd G.H p o⟩ m := by
  have ne : ∀ a, G.H a ≠ none → a ≠ p := fun a z e => z (e ▸ h)
  refine ⟨R.dw, R.len, R.nd, fun a z => ?_, fun a z => ?_, fun i a ob e1 e2 => (R.ob i a ob e1 e2).mono (Le.newL R h) (fun z => List.mem_cons_of_mem _ z) (fun z q => ?_) ?_⟩
  · show upd G.H p o a ≠ none
    rcases List.mem_cons.mp z with z | z
    · rw [z, upd_same]; simp
    · rw [upd_ne (ne a (R.lt a z))]; exact R.lt a z
  · show upd G.H p o a ≠ none
    rw [upd_ne (ne a (R.it a z))]; exact R.it a z
  · rcases List.mem_cons.mp q with q | q
    · exact R.it a (List.mem_of_getElem? e1) (q ▸ h)
    · exact z q
  · exact upd_ne (ne a (R.it a (List.mem_of_getElem? e1)))
/-- a fresh list becomes data -/
def Wd.drop (G : Wd) (p : Addr) : Wd := ⟨G.io, G.lv.filter (fun a => decide (a ≠ p)), G.H⟩
theorem mem_drop {a : Addr} : a ∈ (G.drop p).lv ↔ a ∈ G.lv ∧ a ≠ p := by
  show a ∈ G.lv.filter _ ↔ _
  rw [List.mem_filter]; simp
theorem Mo.drop : Mo G.lv G.H (G.drop p).lv (G.drop p).H := ⟨fun _ _ h _ => h, fun _ _ _ n z => n (mem_drop.mp z).1⟩
theorem Le.drop (le : Le G0 G) (h0 : G0.H p = none) : Le G0 (G.drop p) :=
  ⟨le.lt, le.io, fun a z => le.lv a (mem_drop.mp z).1, fun a z n => mem_drop.mpr ⟨le.stay a z n, fun e => le.lt a z (e ▸ h0)⟩, le.keep, le.tr⟩
theorem RepW.drop {v : V} {w : W} (h : RepW K G v w) : RepW K (G.drop p) v w := by
  cases w with
  | d x => exact Rep.mono Mo.drop h
  | obj i => exact h
  | fl _ => exact h
  | ro ds => obtain ⟨a, vs, h1, h2, h3⟩ := h; exact ⟨a, vs, h1, h2.mono Mo.drop, h3.mono Mo.drop⟩
theorem RelM.drop (R : RelM K G m) (h : p ∉ G.io) : RelM K (G.drop p) m := by
  refine ⟨R.dw, R.len, R.nd, fun a z => R.lt a (mem_drop.mp z).1, R.it, fun i a ob e1 e2 => ?_⟩
  have q := R.ob i a ob e1 e2
  have ne : a ≠ p := fun e => h (e ▸ List.mem_of_getElem? e1)
  cases ob with
  | lst ds => obtain ⟨h1, vs, h2, r⟩ := q; exact ⟨mem_drop.mpr ⟨h1, ne⟩, vs, h2, Reps.mono Mo.drop r⟩
  | fz ds => obtain ⟨h1, vs, h2, r⟩ := q; exact ⟨fun z => h1 (mem_drop.mp z).1, vs, h2, Reps.mono Mo.drop r⟩
  | dct kvs => obtain ⟨h1, ks, h2, r⟩ := q; exact ⟨mem_drop.mpr ⟨h1, ne⟩, ks, h2, Paired.mono (fun _ _ z => ⟨z.1, z.2.drop⟩) r⟩
theorem RepR.drop {v : V} {ds : List D} {H0 : Hp} {p : Addr} {vs : List V} (h3 : G.H p = some (.lst vs)) (r : Reps K G.lv G.H vs ds) : Rep K (G.drop p).lv (G.drop p).H (.ref p) (.list ds) :=
  .lst ⟨fun z => (mem_drop.mp z).2 rfl, h3⟩ (Reps.mono Mo.drop r)
/-- a fresh list becomes an object -/
def Wd.own (G : Wd) (p : Addr) : Wd := ⟨G.io ++ [p], G.lv, G.H⟩
theorem Le.own (le : Le G0 G) (h0 : G0.H p = none) : Le G0 (G.own p) := by
  obtain ⟨κ, e, nk⟩ := le.io
  refine ⟨le.lt, ⟨κ ++ [p], by show G.io ++ [p] = _; rw [e, List.append_assoc], fun a z => ?_⟩, le.lv, le.stay, le.keep, le.tr⟩
  rcases List.mem_append.mp z with z | z
  · exact nk a z
  · rw [List.mem_singleton.mp z]; exact h0
theorem RepW.own {v : V} {w : W} (h : RepW K G v w) : RepW K (G.own p) v w := by
  cases w with
  | d x => exact h
  | obj i =>
    obtain ⟨a, h1, h2⟩ := h
    exact ⟨a, by show (G.io ++ [p])[i]? = _; rw [List.getElem?_append_left (List.getElem?_eq_some_iff.mp h1).1]; exact h1, h2⟩
  | fl _ => exact h
  | ro ds => exact h
theorem ORep.own {a : Addr} {ob : O} (q : ORep K G a ob) : ORep K (G.own p) a ob := by
  cases ob with
  | lst ds => exact q
  | fz ds => exact q
  | dct kvs => obtain ⟨h1, ks, h2, r⟩ := q; exact ⟨h1, ks, h2, Paired.mono (fun _ _ z => ⟨z.1, z.2.own⟩) r⟩
theorem RelM.own {ob : O} (R : RelM K G m) (h : p ∉ G.io) (ht : G.H p ≠ none) (ho : ORep K G p ob) (hd : okO m.length ob = true) : RelM K (G.own p) (m ++ [ob]) := by
  refine ⟨fun i o e => ?_, by show (G.io ++ [p]).length = _; rw [List.length_append, List.length_append, R.len]; rfl, ?_, R.lt, fun a z => ?_, fun i a o e1 e2 => ?_⟩
  · by_cases hi : i < m.length
    · rw [List.getElem?_append_left hi] at e
      exact R.dw i o e
    · have hl := (List.getElem?_eq_some_iff.mp e).1
      rw [List.length_append, List.length_singleton] at hl
      have ei : i = m.length := by omega
      subst ei
      rw [List.getElem?_append_right (Nat.le_refl _), Nat.sub_self] at e
      cases e
      exact hd
  · show (G.io ++ [p]).Nodup
    rw [List.nodup_append]
    exact ⟨R.nd, by simp, fun a ha b hb e => h (by rw [← List.mem_singleton.mp hb, ← e]; exact ha)⟩
  · rcases List.mem_append.mp z with z | z
    · exact R.it a z
    · rw [List.mem_singleton.mp z]; exact ht
  · have e1 : (G.io ++ [p])[i]? = some a := e1
    by_cases hi : i < G.io.length
    · rw [List.getElem?_append_left hi] at e1
      rw [List.getElem?_append_left (by rw [← R.len]; exact hi)] at e2
      exact (R.ob i a o e1 e2).own
    · rw [List.getElem?_append_right (by omega)] at e1
      rw [List.getElem?_append_right (by rw [← R.len]; omega)] at e2
      have hj : i - G.io.length = 0 := by
        have := (List.getElem?_eq_some_iff.mp e1).1
        simp at this; omega
      rw [hj] at e1
      rw [← R.len, hj] at e2
      have e1' : p = a := by simpa using e1
      have e2' : ob = o := by simpa using e2
      subst e1' e2'
      exact ho.own
/-- an object changes -/
theorem Le.mut {i : Nat} (R : RelM K G m) (h1 : G.io[i]? = some p) (h2 : p ∈ G.lv) : Le G ⟨G.io, G.lv, upd G.H p o⟩ :=
  ⟨R.lt, ⟨[], by simp, fun _ z => nomatch z⟩, fun _ z => .inl z, fun _ z _ => z, fun a u e n => by
    show upd G.H p o a = _
    rw [upd_ne (fun z => n (by rw [z]; exact ⟨List.mem_of_getElem? h1, h2⟩))]; exact e, fun a e => upd_none e⟩
theorem RelM.mut {i : Nat} {ob : O} (R : RelM K G m) (h1 : G.io[i]? = some p) (h2 : p ∈ G.lv) (ho : ORep K ⟨G.io, G.lv, upd G.H p o⟩ p ob) (hd : okO i ob = true) : RelM K ⟨G.io, G.lv, upd G.H p o⟩ (m.set i ob) := by
  have up : ∀ a, G.H a ≠ none → upd G.H p o a ≠ none := fun a z q => z (upd_none q)
  refine ⟨fun j u e => ?_, by rw [List.length_set]; exact R.len, R.nd, fun a z => up a (R.lt a z), fun a z => up a (R.it a z), fun j a u e1 e2 => ?_⟩
  · by_cases hj : i = j
    · subst hj
      have hl := (List.getElem?_eq_some_iff.mp e).1
      rw [List.length_set] at hl
      rw [List.getElem?_set_self hl] at e
      cases e
      exact hd
    · rw [List.getElem?_set_ne hj] at e
      exact R.dw j u e
  by_cases hj : j = i
  · subst hj
    rw [h1] at e1
    cases e1
    rw [List.getElem?_set_self (by rw [← R.len]; exact (List.getElem?_eq_some_iff.mp h1).1)] at e2
    cases e2
    exact ho
  · rw [List.getElem?_set_ne (fun z => hj z.symm)] at e2
    have na : a ≠ p := fun z => hj ((List.getElem?_inj (List.getElem?_eq_some_iff.mp e1).1 R.nd).mp (by rw [e1, h1, z]))
    exact (R.ob j a u e1 e2).mono (Le.mut R h1 h2) (fun z => z) (fun z => z) (upd_ne na)
/-- an object is frozen: data may hold it -/
theorem Rep.drop {v : V} {x : D} (h : Rep K G.lv G.H v x) : Rep K (G.drop p).lv (G.drop p).H v x := Rep.mono Mo.drop h
end

/-! ### slots -/
structure RelS (K : PySem.W.Frag) (G : Wd) (σ : St) (env : Env) : Prop where
  len : σ.length = env.length
  get : ∀ (i : Nat) (w : W), env[i]? = some (some w) → ∃ v, σ[i]? = some (some v) ∧ RepW K G v w
theorem RelS.mono {K : PySem.W.Frag} {G G' : Wd} {σ : St} {env : Env} (S : RelS K G σ env) (le : Le G G') : RelS K G' σ env :=
  ⟨S.len, fun i w e => let ⟨v, h1, h2⟩ := S.get i w e; ⟨v, h1, h2.mono le⟩⟩
theorem RelS.set {K : PySem.W.Frag} {G : Wd} {σ : St} {env : Env} {v : V} {w : W} {i : Nat} (S : RelS K G σ env) (h : RepW K G v w) : RelS K G (σ.set i (some v)) (env.set i (some w)) := by
  refine ⟨by rw [List.length_set, List.length_set]; exact S.len, fun j u e => ?_⟩
  by_cases hj : j = i
  · subst hj
    have hl : j < env.length := by
      have := (List.getElem?_eq_some_iff.mp e).1
      rwa [List.length_set] at this
    rw [List.getElem?_set_self hl] at e
    cases e
    exact ⟨v, by rw [List.getElem?_set_self (by rw [S.len]; exact hl)], h⟩
  · rw [List.getElem?_set_ne (fun z => hj z.symm)] at e
    obtain ⟨u', h1, h2⟩ := S.get j u e
    exact ⟨u', by rw [List.getElem?_set_ne (fun z => hj z.symm)]; exact h1, h2⟩

/-! ### ends -/
def ExRep (mg : Str → Option Value) (K : PySem.W.Frag) (G : Wd) (c : Value) (d : Option Addr) (e : Exn) : Prop :=
  mg e.cls = some c ∧ (e.fs = [] ∨ ∃ dd fs, d = some dd ∧ G.H dd = some (.xd fs) ∧ dd ∉ G.io ∧ Paired (fun (p : Str × V) (q : Str × D) => p.1 = q.1 ∧ Rep K G.lv G.H p.2 q.2) fs e.fs)
def GPost {α β : Type} (X : Cx) (Wx : WX) (σ : St) (G : Wd) (rel : Hp → Wd → β → α → Prop) (r : Res α) (Q : β → Hp → Prop) : Prop :=
  match r with
  | .ok a m => ∀ v G', Le G G' → RelM X.K G' m → rel G.H G' v a → Q v G'.H
  | .err e m => ∀ c d G', Le G G' → RelM X.K G' m → ExRep X.mg X.K G' c d e → Wx c d σ G'.H
  | .bad => False
/-- a relation that may start earlier -/
def Weak {α β : Type} (rel : Hp → Wd → β → α → Prop) : Prop := ∀ H H1 G v a, (∀ p, H1 p = none → H p = none) → rel H1 G v a → rel H G v a
section
variable {X : Cx} {Wx : WX} {σ : St} {G G1 : Wd}
theorem GPost.later {α β : Type} {rel : Hp → Wd → β → α → Prop} (hw : Weak rel) {r : Res α} {Q : β → Hp → Prop} (h : GPost X Wx σ G rel r Q) (le : Le G G1) : GPost X Wx σ G1 rel r Q := by
  cases r with
  | ok a m => exact fun v G' l R q => h v G' (le.trans l) R (hw _ _ _ _ _ le.tr q)
  | err e m => exact fun c d G' l R q => h c d G' (le.trans l) R q
  | bad => exact h
theorem GPost.bind {α β α' β' : Type} {rel : Hp → Wd → β → α → Prop} {rel' : Hp → Wd → β' → α' → Prop} (hw : Weak rel') {r : Res α} {k : α → Mem → Res α'} {Q : β → Hp → Prop} {Q' : β' → Hp → Prop}
    (h : GPost X Wx σ G rel' (r.bind k) Q')
    (hk : ∀ a m v G1, Le G G1 → RelM X.K G1 m → rel G.H G1 v a → GPost X Wx σ G1 rel' (k a m) Q' → Q v G1.H) : GPost X Wx σ G rel r Q := by
  cases r with
  | ok a m => exact fun v G1 le R q => hk a m v G1 le R q (GPost.later hw h le)
  | err e m => exact h
  | bad => exact h
theorem weakR {K : PySem.W.Frag} : Weak (RepR K) := fun _ _ _ _ _ t h => h.weak t
def relEq {α : Type} : Hp → Wd → α → α → Prop := fun _ _ v a => v = a
theorem weakEq {α : Type} : Weak (relEq (α := α)) := fun _ _ _ _ _ _ h => h
def RepRs (K : PySem.W.Frag) (H0 : Hp) (G : Wd) (vs : List V) (ws : List W) : Prop := Paired (RepR K H0 G) vs ws
theorem weakRs {K : PySem.W.Frag} : Weak (RepRs K) := fun _ _ _ _ _ t h => Paired.mono (fun _ _ z => z.weak t) h
theorem RepRs.mono {K : PySem.W.Frag} {H0 : Hp} {G G' : Wd} {vs : List V} {ws : List W} (h : RepRs K H0 G vs ws) (le : Le G G') : RepRs K H0 G' vs ws := Paired.mono (fun _ _ z => z.mono le) h
end

/-! ### judgements -/
def ME (X : Cx) (Wx : WX) (e : Expr) (f : Env → Mem → Res W) : Prop :=
  ∃ t, PE X e t ∧ ∀ env m σ G Q, RelS X.K G σ env → RelM X.K G m → GPost X Wx σ G (RepR X.K) (f env m) Q → t σ G.H Q
def MT (X : Cx) (Wx : WX) (e : Expr) (f : Env → Mem → Res Bool) : Prop :=
  ∃ t, PT X e t ∧ ∀ env m σ G Q, RelS X.K G σ env → RelM X.K G m → GPost X Wx σ G relEq (f env m) Q → t σ G.H Q
def MP (X : Cx) (Wx : WX) (e : Expr) (f : Env → Mem → Res Bool) : Prop :=
  ∃ t, PW X e t ∧ ∀ env m σ G Q, RelS X.K G σ env → RelM X.K G m → GPost X Wx σ G relEq (f env m) Q → t σ G.H Q
def MA (X : Cx) (Wx : WX) (es : List Expr) (f : Env → Mem → Res (List W)) : Prop :=
  ∃ t, PA X es t ∧ ∀ env m σ G Q, RelS X.K G σ env → RelM X.K G m → GPost X Wx σ G (RepRs X.K) (f env m) Q → t σ G.H Q
inductive SRes where
  | nx (env : Env) (m : Mem)
  | bk (env : Env) (m : Mem)
  | ct (env : Env) (m : Mem)
  | rt (w : W) (m : Mem)
  | err (e : Exn) (env : Env) (m : Mem)
  | bad
def SPost (X : Cx) (Wx : WX) (G : Wd) (r : SRes) (E : Ends) : Prop :=
  match r with
  | .nx env m => ∀ σ' G', Le G G' → RelM X.K G' m → RelS X.K G' σ' env → E.nx σ' G'.H
  | .bk env m => ∀ σ' G', Le G G' → RelM X.K G' m → RelS X.K G' σ' env → E.bk σ' G'.H
  | .ct env m => ∀ σ' G', Le G G' → RelM X.K G' m → RelS X.K G' σ' env → E.ct σ' G'.H
  | .rt w m => ∀ v G', Le G G' → RelM X.K G' m → RepR X.K G.H G' v w → E.rt v G'.H
  | .err e env m => ∀ c d σ' G', Le G G' → RelM X.K G' m → RelS X.K G' σ' env → ExRep X.mg X.K G' c d e → Wx c d σ' G'.H
  | .bad => False
def MS (X : Cx) (Wx : WX) (st : Stmt) (f : Env → Mem → SRes) : Prop :=
  ∃ t, PS X st t ∧ ∀ env m σ G E, RelS X.K G σ env → RelM X.K G m → SPost X Wx G (f env m) E → t E σ G.H
def MB (X : Cx) (Wx : WX) (st : List Stmt) (f : Env → Mem → SRes) : Prop :=
  ∃ t, PSs X st t ∧ ∀ env m σ G E, RelS X.K G σ env → RelM X.K G m → SPost X Wx G (f env m) E → t E σ G.H
theorem SPost.later {X : Cx} {Wx : WX} {G G1 : Wd} {r : SRes} {E : Ends} (h : SPost X Wx G r E) (le : Le G G1) : SPost X Wx G1 r E := by
  cases r with
  | nx env m => exact fun σ' G' l R S => h σ' G' (le.trans l) R S
  | bk env m => exact fun σ' G' l R S => h σ' G' (le.trans l) R S
  | ct env m => exact fun σ' G' l R S => h σ' G' (le.trans l) R S
  | rt w m => exact fun v G' l R q => h v G' (le.trans l) R (q.weak le.tr)
  | err e env m => exact fun c d σ' G' l R S q => h c d σ' G' (le.trans l) R S q
  | bad => exact h
end M

set_option Elab.async false
set_option linter.all false
set_option maxRecDepth 100000
namespace M
open PySem L2
abbrev EF := Env → Mem → Res W
abbrev TF := Env → Mem → Res Bool
abbrev AF := Env → Mem → Res (List W)
abbrev SF := Env → Mem → SRes

/-! ### values seen -/
def asL (w : W) (m : Mem) : Option (List D) :=
  match w with
  | .d (.list ds) => some ds
  | .fl ds => some ds
  | .ro ds => some ds
  | .obj i => match m[i]? with
    | some (.lst ds) => some ds
    | some (.fz ds) => some ds
    | _ => none
  | _ => none
/-- a list that is tracked (not the script) -/
def asT (w : W) (m : Mem) : Option (List D) :=
  match w with
  | .ro _ => none
  | w => asL w m
def asD (w : W) (m : Mem) : Option D :=
  match w with
  | .d x => some x
  | w => (asL w m).map PyData.list
section
variable {K : PySem.W.Frag} {G : Wd} {m : Mem} {H0 : Hp} {v : V} {w : W}
theorem asT_sq (R : RelM K G m) (h : RepR K H0 G v w) {ds : List D} (e : asT w m = some ds) : ∃ a vs, v = .ref a ∧ G.H a = some (.lst vs) ∧ Reps K G.lv G.H vs ds := by
  cases w with
  | d x =>
    cases x with
    | list xs =>
      have e : xs = ds := by simpa [asT, asL] using e
      subst e
      cases h with
      | lst h r => exact ⟨_, _, rfl, h.2, r⟩
    | _ => simp [asT, asL] at e
  | fl xs =>
    have e : xs = ds := by simpa [asT, asL] using e
    subst e
    obtain ⟨p, vs, e, _, _, _, h3, r⟩ := h
    exact ⟨p, vs, e, h3, r⟩
  | ro xs => simp [asT] at e
  | obj i =>
    obtain ⟨a, h1, h2⟩ := h
    simp only [asT, asL] at e
    cases q : m[i]? with
    | none => rw [q] at e; cases e
    | some o =>
      rw [q] at e
      have ob := R.ob i a o h1 q
      cases o with
      | lst xs => cases e; obtain ⟨_, vs, h3, r⟩ := ob; exact ⟨a, vs, h2, h3, r⟩
      | fz xs => cases e; obtain ⟨_, vs, h3, r⟩ := ob; exact ⟨a, vs, h2, h3, r⟩
      | dct kvs => cases e
theorem asL_sq (R : RelM K G m) (h : RepR K H0 G v w) {ds : List D} (e : asL w m = some ds) : ∃ a vs, v = .ref a ∧ SqL K G.H a vs ∧ Reps K G.lv G.H vs ds := by
  cases w with
  | ro xs =>
    have e : xs = ds := by simpa [asL] using e
    subst e
    obtain ⟨a, vs, h1, h2, h3⟩ := h
    exact ⟨a, vs, h1, h2.sq, h3⟩
  | d x => obtain ⟨a, vs, h1, h2, h3⟩ := asT_sq (w := .d x) R h e; exact ⟨a, vs, h1, .of h2, h3⟩
  | fl x => obtain ⟨a, vs, h1, h2, h3⟩ := asT_sq (w := .fl x) R h e; exact ⟨a, vs, h1, .of h2, h3⟩
  | obj x => obtain ⟨a, vs, h1, h2, h3⟩ := asT_sq (w := .obj x) R h e; exact ⟨a, vs, h1, .of h2, h3⟩
theorem asD_dp (R : RelM K G m) (h : RepR K H0 G v w) {x : D} (e : asD w m = some x) : Dp K G.H v x := by
  have lst : ∀ ds, asL w m = some ds → Dp K G.H v (.list ds) := fun ds e => by
    obtain ⟨a, vs, rfl, h2, h3⟩ := asL_sq R h e
    exact .lst h2 h3.dp
  have go : (asL w m).map PyData.list = some x → Dp K G.H v x := fun e => by
    cases q : asL w m with
    | none => rw [q] at e; cases e
    | some ds => rw [q] at e; cases e; exact lst ds q
  cases w with
  | d y => cases e; exact Rep.dp h
  | obj i => exact go e
  | fl i => exact go e
  | ro i => exact go e
end

section
variable {X : Cx} {Wx : WX}
/-- an end without a change -/
theorem fin {σ : St} {G : Wd} {m : Mem} {Q : VK} {w : W} {v : V} (R : RelM X.K G m) (h : GPost X Wx σ G (RepR X.K) (.ok w m) Q) (r : RepR X.K G.H G v w) : Q v G.H := h v G (Le.refl R) R r
theorem finD {σ : St} {G : Wd} {m : Mem} {Q : VK} {x : D} {v : V} (R : RelM X.K G m) (h : GPost X Wx σ G (RepR X.K) (.ok (.d x) m) Q) (r : Rep X.K G.lv G.H v x) : Q v G.H := h v G (Le.refl R) R r
/-- a new tuple -/
theorem finT {σ : St} {G : Wd} {m : Mem} {Q : VK} {ds : List D} {vs : List V} {p : Addr} (R : RelM X.K G m) (h : GPost X Wx σ G (RepR X.K) (.ok (.d (.tuple ds)) m) Q) (r : Reps X.K G.lv G.H vs ds) (hp : G.H p = none) : Q (.ref p) (upd G.H p (.tup vs)) := by
  have le : Le G ⟨G.io, G.lv, upd G.H p (.tup vs)⟩ := Le.new R hp
  exact h (.ref p) _ le (R.new hp) (Rep.tup (.inl ⟨(R.ne hp).2, upd_same⟩) (Reps.mono le.mo r))
/-- a new list -/
theorem finL {σ : St} {G : Wd} {m : Mem} {Q : VK} {ds : List D} {vs : List V} {p : Addr} (R : RelM X.K G m) (h : GPost X Wx σ G (RepR X.K) (.ok (.fl ds) m) Q) (r : Reps X.K G.lv G.H vs ds) (hp : G.H p = none) : Q (.ref p) (upd G.H p (.lst vs)) := by
  have le : Le G ⟨G.io, p :: G.lv, upd G.H p (.lst vs)⟩ := Le.newL R hp
  exact h (.ref p) _ le (R.newL hp) ⟨p, vs, rfl, hp, (R.ne hp).1, List.mem_cons_self, upd_same, Reps.mono le.mo r⟩

/-! ### names, constants -/
def eVar (i : Nat) (env : Env) (m : Mem) : Res W := match env[i]? with
  | some (some w) => .ok w m
  | _ => .bad
def eC (x : D) (_ : Env) (m : Mem) : Res W := .ok (.d x) m
theorem me_var (i : Nat) {x : Str} {pos : Pos} (hN : X.N[i]? = some x := by rfl) (hv : Vis X.env.scope x := by first | exact Or.inl rfl | exact Or.inr (Or.inl rfl) | exact Or.inr (Or.inr rfl)) (hd : (x == ("__debug__" : Str)) = false := by decide)
    (hcd : (x == ("__classdict__" : Str)) = false := by decide) : ME X Wx (.Name x pos) (eVar i) := by
  refine ⟨_, pe_var hN hv hd hcd, fun env m σ G Q S R h => ?_⟩
  unfold eVar at h
  cases e : env[i]? with
  | none => rw [e] at h; exact False.elim h
  | some o =>
    cases o with
    | none => rw [e] at h; exact False.elim h
    | some w =>
      rw [e] at h
      obtain ⟨v, h1, h2⟩ := S.get i w e
      exact ⟨v, h1, fin R h h2.r⟩
theorem me_int {i : Int} {j pos} : ME X Wx (.Constant (.int i) j pos) (eC (.int i)) := ⟨_, pe_int, fun env m σ G Q S R h => finD R h (.int i)⟩
theorem me_str {i : Str} {j pos} : ME X Wx (.Constant (.str i) j pos) (eC (.str i)) := ⟨_, pe_str, fun env m σ G Q S R h => finD R h (.str i)⟩
theorem me_bl {i : Bool} {j pos} : ME X Wx (.Constant (.bool i) j pos) (eC (.bool i)) := ⟨_, pe_bl, fun env m σ G Q S R h => finD R h (.bl i)⟩
theorem me_non {j pos} : ME X Wx (.Constant .none j pos) (eC .none) := ⟨_, pe_non, fun env m σ G Q S R h => finD R h .non⟩
/-- a constant of the module -/
def KRep (K : PySem.W.Frag) (mg : Str → Option Value) (x : Str) (d : D) : Prop := ∃ u v, mg x = some u ∧ RelV v u ∧ ∀ lv H, Rep K lv H v d
theorem me_glob {x : Str} {d : D} {pos : Pos} (hg : Gl X x) (hk : KRep X.K X.mg x d) (hd : (x == ("__debug__" : Str)) = false := by decide) : ME X Wx (.Name x pos) (eC d) := by
  obtain ⟨u, v, hm, hr, hp⟩ := hk
  exact ⟨_, pe_glob hg hm hr hd, fun env m σ G Q S R h => finD R h (hp _ _)⟩

/-! ### operators -/
def OpOk (X : Cx) (Wx : WX) (r : R2) (g : W → W → Mem → Res W) : Prop :=
  ∀ (σ : St) (G : Wd) (m : Mem) (v u : V) (x y : W) (H0 H1 : Hp) (Q : VK), RelM X.K G m → RepR X.K H0 G v x → RepR X.K H1 G u y → GPost X Wx σ G (RepR X.K) (g x y m) Q → r v u G.H Q
def eOp (g : W → W → Mem → Res W) (a b : EF) (env : Env) (m : Mem) : Res W := (a env m).bind fun x m1 => (b env m1).bind fun y m2 => g x y m2
theorem two {a b : Expr} {ta tb : TE} {fa fb : EF} {g : W → W → Mem → Res W} {r : R2} (hg : OpOk X Wx r g) (qa : ∀ env m σ G Q, RelS X.K G σ env → RelM X.K G m → GPost X Wx σ G (RepR X.K) (fa env m) Q → ta σ G.H Q)
    (qb : ∀ env m σ G Q, RelS X.K G σ env → RelM X.K G m → GPost X Wx σ G (RepR X.K) (fb env m) Q → tb σ G.H Q) (env : Env) (m : Mem) (σ : St) (G : Wd) (Q : VK) (S : RelS X.K G σ env) (R : RelM X.K G m)
    (h : GPost X Wx σ G (RepR X.K) (eOp g fa fb env m) Q) : tOp r ta tb σ G.H Q := by
  refine qa env m σ G _ S R (GPost.bind weakR h fun x m1 v G1 le1 R1 q1 h1 => ?_)
  refine qb env m1 σ G1 _ (S.mono le1) R1 (GPost.bind weakR h1 fun y m2 u G2 le2 R2 q2 h2 => ?_)
  exact hg σ G2 m2 v u x y _ _ Q R2 (q1.mono le2) q2 h2
theorem me_op {op : Operator} {r : R2} {g : W → W → Mem → Res W} {a b : Expr} {fa fb : EF} {pos : Pos} (ho : OpR X (binaryOp op) r) (hg : OpOk X Wx r g) (ha : ME X Wx a fa) (hb : ME X Wx b fb) : ME X Wx (.BinOp a op b pos) (eOp g fa fb) := by
  obtain ⟨ta, pa, qa⟩ := ha
  obtain ⟨tb, pb, qb⟩ := hb
  exact ⟨_, pe_op ho pa pb, fun env m σ G Q S R h => two (a := a) (b := b) hg qa qb env m σ G Q S R h⟩
theorem me_cmp {op : CmpOp} {r : R2} {g : W → W → Mem → Res W} {a b : Expr} {fa fb : EF} {pos : Pos} (ho : OpR X (compareOp op) r) (hg : OpOk X Wx r g) (ha : ME X Wx a fa) (hb : ME X Wx b fb) (hm : behindInMarks op b = false := by first | exact nomark _ | with_unfolding_all rfl) :
    ME X Wx (.Compare a [op] [b] pos) (eOp g fa fb) := by
  obtain ⟨ta, pa, qa⟩ := ha
  obtain ⟨tb, pb, qb⟩ := hb
  exact ⟨_, pe_cmpR ho pa pb hm, fun env m σ G Q S R h => two (a := a) (b := b) hg qa qb env m σ G Q S R h⟩
/-- a value as a bool -/
def tBool (f : EF) (env : Env) (m : Mem) : Res Bool := (f env m).bind fun w m1 => match w with
  | .d (.bool b) => .ok b m1
  | _ => .bad
theorem boolQ {σ : St} {G : Wd} {r : Res W} {Q : Bool → Hp → Prop} (h : GPost X Wx σ G relEq (r.bind fun w m1 => match w with | .d (.bool b) => .ok b m1 | _ => .bad) Q) : GPost X Wx σ G (RepR X.K) r (fun x H' => ∃ k, x = .bl k ∧ Q k H') := by
  refine GPost.bind weakEq h fun w m1 v G1 le1 R1 q1 h1 => ?_
  cases w with
  | d x =>
    cases x with
    | bool b => cases q1; exact ⟨b, rfl, h1 b G1 (Le.refl R1) R1 rfl⟩
    | _ => exact False.elim h1
  | _ => exact False.elim h1
theorem mt_cmp {op : CmpOp} {r : R2} {g : W → W → Mem → Res W} {a b : Expr} {fa fb : EF} {pos : Pos} (ho : OpR X (compareOp op) r) (hg : OpOk X Wx r g) (ha : ME X Wx a fa) (hb : ME X Wx b fb) (hm : behindInMarks op b = false := by first | exact nomark _ | with_unfolding_all rfl) :
    MT X Wx (.Compare a [op] [b] pos) (tBool (eOp g fa fb)) := by
  obtain ⟨ta, pa, qa⟩ := ha
  obtain ⟨tb, pb, qb⟩ := hb
  exact ⟨_, pt_cmpR ho pa pb hm, fun env m σ G Q S R h => two (a := a) (b := b) hg qa qb env m σ G _ S R (boolQ h)⟩
/-- a < b < c -/
def eChain (g g' : W → W → Mem → Res W) (a b c : EF) (env : Env) (m : Mem) : Res W := (a env m).bind fun x m1 => (b env m1).bind fun y m2 => (g x y m2).bind fun z m3 => match z with
  | .d (.bool true) => (c env m3).bind fun u m4 => g' y u m4
  | .d (.bool false) => .ok (.d (.bool false)) m3
  | _ => .bad
theorem chainQ {a b c : Expr} {ta tb tc : TE} {fa fb fc : EF} {g g' : W → W → Mem → Res W} {r r' : R2} (hg : OpOk X Wx r g) (hg' : OpOk X Wx r' g') (qa : ∀ env m σ G Q, RelS X.K G σ env → RelM X.K G m → GPost X Wx σ G (RepR X.K) (fa env m) Q → ta σ G.H Q)
    (qb : ∀ env m σ G Q, RelS X.K G σ env → RelM X.K G m → GPost X Wx σ G (RepR X.K) (fb env m) Q → tb σ G.H Q) (qc : ∀ env m σ G Q, RelS X.K G σ env → RelM X.K G m → GPost X Wx σ G (RepR X.K) (fc env m) Q → tc σ G.H Q)
    (env : Env) (m : Mem) (σ : St) (G : Wd) (Q : VK) (S : RelS X.K G σ env) (R : RelM X.K G m)
    (h : GPost X Wx σ G (RepR X.K) (eChain g g' fa fb fc env m) Q) : tChain r r' ta tb tc σ G.H Q := by
  refine qa env m σ G _ S R (GPost.bind weakR h fun x m1 v G1 le1 R1 q1 h1 => ?_)
  refine qb env m1 σ G1 _ (S.mono le1) R1 (GPost.bind weakR h1 fun y m2 u G2 le2 R2 q2 h2 => ?_)
  refine hg σ G2 m2 v u x y _ _ _ R2 (q1.mono le2) q2 (GPost.bind weakR h2 fun z m3 k G3 le3 R3 q3 h3 => ?_)
  cases z with
  | d x =>
    cases x with
    | bool b =>
      cases q3
      refine ⟨b, rfl, ?_⟩
      cases b with
      | false => exact iteF (finD R3 h3 (.bl false))
      | true =>
        refine iteT (qc env m3 σ G3 _ ((S.mono le1).mono (le2.trans le3)) R3 (GPost.bind weakR h3 fun t m4 k' G4 le4 R4 q4 h4 => ?_))
        exact hg' σ G4 m4 u k' y t _ _ Q R4 (q2.mono (le3.trans le4)) q4 h4
    | _ => exact False.elim h3
  | _ => exact False.elim h3
theorem me_chain {op op' : CmpOp} {r r' : R2} {g g' : W → W → Mem → Res W} {a b c : Expr} {fa fb fc : EF} {pos : Pos} (ho : OpR X (compareOp op) r) (ho' : OpR X (compareOp op') r') (hg : OpOk X Wx r g) (hg' : OpOk X Wx r' g')
    (ha : ME X Wx a fa) (hb : ME X Wx b fb) (hc : ME X Wx c fc) (hm : lastMarks [op, op'] [b, c] = false := by with_unfolding_all rfl) : ME X Wx (.Compare a [op, op'] [b, c] pos) (eChain g g' fa fb fc) := by
  obtain ⟨ta, pa, qa⟩ := ha
  obtain ⟨tb, pb, qb⟩ := hb
  obtain ⟨tc, pc, qc⟩ := hc
  exact ⟨_, pe_chain ho ho' pa pb pc hm, fun env m σ G Q S R h => chainQ (a := a) (b := b) (c := c) hg hg' qa qb qc env m σ G Q S R h⟩
theorem mt_chain {op op' : CmpOp} {r r' : R2} {g g' : W → W → Mem → Res W} {a b c : Expr} {fa fb fc : EF} {pos : Pos} (ho : OpR X (compareOp op) r) (ho' : OpR X (compareOp op') r') (hg : OpOk X Wx r g) (hg' : OpOk X Wx r' g')
    (ha : ME X Wx a fa) (hb : ME X Wx b fb) (hc : ME X Wx c fc) (hm : lastMarks [op, op'] [b, c] = false := by with_unfolding_all rfl) : MT X Wx (.Compare a [op, op'] [b, c] pos) (tBool (eChain g g' fa fb fc)) := by
  obtain ⟨ta, pa, qa⟩ := ha
  obtain ⟨tb, pb, qb⟩ := hb
  obtain ⟨tc, pc, qc⟩ := hc
  exact ⟨_, pt_chain ho ho' pa pb pc hm, fun env m σ G Q S R h => chainQ (a := a) (b := b) (c := c) hg hg' qa qb qc env m σ G _ S R (boolQ h)⟩

/-! ### tests -/
def truW (w : W) (m : Mem) : Option Bool :=
  match w with
  | .d .none => some false
  | .d (.bool b) => some b
  | .d (.int i) => some (i != 0)
  | .d (.str x) => if x.length ≤ sizeLine then some ((x.length : Int) != 0) else none
  | .d (.tuple ds) => some (!ds.isEmpty)
  | w => (asL w m).map fun ds => !ds.isEmpty
def tTru (f : EF) (env : Env) (m : Mem) : Res Bool := (f env m).bind fun w m1 => match truW w m1 with
  | some b => .ok b m1
  | none => .bad
theorem Reps.isEmpty {K : PySem.W.Frag} {lv : List Addr} {H : Hp} {vs : List V} {ds : List D} (r : Reps K lv H vs ds) : vs.isEmpty = ds.isEmpty := by cases r <;> rfl
theorem truW_ok {G : Wd} {m : Mem} {H0 : Hp} {v : V} {w : W} {b : Bool} (R : RelM X.K G m) (h : RepR X.K H0 G v w) (e : truW w m = some b) : TruV X.K v G.H b := by
  have lst : (asL w m).map (fun ds => !ds.isEmpty) = some b → TruV X.K v G.H b := fun e => by
    cases q : asL w m with
    | none => rw [q] at e; cases e
    | some ds =>
      rw [q] at e
      cases e
      obtain ⟨a, vs, rfl, h2, h3⟩ := asL_sq R h q
      exact .inl ⟨vs, h2, by rw [h3.isEmpty]⟩
  cases w with
  | d x =>
    cases x with
    | none => cases e; cases h; exact rfl
    | bool c => cases e; cases h; exact rfl
    | int i => cases e; cases h; exact rfl
    | str z =>
      cases h
      simp only [truW] at e
      split at e
      · rename_i hz
        cases e
        exact ⟨hz, rfl⟩
      · cases e
    | tuple ds =>
      cases e
      cases h with
      | tup h r => exact .inr (.inl ⟨_, h.sq, by rw [r.isEmpty]⟩)
    | list ds => exact lst e
    | dict kvs => exact lst e
  | obj i => exact lst e
  | fl i => exact lst e
  | ro i => exact lst e
theorem mt_tru {a : Expr} {f : EF} (ha : ME X Wx a f) (he : ∀ whole, isTrue a X.env whole = (do let v ← whole; standAt a.pos; holding [v] (truthy v)) := by intro _; rfl) : MT X Wx a (tTru f) := by
  obtain ⟨ta, pa, qa⟩ := ha
  refine ⟨_, pt_truth pa he, fun env m σ G Q S R h => qa env m σ G _ S R (GPost.bind weakEq h fun w m1 v G1 le1 R1 q1 h1 => ?_)⟩
  cases e : truW w m1 with
  | none => rw [e] at h1; exact False.elim h1
  | some b => rw [e] at h1; exact ⟨b, truW_ok R1 q1 e, h1 b G1 (Le.refl R1) R1 rfl⟩
def tAndF (a b : TF) (env : Env) (m : Mem) : Res Bool := (a env m).bind fun x m1 => if x = true then b env m1 else .ok false m1
def tOrF (a b : TF) (env : Env) (m : Mem) : Res Bool := (a env m).bind fun x m1 => if x = true then .ok true m1 else b env m1
def tNotF (a : TF) (env : Env) (m : Mem) : Res Bool := (a env m).bind fun x m1 => .ok (!x) m1
theorem MP.mt {e : Expr} {f : TF} (h : MP X Wx e f) : MT X Wx e f := let ⟨t, p, q⟩ := h; ⟨t, p.pt, q⟩
theorem mp_and1 {a : Expr} {f : TF} {pos : Pos} (h : MT X Wx a f) : MP X Wx (.BoolOp .And [a] pos) f := let ⟨t, p, q⟩ := h; ⟨t, pw_and1 p, q⟩
theorem mp_or1 {a : Expr} {f : TF} {pos : Pos} (h : MT X Wx a f) : MP X Wx (.BoolOp .Or [a] pos) f := let ⟨t, p, q⟩ := h; ⟨t, pw_or1 p, q⟩
theorem mp_and {a b : Expr} {rest : List Expr} {f g : TF} {pos : Pos} (h : MT X Wx a f) (h' : MP X Wx (.BoolOp .And (b :: rest) pos) g) : MP X Wx (.BoolOp .And (a :: b :: rest) pos) (tAndF f g) := by
  obtain ⟨ta, pa, qa⟩ := h
  obtain ⟨tb, pb, qb⟩ := h'
  refine ⟨_, pw_and pa pb, fun env m σ G Q S R h => qa env m σ G _ S R (GPost.bind weakEq h fun b m1 v G1 le1 R1 q1 h1 => ?_)⟩
  rw [show v = b from q1]
  cases b with
  | true => exact iteT (qb env m1 σ G1 Q (S.mono le1) R1 h1)
  | false => exact iteF (h1 false G1 (Le.refl R1) R1 rfl)
theorem mp_or {a b : Expr} {rest : List Expr} {f g : TF} {pos : Pos} (h : MT X Wx a f) (h' : MP X Wx (.BoolOp .Or (b :: rest) pos) g) : MP X Wx (.BoolOp .Or (a :: b :: rest) pos) (tOrF f g) := by
  obtain ⟨ta, pa, qa⟩ := h
  obtain ⟨tb, pb, qb⟩ := h'
  refine ⟨_, pw_or pa pb, fun env m σ G Q S R h => qa env m σ G _ S R (GPost.bind weakEq h fun b m1 v G1 le1 R1 q1 h1 => ?_)⟩
  rw [show v = b from q1]
  cases b with
  | true => exact iteT (h1 true G1 (Le.refl R1) R1 rfl)
  | false => exact iteF (qb env m1 σ G1 Q (S.mono le1) R1 h1)
theorem mt_not {a : Expr} {f : TF} {pos : Pos} (h : MT X Wx a f) : MT X Wx (.UnaryOp .Not a pos) (tNotF f) := by
  obtain ⟨ta, pa, qa⟩ := h
  refine ⟨_, pt_not pa, fun env m σ G Q S R h => qa env m σ G _ S R (GPost.bind weakEq h fun b m1 v G1 le1 R1 q1 h1 => ?_)⟩
  rw [show v = b from q1]
  exact h1 (!b) G1 (Le.refl R1) R1 rfl
/-! .. as values -/
def eAnd (a b : EF) (env : Env) (m : Mem) : Res W := (tBool a env m).bind fun x m1 => if x = true then b env m1 else .ok (.d (.bool false)) m1
def eOr (a b : EF) (env : Env) (m : Mem) : Res W := (tBool a env m).bind fun x m1 => if x = true then .ok (.d (.bool true)) m1 else b env m1
def eNot (a : EF) (env : Env) (m : Mem) : Res W := (tBool a env m).bind fun x m1 => .ok (.d (.bool (!x))) m1
def eIf (c : TF) (a b : EF) (env : Env) (m : Mem) : Res W := (c env m).bind fun x m1 => if x = true then a env m1 else b env m1
theorem me_one {op} {a : Expr} {f : EF} {pos : Pos} (h : ME X Wx a f) : ME X Wx (.BoolOp op [a] pos) f := let ⟨t, p, q⟩ := h; ⟨t, pe_one p, q⟩
theorem bind_bind {α β γ : Type} (r : Res α) (k : α → Mem → Res β) (k' : β → Mem → Res γ) : (r.bind k).bind k' = r.bind fun a m => (k a m).bind k' := by cases r <;> rfl
theorem me_and {a b : Expr} {rest : List Expr} {f g : EF} {pos : Pos} (h : ME X Wx a f) (h' : ME X Wx (.BoolOp .And (b :: rest) pos) g) : ME X Wx (.BoolOp .And (a :: b :: rest) pos) (eAnd f g) := by
  obtain ⟨ta, pa, qa⟩ := h
  obtain ⟨tb, pb, qb⟩ := h'
  refine ⟨_, pe_and pa pb, fun env m σ G Q S R h => ?_⟩
  unfold eAnd tBool at h
  rw [bind_bind] at h
  refine qa env m σ G _ S R (GPost.bind weakR h fun w m1 v G1 le1 R1 q1 h1 => ?_)
  cases w with
  | d x =>
    cases x with
    | bool c =>
      cases q1
      refine ⟨c, rfl, ?_⟩
      cases c with
      | true => exact iteT (qb env m1 σ G1 Q (S.mono le1) R1 h1)
      | false => exact iteF (finD R1 h1 (.bl false))
    | _ => exact False.elim h1
  | _ => exact False.elim h1
theorem me_or {a b : Expr} {rest : List Expr} {f g : EF} {pos : Pos} (h : ME X Wx a f) (h' : ME X Wx (.BoolOp .Or (b :: rest) pos) g) : ME X Wx (.BoolOp .Or (a :: b :: rest) pos) (eOr f g) := by
  obtain ⟨ta, pa, qa⟩ := h
  obtain ⟨tb, pb, qb⟩ := h'
  refine ⟨_, pe_or pa pb, fun env m σ G Q S R h => ?_⟩
  unfold eOr tBool at h
  rw [bind_bind] at h
  refine qa env m σ G _ S R (GPost.bind weakR h fun w m1 v G1 le1 R1 q1 h1 => ?_)
  cases w with
  | d x =>
    cases x with
    | bool c =>
      cases q1
      refine ⟨c, rfl, ?_⟩
      cases c with
      | true => exact iteT (finD R1 h1 (.bl true))
      | false => exact iteF (qb env m1 σ G1 Q (S.mono le1) R1 h1)
    | _ => exact False.elim h1
  | _ => exact False.elim h1
theorem me_not {a : Expr} {f : EF} {pos : Pos} (h : ME X Wx a f) : ME X Wx (.UnaryOp .Not a pos) (eNot f) := by
  obtain ⟨ta, pa, qa⟩ := h
  refine ⟨_, pe_not pa, fun env m σ G Q S R h => ?_⟩
  unfold eNot tBool at h
  rw [bind_bind] at h
  refine qa env m σ G _ S R (GPost.bind weakR h fun w m1 v G1 le1 R1 q1 h1 => ?_)
  cases w with
  | d x =>
    cases x with
    | bool c => cases q1; exact ⟨c, rfl, finD R1 h1 (.bl (!c))⟩
    | _ => exact False.elim h1
  | _ => exact False.elim h1
theorem me_if {c a b : Expr} {fc : TF} {f g : EF} {pos : Pos} (hc : MT X Wx c fc) (h : ME X Wx a f) (h' : ME X Wx b g) : ME X Wx (.IfExp c a b pos) (eIf fc f g) := by
  obtain ⟨tc, pc, qc⟩ := hc
  obtain ⟨ta, pa, qa⟩ := h
  obtain ⟨tb, pb, qb⟩ := h'
  refine ⟨_, pe_ifExp pc pa pb, fun env m σ G Q S R h => qc env m σ G _ S R (GPost.bind weakR h fun k m1 v G1 le1 R1 q1 h1 => ?_)⟩
  rw [show v = k from q1]
  cases k with
  | true => exact iteT (qa env m1 σ G1 Q (S.mono le1) R1 h1)
  | false => exact iteF (qb env m1 σ G1 Q (S.mono le1) R1 h1)

/-! ### fresh lists: as data, as objects -/
def eFrz (f : EF) (env : Env) (m : Mem) : Res W := (f env m).bind fun w m1 => match w with
  | .fl ds => .ok (.d (.list ds)) m1
  | w => .ok w m1
def eObj (f : EF) (env : Env) (m : Mem) : Res W := (f env m).bind fun w m1 => match w with
  | .fl ds => .ok (.obj m1.length) (m1 ++ [.lst ds])
  | w => .ok w m1
theorem GPost.bind0 {σ : St} {G : Wd} {α β α' β' : Type} {rel : Hp → Wd → β → α → Prop} {rel' : Hp → Wd → β' → α' → Prop} {r : Res α} {k : α → Mem → Res α'} {Q : β → Hp → Prop} {Q' : β' → Hp → Prop}
    (h : GPost X Wx σ G rel' (r.bind k) Q')
    (hk : ∀ a m v G1, Le G G1 → RelM X.K G1 m → rel G.H G1 v a → GPost X Wx σ G rel' (k a m) Q' → Q v G1.H) : GPost X Wx σ G rel r Q := by
  cases r with
  | ok a m => exact fun v G1 le R q => hk a m v G1 le R q h
  | err e m => exact h
  | bad => exact h
theorem GPost.bind1 {σ : St} {G G1 : Wd} {α β α' β' : Type} {rel : Hp → Wd → β → α → Prop} {rel' : Hp → Wd → β' → α' → Prop} {r : Res α} {k : α → Mem → Res α'} {Q : β → Hp → Prop} {Q' : β' → Hp → Prop}
    (h : GPost X Wx σ G rel' (r.bind k) Q') (le : Le G G1)
    (hk : ∀ a m v G2, Le G1 G2 → RelM X.K G2 m → rel G1.H G2 v a → GPost X Wx σ G rel' (k a m) Q' → Q v G2.H) : GPost X Wx σ G1 rel r Q := by
  cases r with
  | ok a m => exact fun v G2 l R q => hk a m v G2 l R q h
  | err e m => exact fun c d G' l R q => h c d G' (le.trans l) R q
  | bad => exact h
theorem frzQ {σ : St} {G : Wd} {Q : VK} {r : Res W} (h : GPost X Wx σ G (RepR X.K) (r.bind fun w m1 => match w with | .fl ds => .ok (.d (.list ds)) m1 | w => .ok w m1) Q) : GPost X Wx σ G (RepR X.K) r Q := by
  refine GPost.bind0 h fun w m1 v G1 le1 R1 q1 h1 => ?_
  cases w with
  | fl ds =>
    obtain ⟨p', vs, rfl, h0, n1, l1, e1, r1⟩ := q1
    exact h1 (.ref p') (G1.drop p') (le1.drop h0) (R1.drop n1) (RepR.drop (v := .ref p') (H0 := G.H) e1 r1)
  | d x => exact h1 v G1 le1 R1 q1
  | obj x => exact h1 v G1 le1 R1 q1
  | ro x => exact h1 v G1 le1 R1 q1
theorem objQ {σ : St} {G : Wd} {Q : VK} {r : Res W} (h : GPost X Wx σ G (RepR X.K) (r.bind fun w m1 => match w with | .fl ds => .ok (.obj m1.length) (m1 ++ [.lst ds]) | w => .ok w m1) Q) : GPost X Wx σ G (RepR X.K) r Q := by
  refine GPost.bind0 h fun w m1 v G1 le1 R1 q1 h1 => ?_
  cases w with
  | fl ds =>
    obtain ⟨p', vs, rfl, h0, n1, l1, e1, r1⟩ := q1
    refine h1 (.ref p') (G1.own p') (le1.own h0) (R1.own n1 (by rw [e1]; simp) ⟨l1, vs, e1, r1⟩ rfl) ⟨p', ?_, rfl⟩
    show (G1.io ++ [p'])[m1.length]? = some p'
    rw [← R1.len]; simp
  | d x => exact h1 v G1 le1 R1 q1
  | obj x => exact h1 v G1 le1 R1 q1
  | ro x => exact h1 v G1 le1 R1 q1
theorem me_frz {e : Expr} {f : EF} (h : ME X Wx e f) : ME X Wx e (eFrz f) := by
  obtain ⟨t, p, q⟩ := h
  exact ⟨t, p, fun env m σ G Q S R h => q env m σ G Q S R (frzQ h)⟩
theorem me_obj {e : Expr} {f : EF} (h : ME X Wx e f) : ME X Wx e (eObj f) := by
  obtain ⟨t, p, q⟩ := h
  exact ⟨t, p, fun env m σ G Q S R h => q env m σ G Q S R (objQ h)⟩

/-! ### argument lists, tuples, lists -/
def aNil (_ : Env) (m : Mem) : Res (List W) := .ok [] m
def aCons (a : EF) (r : AF) (env : Env) (m : Mem) : Res (List W) := (a env m).bind fun x m1 => (r env m1).bind fun xs m2 => .ok (x :: xs) m2
theorem ma_nil : MA X Wx [] aNil := ⟨_, pa_nil, fun env m σ G Q S R h => h [] G (Le.refl R) R .nil⟩
theorem ma_cons {e : Expr} {es : List Expr} {f : EF} {g : AF} (ha : ME X Wx e f) (hr : MA X Wx es g) (hs : starEach (e :: es) X.env = (false, eval e X.env) :: starEach es X.env := by rfl) : MA X Wx (e :: es) (aCons f g) := by
  obtain ⟨ta, pa, qa⟩ := ha
  obtain ⟨tr, pr, qr⟩ := hr
  refine ⟨_, pa_cons pa pr hs, fun env m σ G Q S R h => qa env m σ G _ S R (GPost.bind0 h fun x m1 v G1 le1 R1 q1 h1 => ?_)⟩
  refine qr env m1 σ G1 _ (S.mono le1) R1 (GPost.bind1 h1 le1 fun xs m2 vs G2 le2 R2 q2 h2 => ?_)
  exact h2 (v :: vs) G2 (le1.trans le2) R2 (.cons (q1.mono le2) (Paired.mono (fun _ _ z => z.weak le1.tr) q2))
/-- the data of a list of values -/
def asDs : List W → Option (List D)
  | [] => some []
  | .d x :: r => (asDs r).map (x :: ·)
  | _ :: _ => none
theorem asDs_reps {K : PySem.W.Frag} {H0 : Hp} {G : Wd} : ∀ {vs : List V} {ws : List W} {ds : List D}, RepRs K H0 G vs ws → asDs ws = some ds → Reps K G.lv G.H vs ds
  | _, [], ds, .nil, e => by cases e; exact .nil
  | _, .d x :: r, ds, .cons h t, e => by
    simp only [asDs] at e
    cases q : asDs r with
    | none => rw [q] at e; cases e
    | some es => rw [q] at e; cases e; exact .cons h (asDs_reps t q)
  | _, .obj _ :: _, _, .cons _ _, e => by cases e
  | _, .fl _ :: _, _, .cons _ _, e => by cases e
  | _, .ro _ :: _, _, .cons _ _, e => by cases e
def eTup (a : AF) (env : Env) (m : Mem) : Res W := (a env m).bind fun ws m1 => match asDs ws with
  | some ds => if ds.length ≤ sizeLine then .ok (.d (.tuple ds)) m1 else .bad
  | none => .bad
def eLst (a : AF) (env : Env) (m : Mem) : Res W := (a env m).bind fun ws m1 => match asDs ws with
  | some ds => if ds.length ≤ sizeLine then .ok (.fl ds) m1 else .bad
  | none => .bad
theorem me_tup {es : List Expr} {f : AF} {x1} {pos : Pos} (h : MA X Wx es f) : ME X Wx (.Tuple es x1 pos) (eTup f) := by
  obtain ⟨t, p, q⟩ := h
  refine ⟨_, pe_tup p, fun env m σ G Q S R h => q env m σ G _ S R (GPost.bind weakR h fun ws m1 vs G1 le1 R1 q1 h1 => ?_)⟩
  cases e : asDs ws with
  | none => rw [e] at h1; exact False.elim h1
  | some ds =>
    rw [e] at h1
    have r := asDs_reps q1 e
    by_cases hz : ds.length ≤ sizeLine
    · simp only [hz, if_true] at h1
      exact ⟨by rw [r.length]; exact hz, fun p hp => finT R1 h1 r hp⟩
    · simp only [hz, if_false] at h1
      exact False.elim h1
theorem me_lst {es : List Expr} {f : AF} {pos : Pos} (h : MA X Wx es f) : ME X Wx (.List es pos) (eLst f) := by
  obtain ⟨t, p, q⟩ := h
  refine ⟨_, pe_lst p, fun env m σ G Q S R h => q env m σ G _ S R (GPost.bind weakR h fun ws m1 vs G1 le1 R1 q1 h1 => ?_)⟩
  cases e : asDs ws with
  | none => rw [e] at h1; exact False.elim h1
  | some ds =>
    rw [e] at h1
    have r := asDs_reps q1 e
    by_cases hz : ds.length ≤ sizeLine
    · simp only [hz, if_true] at h1
      exact ⟨by rw [r.length]; exact hz, fun p hp => finL R1 h1 r hp⟩
    · simp only [hz, if_false] at h1
      exact False.elim h1

/-! ### calls of built-ins -/
def CallOk (X : Cx) (Wx : WX) (r : List V → Hp → VK → Prop) (g : List W → Mem → Res W) : Prop :=
  ∀ (σ : St) (G : Wd) (m : Mem) (vs : List V) (ws : List W) (H0 : Hp) (Q : VK), RelM X.K G m → RepRs X.K H0 G vs ws → GPost X Wx σ G (RepR X.K) (g ws m) Q → r vs G.H Q
def eCall (g : List W → Mem → Res W) (a : AF) (env : Env) (m : Mem) : Res W := (a env m).bind g
theorem me_callB {id : String} {x : Str} {p pos : Pos} {e : Expr} {es : List Expr} {r : List V → Hp → VK → Prop} {g : List W → Mem → Res W} {f : AF} (hc : CallR X (.builtin id) r) (hk : CallOk X Wx r g) (hg : Gl X x) (hm : X.mg x = none) (ha : MA X Wx (e :: es) f)
    (hv : bootBuiltins x = some (.builtin id) := by decide +kernel) (hn : x ≠ "__name__" := by decide) (hdb : (x == ("__debug__" : Str)) = false := by decide)
    (he : starEach (e :: es) X.env = (false, eval e X.env) :: starEach es X.env := by rfl) (hpl : (backTo pos (starEach es X.env)).any (·.1) = false := by rfl) : ME X Wx (.Call (.Name x p) (e :: es) [] pos) (eCall g f) := by
  obtain ⟨t, pa, qa⟩ := ha
  refine ⟨_, pe_callB hc hg hm hv pa hn hdb he hpl, fun env m σ G Q S R h => qa env m σ G _ S R (GPost.bind weakR h fun ws m1 vs G1 le1 R1 q1 h1 => ?_)⟩
  exact hk σ G1 m1 vs ws _ Q R1 q1 h1
theorem me_callTy {T : String} {x : Str} {p pos : Pos} {e : Expr} {es : List Expr} {r : List V → Hp → VK → Prop} {g : List W → Mem → Res W} {f : AF} (hc : CallR X (.type T) r) (hk : CallOk X Wx r g) (hg : Gl X x) (hm : X.mg x = none) (ha : MA X Wx (e :: es) f)
    (hv : bootBuiltins x = some (.type T) := by decide +kernel) (hn : x ≠ "__name__" := by decide) (hdb : (x == ("__debug__" : Str)) = false := by decide)
    (he : starEach (e :: es) X.env = (false, eval e X.env) :: starEach es X.env := by rfl) (hpl : (backTo pos (starEach es X.env)).any (·.1) = false := by rfl) : ME X Wx (.Call (.Name x p) (e :: es) [] pos) (eCall g f) := by
  obtain ⟨t, pa, qa⟩ := ha
  refine ⟨_, pe_callTy hc hg hm hv pa hn hdb he hpl, fun env m σ G Q S R h => qa env m σ G _ S R (GPost.bind weakR h fun ws m1 vs G1 le1 R1 q1 h1 => ?_)⟩
  exact hk σ G1 m1 vs ws _ Q R1 q1 h1
/-! ### subscripts -/
theorem me_ix {r : R2} {g : W → W → Mem → Res W} {a b : Expr} {fa fb : EF} {pos : Pos} (hr : IxR X r) (hg : OpOk X Wx r g) (ha : ME X Wx a fa) (hb : ME X Wx b fb) (hs : PlainIx b := by exact fun _ _ => rfl) : ME X Wx (.Subscript a b pos) (eOp g fa fb) := by
  obtain ⟨ta, pa, qa⟩ := ha
  obtain ⟨tb, pb, qb⟩ := hb
  exact ⟨_, pe_ix hr pa pb hs, fun env m σ G Q S R h => two (a := a) (b := b) hg qa qb env m σ G Q S R h⟩
/-! ### slices -/
abbrev OF := Env → Mem → Res (Option Int)
def MO (X : Cx) (Wx : WX) (e : Option Expr) (f : OF) : Prop :=
  ∃ t, PO X e t ∧ ∀ env m σ G Q, RelS X.K G σ env → RelM X.K G m → GPost X Wx σ G relEq (f env m) Q → t σ G.H Q
def oNone (_ : Env) (m : Mem) : Res (Option Int) := .ok none m
def oSome (f : EF) (env : Env) (m : Mem) : Res (Option Int) := (f env m).bind fun w m1 => match w with
  | .d (.int i) => .ok (some i) m1
  | _ => .bad
theorem mo_none : MO X Wx none oNone := ⟨_, po_none, fun env m σ G Q S R h => h none G (Le.refl R) R rfl⟩
theorem mo_some {e : Expr} {f : EF} (h : ME X Wx e f) : MO X Wx (some e) (oSome f) := by
  obtain ⟨t, p, q⟩ := h
  refine ⟨_, po_some p, fun env m σ G Q S R h => q env m σ G _ S R (GPost.bind weakEq h fun w m1 v G1 le1 R1 q1 h1 => ?_)⟩
  cases w with
  | d x =>
    cases x with
    | int i => cases q1; exact ⟨i, rfl, h1 (some i) G1 (Le.refl R1) R1 rfl⟩
    | _ => exact False.elim h1
  | _ => exact False.elim h1
def SlOk (X : Cx) (Wx : WX) (r : V → Option Int → Option Int → Hp → VK → Prop) (g : W → Option Int → Option Int → Mem → Res W) : Prop :=
  ∀ (σ : St) (G : Wd) (m : Mem) (v : V) (x : W) (lo hi : Option Int) (H0 : Hp) (Q : VK), RelM X.K G m → RepR X.K H0 G v x → GPost X Wx σ G (RepR X.K) (g x lo hi m) Q → r v lo hi G.H Q
def eSl (g : W → Option Int → Option Int → Mem → Res W) (a : EF) (lo hi : OF) (env : Env) (m : Mem) : Res W := (a env m).bind fun x m1 => (lo env m1).bind fun l m2 => (hi env m2).bind fun h m3 => g x l h m3
theorem me_slice {r : V → Option Int → Option Int → Hp → VK → Prop} {g : W → Option Int → Option Int → Mem → Res W} {e : Expr} {lo hi : Option Expr} {f : EF} {fl fh : OF} {p2 pos : Pos} (hr : SlR X r) (hg : SlOk X Wx r g) (he : ME X Wx e f) (hl : MO X Wx lo fl) (hh : MO X Wx hi fh) :
    ME X Wx (.Subscript e (.Slice lo hi none p2) pos) (eSl g f fl fh) := by
  obtain ⟨te, pe, qe⟩ := he
  obtain ⟨tl, pl, ql⟩ := hl
  obtain ⟨th, ph, qh⟩ := hh
  refine ⟨_, pe_slice hr pe pl ph, fun env m σ G Q S R h => qe env m σ G _ S R (GPost.bind weakR h fun x m1 v G1 le1 R1 q1 h1 => ?_)⟩
  refine ql env m1 σ G1 _ (S.mono le1) R1 (GPost.bind weakR h1 fun l m2 l' G2 le2 R2 q2 h2 => ?_)
  refine qh env m2 σ G2 _ ((S.mono le1).mono le2) R2 (GPost.bind weakR h2 fun k m3 k' G3 le3 R3 q3 h3 => ?_)
  have q2 : l' = l := q2
  have q3 : k' = k := q3
  rw [q2, q3]
  exact hg σ G3 m3 v x l k _ Q R3 (q1.mono (le2.trans le3)) h3
/-! ### methods of built-in types -/
def BmOk (X : Cx) (Wx : WX) (T : String) (r : V → List V → Hp → VK → Prop) (g : W → List W → Mem → Res W) : Prop :=
  (∀ (G : Wd) (m : Mem) (v : V) (x : W) (H0 : Hp) (ws : List W) (m' : Mem), RelM X.K G m → RepR X.K H0 G v x → (g x ws m' matches .ok _ _) → tyV X.K T v G.H) ∧
  ∀ (σ : St) (G : Wd) (m : Mem) (v : V) (x : W) (vs : List V) (ws : List W) (H0 H1 : Hp) (Q : VK), RelM X.K G m → RepR X.K H0 G v x → RepRs X.K H1 G vs ws → GPost X Wx σ G (RepR X.K) (g x ws m) Q → r v vs G.H Q
end
end M

set_option Elab.async false
set_option linter.all false
set_option maxRecDepth 100000
namespace M
open PySem L2
section
variable {X : Cx} {Wx : WX}
/-! ### + -/
def addW (x y : W) (m : Mem) : Res W :=
  match x, y with
  | .d (.int i), .d (.int j) => .ok (.d (.int (i + j))) m
  | .d (.str a), .d (.str b) => if a.length + b.length ≤ sizeLine then .ok (.d (.str (a ++ b))) m else .bad
  | .d (.tuple a), .d (.tuple b) => if a.length + b.length ≤ sizeLine then .ok (.d (.tuple (a ++ b))) m else .bad
  | x, y => match asT x m, asT y m with
    | some a, some b => if a.length + b.length ≤ sizeLine then .ok (.fl (a ++ b)) m else .bad
    | _, _ => .bad
def rAddA (K : PySem.W.Frag) : R2 := fun x y H Q => (rI0 (fun i j => .int (i + j)) x y H Q ∨ (∃ i j, x = .str i ∧ y = .str j ∧ i.length + j.length ≤ sizeLine ∧ Q (.str (i ++ j)) H)) ∨ (rCatA K x y H Q ∨ rCat x y H Q)
theorem op_addA : OpR X (binaryOp .Add) (rAddA X.K) := (op_add.or op_add_str).or (op_catA.or op_cat)
theorem Reps.nil_iff {K : PySem.W.Frag} {lv : List Addr} {H : Hp} {vs : List V} {ds : List D} (r : Reps K lv H vs ds) : vs = [] ↔ ds = [] := by
  cases r with
  | nil => simp
  | cons _ _ => simp
theorem addL_ok {σ : St} {G : Wd} {m : Mem} {v u : V} {x y : W} {H0 H1 : Hp} {Q : VK} (R : RelM X.K G m) (rx : RepR X.K H0 G v x) (ry : RepR X.K H1 G u y)
    (h : GPost X Wx σ G (RepR X.K) (match asT x m, asT y m with | some a, some b => if a.length + b.length ≤ sizeLine then .ok (.fl (a ++ b)) m else .bad | _, _ => .bad) Q) : rAddA X.K v u G.H Q := by
  cases ex : asT x m with
  | none => rw [ex] at h; exact False.elim h
  | some a =>
    cases ey : asT y m with
    | none => rw [ex, ey] at h; exact False.elim h
    | some b =>
      rw [ex, ey] at h
      obtain ⟨p, vs, rfl, h1, r1⟩ := asT_sq R rx ex
      obtain ⟨q, us, rfl, h2, r2⟩ := asT_sq R ry ey
      by_cases hz : a.length + b.length ≤ sizeLine
      · simp only [hz, if_true] at h
        exact .inr (.inr ⟨p, q, vs, us, rfl, rfl, h1, h2, by rw [r1.length, r2.length]; exact hz, fun l hl => finL R h (r1.append r2) hl⟩)
      · simp only [hz, if_false] at h
        exact False.elim h
theorem addW_ok : OpOk X Wx (rAddA X.K) addW := by
  intro σ G m v u x y H0 H1 Q R rx ry h
  cases x with
  | d x =>
    cases y with
    | d y =>
      cases x with
      | int i =>
        cases y with
        | int j => cases rx; cases ry; exact .inl (.inl ⟨i, j, rfl, rfl, finD R h (.int _)⟩)
        | _ => exact addL_ok R rx ry h
      | str a =>
        cases y with
        | str b =>
          cases rx; cases ry
          simp only [addW] at h
          by_cases hz : a.length + b.length ≤ sizeLine
          · simp only [hz, if_true] at h
            exact .inl (.inr ⟨a, b, rfl, rfl, hz, finD R h (.str _)⟩)
          · simp only [hz, if_false] at h
            exact False.elim h
        | _ => exact addL_ok R rx ry h
      | tuple a =>
        cases y with
        | tuple b =>
          simp only [addW] at h
          by_cases hz : a.length + b.length ≤ sizeLine
          · simp only [hz, if_true] at h
            cases rx with
            | @tup p vs _ t1 r1 =>
              cases ry with
              | @tup q us _ t2 r2 =>
                refine .inr (.inl ⟨p, q, vs, us, rfl, rfl, t1.sq, t2.sq, by rw [r1.length, r2.length]; exact hz, fun e => ?_, fun e1 e2 => ?_, fun e1 e2 l hl => finT R h (r1.append r2) hl⟩)
                · have ea := r1.nil_iff.mp e
                  subst ea
                  exact finD R h (.tup t2 r2)
                · have eb := r2.nil_iff.mp e2
                  subst eb
                  rw [List.append_nil] at h
                  exact finD R h (.tup t1 r1)
          · simp only [hz, if_false] at h
            exact False.elim h
        | _ => exact addL_ok R rx ry h
      | _ => exact addL_ok R rx ry h
    | obj j => cases x <;> exact addL_ok R rx ry h
    | fl j => cases x <;> exact addL_ok R rx ry h
    | ro j => cases x <;> exact addL_ok R rx ry h
  | obj i => exact addL_ok R rx ry h
  | fl i => exact addL_ok R rx ry h
  | ro i => exact addL_ok R rx ry h
/-! ### ints -/
/-- a condition that no reduction opens -/
noncomputable def grd (p : Prop) : Bool := @decide p (Classical.propDecidable p)
theorem grd_iff {p : Prop} : grd p = true ↔ p := by
  unfold grd
  exact ⟨fun h => @of_decide_eq_true p (Classical.propDecidable p) h, fun h => @decide_eq_true p (Classical.propDecidable p) h⟩
theorem grd_t {p : Prop} (h : p) : grd p = true := grd_iff.mpr h
def intW (C : Int → Int → Bool) (g : Int → Int → D) (x y : W) (m : Mem) : Res W :=
  match x, y with
  | .d (.int i), .d (.int j) => if C i j = true then .ok (.d (g i j)) m else .bad
  | _, _ => .bad
theorem intW_ok {C : Int → Int → Bool} {P : Int → Int → Prop} {g : Int → Int → V} {g' : Int → Int → D} (hC : ∀ i j, C i j = true → P i j) (hg : ∀ i j K lv H, Rep K lv H (g i j) (g' i j)) : OpOk X Wx (rI P g) (intW C g') := by
  intro σ G m v u x y H0 H1 Q R rx ry h
  cases x with
  | d x =>
    cases x with
    | int i =>
      cases y with
      | d y =>
        cases y with
        | int j =>
          cases rx; cases ry
          simp only [intW] at h
          by_cases hz : C i j = true
          · simp only [hz, if_true] at h
            exact ⟨i, j, rfl, rfl, hC i j hz, finD R h (hg i j _ _ _)⟩
          · simp only [hz] at h
            exact False.elim h
        | _ => exact False.elim h
      | _ => exact False.elim h
    | _ => exact False.elim h
  | _ => exact False.elim h
def int0W (g : Int → Int → D) (x y : W) (m : Mem) : Res W :=
  match x, y with
  | .d (.int i), .d (.int j) => .ok (.d (g i j)) m
  | _, _ => .bad
theorem int0W_ok {g : Int → Int → V} {g' : Int → Int → D} (hg : ∀ i j K lv H, Rep K lv H (g i j) (g' i j)) : OpOk X Wx (rI0 g) (int0W g') := by
  intro σ G m v u x y H0 H1 Q R rx ry h
  cases x with
  | d x =>
    cases x with
    | int i =>
      cases y with
      | d y =>
        cases y with
        | int j => cases rx; cases ry; exact ⟨i, j, rfl, rfl, finD R h (hg i j _ _ _)⟩
        | _ => exact False.elim h
      | _ => exact False.elim h
    | _ => exact False.elim h
  | _ => exact False.elim h
def subW := int0W fun i j => .int (i - j)
theorem subW_ok : OpOk X Wx (rI0 fun i j => .int (i - j)) subW := int0W_ok fun _ _ _ _ _ => .int _
noncomputable def mulOk (i j : Int) : Bool := grd (((-(2 ^ 64) < i ∧ i < 2 ^ 64) ∨ (-(2 ^ 64) < j ∧ j < 2 ^ 64)) ∨ i.natAbs.log2 + j.natAbs.log2 < 1000000)
noncomputable def mulW := intW mulOk fun i j => .int (i * j)
theorem op_mulA : OpR X (binaryOp .Mult) (rI (fun i j => CMul i j ∨ CMulW i j) fun i j => .int (i * j)) := by
  intro pins s σ H x y v u Q I rx ry h
  obtain ⟨i, j, e1, e2, hc | hc, q⟩ := h
  · exact op_mul pins s σ H x y v u Q I rx ry ⟨i, j, e1, e2, hc, q⟩
  · exact op_mulW pins s σ H x y v u Q I rx ry ⟨i, j, e1, e2, hc, q⟩
theorem mulW_ok : OpOk X Wx (rI (fun i j => CMul i j ∨ CMulW i j) fun i j => .int (i * j)) mulW := intW_ok (fun i j h => by
  have h := grd_iff.mp h
  rcases h with (h | h) | h
  · exact .inl (.inl h)
  · exact .inl (.inr h)
  · exact .inr h) fun _ _ _ _ _ => .int _
noncomputable def divOk (_ j : Int) : Bool := grd (0 < j ∧ j.natAbs.log2 < 9000)
noncomputable def divW := intW divOk fun i j => .int (i / j)
theorem divW_ok : OpOk X Wx (rI CDivW fun i j => .int (i / j)) divW := intW_ok (fun i j h => by
  have h := grd_iff.mp h
  exact ⟨h.1, h.2⟩) fun _ _ _ _ _ => .int _
noncomputable def modOk (_ j : Int) : Bool := grd (0 < j)
noncomputable def modW := intW modOk fun i j => .int (i % j)
theorem modW_ok : OpOk X Wx (rI (fun _ j => 0 < j) fun i j => .int (i % j)) modW := intW_ok (fun i j h => grd_iff.mp h) fun _ _ _ _ _ => .int _
noncomputable def powOk (i j : Int) : Bool := grd (0 ≤ j ∧ j ≤ 1000000 ∧ i.natAbs < 2 ^ 64)
noncomputable def powW := intW powOk fun i j => .int (i ^ j.toNat)
theorem powW_ok : OpOk X Wx (rI CPow fun i j => .int (i ^ j.toNat)) powW := intW_ok (fun i j h => by
  exact grd_iff.mp h) fun _ _ _ _ _ => .int _
def ltW := int0W fun i j => .bool (decide (i < j))
def leW := int0W fun i j => .bool (decide (i ≤ j))
def gtW := int0W fun i j => .bool (decide (j < i))
def geW := int0W fun i j => .bool (decide (j ≤ i))
theorem ltW_ok : OpOk X Wx (rI0 fun i j => .bl (decide (i < j))) ltW := int0W_ok fun _ _ _ _ _ => .bl _
theorem leW_ok : OpOk X Wx (rI0 fun i j => .bl (decide (i ≤ j))) leW := int0W_ok fun _ _ _ _ _ => .bl _
theorem gtW_ok : OpOk X Wx (rI0 fun i j => .bl (decide (j < i))) gtW := int0W_ok fun _ _ _ _ _ => .bl _
theorem geW_ok : OpOk X Wx (rI0 fun i j => .bl (decide (j ≤ i))) geW := int0W_ok fun _ _ _ _ _ => .bl _
/-! ### ==, !=, in -/
def eqW (neg : Bool) (x y : W) (m : Mem) : Res W :=
  match asD x m, asD y m with
  | some a, some b => if (SeqAt.shaped a && SeqAt.shaped b) = true then .ok (.d (.bool (if neg then !PyData.eqv a b else PyData.eqv a b))) m else .bad
  | _, _ => .bad
theorem eqW_ok : OpOk X Wx (rEqD X.K) (eqW false) := by
  intro σ G m v u x y H0 H1 Q R rx ry h
  unfold eqW at h
  cases ex : asD x m with
  | none => rw [ex] at h; exact False.elim h
  | some a =>
    cases ey : asD y m with
    | none => rw [ex, ey] at h; exact False.elim h
    | some b =>
      rw [ex, ey] at h
      by_cases hz : (SeqAt.shaped a && SeqAt.shaped b) = true
      · simp only [hz, if_true] at h
        have hz' := Bool.and_eq_true_iff.mp hz
        exact ⟨a, b, asD_dp R rx ex, asD_dp R ry ey, hz'.1, hz'.2, finD R h (.bl _)⟩
      · simp only [hz] at h
        exact False.elim h
theorem neW_ok : OpOk X Wx (rNeD X.K) (eqW true) := by
  intro σ G m v u x y H0 H1 Q R rx ry h
  unfold eqW at h
  cases ex : asD x m with
  | none => rw [ex] at h; exact False.elim h
  | some a =>
    cases ey : asD y m with
    | none => rw [ex, ey] at h; exact False.elim h
    | some b =>
      rw [ex, ey] at h
      by_cases hz : (SeqAt.shaped a && SeqAt.shaped b) = true
      · simp only [hz, if_true] at h
        have hz' := Bool.and_eq_true_iff.mp hz
        exact ⟨a, b, asD_dp R rx ex, asD_dp R ry ey, hz'.1, hz'.2, finD R h (.bl _)⟩
      · simp only [hz] at h
        exact False.elim h
/-! ### in -/
def flatD : D → Bool
  | .none => true
  | .bool _ => true
  | .int _ => true
  | .str _ => true
  | _ => false
theorem flat_rep {K : PySem.W.Frag} {lv : List Addr} {H : Hp} {v : V} {x : D} (r : Rep K lv H v x) (f : flatD x = true) : flatV v = true := by
  cases r <;> first | rfl | (exact absurd f (by simp [flatD]))
theorem eqV_eqv {K : PySem.W.Frag} {lv : List Addr} {H : Hp} {v u : V} {x y : D} (r : Rep K lv H v x) (q : Rep K lv H u y) (f : flatD x = true) (g : flatD y = true) : eqV v u = PyData.eqv x y := by
  cases r <;> cases q <;> first | rfl | (exact absurd f (by simp [flatD])) | (exact absurd g (by simp [flatD])) | simp [eqV, PyData.eqv]
theorem flats {K : PySem.W.Frag} {lv : List Addr} {H : Hp} : ∀ {vs : List V} {ds : List D}, Reps K lv H vs ds → ds.all flatD = true → vs.all flatV = true
  | _, _, .nil, _ => rfl
  | _, _, .cons h r, f => by
    rw [List.all_cons, Bool.and_eq_true] at f ⊢
    exact ⟨flat_rep h f.1, flats r f.2⟩
theorem inV_any {K : PySem.W.Frag} {lv : List Addr} {H : Hp} {v : V} {x : D} (q : Rep K lv H v x) (fx : flatD x = true) : ∀ {vs : List V} {ds : List D}, Reps K lv H vs ds → ds.all flatD = true → inV v vs = ds.any fun z => PyData.eqv z x
  | _, _, .nil, _ => rfl
  | _, _, .cons h r, f => by
    rw [List.all_cons, Bool.and_eq_true] at f
    have e1 := eqV_eqv h q f.1 fx
    have e2 := inV_any q fx r f.2
    unfold inV at e2 ⊢
    rw [List.any_cons, List.any_cons, e1, e2]
def inS (a b : Str) : Bool := match a.cps.toList with
  | [c] => decide (c ∈ b.cps.toList)
  | _ => !(Builtin.Str.occurrences b a 0 b.length 1).isEmpty
def ngB (neg b : Bool) : Bool := if neg then !b else b
def inW (neg : Bool) (x y : W) (m : Mem) : Res W :=
  match x, y with
  | .d (.str a), .d (.str b) => .ok (.d (.bool (ngB neg (inS a b)))) m
  | .d x, .d (.tuple ds) => if (flatD x && ds.all flatD) = true then .ok (.d (.bool (ngB neg (ds.any fun z => PyData.eqv z x)))) m else .bad
  | x, y => match asD x m, asL y m with
    | some a, some ds => if (SeqAt.shaped a && SeqAt.shaped (.list ds)) = true then .ok (.d (.bool (ngB neg (ds.any fun z => PyData.eqv z a)))) m else .bad
    | _, _ => .bad
def rInA (K : PySem.W.Frag) (neg : Bool) : R2 := fun x y H Q =>
  (∃ i j, x = .str i ∧ y = .str j ∧ Q (.bl (ngB neg (inS i j))) H) ∨
  (∃ p xs, y = .ref p ∧ SqT K H p xs ∧ flatV x = true ∧ xs.all flatV = true ∧ Q (.bl (ngB neg (inV x xs))) H) ∨
  (∃ d ds, Dp K H x d ∧ Dp K H y (.list ds) ∧ SeqAt.shaped d = true ∧ SeqAt.shaped (.list ds) = true ∧ Q (.bl (ngB neg (ds.any fun z => PyData.eqv z d))) H)
theorem one_sign {a : Str} {c : Nat} (h : a.cps.toList = [c]) : a = ⟨#[c]⟩ := by
  cases a with
  | mk cps =>
    have : cps = #[c] := by
      apply Array.ext'
      simpa using h
    rw [this]
theorem op_inA (hu : X.A.units + 65 < cLine) : OpR X (compareOp .In) (rInA X.K false) := by
  intro pins s σ H x y v u Q I rx ry h
  rcases h with ⟨i, j, e1, e2, q⟩ | ⟨p, xs, e1, h1, h2, h3, q⟩ | ⟨d, ds, h1, h2, h3, h4, q⟩
  · have q : Q (.bl (inS i j)) H := q
    unfold inS at q
    split at q
    · rename_i c hc
      exact op_in_sign pins s σ H x y v u Q I rx ry ⟨c, j, by rw [e1, one_sign hc], e2, q⟩
    · exact op_in_str pins s σ H x y v u Q I rx ry ⟨i, j, e1, e2, q⟩
  · exact op_in_seq pins s σ H x y v u Q I rx ry ⟨p, xs, e1, .inr h1, h2, h3, q⟩
  · exact op_inD hu pins s σ H x y v u Q I rx ry ⟨d, ds, h1, h2, h3, h4, q⟩
theorem op_notInA (hu : X.A.units + 65 < cLine) : OpR X (compareOp .NotIn) (rInA X.K true) := by
  intro pins s σ H x y v u Q I rx ry h
  rcases h with ⟨i, j, e1, e2, q⟩ | ⟨p, xs, e1, h1, h2, h3, q⟩ | ⟨d, ds, h1, h2, h3, h4, q⟩
  · have q : Q (.bl (!inS i j)) H := q
    unfold inS at q
    split at q
    · rename_i c hc
      exact op_notIn_sign pins s σ H x y v u Q I rx ry ⟨c, j, by rw [e1, one_sign hc], e2, q⟩
    · exact op_notin_str pins s σ H x y v u Q I rx ry ⟨i, j, e1, e2, q⟩
  · exact op_notIn_seq pins s σ H x y v u Q I rx ry ⟨p, xs, e1, .inr h1, h2, h3, q⟩
  · exact op_notInD hu pins s σ H x y v u Q I rx ry ⟨d, ds, h1, h2, h3, h4, q⟩
theorem inL_ok {neg : Bool} {σ : St} {G : Wd} {m : Mem} {v u : V} {x y : W} {H0 H1 : Hp} {Q : VK} (R : RelM X.K G m) (rx : RepR X.K H0 G v x) (ry : RepR X.K H1 G u y)
    (h : GPost X Wx σ G (RepR X.K) (match asD x m, asL y m with | some a, some ds => if (SeqAt.shaped a && SeqAt.shaped (.list ds)) = true then .ok (.d (.bool (ngB neg (ds.any fun z => PyData.eqv z a)))) m else .bad | _, _ => .bad) Q) : rInA X.K neg v u G.H Q := by
  cases ex : asD x m with
  | none => rw [ex] at h; exact False.elim h
  | some a =>
    cases ey : asL y m with
    | none => rw [ex, ey] at h; exact False.elim h
    | some ds =>
      rw [ex, ey] at h
      by_cases hz : (SeqAt.shaped a && SeqAt.shaped (.list ds)) = true
      · simp only [hz, if_true] at h
        have hz' := Bool.and_eq_true_iff.mp hz
        obtain ⟨p, vs, rfl, h1, r1⟩ := asL_sq R ry ey
        exact .inr (.inr ⟨a, ds, asD_dp R rx ex, .lst h1 r1.dp, hz'.1, hz'.2, finD R h (.bl _)⟩)
      · simp only [hz] at h
        exact False.elim h
theorem inT_ok {neg : Bool} {σ : St} {G : Wd} {m : Mem} {v u : V} {x : D} {ds : List D} {Q : VK} (R : RelM X.K G m) (rx : Rep X.K G.lv G.H v x) (ry : Rep X.K G.lv G.H u (.tuple ds))
    (h : GPost X Wx σ G (RepR X.K) (if (flatD x && ds.all flatD) = true then .ok (.d (.bool (ngB neg (ds.any fun z => PyData.eqv z x)))) m else .bad) Q) : rInA X.K neg v u G.H Q := by
  by_cases hz : (flatD x && ds.all flatD) = true
  · simp only [hz, if_true] at h
    have hz' := Bool.and_eq_true_iff.mp hz
    cases ry with
    | tup t r => exact .inr (.inl ⟨_, _, rfl, t.sq, flat_rep rx hz'.1, flats r hz'.2, by rw [inV_any rx hz'.1 r hz'.2]; exact finD R h (.bl _)⟩)
  · simp only [hz] at h
    exact False.elim h
theorem inW_ok {neg : Bool} : OpOk X Wx (rInA X.K neg) (inW neg) := by
  intro σ G m v u x y H0 H1 Q R rx ry h
  cases x with
  | d x =>
    cases y with
    | d y =>
      cases y with
      | str b =>
        cases x with
        | str a => cases rx; cases ry; exact .inl ⟨a, b, rfl, rfl, finD R h (.bl _)⟩
        | _ => exact inL_ok R rx ry h
      | tuple b => cases x <;> exact inT_ok R rx ry h
      | _ => cases x <;> exact inL_ok R rx ry h
    | _ => cases x <;> exact inL_ok R rx ry h
  | _ => cases y <;> exact inL_ok R rx ry h
/-! ### is None -/
def isNW (neg : Bool) (x y : W) (m : Mem) : Res W :=
  match y with
  | .d .none => match x with
    | .d .none => .ok (.d (.bool (ngB neg true))) m
    | _ => .ok (.d (.bool (ngB neg false))) m
  | _ => .bad
def rIsN (neg : Bool) : R2 := fun x y H Q => y = .non ∧ Q (.bl (ngB neg (decide (x = .non)))) H
theorem op_isA : OpR X (compareOp .Is) (rIsN false) := op_isN
theorem op_isNotA : OpR X (compareOp .IsNot) (rIsN true) := op_notN
theorem isNW_ok {neg : Bool} : OpOk X Wx (rIsN neg) (isNW neg) := by
  intro σ G m v u x y H0 H1 Q R rx ry h
  cases y with
  | d y =>
    cases y with
    | none =>
      cases ry
      refine ⟨rfl, ?_⟩
      have no : v ≠ .non → GPost X Wx σ G (RepR X.K) (.ok (.d (.bool (ngB neg false))) m) Q → Q (.bl (ngB neg (decide (v = .non)))) G.H := fun hv h => by
        rw [decide_eq_false hv]; exact finD R h (.bl _)
      cases x with
      | d x =>
        cases x with
        | none => cases rx; exact finD R h (.bl _)
        | _ => cases rx <;> exact no (by simp) h
      | obj i => obtain ⟨a, _, rfl⟩ := rx; exact no (by simp) h
      | fl i => obtain ⟨a, _, rfl, _⟩ := rx; exact no (by simp) h
      | ro i => obtain ⟨a, _, rfl, _⟩ := rx; exact no (by simp) h
    | _ => exact False.elim h
  | _ => exact False.elim h
/-! ### items, slices -/
def ixW (x y : W) (m : Mem) : Res W :=
  match x, y with
  | .d (.str z), .d (.int i) => if z.length ≤ sizeLine then (match atI z.cps.toList i with | some c => .ok (.d (.str ⟨#[c]⟩)) m | none => .bad) else .bad
  | .d (.tuple ds), .d (.int i) => (match atI ds i with | some c => .ok (.d c) m | none => .bad)
  | x, .d (.int i) => (match asL x m with | some ds => (match atI ds i with | some c => .ok (.d c) m | none => .bad) | none => .bad)
  | _, _ => .bad
theorem Reps.atI {K : PySem.W.Frag} {lv : List Addr} {H : Hp} {vs : List V} {ds : List D} {i : Int} {c : D} (r : Reps K lv H vs ds) (e : L2.atI ds i = some c) : ∃ v, L2.atI vs i = some v ∧ Rep K lv H v c := by
  unfold L2.atI at e ⊢
  rw [r.length]
  cases q : ixN ds.length i with
  | none => rw [q] at e; cases e
  | some j =>
    rw [q] at e
    exact r.get e
theorem ixL_ok {σ : St} {G : Wd} {m : Mem} {v : V} {x : W} {i : Int} {H0 : Hp} {Q : VK} (R : RelM X.K G m) (rx : RepR X.K H0 G v x)
    (h : GPost X Wx σ G (RepR X.K) (match asL x m with | some ds => (match L2.atI ds i with | some c => .ok (.d c) m | none => .bad) | none => .bad) Q) : rIx X.K v (.int i) G.H Q := by
  cases ex : asL x m with
  | none => rw [ex] at h; exact False.elim h
  | some ds =>
    rw [ex] at h
    obtain ⟨p, vs, rfl, h1, r1⟩ := asL_sq R rx ex
    cases ea : L2.atI ds i with
    | none => simp only [ea] at h; exact False.elim h
    | some c =>
      simp only [ea] at h
      obtain ⟨w, h2, h3⟩ := r1.atI ea
      exact .inl ⟨p, vs, i, w, rfl, rfl, h1, h2, finD R h h3⟩
theorem ixW_ok : OpOk X Wx (rIx X.K) ixW := by
  intro σ G m v u x y H0 H1 Q R rx ry h
  cases y with
  | d y =>
    cases y with
    | int i =>
      cases ry
      cases x with
      | d x =>
        cases x with
        | str z =>
          cases rx
          simp only [ixW] at h
          by_cases hz : z.length ≤ sizeLine
          · simp only [hz, if_true] at h
            cases ea : L2.atI z.cps.toList i with
            | none => simp only [ea] at h; exact False.elim h
            | some c => simp only [ea] at h; exact .inr (.inr ⟨z, i, c, rfl, rfl, hz, ea, finD R h (.str _)⟩)
          · simp only [hz, if_false] at h; exact False.elim h
        | tuple ds =>
          simp only [ixW] at h
          cases rx with
          | @tup p vs _ t r =>
            cases ea : L2.atI ds i with
            | none => simp only [ea] at h; exact False.elim h
            | some c =>
              simp only [ea] at h
              obtain ⟨w, h2, h3⟩ := r.atI ea
              exact .inr (.inl ⟨p, vs, i, w, rfl, rfl, t.sq, h2, finD R h h3⟩)
        | _ => exact ixL_ok R rx h
      | _ => exact ixL_ok R rx h
    | _ => cases x <;> first | exact False.elim h | (rename_i x; cases x <;> exact False.elim h)
  | _ => cases x <;> first | exact False.elim h | (rename_i x; cases x <;> exact False.elim h)
def cutD (xs : List D) (lo hi : Option Int) : List D := (xs.drop (HT.sIx xs.length 0 lo)).take (HT.sIx xs.length xs.length hi - HT.sIx xs.length 0 lo)
theorem Reps.cut {K : PySem.W.Frag} {lv : List Addr} {H : Hp} {vs : List V} {ds : List D} (r : Reps K lv H vs ds) (lo hi : Option Int) : Reps K lv H (cutV vs lo hi) (cutD ds lo hi) := by
  unfold cutV cutD
  rw [r.length]
  exact (r.drop _).take _
def slW (x : W) (lo hi : Option Int) (m : Mem) : Res W :=
  match x with
  | .d (.str z) => if z.length ≤ sizeLine then .ok (.d (.str (cutS z lo hi))) m else .bad
  | .d (.tuple ds) => .ok (.d (.tuple (cutD ds lo hi))) m
  | x => match asL x m with
    | some ds => .ok (.fl (cutD ds lo hi)) m
    | none => .bad
def rSlAll (K : PySem.W.Frag) : V → Option Int → Option Int → Hp → VK → Prop := fun x lo hi H Q => rSlS x lo hi H Q ∨ (rSlA K x lo hi H Q ∨ rSlL K x lo hi H Q)
theorem sl_all : SlR X (rSlAll X.K) := SlR.or sl_str (SlR.or sl_tupA sl_list)
theorem slL_ok {σ : St} {G : Wd} {m : Mem} {v : V} {x : W} {lo hi : Option Int} {H0 : Hp} {Q : VK} (R : RelM X.K G m) (rx : RepR X.K H0 G v x)
    (h : GPost X Wx σ G (RepR X.K) (match asL x m with | some ds => .ok (.fl (cutD ds lo hi)) m | none => .bad) Q) : rSlAll X.K v lo hi G.H Q := by
  cases ex : asL x m with
  | none => rw [ex] at h; exact False.elim h
  | some ds =>
    rw [ex] at h
    obtain ⟨p, vs, rfl, h1, r1⟩ := asL_sq R rx ex
    exact .inr (.inr ⟨p, vs, rfl, h1, fun l hl => finL R h (r1.cut lo hi) hl⟩)
theorem slW_ok : SlOk X Wx (rSlAll X.K) slW := by
  intro σ G m v x lo hi H0 Q R rx h
  cases x with
  | d x =>
    cases x with
    | str z =>
      cases rx
      simp only [slW] at h
      by_cases hz : z.length ≤ sizeLine
      · simp only [hz, if_true] at h
        exact .inl ⟨z, rfl, hz, finD R h (.str _)⟩
      · simp only [hz, if_false] at h; exact False.elim h
    | tuple ds =>
      cases rx with
      | @tup p vs _ t r =>
        refine .inr (.inl ⟨p, vs, rfl, t.sq, fun e => ?_, fun e l hl => finT R h (r.cut lo hi) hl⟩)
        refine finD R h ?_
        have ec : cutD ds lo hi = ds := by
          unfold cutD
          rw [← r.length, e.1, e.2, r.length, Nat.sub_zero, List.drop_zero, List.take_length]
        rw [ec]
        exact .tup t r
    | _ => exact slL_ok R rx h
  | _ => exact slL_ok R rx h
end
end M

set_option Elab.async false
set_option linter.all false
set_option maxRecDepth 100000
namespace M
open PySem L2
section
variable {X : Cx} {Wx : WX}
/-! ### from expressions to statements -/
def eS {α : Type} (r : Res α) (env : Env) (k : α → Mem → SRes) : SRes := match r with
  | .ok a m => k a m
  | .err e m => .err e env m
  | .bad => .bad
@[simp] theorem eS_ok {α : Type} (a : α) (m : Mem) (env : Env) (k : α → Mem → SRes) : eS (.ok a m) env k = k a m := rfl
@[simp] theorem eS_err {α : Type} (e : Exn) (m : Mem) (env : Env) (k : α → Mem → SRes) : eS (.err e m) env k = .err e env m := rfl
@[simp] theorem eS_bad {α : Type} (env : Env) (k : α → Mem → SRes) : eS (.bad : Res α) env k = .bad := rfl
theorem SPost.ofE0 {α β : Type} {rel : Hp → Wd → β → α → Prop} {σ : St} {G : Wd} {env : Env} {r : Res α} {k : α → Mem → SRes} {E : Ends} {Q : β → Hp → Prop} (h : SPost X Wx G (eS r env k) E) (S : RelS X.K G σ env)
    (hk : ∀ a m v G1, Le G G1 → RelM X.K G1 m → rel G.H G1 v a → SPost X Wx G (k a m) E → Q v G1.H) : GPost X Wx σ G rel r Q := by
  cases r with
  | ok a m => exact fun v G1 le R q => hk a m v G1 le R q h
  | err e m => exact fun c d G' le R q => h c d σ G' le R (S.mono le) q
  | bad => exact h
theorem SPost.ofE {α β : Type} {rel : Hp → Wd → β → α → Prop} {σ : St} {G : Wd} {env : Env} {r : Res α} {k : α → Mem → SRes} {E : Ends} {Q : β → Hp → Prop} (h : SPost X Wx G (eS r env k) E) (S : RelS X.K G σ env)
    (hk : ∀ a m v G1, Le G G1 → RelM X.K G1 m → rel G.H G1 v a → SPost X Wx G1 (k a m) E → Q v G1.H) : GPost X Wx σ G rel r Q :=
  SPost.ofE0 h S fun a m v G1 le R q hq => hk a m v G1 le R q (hq.later le)
/-! ### blocks -/
def sNx (env : Env) (m : Mem) : SRes := .nx env m
def sSeq (a b : SF) (env : Env) (m : Mem) : SRes := match a env m with
  | .nx e m1 => b e m1
  | r => r
theorem mb_nil : MB X Wx [] sNx := ⟨_, pss_nil, fun env m σ G E S R h => h σ G (Le.refl R) R S⟩
theorem mb_one {st : Stmt} {f : SF} (h : MS X Wx st f) : MB X Wx [st] f := let ⟨t, p, q⟩ := h; ⟨t, pss_one p, q⟩
theorem mb_cons {st : Stmt} {rest : List Stmt} {f g : SF} (h : MS X Wx st f) (h' : MB X Wx rest g) : MB X Wx (st :: rest) (sSeq f g) := by
  obtain ⟨ta, pa, qa⟩ := h
  obtain ⟨tb, pb, qb⟩ := h'
  refine ⟨_, pss_cons pa pb, fun env m σ G E S R h => qa env m σ G _ S R ?_⟩
  unfold sSeq at h
  cases e : f env m with
  | nx e1 m1 => rw [e] at h; exact fun σ' G' le R' S' => qb e1 m1 σ' G' E S' R' (SPost.later h le)
  | bk e1 m1 => rw [e] at h; exact h
  | ct e1 m1 => rw [e] at h; exact h
  | rt w m1 => rw [e] at h; exact h
  | err x e1 m1 => rw [e] at h; exact h
  | bad => rw [e] at h; exact h
def sBad (_ : Env) (_ : Mem) : SRes := .bad
theorem ms_never {st : Stmt} : MS X Wx st sBad := ⟨_, ps_never, fun env m σ G E S R h => h⟩
theorem mb_never {st : List Stmt} : MB X Wx st sBad := ⟨_, pss_never, fun env m σ G E S R h => h⟩
def sBk (env : Env) (m : Mem) : SRes := .bk env m
def sCt (env : Env) (m : Mem) : SRes := .ct env m
theorem ms_pass {pos : Pos} : MS X Wx (.Pass pos) sNx := ⟨_, ps_pass, fun env m σ G E S R h => h σ G (Le.refl R) R S⟩
theorem ms_break {pos : Pos} : MS X Wx (.Break pos) sBk := ⟨_, ps_break, fun env m σ G E S R h => h σ G (Le.refl R) R S⟩
theorem ms_continue {pos : Pos} : MS X Wx (.Continue pos) sCt := ⟨_, ps_continue, fun env m σ G E S R h => h σ G (Le.refl R) R S⟩
def sDrop (f : EF) (env : Env) (m : Mem) : SRes := eS (f env m) env fun _ m1 => .nx env m1
theorem ms_expr {e : Expr} {f : EF} {pos : Pos} (h : ME X Wx e f) (hs : swapsWith e none pos.line X.env = pure false := by rfl) : MS X Wx (.Expr e pos) (sDrop f) := by
  obtain ⟨t, p, q⟩ := h
  exact ⟨_, ps_expr p hs, fun env m σ G E S R h => q env m σ G _ S R (SPost.ofE h S fun a m v G1 le R1 q1 h1 => h1 σ G1 (Le.refl R1) R1 (S.mono le))⟩
def sRet (f : EF) (env : Env) (m : Mem) : SRes := eS (f env m) env fun w m1 => .rt w m1
theorem ms_ret {e : Expr} {f : EF} {pos : Pos} (h : ME X Wx e f) : MS X Wx (.Return (some e) pos) (sRet f) := by
  obtain ⟨t, p, q⟩ := h
  exact ⟨_, ps_ret p, fun env m σ G E S R h => q env m σ G _ S R (SPost.ofE0 h S fun a m v G1 le R1 q1 h1 => h1 v G1 le R1 q1)⟩
def sIf (c : TF) (a b : SF) (env : Env) (m : Mem) : SRes := eS (c env m) env fun t m1 => if t = true then a env m1 else b env m1
theorem ms_if {c : Expr} {a b : List Stmt} {fc : TF} {fa fb : SF} {pos : Pos} (hc : MT X Wx c fc) (ha : MB X Wx a fa) (hb : MB X Wx b fb) : MS X Wx (.If c a b pos) (sIf fc fa fb) := by
  obtain ⟨tc, pc, qc⟩ := hc
  obtain ⟨ta, pa, qa⟩ := ha
  obtain ⟨tb, pb, qb⟩ := hb
  refine ⟨_, ps_if pc pa pb, fun env m σ G E S R h => qc env m σ G _ S R (SPost.ofE h S fun k m1 v G1 le R1 q1 h1 => ?_)⟩
  rw [show v = k from q1]
  cases k with
  | true => exact iteT (qa env m1 σ G1 E (S.mono le) R1 h1)
  | false => exact iteF (qb env m1 σ G1 E (S.mono le) R1 h1)
/-! ### targets -/
abbrev GF := W → Env → Option Env
/-- but for the slots is, the slots stay -/
structure Off (is : List Nat) (σ σ' : St) : Prop where
  len : σ'.length = σ.length
  get : ∀ j, j ∉ is → σ'[j]? = σ[j]?
theorem Off.refl (is : List Nat) (σ : St) : Off is σ σ := ⟨rfl, fun _ _ => rfl⟩
theorem Off.trans {is js : List Nat} {σ σ1 σ2 : St} (a : Off is σ σ1) (b : Off js σ1 σ2) : Off (is ++ js) σ σ2 :=
  ⟨b.len.trans a.len, fun j h => (b.get j fun z => h (List.mem_append_right _ z)).trans (a.get j fun z => h (List.mem_append_left _ z))⟩
def MG (X : Cx) (tg : Expr) (g : GF) (is : List Nat) : Prop :=
  ∃ t, PG X tg t ∧ ∀ w env env' σ (G : Wd) v (Q : St → Hp → Prop), RelS X.K G σ env → RepW X.K G v w → g w env = some env' → (∀ σ', Off is σ σ' → RelS X.K G σ' env' → Q σ' G.H) → t v σ G.H Q
def gSet (i : Nat) (w : W) (env : Env) : Option Env := some (env.set i (some w))
theorem Off.set {σ : St} {v : V} (i : Nat) : Off [i] σ (σ.set i (some v)) := ⟨List.length_set, fun j h => List.getElem?_set_ne fun z => h (by rw [z]; exact List.mem_singleton.mpr rfl)⟩
theorem mg_name (i : Nat) {x : Str} {pos : Pos} (hN : X.N.Nodup) (hi : X.N[i]? = some x := by rfl) (hx : Loc X.env.scope x := by first | exact .inl rfl | exact .inr rfl) (hf : X.fn x = true ∨ X.env.scope.names.lookup x = some .local := by first | exact .inl rfl | exact .inr rfl) : MG X (.Name x pos) (gSet i) [i] :=
  ⟨_, pg_name hN hi hx hf, fun w env env' σ G v Q S r e h => by cases e; exact h _ (Off.set i) (S.set r)⟩
abbrev GsF := List D → Env → Option Env
def MGs (X : Cx) (tg : List Expr) (g : GsF) (is : List Nat) : Prop :=
  ∃ t, PGs X tg t ∧ ∀ ds env env' σ (G : Wd) vs (Q : St → Hp → Prop), RelS X.K G σ env → Reps X.K G.lv G.H vs ds → g ds env = some env' → (∀ σ', Off is σ σ' → RelS X.K G σ' env' → Q σ' G.H) → t vs σ G.H Q
def gsNil (ds : List D) (env : Env) : Option Env := match ds with
  | [] => some env
  | _ :: _ => none
def gsCons (g : GF) (r : GsF) (ds : List D) (env : Env) : Option Env := match ds with
  | [] => none
  | d :: ds => (g (.d d) env).bind fun e => r ds e
theorem mgs_nil : MGs X [] gsNil [] := ⟨_, pgs_nil, fun ds env env' σ G vs Q S r e h => by
  cases r with
  | nil => cases e; exact ⟨rfl, h _ (Off.refl _ _) S⟩
  | cons _ _ => cases e⟩
theorem mgs_cons {e : Expr} {es : List Expr} {g : GF} {r : GsF} {is js : List Nat} (h1 : MG X e g is) (h2 : MGs X es r js) (hs : (assignEach (e :: es) X.env).map (·.2) = assign e X.env :: (assignEach es X.env).map (·.2) := by rfl) : MGs X (e :: es) (gsCons g r) (is ++ js) := by
  obtain ⟨t, p, q⟩ := h1
  obtain ⟨u, p2, q2⟩ := h2
  refine ⟨_, pgs_cons p p2 hs, fun ds env env' σ G vs Q S rr e h => ?_⟩
  cases rr with
  | nil => cases e
  | cons h0 r0 =>
    rename_i d ds'
    simp only [gsCons] at e
    cases q0 : g (.d d) env with
    | none => rw [q0] at e; cases e
    | some e1 =>
      rw [q0] at e
      exact ⟨_, _, rfl, q (.d d) env e1 σ G _ _ S h0 q0 fun σ' o1 S' => q2 ds' e1 env' σ' G _ Q S' r0 e fun σ2 o2 S2 => h σ2 (o1.trans o2) S2⟩
def gTupF (n : Nat) (r : GsF) (w : W) (env : Env) : Option Env := match w with
  | .d (.tuple ds) => if ds.length = n then r ds env else none
  | _ => none
theorem mg_tup {es : List Expr} {k : Nat} {r : GsF} {n : Nat} {is : List Nat} {pos : Pos} (hc : X.calm = true) (h : MGs X es r is) (hn : (assignEach es X.env).length = n := by rfl) (hst : (assignEach es X.env).findIdx? (·.1) = none := by rfl) : MG X (.Tuple es k pos) (gTupF n r) is := by
  obtain ⟨t, p, q⟩ := h
  refine ⟨_, pg_tup hc p hn hst, fun w env env' σ G v Q S rr e h => ?_⟩
  cases w with
  | d x =>
    cases x with
    | tuple ds =>
      simp only [gTupF] at e
      by_cases hz : ds.length = n
      · rw [if_pos hz] at e
        cases rr with
        | tup t1 r1 => exact ⟨_, _, rfl, t1.sq, by rw [r1.length]; exact hz, q ds env env' σ G _ Q S r1 e h⟩
      · rw [if_neg hz] at e; cases e
    | _ => cases e
  | _ => cases e
/-- target = e -/
def asgK (g : GF) (env : Env) (w : W) (m1 : Mem) : SRes := match w with
  | .fl _ => .bad
  | w => match g w env with
    | some e => .nx e m1
    | none => .bad
def sAsg (f : EF) (g : GF) (env : Env) (m : Mem) : SRes := eS (f env m) env fun w m1 => asgK g env w m1
theorem asgQ {g : GF} {t : TG} {is : List Nat} (q : ∀ w env env' σ (G : Wd) v (Q : St → Hp → Prop), RelS X.K G σ env → RepW X.K G v w → g w env = some env' → (∀ σ', Off is σ σ' → RelS X.K G σ' env' → Q σ' G.H) → t v σ G.H Q)
    {env : Env} {σ : St} {G G1 : Wd} {m1 : Mem} {w : W} {v : V} {E : Ends} {H0 : Hp} (S : RelS X.K G1 σ env) (R1 : RelM X.K G1 m1) (r : RepR X.K H0 G1 v w)
    (h : SPost X Wx G1 (asgK g env w m1) E) : t v σ G1.H E.nx := by
  have go : RepW X.K G1 v w → SPost X Wx G1 (match g w env with | some e => .nx e m1 | none => .bad) E → t v σ G1.H E.nx := fun r h => by
    cases e : g w env with
    | none => rw [e] at h; exact False.elim h
    | some e1 => rw [e] at h; exact q w env e1 σ G1 v _ S r e fun σ' _ S' => h σ' G1 (Le.refl R1) R1 S'
  cases w with
  | fl _ => exact False.elim h
  | d x => exact go r h
  | obj x => exact go r h
  | ro x => exact go r h
theorem ms_asg {tg e : Expr} {f : EF} {g : GF} {is : List Nat} {pos : Pos} (he : ME X Wx e f) (hg : MG X tg g is) (hs : swapsWithSole [tg] e pos.line X.env = pure false := by rfl) (hw : swappedStores [tg] e X.env = pure none := by rfl)
    (h1 : (assignEach [tg] X.env).map (·.2) = [assign tg X.env] := by rfl) : MS X Wx (.Assign [tg] e pos) (sAsg f g) := by
  obtain ⟨t, p, q⟩ := he
  obtain ⟨u, p2, q2⟩ := hg
  exact ⟨_, ps_asg p p2 hs hw h1, fun env m σ G E S R h => q env m σ G _ S R (SPost.ofE h S fun w m1 v G1 le R1 q1 h1 => asgQ (G := G) q2 (S.mono le) R1 q1 h1)⟩
/-- name = e -/
theorem ms_set (i : Nat) {x : Str} {e : Expr} {f : EF} {pos pos' : Pos} (hN : X.N.Nodup) (he : ME X Wx e f) (hi : X.N[i]? = some x := by rfl) (hx : Loc X.env.scope x := by first | exact .inl rfl | exact .inr rfl) (hs : swapsWith e (some (.Name x pos')) pos.line X.env = pure false := by rfl)
    (hf : X.fn x = true ∨ X.env.scope.names.lookup x = some .local := by first | exact .inl rfl | exact .inr rfl) : MS X Wx (.Assign [.Name x pos'] e pos) (sAsg f (gSet i)) := by
  obtain ⟨t, p, q⟩ := he
  exact ⟨_, ps_set hN hi hx p hs hf, fun env m σ G E S R h => q env m σ G _ S R (SPost.ofE h S fun w m1 v G1 le R1 q1 h1 => asgQ (G := G) (g := gSet i) (t := gName i) (is := [i]) (fun w env env' σ G v Q S r e h => by cases e; exact h _ (Off.set i) (S.set r)) (S.mono le) R1 q1 h1)⟩
/-- name op= e -/
def IpOk (X : Cx) (Wx : WX) (t : TIp) (g : W → W → Mem → Res W) : Prop := OpOk X Wx t g
def sAug (i : Nat) (g : W → W → Mem → Res W) (f : EF) (env : Env) (m : Mem) : SRes := match env[i]? with
  | some (some x) => eS ((f env m).bind fun y m1 => g x y m1) env fun w m1 => match w with
    | .fl _ => .bad
    | w => .nx (env.set i (some w)) m1
  | _ => .bad
theorem ms_aug (i : Nat) {x : Str} {e : Expr} {f : EF} {g : W → W → Mem → Res W} {op : Operator} {ti : TIp} {pos pos' : Pos} (hN : X.N.Nodup) (ho : PIp X op ti) (hg : IpOk X Wx ti g) (he : ME X Wx e f) (hi : X.N[i]? = some x := by rfl) (hx : Loc X.env.scope x := by first | exact .inl rfl | exact .inr rfl)
    (hf : X.fn x = true ∨ X.env.scope.names.lookup x = some .local := by first | exact .inl rfl | exact .inr rfl) : MS X Wx (.AugAssign (.Name x pos') op e pos) (sAug i g f) := by
  obtain ⟨t, p, q⟩ := he
  refine ⟨_, ps_aug hN hi hx p ho hf, fun env m σ G E S R h => ?_⟩
  unfold sAug at h
  cases e1 : env[i]? with
  | none => rw [e1] at h; exact False.elim h
  | some o =>
    cases o with
    | none => rw [e1] at h; exact False.elim h
    | some w0 =>
      rw [e1] at h
      obtain ⟨v0, h1, h2⟩ := S.get i w0 e1
      refine ⟨v0, h1, ?_⟩
      have h' : GPost X Wx σ G (RepR X.K) ((f env m).bind fun y m1 => g w0 y m1) (fun z H2 => E.nx (σ.set i (some z)) H2) := SPost.ofE h S fun w m1 v G1 le R1 q1 hq => by
        have go : RepW X.K G1 v w → SPost X Wx G1 (.nx (env.set i (some w)) m1) E → E.nx (σ.set i (some v)) G1.H := fun r hh => hh _ G1 (Le.refl R1) R1 ((S.mono le).set r)
        cases w with
        | fl _ => exact False.elim hq
        | d x => exact go q1 hq
        | obj x => exact go q1 hq
        | ro x => exact go q1 hq
      refine q env m σ G _ S R (GPost.bind weakR h' fun y m1 u G1 le1 R1 q1 hq => ?_)
      exact hg σ G1 m1 v0 u w0 y G.H _ _ R1 (h2.r.mono le1) q1 hq
theorem ip_addI : PIp X .Add (ipI fun i j => i + j) := ip_add
theorem ip_subI : PIp X .Sub (ipI fun i j => i - j) := ip_sub
def addIW := int0W fun i j => .int (i + j)
theorem addIW_ok : OpOk X Wx (ipI fun i j => i + j) addIW := int0W_ok (g := fun i j => .int (i + j)) fun _ _ _ _ _ => .int _
theorem subIW_ok : OpOk X Wx (ipI fun i j => i - j) subW := int0W_ok (g := fun i j => .int (i - j)) fun _ _ _ _ _ => .int _
/-! ### while -/
def whileM (c : TF) (b : SF) : Nat → Env → Mem → SRes
  | 0, _, _ => .bad
  | n + 1, env, m => eS (c env m) env fun t m1 => if t = true then (match b env m1 with
    | .nx e m2 => whileM c b n e m2
    | .ct e m2 => whileM c b n e m2
    | .bk e m2 => .nx e m2
    | r => r) else .nx env m1
theorem ms_while (n : Nat) {c : Expr} {body : List Stmt} {fc : TF} {fb : SF} {pos : Pos} (hp : PassesOwn (model X.prog X.w) X.A X.env X.xe) (hc : MT X Wx c fc) (hb : MB X Wx body fb) : MS X Wx (.While c body [] pos) (whileM fc fb n) := by
  obtain ⟨tc, pc, qc⟩ := hc
  obtain ⟨tb, pb, qb⟩ := hb
  refine ⟨_, ps_while hp pc pb, fun env m σ G E S R h => ?_⟩
  refine ⟨fun k σ' H' => ∃ env' m' G', G'.H = H' ∧ RelM X.K G' m' ∧ RelS X.K G' σ' env' ∧ SPost X Wx G' (whileM fc fb k env' m') E, ⟨n, env, m, G, rfl, R, S, h⟩, ?_⟩
  rintro k σ' H' ⟨env', m', G', rfl, R', S', h'⟩
  cases k with
  | zero => exact False.elim h'
  | succ k =>
    refine qc env' m' σ' G' _ S' R' (SPost.ofE h' S' fun b m1 v G1 le R1 q1 h1 => ?_)
    rw [show v = b from q1]
    cases b with
    | false => exact iteF (h1 σ' G1 (Le.refl R1) R1 (S'.mono le))
    | true =>
      refine iteT ⟨fun σ2 H2 => ∃ env' m' G', G'.H = H2 ∧ RelM X.K G' m' ∧ RelS X.K G' σ2 env' ∧ SPost X Wx G' (whileM fc fb k env' m') E, fun σ2 H2 z => ⟨k, Nat.lt_succ_self k, z⟩, ?_⟩
      refine qb env' m1 σ' G1 _ (S'.mono le) R1 ?_
      simp only [if_true] at h1
      cases e : fb env' m1 with
      | nx e1 m2 => rw [e] at h1; exact fun σ2 G2 le2 R2 S2 => ⟨e1, m2, G2, rfl, R2, S2, SPost.later h1 le2⟩
      | ct e1 m2 => rw [e] at h1; exact fun σ2 G2 le2 R2 S2 => ⟨e1, m2, G2, rfl, R2, S2, SPost.later h1 le2⟩
      | bk e1 m2 => rw [e] at h1; exact h1
      | rt w m2 => rw [e] at h1; exact h1
      | err x e1 m2 => rw [e] at h1; exact h1
      | bad => rw [e] at h1; exact h1
/-! ### what is walked -/
structure Its where
  xs : List W
  chk : Mem → Bool
def ItOk (K : PySem.W.Frag) (J : It) (I : Its) (G1 : Wd) : Prop := ∀ G2 m2, Le G1 G2 → RelM K G2 m2 → I.chk m2 = true → ∀ i, 
  (∀ w, I.xs[i]? = some w → J.go i G2.H ∧ ∀ x H', J.yld i G2.H x H' → ∃ G3, G3.H = H' ∧ Le G2 G3 ∧ RelM K G3 m2 ∧ RepW K G3 x w) ∧ (I.xs.length ≤ i → J.stop i G2.H)
def relI (K : PySem.W.Frag) : Hp → Wd → It → Its → Prop := fun _ G J I => ItOk K J I G
abbrev IF := Env → Mem → Res Its
def MI (X : Cx) (Wx : WX) (tg iter : Expr) (f : IF) : Prop :=
  ∃ wi, PI X tg iter wi ∧ ∀ env m σ G Q, RelS X.K G σ env → RelM X.K G m → GPost X Wx σ G (relI X.K) (f env m) Q → wi σ G.H Q
theorem weakI {K : PySem.W.Frag} : Weak (relI K) := fun _ _ _ _ _ _ h => h
def forM (chk : Mem → Bool) (b : W → SF) : List W → Env → Mem → SRes
  | [], env, m => if chk m = true then .nx env m else .bad
  | x :: r, env, m => if chk m = true then (match b x env m with
    | .nx e m1 => forM chk b r e m1
    | .ct e m1 => forM chk b r e m1
    | .bk e m1 => .nx e m1
    | r => r) else .bad
/-- the body behind the target -/
def sTg (g : GF) (b : SF) (w : W) (env : Env) (m : Mem) : SRes := match g w env with
  | some e => b e m
  | none => .bad
def sFor (it : IF) (g : GF) (b : SF) (env : Env) (m : Mem) : SRes := eS (it env m) env fun I m1 => forM I.chk (sTg g b) I.xs env m1
theorem ms_for {tg iter : Expr} {body : List Stmt} {fi : IF} {g : GF} {is : List Nat} {fb : SF} {pos : Pos} (hp : PassesOwn (model X.prog X.w) X.A X.env X.xe) (hc : X.calm = true) (hi : MI X Wx tg iter fi) (hg : MG X tg g is) (hb : MB X Wx body fb)
    (hs : ∀ x, foldedSetIterable iter X.env x = pure x := by intro _; rfl) : MS X Wx (.For tg iter body [] pos) (sFor fi g fb) := by
  obtain ⟨ti, pi, qi⟩ := hi
  obtain ⟨tg', pg, qg⟩ := hg
  obtain ⟨tb, pb, qb⟩ := hb
  refine ⟨_, ps_for hp hc pi pg pb hs, fun env m σ G E S R h => ?_⟩
  refine qi env m σ G _ S R (SPost.ofE h S fun I m1 J G1 le R1 hJ h1 => ?_)
  refine ⟨fun i k σ' H' => ∃ env' m' G', G'.H = H' ∧ k + i = I.xs.length ∧ Le G1 G' ∧ RelM X.K G' m' ∧ RelS X.K G' σ' env' ∧ SPost X Wx G' (forM I.chk (sTg g fb) (I.xs.drop i) env' m') E,
    ⟨I.xs.length, env, m1, G1, rfl, Nat.add_zero _, Le.refl R1, R1, S.mono le, h1⟩, ?_⟩
  rintro i k σ' H' ⟨env', m', G', rfl, hk, le', R', S', h'⟩
  cases ex : I.xs.drop i with
  | nil =>
    rw [ex] at h'
    have hl : I.xs.length ≤ i := List.drop_eq_nil_iff.mp ex
    by_cases hz : I.chk m' = true
    · simp only [forM, hz, if_true] at h'
      exact .inl ⟨(hJ G' m' le' R' hz i).2 hl, h' σ' G' (Le.refl R') R' S'⟩
    · simp only [forM, hz] at h'
      exact False.elim h'
  | cons w r =>
    rw [ex] at h'
    have hi : I.xs[i]? = some w := by
      have := congrArg (·[0]?) ex
      simpa using this
    have hr : I.xs.drop (i + 1) = r := by
      have := congrArg List.tail ex
      simpa using this
    by_cases hz : I.chk m' = true
    · simp only [forM, hz, if_true] at h'
      obtain ⟨go, yl⟩ := (hJ G' m' le' R' hz i).1 w hi
      have hlt : i < I.xs.length := (List.getElem?_eq_some_iff.mp hi).1
      refine .inr ⟨go, fun σ2 H2 => ∃ env' m' G', G'.H = H2 ∧ Le G1 G' ∧ RelM X.K G' m' ∧ RelS X.K G' σ2 env' ∧ SPost X Wx G' (forM I.chk (sTg g fb) r env' m') E, fun σ2 H2 ⟨e2, m2, G2, z1, z2, z3, z4, z5⟩ => ⟨k - 1, by omega, e2, m2, G2, z1, by omega, z2, z3, z4, by rw [hr]; exact z5⟩, fun x H3 hy => ?_⟩
      obtain ⟨G3, rfl, le3, R3, rw3⟩ := yl x H3 hy
      cases eg : g w env' with
      | none =>
        have hst : sTg g fb w env' m' = .bad := by simp only [sTg, eg]
        rw [hst] at h'
        exact False.elim h'
      | some e1 =>
        have hst : sTg g fb w env' m' = fb e1 m' := by simp only [sTg, eg]
        rw [hst] at h'
        refine qg w env' e1 σ' G3 x _ (S'.mono le3) rw3 eg fun σ4 _ S4 => ?_
        refine qb e1 m' σ4 G3 _ S4 R3 ?_
        have l4 : Le G1 G3 := le'.trans le3
        cases e : fb e1 m' with
        | nx e1 m2 => rw [e] at h'; exact fun σ2 G2 le2 R2 S2 => ⟨e1, m2, G2, rfl, l4.trans le2, R2, S2, SPost.later h' (le3.trans le2)⟩
        | ct e1 m2 => rw [e] at h'; exact fun σ2 G2 le2 R2 S2 => ⟨e1, m2, G2, rfl, l4.trans le2, R2, S2, SPost.later h' (le3.trans le2)⟩
        | bk e1 m2 => rw [e] at h'; exact SPost.later (r := .nx e1 m2) h' le3
        | rt w m2 => rw [e] at h'; exact SPost.later h' le3
        | err x e1 m2 => rw [e] at h'; exact SPost.later h' le3
        | bad => rw [e] at h'; exact h'
    · simp only [forM, hz] at h'
      exact False.elim h'
end
end M

set_option Elab.async false
set_option linter.all false
set_option maxRecDepth 100000
namespace M
open PySem L2
/-! ### data alike -/
mutual
def beqD : D → D → Bool
  | .none, .none => true
  | .bool a, .bool b => a == b
  | .int a, .int b => a == b
  | .str a, .str b => decide (a = b)
  | .list a, .list b => beqDs a b
  | .tuple a, .tuple b => beqDs a b
  | _, _ => false
def beqDs : List D → List D → Bool
  | [], [] => true
  | a :: r, b :: s => beqD a b && beqDs r s
  | _, _ => false
end
mutual
theorem beqD_eq : ∀ (a b : D), beqD a b = true → a = b
  | .none, b, h => by cases b <;> first | rfl | (simp [beqD] at h)
  | .bool a, b, h => by cases b <;> first | (simp [beqD] at h; rw [h]) | (simp [beqD] at h)
  | .int a, b, h => by cases b <;> first | (simp [beqD] at h; rw [h]) | (simp [beqD] at h)
  | .str a, b, h => by cases b <;> first | (simp [beqD] at h; rw [h]) | (simp [beqD] at h)
  | .list a, b, h => by cases b <;> first | (simp only [beqD] at h; rw [beqDs_eq a _ h]) | (simp [beqD] at h)
  | .tuple a, b, h => by cases b <;> first | (simp only [beqD] at h; rw [beqDs_eq a _ h]) | (simp [beqD] at h)
  | .dict a, b, h => by cases b <;> simp [beqD] at h
theorem beqDs_eq : ∀ (a b : List D), beqDs a b = true → a = b
  | [], b, h => by cases b <;> first | rfl | (simp [beqDs] at h)
  | a :: r, b, h => by
    cases b with
    | nil => simp [beqDs] at h
    | cons c s =>
      simp only [beqDs, Bool.and_eq_true] at h
      rw [beqD_eq a c h.1, beqDs_eq r s h.2]
end
section
variable {X : Cx} {Wx : WX}
/-! ### walking a list, a tuple, a text -/
def rWalk (K : PySem.W.Frag) (x : V) (H1 : Hp) (R : It → Hp → Prop) : Prop :=
  (∃ a, x = .ref a ∧ (∃ xs, SqL K H1 a xs) ∧ R (Itl K a) H1) ∨ (∃ a, x = .ref a ∧ (∃ xs, SqT K H1 a xs) ∧ R (Itt K a) H1) ∨ (∃ z, x = .str z ∧ R (L2.Its z) H1)
def iWalk (K : PySem.W.Frag) (tl : TE) : TI := fun σ H R => tl σ H fun x H1 => rWalk K x H1 R
theorem walk_it {pins : List (Addr × Obj)} {σ : St} {tg : Expr} {H1 : Hp} {s1 : Shared} {x : V} {v : Value} {R : It → Hp → Prop} (I1 : Inv X pins σ H1 s1) (r1 : RelV x v) (q1 : rWalk X.K x H1 R) : wpAny (model X.prog X.w) X.A (pyIter v) (PIE X pins σ tg R) X.xe s1 := by
  have hf : ∀ (b : Addr), b ∈ [s1.heap.objs.size] → FpOk X pins H1 b := fun b hb => by
    rw [List.mem_singleton.mp hb]
    exact I1.fpOk (Nat.le_refl _) (I1.hok.fresh (Nat.le_refl _))
  rcases q1 with ⟨a, rfl, ⟨xs, hq⟩, q⟩ | ⟨a, rfl, ⟨xs, hq⟩, q⟩ | ⟨z, rfl, q⟩
  · cases r1
    obtain ⟨its, rv, pl, hz⟩ := I1.list hq
    exact wpAny_pyIter_list pl.isList ⟨s1.heap.objs.size, [s1.heap.objs.size], _, _, H1, rfl, I1.kept (t' := s1.toks) (fun b o e => Heap.get?_push_of_some _ e), turn_list a _, ⟨_, Heap.get?_push_size _ rfl, rfl, rfl⟩, hf, q⟩
  · cases r1
    obtain ⟨its, rv, pl, hz⟩ := I1.tuple hq
    exact wpAny_pyIter_tuple (show s1.heap.IsTuple a its.toArray from pl) ⟨s1.heap.objs.size, [s1.heap.objs.size], _, _, H1, rfl, I1.kept (t' := s1.toks) (fun b o e => Heap.get?_push_of_some _ e), turn_tuple a _, ⟨_, Heap.get?_push_size _ rfl, rfl, rfl⟩, hf, q⟩
  · obtain ⟨t, rfl⟩ := r1
    cases ha : z.cps.all (· < 128) with
    | false => exact PySem.wpAny_pyIter_wide ha (pi_one (tk := s1.toks) I1 _ (turn_str _ z t "str_iterator" (.inr rfl)) ⟨_, Heap.get?_push_size _ rfl, rfl, rfl⟩ q)
    | true => exact PySem.wpAny_pyIter_ascii ha (pi_one (tk := s1.toks) I1 _ (turn_str _ z t "str_ascii_iterator" (.inl rfl)) ⟨_, Heap.get?_push_size _ rfl, rfl, rfl⟩ q)
theorem pi_walk {tg l : Expr} {tl : TE} (hl : PE X l tl) : PI X tg l (iWalk X.K tl) :=
  ⟨fun pins s σ H R I h => thn (hl.run pins s σ H _ I h) fun _ _ ⟨_, _, I1, r1, q1⟩ => walk_it I1 r1 q1⟩
def yesM (_ : Mem) : Bool := true
def sameM (i : Nat) (ds : List D) (m : Mem) : Bool := match asL (.obj i) m with
  | some es => beqDs ds es
  | none => false
def itsL (ds : List D) : Its := ⟨ds.map .d, yesM⟩
def walkW (w : W) (m1 : Mem) : Res Its := match w with
  | .d (.tuple ds) => .ok (itsL ds) m1
  | .d (.str z) => .ok ⟨z.cps.toList.map fun c => .d (.str ⟨#[c]⟩), yesM⟩ m1
  | .d (.list ds) => .ok (itsL ds) m1
  | .fl ds => .ok (itsL ds) m1
  | .ro ds => .ok (itsL ds) m1
  | .obj i => match asL (.obj i) m1 with
    | some ds => .ok ⟨ds.map .d, sameM i ds⟩ m1
    | none => .bad
  | _ => .bad
def iSeq (f : EF) (env : Env) (m : Mem) : Res Its := (f env m).bind walkW
theorem itL {K : PySem.W.Frag} {G1 : Wd} {a : Addr} {ds : List D} {chk : Mem → Bool} (h : ∀ G2 m2, Le G1 G2 → RelM K G2 m2 → chk m2 = true → ∃ vs, SqL K G2.H a vs ∧ Reps K G2.lv G2.H vs ds) : ItOk K (Itl K a) ⟨ds.map .d, chk⟩ G1 := by
  intro G2 m2 le R hz i
  obtain ⟨vs, hs, r⟩ := h G2 m2 le R hz
  refine ⟨fun w hw => ?_, fun hi => ⟨vs, hs, by rw [r.length]; simpa using hi⟩⟩
  have hw : (ds.map W.d)[i]? = some w := hw
  rw [List.getElem?_map] at hw
  cases e : ds[i]? with
  | none => rw [e] at hw; cases hw
  | some d =>
    rw [e] at hw
    cases hw
    obtain ⟨v, h1, h2⟩ := r.get e
    refine ⟨⟨vs, v, hs, h1⟩, fun x H' ⟨e1, e2⟩ => ⟨G2, e1.symm, Le.refl R, R, ?_⟩⟩
    have := e2 vs hs
    rw [h1] at this
    cases this
    exact h2
theorem itT {K : PySem.W.Frag} {G1 : Wd} {a : Addr} {ds : List D} {chk : Mem → Bool} (h : ∀ G2 m2, Le G1 G2 → RelM K G2 m2 → chk m2 = true → ∃ vs, SqT K G2.H a vs ∧ Reps K G2.lv G2.H vs ds) : ItOk K (Itt K a) ⟨ds.map .d, chk⟩ G1 := by
  intro G2 m2 le R hz i
  obtain ⟨vs, hs, r⟩ := h G2 m2 le R hz
  refine ⟨fun w hw => ?_, fun hi => ⟨vs, hs, by rw [r.length]; simpa using hi⟩⟩
  have hw : (ds.map W.d)[i]? = some w := hw
  rw [List.getElem?_map] at hw
  cases e : ds[i]? with
  | none => rw [e] at hw; cases hw
  | some d =>
    rw [e] at hw
    cases hw
    obtain ⟨v, h1, h2⟩ := r.get e
    refine ⟨⟨vs, v, hs, h1⟩, fun x H' ⟨e1, e2⟩ => ⟨G2, e1.symm, Le.refl R, R, ?_⟩⟩
    have := e2 vs hs
    rw [h1] at this
    cases this
    exact h2
theorem itStr {K : PySem.W.Frag} {G1 : Wd} {z : Str} : ItOk K (L2.Its z) ⟨z.cps.toList.map fun c => .d (.str ⟨#[c]⟩), yesM⟩ G1 := by
  intro G2 m2 le R hz i
  have ez : (z.cps.toList.map fun c => (W.d (.str ⟨#[c]⟩) : W)).length = z.cps.size := by simp
  refine ⟨fun w hw => ?_, fun hi => by
    have hi : (z.cps.toList.map fun c => (W.d (.str ⟨#[c]⟩) : W)).length ≤ i := hi
    rw [ez] at hi
    exact hi⟩
  have hw : (z.cps.toList.map fun c => (W.d (.str ⟨#[c]⟩) : W))[i]? = some w := hw
  rw [List.getElem?_map] at hw
  cases e : z.cps.toList[i]? with
  | none => rw [e] at hw; cases hw
  | some c =>
    rw [e] at hw
    cases hw
    refine ⟨by have := (List.getElem?_eq_some_iff.mp e).1; show i < z.cps.size; simpa using this, fun x H' ⟨e1, c', e2, e3⟩ => ⟨G2, e1.symm, Le.refl R, R, ?_⟩⟩
    rw [Array.getElem?_toList] at e
    rw [e] at e2
    cases e2
    rw [e3]
    exact .str _
theorem walkW_ok {σ : St} {G : Wd} {m : Mem} {v : V} {w : W} {H0 : Hp} {Q : It → Hp → Prop} (R : RelM X.K G m) (r : RepR X.K H0 G v w) (h : GPost X Wx σ G (relI X.K) (walkW w m) Q) : rWalk X.K v G.H Q := by
  cases w with
  | d x =>
    cases x with
    | tuple ds =>
      cases r with
      | tup t r => exact .inr (.inl ⟨_, rfl, ⟨_, t.sq⟩, h _ G (Le.refl R) R (itT fun G2 m2 le R2 _ => ⟨_, (t.mono le.mo).sq, r.mono le.mo⟩)⟩)
    | str z => cases r; exact .inr (.inr ⟨z, rfl, h _ G (Le.refl R) R itStr⟩)
    | list ds =>
      cases r with
      | lst t r => exact .inl ⟨_, rfl, ⟨_, t.sq⟩, h _ G (Le.refl R) R (itL fun G2 m2 le R2 _ => ⟨_, (t.mono le.mo).sq, r.mono le.mo⟩)⟩
    | _ => exact False.elim h
  | fl ds =>
    obtain ⟨p, vs, rfl, h0, h1, h2, h3, r⟩ := r
    exact .inl ⟨p, rfl, ⟨vs, .of h3⟩, h _ G (Le.refl R) R (itL fun G2 m2 le R2 _ => ⟨vs, .of (le.keep _ _ h3 fun z => h1 z.1), r.mono le.mo⟩)⟩
  | ro ds =>
    obtain ⟨p, vs, rfl, h1, r⟩ := r
    exact .inl ⟨p, rfl, ⟨vs, h1.sq⟩, h _ G (Le.refl R) R (itL fun G2 m2 le R2 _ => ⟨vs, (h1.mono le.mo).sq, r.mono le.mo⟩)⟩
  | obj i =>
    simp only [walkW] at h
    cases e : asL (.obj i) m with
    | none => rw [e] at h; exact False.elim h
    | some ds =>
      rw [e] at h
      obtain ⟨a, ha, rfl⟩ := id r
      obtain ⟨a', vs, e1, h1, _⟩ := asL_sq (w := .obj i) R r e
      cases e1
      refine .inl ⟨a, rfl, ⟨vs, h1⟩, h _ G (Le.refl R) R (itL fun G2 m2 le R2 hz => ?_)⟩
      unfold sameM at hz
      cases e2 : asL (.obj i) m2 with
      | none => rw [e2] at hz; cases hz
      | some es =>
        rw [e2] at hz
        have ee := beqDs_eq _ _ hz
        subst ee
        obtain ⟨a2, vs2, e3, h3, r3⟩ := asL_sq (v := .ref a) (H0 := H0) (w := .obj i) R2 ⟨a, le.iget ha, rfl⟩ e2
        cases e3
        exact ⟨vs2, h3, r3⟩
theorem mi_seq {tg e : Expr} {f : EF} (h : ME X Wx e f) : MI X Wx tg e (iSeq f) := by
  obtain ⟨t, p, q⟩ := h
  exact ⟨_, pi_walk p, fun env m σ G Q S R h => q env m σ G _ S R (GPost.bind weakI h fun w m1 v G1 le1 R1 q1 h1 => walkW_ok R1 q1 h1)⟩
/-! ### range -/
def rngI (lo : Int) (n : Nat) : Its := ⟨(List.range n).map fun (k : Nat) => .d (.int (lo + (k : Int))), yesM⟩
theorem itR {K : PySem.W.Frag} {G1 : Wd} {lo : Int} {n : Nat} : ItOk K (Itr lo n) (rngI lo n) G1 := by
  intro G2 m2 le R hz i
  have ez : (rngI lo n).xs.length = n := by simp [rngI]
  refine ⟨fun w hw => ?_, fun hi => by rw [ez] at hi; exact hi⟩
  have hi : i < n := by
    have := (List.getElem?_eq_some_iff.mp hw).1
    rwa [ez] at this
  have hw : ((List.range n).map fun (k : Nat) => (W.d (.int (lo + (k : Int))) : W))[i]? = some w := hw
  rw [List.getElem?_map, List.getElem?_range hi] at hw
  cases hw
  refine ⟨hi, fun x H' ⟨e1, e2⟩ => ⟨G2, e1.symm, Le.refl R, R, ?_⟩⟩
  rw [e2]
  exact .int _
noncomputable def smallI (i : Int) : Bool := grd (-(2 ^ 62) ≤ i ∧ i < 2 ^ 62)
noncomputable def rng1 (ws : List W) (m : Mem) : Res Its := match ws with
  | [.d (.int j)] => if smallI j = true then .ok (rngI 0 j.toNat) m else .bad
  | _ => .bad
noncomputable def rng2 (ws : List W) (m : Mem) : Res Its := match ws with
  | [.d (.int i), .d (.int j)] => if (smallI i && smallI j) = true then .ok (rngI i (j - i).toNat) m else .bad
  | _ => .bad
noncomputable def iRange1 (a : AF) (env : Env) (m : Mem) : Res Its := (a env m).bind rng1
noncomputable def iRange2 (a : AF) (env : Env) (m : Mem) : Res Its := (a env m).bind rng2
theorem paired1 {α β : Type} {F : α → β → Prop} {vs : List α} {b : β} (h : Paired F vs [b]) : ∃ a, vs = [a] ∧ F a b := by
  cases h with
  | cons h t => cases t; exact ⟨_, rfl, h⟩
theorem paired2 {α β : Type} {F : α → β → Prop} {vs : List α} {b c : β} (h : Paired F vs [b, c]) : ∃ a d, vs = [a, d] ∧ F a b ∧ F d c := by
  cases h with
  | cons h t =>
    obtain ⟨d, rfl, q⟩ := paired1 t
    exact ⟨_, d, rfl, h, q⟩
theorem mi_range1 {tg a : Expr} {f : AF} {p pos : Pos} (hg : Gl X "range") (hm : X.mg "range" = none) (ha : MA X Wx [a] f) (hs : starEach [a] X.env = [(false, eval a X.env)] := by rfl) : MI X Wx tg (.Call (.Name "range" p) [a] [] pos) (iRange1 f) := by
  obtain ⟨t, pa, q⟩ := ha
  refine ⟨_, pi_range1 hg hm pa hs, fun env m σ G Q S R h => q env m σ G _ S R (GPost.bind weakI h fun ws m1 vs G1 le1 R1 q1 h1 => ?_)⟩
  unfold rng1 at h1
  split at h1
  · rename_i j
    obtain ⟨v, rfl, r⟩ := paired1 q1
    cases r
    by_cases hz : smallI j = true
    · simp only [hz, if_true] at h1
      have hz := grd_iff.mp hz
      exact ⟨j, rfl, hz.1, hz.2, h1 _ G1 (Le.refl R1) R1 itR⟩
    · simp only [hz] at h1
      exact False.elim h1
  · exact False.elim h1
theorem mi_range2 {tg a b : Expr} {f : AF} {p pos : Pos} (hg : Gl X "range") (hm : X.mg "range" = none) (ha : MA X Wx [a, b] f) (hs : starEach [a, b] X.env = [(false, eval a X.env), (false, eval b X.env)] := by rfl) (hs2 : starEach [b] X.env = [(false, eval b X.env)] := by rfl) :
    MI X Wx tg (.Call (.Name "range" p) [a, b] [] pos) (iRange2 f) := by
  obtain ⟨t, pa, q⟩ := ha
  refine ⟨_, pi_range2 hg hm pa hs hs2, fun env m σ G Q S R h => q env m σ G _ S R (GPost.bind weakI h fun ws m1 vs G1 le1 R1 q1 h1 => ?_)⟩
  unfold rng2 at h1
  split at h1
  · rename_i i j
    obtain ⟨v, u, rfl, r, r'⟩ := paired2 q1
    cases r
    cases r'
    by_cases hz : (smallI i && smallI j) = true
    · simp only [hz, if_true] at h1
      rw [Bool.and_eq_true] at hz
      have h1' := grd_iff.mp hz.1
      have h2' := grd_iff.mp hz.2
      exact ⟨i, j, rfl, ⟨h1'.1, h1'.2, h2'.1, h2'.2⟩, h1 _ G1 (Le.refl R1) R1 itR⟩
    · simp only [hz] at h1
      exact False.elim h1
  · exact False.elim h1
/-! ### enumerate, zip -/
theorem itPair {K : PySem.W.Frag} {G2 : Wd} {m2 : Mem} {T : Addr} {vs : List V} {ds : List D} (R : RelM K G2 m2) (hT : G2.H T = none) (r : Reps K G2.lv G2.H vs ds) :
    ∃ G3, G3.H = upd G2.H T (.tup vs) ∧ Le G2 G3 ∧ RelM K G3 m2 ∧ RepW K G3 (.ref T) (.d (.tuple ds)) := by
  have le : Le G2 ⟨G2.io, G2.lv, upd G2.H T (.tup vs)⟩ := Le.new R hT
  exact ⟨_, rfl, le, R.new hT, Rep.tup (.inl ⟨(R.ne hT).2, upd_same⟩) (Reps.mono le.mo r)⟩
/-- a list that stays: not an object -/
def asS (w : W) : Option (List D) := match w with
  | .d (.list ds) => some ds
  | .fl ds => some ds
  | .ro ds => some ds
  | _ => none
theorem asS_sq {G : Wd} {m : Mem} {v : V} {w : W} {H0 : Hp} {ds : List D} (R : RelM X.K G m) (r : RepR X.K H0 G v w) (e : asS w = some ds) : ∃ a vs, v = .ref a ∧ ∀ G2, Le G G2 → SqL X.K G2.H a vs ∧ Reps X.K G2.lv G2.H vs ds := by
  cases w with
  | d x =>
    cases x with
    | list es =>
      cases e
      cases r with
      | lst t r => exact ⟨_, _, rfl, fun G2 le => ⟨(t.mono le.mo).sq, r.mono le.mo⟩⟩
    | _ => cases e
  | fl es => cases e; obtain ⟨p, vs, rfl, h0, h1, h2, h3, r⟩ := r; exact ⟨p, vs, rfl, fun G2 le => ⟨.of (le.keep _ _ h3 fun z => h1 z.1), r.mono le.mo⟩⟩
  | ro es => cases e; obtain ⟨p, vs, rfl, h1, r⟩ := r; exact ⟨p, vs, rfl, fun G2 le => ⟨(h1.mono le.mo).sq, r.mono le.mo⟩⟩
  | obj i => cases e
def enumD (ds : List D) : List D := ds.zipIdx.map fun p => .tuple [.int (p.2 : Int), p.1]
def enumW (ws : List W) (m : Mem) : Res Its := match ws with
  | [w] => match asS w with
    | some ds => .ok (itsL (enumD ds)) m
    | none => .bad
  | _ => .bad
def iEnumF (a : AF) (env : Env) (m : Mem) : Res Its := (a env m).bind enumW
theorem mi_enum {e : Expr} {f : AF} {p pos tpos : Pos} {elts : List Expr} {kk : Nat} (hg : Gl X "enumerate") (hm : X.mg "enumerate" = none) (ha : MA X Wx [e] f) (hs : starEach [e] X.env = [(false, eval e X.env)] := by rfl) :
    MI X Wx (.Tuple elts kk tpos) (.Call (.Name "enumerate" p) [e] [] pos) (iEnumF f) := by
  obtain ⟨t, pa, q⟩ := ha
  refine ⟨_, pi_enum hg hm pa hs, fun env m σ G Q S R h => q env m σ G _ S R (GPost.bind weakI h fun ws m1 vs G1 le1 R1 q1 h1 => ?_)⟩
  unfold enumW at h1
  split at h1
  · rename_i w
    obtain ⟨v, rfl, r⟩ := paired1 q1
    cases e : asS w with
    | none => simp only [e] at h1; exact False.elim h1
    | some ds =>
      simp only [e] at h1
      obtain ⟨a, vs, rfl, hst⟩ := asS_sq R1 r e
      refine ⟨a, vs, rfl, (hst G1 (Le.refl R1)).1, h1 _ G1 (Le.refl R1) R1 ?_⟩
      intro G2 m2 le R2 hz i
      obtain ⟨hq, hr⟩ := hst G2 le
      refine ⟨fun w' hw => ?_, fun hi => ⟨vs, hq, by rw [hr.length]; simpa [itsL, enumD] using hi⟩⟩
      have hw : ((enumD ds).map W.d)[i]? = some w' := hw
      rw [List.getElem?_map] at hw
      unfold enumD at hw
      rw [List.getElem?_map, List.getElem?_zipIdx] at hw
      cases e2 : ds[i]? with
      | none => rw [e2] at hw; cases hw
      | some d =>
        rw [e2] at hw
        cases hw
        obtain ⟨v, g1, g2⟩ := hr.get e2
        refine ⟨⟨vs, v, hq, g1⟩, fun x H' ⟨T, y, ex, hT, eH, hy⟩ => ?_⟩
        have := hy vs hq
        rw [g1] at this
        cases this
        rw [ex, eH]
        have ei : ((0 + i : Nat) : Int) = ((i : Nat) : Int) := by rw [Nat.zero_add]
        show ∃ G3, G3.H = _ ∧ _ ∧ _ ∧ RepW X.K G3 (.ref T) (.d (.tuple [.int ((0 + i : Nat) : Int), d]))
        rw [ei]
        exact itPair R2 hT (.cons (.int _) (.cons g2 .nil))
  · exact False.elim h1
def zipD (ds es : List D) : List D := (ds.zip es).map fun p => .tuple [p.1, p.2]
def zipW (ws : List W) (m : Mem) : Res Its := match ws with
  | [w, u] => match asS w, asS u with
    | some ds, some es => .ok (itsL (zipD ds es)) m
    | _, _ => .bad
  | _ => .bad
def iZipF (a : AF) (env : Env) (m : Mem) : Res Its := (a env m).bind zipW
theorem mi_zip {e e2 : Expr} {f : AF} {p pos tpos : Pos} {elts : List Expr} {kk : Nat} (hg : Gl X "zip") (hm : X.mg "zip" = none) (ha : MA X Wx [e, e2] f)
    (hs : starEach [e, e2] X.env = (false, eval e X.env) :: starEach [e2] X.env := by rfl) (hpl : (backTo pos (starEach [e2] X.env)).any (·.1) = false := by rfl) :
    MI X Wx (.Tuple elts kk tpos) (.Call (.Name "zip" p) [e, e2] [] pos) (iZipF f) := by
  obtain ⟨t, pa, q⟩ := ha
  refine ⟨_, pi_zip hg hm pa hs hpl, fun env m σ G Q S R h => q env m σ G _ S R (GPost.bind weakI h fun ws m1 vs G1 le1 R1 q1 h1 => ?_)⟩
  unfold zipW at h1
  split at h1
  · rename_i w u
    obtain ⟨v, v', rfl, r, r'⟩ := paired2 q1
    cases e : asS w with
    | none => simp only [e] at h1; exact False.elim h1
    | some ds =>
      cases e' : asS u with
      | none => simp only [e, e'] at h1; exact False.elim h1
      | some es =>
        simp only [e, e'] at h1
        obtain ⟨a, vs, rfl, hst⟩ := asS_sq R1 r e
        obtain ⟨b, us, rfl, hst'⟩ := asS_sq R1 r' e'
        refine ⟨a, b, vs, us, rfl, (hst G1 (Le.refl R1)).1, (hst' G1 (Le.refl R1)).1, h1 _ G1 (Le.refl R1) R1 ?_⟩
        intro G2 m2 le R2 hz i
        obtain ⟨hq, hr⟩ := hst G2 le
        obtain ⟨hq', hr'⟩ := hst' G2 le
        refine ⟨fun w' hw => ?_, fun hi => ⟨vs, us, hq, hq', by
          rw [hr.length, hr'.length]
          have hi : ((zipD ds es).map W.d).length ≤ i := hi
          simp [zipD] at hi
          omega⟩⟩
        have hw : ((zipD ds es).map W.d)[i]? = some w' := hw
        rw [List.getElem?_map] at hw
        unfold zipD at hw
        rw [List.getElem?_map] at hw
        cases e2 : (ds.zip es)[i]? with
        | none => rw [e2] at hw; cases hw
        | some d =>
          rw [e2] at hw
          cases hw
          obtain ⟨x1, x2⟩ := List.getElem?_zip_eq_some.mp e2
          obtain ⟨v, g1, g2⟩ := hr.get x1
          obtain ⟨v', g1', g2'⟩ := hr'.get x2
          refine ⟨⟨vs, us, v, v', hq, hq', g1, g1'⟩, fun x H' ⟨T, y, y', ex, hT, eH, hy, hy'⟩ => ?_⟩
          have t1 := hy vs hq
          have t2 := hy' us hq'
          rw [g1] at t1
          rw [g1'] at t2
          cases t1
          cases t2
          rw [ex, eH]
          exact itPair R2 hT (.cons g2 (.cons g2' .nil))
  · exact False.elim h1
end
end M

set_option Elab.async false
set_option linter.all false
set_option maxRecDepth 100000
namespace M
open PySem L2
/-! ### a list that grows aside -/
section
variable {K : PySem.W.Frag} {G G0 : Wd} {m : Mem} {p : Addr} {o : HO}
theorem Mo.updL {lv : List Addr} {H : Hp} (h : p ∈ lv) : Mo lv H lv (upd H p o) := ⟨fun a u e n => by rw [upd_ne (fun z => n (by rw [z]; exact h))]; exact e, fun _ _ _ n => n⟩
theorem RepW.updL {v : V} {w : W} (h : RepW K G v w) (h1 : p ∈ G.lv) : RepW K ⟨G.io, G.lv, upd G.H p o⟩ v w := by
  cases w with
  | d x => exact Rep.mono (Mo.updL h1) h
  | obj i => exact h
  | fl _ => exact h
  | ro ds => obtain ⟨a, vs, e1, e2, e3⟩ := h; exact ⟨a, vs, e1, e2.mono (Mo.updL h1), e3.mono (Mo.updL h1)⟩
theorem RelS.updL {σ : St} {env : Env} (S : RelS K G σ env) (h1 : p ∈ G.lv) : RelS K ⟨G.io, G.lv, upd G.H p o⟩ σ env :=
  ⟨S.len, fun i w e => let ⟨v, a, b⟩ := S.get i w e; ⟨v, a, b.updL h1⟩⟩
theorem RelM.updL (R : RelM K G m) (h1 : p ∈ G.lv) (h2 : p ∉ G.io) : RelM K ⟨G.io, G.lv, upd G.H p o⟩ m := by
  have up : ∀ a, G.H a ≠ none → upd G.H p o a ≠ none := fun a z q => z (upd_none q)
  refine ⟨R.dw, R.len, R.nd, fun a z => up a (R.lt a z), fun a z => up a (R.it a z), fun i a ob e1 e2 => ?_⟩
  have q := R.ob i a ob e1 e2
  have ne : a ≠ p := fun e => h2 (e ▸ List.mem_of_getElem? e1)
  have ea : upd G.H p o a = G.H a := upd_ne ne
  cases ob with
  | lst ds => obtain ⟨z1, vs, z2, r⟩ := q; exact ⟨z1, vs, ea.trans z2, r.mono (Mo.updL h1)⟩
  | fz ds => obtain ⟨z1, vs, z2, r⟩ := q; exact ⟨z1, vs, ea.trans z2, r.mono (Mo.updL h1)⟩
  | dct kvs => obtain ⟨z1, ks, z2, r⟩ := q; exact ⟨z1, ks, ea.trans z2, Paired.mono (fun _ _ z => ⟨z.1, z.2.updL h1⟩) r⟩
theorem Le.updF (le : Le G0 G) (h0 : G0.H p = none) : Le G0 ⟨G.io, G.lv, upd G.H p o⟩ :=
  ⟨le.lt, le.io, le.lv, le.stay, fun a u e n => by
    show upd G.H p o a = _
    rw [upd_ne (ne_of_none e h0)]; exact le.keep a u e n, fun a e => le.tr a (upd_none e)⟩
end
/-! ### readings that do not hang on the place -/
section
variable {X : Cx} {Wx : WX}
def cE (X : Cx) (Wx : WX) (f : EF) : TE := fun σ H Q => ∃ env m G, G.H = H ∧ RelS X.K G σ env ∧ RelM X.K G m ∧ GPost X Wx σ G (RepR X.K) (f env m) Q
def cT (X : Cx) (Wx : WX) (f : TF) : TT := fun σ H Q => ∃ env m G, G.H = H ∧ RelS X.K G σ env ∧ RelM X.K G m ∧ GPost X Wx σ G relEq (f env m) Q
def cG (X : Cx) (g : GF) (is : List Nat) : TG := fun v σ H Q => ∃ w env env' G, G.H = H ∧ RelS X.K G σ env ∧ RepW X.K G v w ∧ g w env = some env' ∧ ∀ σ', Off is σ σ' → RelS X.K G σ' env' → Q σ' G.H
theorem ME.pe {e : Expr} {f : EF} (h : ME X Wx e f) : PE X e (cE X Wx f) := by
  obtain ⟨t, p, q⟩ := h
  refine ⟨fun pins s σ H Q I ⟨env, m, G, eH, S, R, hq⟩ => ?_⟩
  subst eH
  exact p.run pins s σ G.H Q I (q env m σ G Q S R hq)
theorem MG.pg {e : Expr} {g : GF} {is : List Nat} (h : MG X e g is) : PG X e (cG X g is) := by
  obtain ⟨t, p, q⟩ := h
  refine ⟨fun pins s σ H v u Q I r ⟨w, env, env', G, eH, S, rr, eg, hq⟩ => ?_⟩
  subst eH
  exact p.run pins s σ G.H v u Q I r (q w env env' σ G v Q S rr eg hq)
def MTs (X : Cx) (Wx : WX) (es : List Expr) (f : TF) : Prop :=
  ∃ t, PTs X es t ∧ ∀ env m σ G Q, RelS X.K G σ env → RelM X.K G m → GPost X Wx σ G relEq (f env m) Q → t σ G.H Q
theorem MTs.pts {e : List Expr} {f : TF} (h : MTs X Wx e f) : PTs X e (cT X Wx f) := by
  obtain ⟨t, p, q⟩ := h
  refine ⟨fun pins s σ H Q I ⟨env, m, G, eH, S, R, hq⟩ => ?_⟩
  subst eH
  exact p.run pins s σ G.H Q I (q env m σ G Q S R hq)
def tYesF (_ : Env) (m : Mem) : Res Bool := .ok true m
theorem mts_nil : MTs X Wx [] tYesF := ⟨_, pts_nil, fun env m σ G Q S R h => h true G (Le.refl R) R rfl⟩
theorem mts_one {c : Expr} {f : TF} (h : MT X Wx c f) : MTs X Wx [c] f := let ⟨t, p, q⟩ := h; ⟨t, pts_one p, q⟩
/-! ### comprehensions -/
abbrev WF : WX := fun _ _ _ _ => False
def noErr {α : Type} (r : Res α) : Res α := match r with
  | .err _ _ => .bad
  | r => r
def wipeE (env : Env) : List Nat → Env
  | [] => env
  | v :: vs => (wipeE env vs).set v none
theorem wipe_get (σ : St) : ∀ (vs : List Nat) (j : Nat), (wipe σ vs)[j]? = if j ∈ vs then (σ[j]?).map (fun _ => none) else σ[j]?
  | [], j => by simp [wipe]
  | v :: vs, j => by
    unfold wipe
    by_cases hj : v = j
    · subst hj
      rw [List.getElem?_set]
      simp only [if_true, wipe_length, List.mem_cons, true_or, if_true]
      by_cases hv : v < σ.length
      · rw [if_pos hv, List.getElem?_eq_getElem hv]; rfl
      · rw [if_neg hv, List.getElem?_eq_none (by omega)]; rfl
    · rw [List.getElem?_set_ne hj, wipe_get σ vs j]
      have : (j ∈ v :: vs) ↔ j ∈ vs := by simp [List.mem_cons, Ne.symm hj]
      simp only [this]
theorem wipe_off {σ σ' : St} {is vs : List Nat} (h : Off is (wipe σ vs) σ') (hs : ∀ i ∈ is, i ∈ vs) : wipe σ' vs = wipe σ vs := by
  apply List.ext_getElem?
  intro j
  rw [wipe_get, wipe_get]
  by_cases hj : j ∈ vs
  · simp only [hj, if_true]
    have hl : σ'.length = σ.length := by rw [h.len, wipe_length]
    by_cases hz : j < σ.length
    · rw [List.getElem?_eq_getElem hz, List.getElem?_eq_getElem (by omega)]; rfl
    · rw [List.getElem?_eq_none (by omega), List.getElem?_eq_none (by omega)]
  · simp only [hj, if_false]
    rw [h.get j fun z => hj (hs j z), wipe_get]
    simp only [hj, if_false]
theorem wipeE_length (env : Env) : ∀ vs : List Nat, (wipeE env vs).length = env.length
  | [] => rfl
  | v :: vs => by unfold wipeE; rw [List.length_set, wipeE_length env vs]
theorem RelS.wipe {K : PySem.W.Frag} {G : Wd} {σ : St} {env : Env} (S : RelS K G σ env) : ∀ vs : List Nat, RelS K G (wipe σ vs) (wipeE env vs)
  | [] => S
  | v :: vs => by
    have S' := RelS.wipe S vs
    refine ⟨by unfold L2.wipe wipeE; rw [List.length_set, List.length_set]; exact S'.len, fun i w e => ?_⟩
    unfold wipeE at e
    unfold L2.wipe
    by_cases hj : v = i
    · subst hj
      rw [List.getElem?_set] at e
      simp only [if_true] at e
      split at e <;> cases e
    · rw [List.getElem?_set_ne hj] at e ⊢
      exact S'.get i w e
def lcM (chk : Mem → Bool) (b : W → Mem → Res (Option D)) : List W → List D → Mem → Res W
  | [], acc, m => if chk m = true then .ok (.fl acc) m else .bad
  | x :: r, acc, m => if chk m = true then (b x m).bind fun o m1 => match o with
    | none => lcM chk b r acc m1
    | some d => if acc.length < sizeLine then lcM chk b r (acc ++ [d]) m1 else .bad
    else .bad
def lcB (g : GF) (ft : TF) (fe : EF) (env : Env) (x : W) (m : Mem) : Res (Option D) := match g x env with
  | none => .bad
  | some e => (noErr (ft e m)).bind fun t m1 => if t = true then (noErr (fe e m1)).bind fun w m2 => match w with
      | .d x => .ok (some x) m2
      | _ => .bad
    else .ok none m1
def eLc (fi : IF) (g : GF) (ft : TF) (fe : EF) (vs : List Nat) (env : Env) (m : Mem) : Res W := (fi env m).bind fun I m1 => lcM I.chk (lcB g ft fe (wipeE env vs)) I.xs [] m1
theorem lcQ {fi : IF} {g : GF} {is : List Nat} {ft : TF} {fe : EF} {vs : List Nat} {wi : TI} (hsub : ∀ i ∈ is, i ∈ vs) (qi : ∀ env m σ G Q, RelS X.K G σ env → RelM X.K G m → GPost X Wx σ G (relI X.K) (fi env m) Q → wi σ G.H Q)
    (env : Env) (m : Mem) (σ : St) (G : Wd) (Q : VK) (S : RelS X.K G σ env) (R : RelM X.K G m) (h : GPost X Wx σ G (RepR X.K) (eLc fi g ft fe vs env m) Q) : tLc wi (cG X g is) (cT X WF ft) (cE X WF fe) vs σ G.H Q := by
  refine qi env m σ G _ S R (GPost.bind0 h fun I m1 J G1 le1 R1 hJ h1 => ?_)
  intro A hA
  refine ⟨fun i k H' => ∃ m' G' acc av, G'.H = H' ∧ k + i = I.xs.length ∧ Le G1 G' ∧ RelM X.K G' m' ∧ A ∈ G'.lv ∧ A ∉ G'.io ∧ G'.H A = some (.lst av) ∧ Reps X.K G'.lv G'.H av acc ∧ GPost X Wx σ G (RepR X.K) (lcM I.chk (lcB g ft fe (wipeE env vs)) (I.xs.drop i) acc m') Q,
    ⟨I.xs.length, m1, ⟨G1.io, A :: G1.lv, upd G1.H A (.lst [])⟩, [], [], rfl, Nat.add_zero _, Le.newL R1 hA, R1.newL hA, List.mem_cons_self, (R1.ne hA).1, upd_same, .nil, h1⟩, ?_⟩
  rintro i k H' ⟨m', G', acc, av, rfl, hk, le', R', l1, l2, l3, l4, h'⟩
  cases ex : I.xs.drop i with
  | nil =>
    rw [ex] at h'
    have hl : I.xs.length ≤ i := List.drop_eq_nil_iff.mp ex
    by_cases hz : I.chk m' = true
    · simp only [lcM, hz, if_true] at h'
      exact .inl ⟨(hJ G' m' le' R' hz i).2 hl, h' (.ref A) G' (le1.trans le') R' ⟨A, av, rfl, le1.tr A hA, l2, l1, l3, l4⟩⟩
    · simp only [lcM, hz] at h'
      exact False.elim h'
  | cons w r =>
    rw [ex] at h'
    have hi : I.xs[i]? = some w := by
      have := congrArg (·[0]?) ex
      simpa using this
    have hr : I.xs.drop (i + 1) = r := by
      have := congrArg List.tail ex
      simpa using this
    by_cases hz : I.chk m' = true
    · simp only [lcM, hz, if_true] at h'
      obtain ⟨go, yl⟩ := (hJ G' m' le' R' hz i).1 w hi
      have hlt : i < I.xs.length := (List.getElem?_eq_some_iff.mp hi).1
      refine .inr ⟨go, fun H2 => ∃ m' G' acc av, G'.H = H2 ∧ Le G1 G' ∧ RelM X.K G' m' ∧ A ∈ G'.lv ∧ A ∉ G'.io ∧ G'.H A = some (.lst av) ∧ Reps X.K G'.lv G'.H av acc ∧ GPost X Wx σ G (RepR X.K) (lcM I.chk (lcB g ft fe (wipeE env vs)) r acc m') Q,
        fun H2 ⟨m2, G2, ac, a2, z1, z2, z3, z4, z5, z6, z7, z8⟩ => ⟨k - 1, by omega, m2, G2, ac, a2, z1, by omega, z2, z3, z4, z5, z6, z7, by rw [hr]; exact z8⟩, fun x H3 hy => ?_⟩
      obtain ⟨G3, rfl, le3, R3, rw3⟩ := yl x H3 hy
      have S3 : RelS X.K G3 (L2.wipe σ vs) (wipeE env vs) := ((S.mono le1).mono (le'.trans le3)).wipe vs
      cases eg : g w (wipeE env vs) with
      | none => simp only [lcB, eg] at h'; exact False.elim h'
      | some e1 =>
        simp only [lcB, eg] at h'
        refine ⟨w, _, e1, G3, rfl, S3, rw3, eg, fun σ4 o4 S4 => ⟨wipe_off o4 hsub, e1, m', G3, rfl, S4, R3, ?_⟩⟩
        cases et : ft e1 m' with
        | bad => rw [et] at h'; exact False.elim h'
        | err _ _ => rw [et] at h'; exact False.elim h'
        | ok t m4 =>
          rw [et] at h'
          intro t' G4 le4 R4 q4
          rw [show t' = t from q4]
          have le34 := le3.trans le4
          have k1 : A ∈ G4.lv := le34.stay _ l1 l2
          have k2 : A ∉ G4.io := le34.nio (by rw [l3]; simp) l2
          have k3 : G4.H A = some (.lst av) := le34.keep _ _ l3 fun z => l2 z.1
          have k4 : Reps X.K G4.lv G4.H av acc := l4.mono le34.mo
          cases t with
          | false => exact iteF ⟨m4, G4, acc, av, rfl, le'.trans le34, R4, k1, k2, k3, k4, h'⟩
          | true =>
            refine iteT ⟨e1, m4, G4, rfl, S4.mono le4, R4, ?_⟩
            simp only [noErr, Res.bind_ok, if_true] at h'
            cases ee : fe e1 m4 with
            | bad => rw [ee] at h'; exact False.elim h'
            | err _ _ => rw [ee] at h'; exact False.elim h'
            | ok w5 m5 =>
              rw [ee] at h'
              intro v5 G5 le5 R5 q5
              cases w5 with
              | d x5 =>
                simp only [Res.bind_ok] at h'
                have c1 : A ∈ G5.lv := le5.stay _ k1 k2
                have c2 : A ∉ G5.io := le5.nio (by rw [k3]; simp) k2
                have c3 : G5.H A = some (.lst av) := le5.keep _ _ k3 fun z => k2 z.1
                have c4 : Reps X.K G5.lv G5.H av acc := k4.mono le5.mo
                by_cases hs : acc.length < sizeLine
                · simp only [hs, if_true] at h'
                  refine ⟨av, c3, by rw [c4.length]; exact hs, m5, ⟨G5.io, G5.lv, upd G5.H A (.lst (av ++ [v5]))⟩, acc ++ [x5], av ++ [v5], rfl, (le'.trans (le34.trans le5)).updF hA, R5.updL c1 c2, c1, c2, upd_same, ?_, h'⟩
                  exact (c4.append (.one q5)).mono (Mo.updL c1)
                · simp only [hs, if_false] at h'
                  exact False.elim h'
              | _ => exact False.elim h'
    · simp only [lcM, hz] at h'
      exact False.elim h'
theorem me_lc {elt tg iter : Expr} {ifs : List Expr} {scope : Scope} {own : List (Str × Nat)} {pos : Pos} {fi : IF} {g : GF} {is : List Nat} {ft : TF} {fe : EF} (hc : X.calm = true) (hN : X.N.Nodup) (hi : MI X Wx tg iter fi) (ok : BlkOk X.N X.env.scope scope own)
    (hg : ∀ (s : Shared) (H : Hp) (C : Addr) (cl : List (Str × Addr)) (fp : List Addr), MG (X.blk s H scope (compEnvC scope cl C X.env) fp) tg g is) (ht : ∀ (s : Shared) (H : Hp) (C : Addr) (cl : List (Str × Addr)) (fp : List Addr), MTs (X.blk s H scope (compEnvC scope cl C X.env) fp) WF ifs ft)
    (he : ∀ (s : Shared) (H : Hp) (C : Addr) (cl : List (Str × Addr)) (fp : List Addr), ME (X.blk s H scope (compEnvC scope cl C X.env) fp) WF elt fe) (hsub : ∀ i ∈ is, i ∈ own.map (·.2) := by decide) (hs : ∀ x, foldedSetIterable iter X.env x = pure x := by intro _; rfl) :
    ME X Wx (.ListComp elt [⟨tg, iter, ifs, 0⟩] scope pos) (eLc fi g ft fe (own.map (·.2))) := by
  obtain ⟨wi, pi, qi⟩ := hi
  exact ⟨_, pe_lc (g := cG X g is) (tt := cT X WF ft) (te := cE X WF fe) hc hN pi ok (fun s H C cl fp => (hg s H C cl fp).pg) (fun s H C cl fp => (ht s H C cl fp).pts) (fun s H C cl fp => (he s H C cl fp).pe) hs, fun env m σ G Q S R h => lcQ hsub qi env m σ G Q S R h⟩
/-- name = [..] on one line -/
theorem ms_setLc (i : Nat) {y : Str} {py : Pos} {elt tg iter : Expr} {ifs : List Expr} {scope : Scope} {own : List (Str × Nat)} {pos spos : Pos} {fi : IF} {g : GF} {is : List Nat} {ft : TF} {fe : EF} {cv : EF → EF} (hcv : ∀ {t : TE} {f : EF}, (∀ env m σ G Q, RelS X.K G σ env → RelM X.K G m → GPost X Wx σ G (RepR X.K) (f env m) Q → t σ G.H Q) → ∀ env m σ G Q, RelS X.K G σ env → RelM X.K G m → GPost X Wx σ G (RepR X.K) (cv f env m) Q → t σ G.H Q)
    (hc : X.calm = true) (hN : X.N.Nodup) (hi : MI X Wx tg iter fi) (ok : BlkOk X.N X.env.scope scope own)
    (hg : ∀ (s : Shared) (H : Hp) (C : Addr) (cl : List (Str × Addr)) (fp : List Addr), MG (X.blk s H scope (compEnvC scope cl C X.env) fp) tg g is) (ht : ∀ (s : Shared) (H : Hp) (C : Addr) (cl : List (Str × Addr)) (fp : List Addr), MTs (X.blk s H scope (compEnvC scope cl C X.env) fp) WF ifs ft)
    (he : ∀ (s : Shared) (H : Hp) (C : Addr) (cl : List (Str × Addr)) (fp : List Addr), ME (X.blk s H scope (compEnvC scope cl C X.env) fp) WF elt fe)
    (hsw : swapsWith (.ListComp elt [⟨tg, iter, ifs, 0⟩] scope pos) (some (.Name y py)) spos.line X.env = pure true) (hy : X.N[i]? = some y := by rfl) (hyl : X.env.scope.names.lookup y = some .local := by rfl)
    (hsub : ∀ i ∈ is, i ∈ own.map (·.2) := by decide) (hs : ∀ x, foldedSetIterable iter X.env x = pure x := by intro _; rfl) :
    MS X Wx (.Assign [.Name y py] (.ListComp elt [⟨tg, iter, ifs, 0⟩] scope pos) spos) (sAsg (cv (eLc fi g ft fe (own.map (·.2)))) (gSet i)) := by
  obtain ⟨wi, pi, qi⟩ := hi
  refine ⟨_, ps_setLc (g := cG X g is) (tt := cT X WF ft) (te := cE X WF fe) hc hN hy hyl hsw pi ok (fun s H C cl fp => (hg s H C cl fp).pg) (fun s H C cl fp => (ht s H C cl fp).pts) (fun s H C cl fp => (he s H C cl fp).pe) hs, fun env m σ G E S R h => ?_⟩
  exact hcv (lcQ hsub qi) env m σ G _ S R (SPost.ofE h S fun w m1 v G1 le R1 q1 h1 => asgQ (G := G) (g := gSet i) (t := gName i) (is := [i]) (fun w env env' σ G v Q S r e h => by cases e; exact h _ (Off.set i) (S.set r)) (S.mono le) R1 q1 h1)
theorem cvFrz {t : TE} {f : EF} (h : ∀ env m σ G Q, RelS X.K G σ env → RelM X.K G m → GPost X Wx σ G (RepR X.K) (f env m) Q → t σ G.H Q) : ∀ env m σ G Q, RelS X.K G σ env → RelM X.K G m → GPost X Wx σ G (RepR X.K) (eFrz f env m) Q → t σ G.H Q :=
  fun env m σ G Q S R q => h env m σ G Q S R (frzQ q)
theorem cvObj {t : TE} {f : EF} (h : ∀ env m σ G Q, RelS X.K G σ env → RelM X.K G m → GPost X Wx σ G (RepR X.K) (f env m) Q → t σ G.H Q) : ∀ env m σ G Q, RelS X.K G σ env → RelM X.K G m → GPost X Wx σ G (RepR X.K) (eObj f env m) Q → t σ G.H Q :=
  fun env m σ G Q S R q => h env m σ G Q S R (objQ q)
end
end M

set_option Elab.async false
set_option linter.all false
set_option maxRecDepth 100000
namespace M
open PySem L2
/-! ### what a def promises -/
def CPost (K : PySem.W.Frag) (mg : Str → Option Value) (G : Wd) (r : Res W) (Q : VK) (E : XK) : Prop :=
  match r with
  | .ok w m => ∀ v G', Le G G' → RelM K G' m → RepR K G.H G' v w → Q v G'.H
  | .err e m => ∀ c d G', Le G G' → RelM K G' m → ExRep mg K G' c d e → E c d G'.H
  | .bad => False
abbrev FF := List W → Mem → Res W
def SpM (K : PySem.W.Frag) (mg : Str → Option Value) (n : Nat) (F : FF) : Sp := fun vs H Q E => ∃ G ws m, G.H = H ∧ RelM K G m ∧ Paired (RepW K G) vs ws ∧ ws.length = n ∧ CPost K mg G (F ws m) Q E
/-! ### leaving a def: what it made goes -/
def finM (n : Nat) (w : W) (m : Mem) : Res W := match w with
  | .obj j => if j < n then .ok (.obj j) (m.take n) else match m[j]? with
    | some (.lst ds) => .ok (.fl ds) (m.take n)
    | some (.fz ds) => .ok (.d (.list ds)) (m.take n)
    | _ => .bad
  | w => .ok w (m.take n)
def Wd.cut (G' G : Wd) (kp : Option Addr) : Wd := ⟨G.io, G'.lv.filter (fun a => decide (a ∈ G.lv ∨ some a = kp)), G'.H⟩
section
variable {K : PySem.W.Frag} {mg : Str → Option Value} {G G' : Wd} {m m' : Mem} {kp : Option Addr}
theorem mem_cut {a : Addr} : a ∈ (G'.cut G kp).lv ↔ a ∈ G'.lv ∧ (a ∈ G.lv ∨ some a = kp) := by
  show a ∈ G'.lv.filter _ ↔ _
  rw [List.mem_filter]
  simp
theorem Mo.cut : Mo G'.lv G'.H (G'.cut G kp).lv (G'.cut G kp).H := ⟨fun _ _ h _ => h, fun _ _ _ n z => n (mem_cut.mp z).1⟩
theorem Le.cut (le : Le G G') : Le G (G'.cut G kp) :=
  ⟨le.lt, ⟨[], by simp [Wd.cut], fun _ z => nomatch z⟩, fun a z => le.lv a (mem_cut.mp z).1, fun a z n => mem_cut.mpr ⟨le.stay a z n, .inl z⟩, le.keep, le.tr⟩
theorem Le.ioTake (le : Le G G') {i : Nat} (h : i < G.io.length) : G'.io[i]? = G.io[i]? := by
  obtain ⟨κ, e, _⟩ := le.io
  rw [e, List.getElem?_append_left h]
theorem RepW.cut {v : V} {w : W} (h : RepW K G' v w) (le : Le G G') (ok : okW G.io.length w = true) : RepW K (G'.cut G kp) v w := by
  cases w with
  | d x => exact Rep.mono Mo.cut h
  | obj j =>
    obtain ⟨a, h1, h2⟩ := h
    have hj : j < G.io.length := by simpa [okW] using ok
    exact ⟨a, by show G.io[j]? = _; rw [← le.ioTake hj]; exact h1, h2⟩
  | fl _ => cases ok
  | ro ds => obtain ⟨a, vs, e1, e2, e3⟩ := h; exact ⟨a, vs, e1, e2.mono Mo.cut, e3.mono Mo.cut⟩
theorem paired_all {α β : Type} {F F' : α → β → Prop} {p : β → Bool} (hm : ∀ a b, p b = true → F a b → F' a b) : ∀ {l₁ : List α} {l₂ : List β}, Paired F l₁ l₂ → l₂.all p = true → Paired F' l₁ l₂
  | _, _, .nil, _ => .nil
  | _, _, .cons h t, e => by
    rw [List.all_cons, Bool.and_eq_true] at e
    exact .cons (hm _ _ e.1 h) (paired_all hm t e.2)
theorem okW.le {i n : Nat} {w : W} (h : okW i w = true) (hi : i ≤ n) : okW n w = true := by
  cases w with
  | obj j => have h : j < i := by simpa [okW] using h
             show decide (j < n) = true
             exact decide_eq_true (by omega)
  | d _ => rfl
  | ro _ => rfl
  | fl _ => cases h
theorem RelM.cut (R : RelM K G m) (R' : RelM K G' m') (le : Le G G') : RelM K (G'.cut G kp) (m'.take m.length) := by
  have hn : G.io.length = m.length := R.len
  have hl : m.length ≤ m'.length := by
    obtain ⟨κ, e, _⟩ := le.io
    rw [← R'.len, e, List.length_append, hn]; omega
  refine ⟨fun i o e => R'.dw i o (by
      have hl := (List.getElem?_eq_some_iff.mp e).1
      rw [List.length_take] at hl
      rw [List.getElem?_take_of_lt (by omega)] at e
      exact e), by show G.io.length = _; rw [List.length_take, hn]; omega, R.nd, fun a z => R'.lt a (mem_cut.mp z).1, fun a z => fun e => R.it a z (le.tr a e), fun i a ob e1 e2 => ?_⟩
  have e1 : G.io[i]? = some a := e1
  have hi : i < G.io.length := (List.getElem?_eq_some_iff.mp e1).1
  rw [List.getElem?_take_of_lt (by omega)] at e2
  have q := R'.ob i a ob (by rw [le.ioTake hi]; exact e1) e2
  have lv' : a ∈ G'.lv → a ∈ (G'.cut G kp).lv := fun z => mem_cut.mpr ⟨z, .inl (by
    rcases le.lv a z with y | y
    · exact y
    · exact absurd y (R.it a (List.mem_of_getElem? e1)))⟩
  have hok : okO i ob = true := R'.dw i ob e2
  cases ob with
  | lst ds => obtain ⟨z1, vs, z2, r⟩ := q; exact ⟨lv' z1, vs, z2, r.mono Mo.cut⟩
  | fz ds => obtain ⟨z1, vs, z2, r⟩ := q; exact ⟨fun z => z1 (mem_cut.mp z).1, vs, z2, r.mono Mo.cut⟩
  | dct kvs =>
    obtain ⟨z1, ks, z2, r⟩ := q
    exact ⟨lv' z1, ks, z2, paired_all (fun a b hb z => ⟨z.1, z.2.cut le (okW.le hb (Nat.le_of_lt hi))⟩) r hok⟩
theorem finM_ok {Q : VK} {E : XK} {w : W} {v : V} (R : RelM K G m) (R' : RelM K G' m') (le : Le G G') (r : RepR K G.H G' v w) (h : CPost K mg G (finM m.length w m') Q E) : Q v G'.H := by
  unfold finM at h
  · have hn : G.io.length = m.length := R.len
    cases w with
    | d x => exact h v (G'.cut G none) le.cut (R.cut R' le) (Rep.mono Mo.cut r)
    | ro ds => exact h v (G'.cut G none) le.cut (R.cut R' le) (by obtain ⟨a, vs, e1, e2, e3⟩ := r; exact ⟨a, vs, e1, e2.mono Mo.cut, e3.mono Mo.cut⟩)
    | fl ds =>
      obtain ⟨p, vs, rfl, h0, h1, h2, h3, r⟩ := r
      refine h (.ref p) (G'.cut G (some p)) le.cut (R.cut R' le) ⟨p, vs, rfl, h0, fun z => R.it p z h0, mem_cut.mpr ⟨h2, .inr rfl⟩, h3, r.mono Mo.cut⟩
    | obj j =>
      obtain ⟨a, h1, rfl⟩ := r
      simp only at h
      by_cases hj : j < m.length
      · rw [if_pos hj] at h
        exact h (.ref a) (G'.cut G none) le.cut (R.cut R' le) ⟨a, by show G.io[j]? = _; rw [← le.ioTake (by omega)]; exact h1, rfl⟩
      · rw [if_neg hj] at h
        obtain ⟨κ, ek, nk⟩ := le.io
        have ha : a ∈ κ := by
          rw [ek, List.getElem?_append_right (by omega)] at h1
          exact List.mem_of_getElem? h1
        have h0 : G.H a = none := nk a ha
        cases eo : m'[j]? with
        | none => rw [eo] at h; exact False.elim h
        | some ob =>
          rw [eo] at h
          have q := R'.ob j a ob h1 eo
          cases ob with
          | lst ds =>
            obtain ⟨z1, vs, z2, r⟩ := q
            exact h (.ref a) (G'.cut G (some a)) le.cut (R.cut R' le) ⟨a, vs, rfl, h0, fun z => R.it a z h0, mem_cut.mpr ⟨z1, .inr rfl⟩, z2, r.mono Mo.cut⟩
          | fz ds =>
            obtain ⟨z1, vs, z2, r⟩ := q
            exact h (.ref a) (G'.cut G none) le.cut (R.cut R' le) (Rep.lst ⟨fun z => z1 (mem_cut.mp z).1, z2⟩ (r.mono Mo.cut))
          | dct kvs => exact False.elim h
end
/-! ### a def by its body -/
def env0 (N : Nat) (ws : List W) : Env := ws.map some ++ List.replicate (N - ws.length) none
def runF (N : Nat) (g : SF) (ws : List W) (m : Mem) : Res W := match g (env0 N ws) m with
  | .rt w m' => finM m.length w m'
  | .nx _ m' => finM m.length (.d .none) m'
  | .err e _ m' => .err e (m'.take m.length)
  | _ => .bad
/-- what it made stays -/
def runA (N : Nat) (g : SF) (ws : List W) (m : Mem) : Res W := match g (env0 N ws) m with
  | .rt w m' => .ok w m'
  | .nx _ m' => .ok (.d .none) m'
  | .err e _ m' => .err e m'
  | _ => .bad
theorem Paired.get {α β : Type} {F : α → β → Prop} : ∀ {l₁ : List α} {l₂ : List β} {i : Nat} {b : β}, Paired F l₁ l₂ → l₂[i]? = some b → ∃ a, l₁[i]? = some a ∧ F a b
  | _, _, _, _, .nil, e => by simp at e
  | _, _, 0, _, .cons h t, e => by simp at e; subst e; exact ⟨_, rfl, h⟩
  | _, _, i + 1, b, .cons h t, e => by
    obtain ⟨a, h1, h2⟩ := Paired.get (i := i) (b := b) t (by simpa using e)
    exact ⟨a, by simpa using h1, h2⟩
theorem RelS.start {K : PySem.W.Frag} {G : Wd} {N : List Str} {vs : List V} {ws : List W} (h : Paired (RepW K G) vs ws) : RelS K G (L2.start N vs) (env0 N.length ws) := by
  have hl := Paired.length h
  refine ⟨by unfold L2.start env0; simp [hl], fun i w e => ?_⟩
  unfold env0 at e
  by_cases hi : i < ws.length
  · rw [List.getElem?_append_left (by simpa using hi), List.getElem?_map] at e
    cases q : ws[i]? with
    | none => rw [q] at e; cases e
    | some u =>
      rw [q] at e
      cases e
      obtain ⟨v, h1, h2⟩ := Paired.get h q
      exact ⟨v, by unfold L2.start; rw [List.getElem?_append_left (by simp [hl]; exact hi), List.getElem?_map, h1]; rfl, h2⟩
  · rw [List.getElem?_append_right (by simpa using hi), List.getElem?_replicate] at e
    split at e <;> cases e
section
variable {P : Program} {w : World} {K : PySem.W.Frag} {mg : Str → Option Value} {base : Heap}
abbrev cxM (P : Program) (w : World) (K : PySem.W.Frag) (mg : Str → Option Value) (base : Heap) (N : List Str) (qual : Str) (scope : Scope) (f : Addr) (cd : Value) (A : Around) (outer : List PySem.Env) (s : Shared) (H : Hp) (E : XK) : Cx :=
  cxOf (L2.CX P w) P w K mg base N qual scope f cd A outer s H E
theorem okF {x qual : Str} {st : Stmt} {f : Addr} {fd : FuncData} {N ps : List Str} {k : Nat} {g : SF} (F : Fun K x qual st f fd) (S : FnScope N ps (defScope st))
    (hbody : ∀ (cdv : Value) (A : Around) (outer : List PySem.Env) (s : Shared) (H : Hp) (E : XK), Room k (A.deeper (PyProof.Rows.envOfC qual (defScope st) s.heap.objs.size f cdv)) →
      MB (cxM P w K mg base N qual (defScope st) f cdv A outer s H E) (fun c d _ H' => E c d H') (defBody st) g) : FnOk P w K mg base (L2.CX P w) (k + 1) f fd ps (SpM K mg ps.length (runF N.length g)) := by
  refine F.okX S (fun vs H Q E ⟨G, ws, m, _, _, h, hl, _⟩ => (Paired.length h).trans hl) fun cdv A outer s H vs Q E hr ⟨G, ws, m, eH, R, hp, hl, hq⟩ => ?_
  subst eH
  obtain ⟨t, p, q⟩ := hbody cdv A outer s G.H E hr
  refine ⟨t, p, q (env0 N.length ws) m (L2.start N vs) G _ (RelS.start hp) R ?_⟩
  unfold runF at hq
  cases e : g (env0 N.length ws) m with
  | rt w' m' => rw [e] at hq; exact fun v G' le R' r => finM_ok R R' le r hq
  | nx e1 m' => rw [e] at hq; exact fun σ' G' le R' S' => finM_ok (w := .d .none) (v := .non) R R' le Rep.non hq
  | bk e1 m' => rw [e] at hq; exact False.elim hq
  | ct e1 m' => rw [e] at hq; exact False.elim hq
  | err x e1 m' =>
    rw [e] at hq
    intro c d σ' G' le R' S' hx
    refine hq c d (G'.cut G none) le.cut (R.cut R' le) ⟨hx.1, ?_⟩
    rcases hx.2 with z | ⟨dd, fs, z1, z2, z3, z4⟩
    · exact .inl z
    · refine .inr ⟨dd, fs, z1, z2, fun z => z3 ?_, Paired.mono (fun _ _ z => ⟨z.1, Rep.mono Mo.cut z.2⟩) z4⟩
      obtain ⟨κ, ek, _⟩ := le.io
      rw [ek]
      exact List.mem_append_left _ z
  | bad => rw [e] at hq; exact False.elim hq
theorem okA {x qual : Str} {st : Stmt} {f : Addr} {fd : FuncData} {N ps : List Str} {k : Nat} {g : SF} (F : Fun K x qual st f fd) (S : FnScope N ps (defScope st))
    (hbody : ∀ (cdv : Value) (A : Around) (outer : List PySem.Env) (s : Shared) (H : Hp) (E : XK), Room k (A.deeper (PyProof.Rows.envOfC qual (defScope st) s.heap.objs.size f cdv)) →
      MB (cxM P w K mg base N qual (defScope st) f cdv A outer s H E) (fun c d _ H' => E c d H') (defBody st) g) : FnOk P w K mg base (L2.CX P w) (k + 1) f fd ps (SpM K mg ps.length (runA N.length g)) := by
  refine F.okX S (fun vs H Q E ⟨G, ws, m, _, _, h, hl, _⟩ => (Paired.length h).trans hl) fun cdv A outer s H vs Q E hr ⟨G, ws, m, eH, R, hp, hl, hq⟩ => ?_
  subst eH
  obtain ⟨t, p, q⟩ := hbody cdv A outer s G.H E hr
  refine ⟨t, p, q (env0 N.length ws) m (L2.start N vs) G _ (RelS.start hp) R ?_⟩
  unfold runA at hq
  cases e : g (env0 N.length ws) m with
  | rt w' m' => rw [e] at hq; exact hq
  | nx e1 m' => rw [e] at hq; exact fun σ' G' le R' S' => hq .non G' le R' Rep.non
  | bk e1 m' => rw [e] at hq; exact False.elim hq
  | ct e1 m' => rw [e] at hq; exact False.elim hq
  | err x e1 m' => rw [e] at hq; exact fun c d σ' G' le R' S' hx => hq c d G' le R' hx
  | bad => rw [e] at hq; exact False.elim hq
/-- nothing is asked of it -/
def badF (_ : List W) (_ : Mem) : Res W := .bad
theorem okBad {f : Addr} {fd : FuncData} {ps : List Str} {k n : Nat} : FnOk P w K mg base (L2.CX P w) k f fd ps (SpM K mg n badF) := by
  have no : ∀ vs H Q E, ¬ SpM K mg n badF vs H Q E := fun vs H Q E ⟨_, _, _, _, _, _, _, h⟩ => h
  exact ⟨fun vs H Q E h => absurd h (no vs H Q E), fun A outer s H args us vs Q E _ _ _ _ h => absurd h (no vs H Q E)⟩
end
/-! ### calls of defs -/
section
variable {X : Cx} {Wx : WX}
def noFl : List W → Bool
  | [] => true
  | .fl _ :: _ => false
  | _ :: r => noFl r
theorem noFl_rep {K : PySem.W.Frag} {H0 : Hp} {G : Wd} : ∀ {vs : List V} {ws : List W}, RepRs K H0 G vs ws → noFl ws = true → Paired (RepW K G) vs ws
  | _, _, .nil, _ => .nil
  | _, .d x :: _, .cons h t, e => .cons h (noFl_rep t e)
  | _, .obj x :: _, .cons h t, e => .cons h (noFl_rep t e)
  | _, .ro x :: _, .cons h t, e => .cons h (noFl_rep t e)
  | _, .fl x :: _, .cons h t, e => by cases e
def callM (F : FF) (ws : List W) (m : Mem) : Res W := if noFl ws = true then F ws m else .bad
def eCallF (F : FF) (a : AF) (env : Env) (m : Mem) : Res W := (a env m).bind fun ws m1 => callM F ws m1
theorem callM_ok {F : FF} {σ : St} {G : Wd} {m : Mem} {vs : List V} {ws : List W} {H0 : Hp} {Q : VK} {n : Nat} (R : RelM X.K G m) (r : RepRs X.K H0 G vs ws) (hn : ws.length = n) (h : GPost X Wx σ G (RepR X.K) (callM F ws m) Q) : SpM X.K X.mg n F vs G.H Q (WE Wx σ) := by
  unfold callM at h
  by_cases hz : noFl ws = true
  · rw [if_pos hz] at h
    refine ⟨G, ws, m, rfl, R, noFl_rep r hz, hn, ?_⟩
    cases e : F ws m with
    | ok w m' => rw [e] at h; exact h
    | err x m' => rw [e] at h; exact h
    | bad => rw [e] at h; exact h
  · rw [if_neg hz] at h
    exact False.elim h
theorem me_call {k n : Nat} {f : Addr} {fd : FuncData} {ps : List Str} {x : Str} {p pos : Pos} {e : Expr} {es : List Expr} {F : FF} {g : AF} (tk : Takes X Wx) (hF : FnOk X.prog X.w X.K X.mg X.base (L2.CX X.prog X.w) k f fd ps (SpM X.K X.mg n F)) (hr : Room k X.A) (hm : X.mg x = some (.ref f)) (hk : PySem.W.keepIn X.K (.ref f) = true)
    (hb : Binds X.K fd ps []) (hg : Gl X x) (ha : MA X Wx (e :: es) g) (hn : ∀ env m ws m', g env m = .ok ws m' → ws.length = n) (hdb : (x == ("__debug__" : Str)) = false := by decide) (he : starEach (e :: es) X.env = (false, eval e X.env) :: starEach es X.env := by rfl) (hpl : (backTo pos (starEach es X.env)).any (·.1) = false := by rfl) :
    ME X Wx (.Call (.Name x p) (e :: es) [] pos) (eCallF F g) := by
  obtain ⟨t, pa, qa⟩ := ha
  refine ⟨_, pe_callS hF hr hg hm hk hb (fun σ => passAt tk σ) pa hdb he hpl, fun env m σ G Q S R h => ?_⟩
  unfold eCallF at h
  cases ew : g env m with
  | ok ws m1 =>
    have hl := hn env m ws m1 ew
    rw [ew] at h
    refine qa env m σ G _ S R ?_
    rw [ew]
    exact fun vs G1 le1 R1 q1 => callM_ok R1 q1 hl (GPost.later weakR h le1)
  | err x m1 => rw [ew] at h; refine qa env m σ G _ S R ?_; rw [ew]; exact h
  | bad => rw [ew] at h; exact False.elim h
theorem aNil_len : ∀ env m ws m', aNil env m = .ok ws m' → ws.length = 0 := fun env m ws m' h => by cases h; rfl
theorem aCons_len {f : EF} {g : AF} {n : Nat} (h : ∀ env m ws m', g env m = .ok ws m' → ws.length = n) : ∀ env m ws m', aCons f g env m = .ok ws m' → ws.length = n + 1 := fun env m ws m' e => by
  unfold aCons at e
  cases e1 : f env m with
  | ok x m1 =>
    rw [e1] at e
    simp only [Res.bind_ok] at e
    cases e2 : g env m1 with
    | ok xs m2 =>
      rw [e2] at e
      cases e
      rw [List.length_cons, h env m1 xs _ e2]
    | err _ _ => rw [e2] at e; cases e
    | bad => rw [e2] at e; cases e
  | err _ _ => rw [e1] at e; cases e
  | bad => rw [e1] at e; cases e
/-! ### methods of built-in types -/
def isTyW (T : String) (w : W) (m : Mem) : Bool :=
  match w with
  | .d (.str _) => T == "str"
  | .obj i => match m[i]? with
    | some (.dct _) => T == "dict"
    | some _ => T == "list"
    | none => false
  | w => (asL w m).isSome && T == "list"
theorem isTyW_ok {T : String} {G : Wd} {m : Mem} {v : V} {w : W} {H0 : Hp} (R : RelM X.K G m) (r : RepR X.K H0 G v w) (h : isTyW T w m = true) : tyV X.K T v G.H := by
  have lst : (asL w m).isSome = true → T = "list" → tyV X.K T v G.H := fun e eT => by
    obtain ⟨ds, e⟩ := Option.isSome_iff_exists.mp e
    obtain ⟨a, vs, rfl, h1, _⟩ := asL_sq R r e
    exact .inl ⟨eT, vs, h1⟩
  have go : ((asL w m).isSome && T == "list") = true → tyV X.K T v G.H := fun z => by
    rw [Bool.and_eq_true] at z
    exact lst z.1 (by simpa using z.2)
  cases w with
  | d x =>
    cases x with
    | str z => cases r; show T = "str"; simpa [isTyW] using h
    | _ => exact go h
  | obj i =>
    obtain ⟨a, h1, rfl⟩ := id r
    simp only [isTyW] at h
    cases e : m[i]? with
    | none => rw [e] at h; cases h
    | some o =>
      rw [e] at h
      cases o with
      | lst ds => exact lst (by simp [asL, e]) (by simpa using h)
      | fz ds => exact lst (by simp [asL, e]) (by simpa using h)
      | dct kvs =>
        obtain ⟨_, ks, h2, _⟩ := R.ob i a _ h1 e
        exact .inr (.inr (.inl ⟨by simpa using h, .inl ⟨ks, h2⟩⟩))
  | fl _ => exact go h
  | ro _ => exact go h
def MtOk (X : Cx) (Wx : WX) (r : V → List V → Hp → VK → Prop) (g : W → List W → Mem → Res W) : Prop :=
  ∀ (σ : St) (G : Wd) (m : Mem) (v : V) (x : W) (vs : List V) (ws : List W) (H0 H1 : Hp) (Q : VK), RelM X.K G m → RepR X.K H0 G v x → RepRs X.K H1 G vs ws → GPost X Wx σ G (RepR X.K) (g x ws m) Q → r v vs G.H Q
def eMt (T : String) (g : W → List W → Mem → Res W) (a : EF) (b : AF) (env : Env) (m : Mem) : Res W := (a env m).bind fun x m1 => if isTyW T x m1 = true then (b env m1).bind fun ws m2 => g x ws m2 else .bad
theorem me_bm {T id : String} {o e : Expr} {es : List Expr} {name : Str} {apos cpos : Pos} {r : V → List V → Hp → VK → Prop} {g : W → List W → Mem → Res W} {fa : EF} {fb : AF} (pa : PlainAttrs T) (slot : Slot T name id) (hty : typeOf (.builtin id) = pure (.type "method_descriptor")) (hm : MtR X id r) (hk : MtOk X Wx r g) (ho : ME X Wx o fa) (ha : MA X Wx (e :: es) fb)
    (hbase : attributeBase o name X.env (eval o X.env) = eval o X.env := by rfl)
    (hfew : ((backTo cpos (starEach (e :: es) X.env)).all (fun x => !x.1) && (backToKw cpos (keywordEach [] X.env)).all (fun x => x.1.isSome) && decide ((e :: es).length + ([] : List Keyword).length + (if ([] : List Keyword).isEmpty then 0 else 1) < 30)) = true := by rfl)
    (hline : (apos.endLine == cpos.line) = true := by rfl) (hs : starEach (e :: es) X.env = (false, eval e X.env) :: starEach es X.env := by rfl) (hplain : (backTo cpos (starEach es X.env)).any (·.1) = false := by rfl) :
    ME X Wx (.Call (.Attribute o name apos) (e :: es) [] cpos) (eMt T g fa fb) := by
  obtain ⟨ta, po, qo⟩ := ho
  obtain ⟨tb, pb, qb⟩ := ha
  refine ⟨_, pe_bm pa slot hty hm po pb hbase hfew hline hs hplain, fun env m σ G Q S R h => qo env m σ G _ S R (GPost.bind weakR h fun x m1 v G1 le1 R1 q1 h1 => ?_)⟩
  by_cases hz : isTyW T x m1 = true
  · simp only [hz, if_true] at h1
    exact ⟨isTyW_ok R1 q1 hz, qb env m1 σ G1 _ (S.mono le1) R1 (GPost.bind weakR h1 fun ws m2 vs G2 le2 R2 q2 h2 => hk σ G2 m2 v x vs ws _ _ Q R2 (q1.mono le2) q2 h2)⟩
  · simp only [hz] at h1
    exact False.elim h1
def eMt0 (T : String) (g : W → List W → Mem → Res W) (a : EF) (env : Env) (m : Mem) : Res W := (a env m).bind fun x m1 => if isTyW T x m1 = true then g x [] m1 else .bad
theorem me_bm0 {T id : String} {o : Expr} {name : Str} {apos cpos : Pos} {r : V → List V → Hp → VK → Prop} {g : W → List W → Mem → Res W} {fa : EF} (pa : PlainAttrs T) (slot : Slot T name id) (hty : typeOf (.builtin id) = pure (.type "method_descriptor")) (hm : MtR X id r) (hk : MtOk X Wx r g) (ho : ME X Wx o fa)
    (hbase : attributeBase o name X.env (eval o X.env) = eval o X.env := by rfl) (hline : (apos.endLine == cpos.line) = true := by rfl) : ME X Wx (.Call (.Attribute o name apos) [] [] cpos) (eMt0 T g fa) := by
  obtain ⟨ta, po, qo⟩ := ho
  refine ⟨_, pe_bm0 pa slot hty hm po hbase hline, fun env m σ G Q S R h => qo env m σ G _ S R (GPost.bind weakR h fun x m1 v G1 le1 R1 q1 h1 => ?_)⟩
  by_cases hz : isTyW T x m1 = true
  · simp only [hz, if_true] at h1
    exact ⟨isTyW_ok R1 q1 hz, hk σ G1 m1 v x [] [] _ G1.H Q R1 q1 .nil h1⟩
  · simp only [hz] at h1
    exact False.elim h1
end
end M

set_option Elab.async false
set_option linter.all false
set_option maxRecDepth 100000
namespace M
open PySem L2
section
variable {X : Cx} {Wx : WX}
/-! ### built-in functions -/
def lenW (ws : List W) (m : Mem) : Res W := match ws with
  | [.d (.str z)] => if z.length ≤ sizeLine then .ok (.d (.int (z.length : Int))) m else .bad
  | [.d (.tuple ds)] => .ok (.d (.int (ds.length : Int))) m
  | [w] => match asL w m with
    | some ds => .ok (.d (.int (ds.length : Int))) m
    | none => .bad
  | _ => .bad
theorem lenW_ok : CallOk X Wx (fun xs H Q => ∃ x n, xs = [x] ∧ LenV X.K x H n ∧ Q (.int n) H) lenW := by
  intro σ G m vs ws H0 Q R r h
  unfold lenW at h
  split at h
  · rename_i z
    obtain ⟨v, rfl, r0⟩ := paired1 r
    cases r0
    split at h
    · rename_i hz
      exact ⟨_, z.length, rfl, (show _ ∧ _ from ⟨hz, rfl⟩), finD R h (.int _)⟩
    · exact False.elim h
  · rename_i ds
    obtain ⟨v, rfl, r0⟩ := paired1 r
    cases r0 with
    | tup t r => exact ⟨_, _, rfl, .inr ⟨_, t.sq, r.length.symm⟩, finD R h (.int _)⟩
  · rename_i w _ _
    obtain ⟨v, rfl, r0⟩ := paired1 r
    cases e : asL w m with
    | none => simp only [e] at h; exact False.elim h
    | some ds =>
      simp only [e] at h
      obtain ⟨a, us, rfl, h1, r1⟩ := asL_sq R r0 e
      exact ⟨_, _, rfl, .inl ⟨us, h1, r1.length.symm⟩, finD R h (.int _)⟩
  · exact False.elim h
def intW1 (ws : List W) (m : Mem) : Res W := match ws with
  | [.d (.int i)] => .ok (.d (.int i)) m
  | [.d (.bool b)] => .ok (.d (.int (if b then 1 else 0))) m
  | _ => .bad
theorem intW1_ok : CallOk X Wx (fun xs H Q => (∃ i, xs = [.int i] ∧ Q (.int i) H) ∨ ∃ k, xs = [.bl k] ∧ Q (.int (if k then 1 else 0)) H) intW1 := by
  intro σ G m vs ws H0 Q R r h
  unfold intW1 at h
  split at h
  · obtain ⟨v, rfl, r0⟩ := paired1 r
    cases r0
    exact .inl ⟨_, rfl, finD R h (.int _)⟩
  · obtain ⟨v, rfl, r0⟩ := paired1 r
    cases r0
    exact .inr ⟨_, rfl, finD R h (.int _)⟩
  · exact False.elim h
def strW1 (ws : List W) (m : Mem) : Res W := match ws with
  | [.d (.int i)] => if i.natAbs.log2 < 1920 then .ok (.d (.str (Str.ofString (toString i)))) m else .bad
  | _ => .bad
theorem strW1_ok : CallOk X Wx (fun xs H Q => ∃ i, xs = [.int i] ∧ i.natAbs.log2 < 1920 ∧ Q (.str (toString i)) H) strW1 := by
  intro σ G m vs ws H0 Q R r h
  unfold strW1 at h
  split at h
  · obtain ⟨v, rfl, r0⟩ := paired1 r
    cases r0
    split at h
    · rename_i hz
      exact ⟨_, rfl, hz, finD R h (.str _)⟩
    · exact False.elim h
  · exact False.elim h
def dInts : List D → Option (List Int)
  | [] => some []
  | .int i :: r => (dInts r).map (i :: ·)
  | _ :: _ => none
theorem dInts_map : ∀ {ds : List D} {ns : List Int}, dInts ds = some ns → ds = ns.map PyData.int
  | [], ns, e => by cases e; rfl
  | .int i :: r, ns, e => by
    simp only [dInts] at e
    cases q : dInts r with
    | none => rw [q] at e; cases e
    | some es => rw [q] at e; cases e; rw [dInts_map q]; rfl
  | .none :: _, _, e => by cases e
  | .bool _ :: _, _, e => by cases e
  | .str _ :: _, _, e => by cases e
  | .list _ :: _, _, e => by cases e
  | .tuple _ :: _, _, e => by cases e
  | .dict _ :: _, _, e => by cases e
@[simp] theorem dInts_ints : ∀ ns : List Int, dInts (ns.map PyData.int) = some ns
  | [] => rfl
  | n :: ns => by simp only [List.map_cons, dInts, dInts_ints ns]; rfl
def dBools : List D → Option (List Bool)
  | [] => some []
  | .bool i :: r => (dBools r).map (i :: ·)
  | _ :: _ => none
theorem dBools_map : ∀ {ds : List D} {ns : List Bool}, dBools ds = some ns → ds = ns.map PyData.bool
  | [], ns, e => by cases e; rfl
  | .bool i :: r, ns, e => by
    simp only [dBools] at e
    cases q : dBools r with
    | none => rw [q] at e; cases e
    | some es => rw [q] at e; cases e; rw [dBools_map q]; rfl
  | .none :: _, _, e => by cases e
  | .int _ :: _, _, e => by cases e
  | .str _ :: _, _, e => by cases e
  | .list _ :: _, _, e => by cases e
  | .tuple _ :: _, _, e => by cases e
  | .dict _ :: _, _, e => by cases e
@[simp] theorem dBools_bools : ∀ ns : List Bool, dBools (ns.map PyData.bool) = some ns
  | [] => rfl
  | n :: ns => by simp only [List.map_cons, dBools, dBools_bools ns]; rfl
def dStrs : List D → Option (List Str)
  | [] => some []
  | .str i :: r => (dStrs r).map (i :: ·)
  | _ :: _ => none
theorem dStrs_map : ∀ {ds : List D} {ns : List Str}, dStrs ds = some ns → ds = ns.map PyData.str
  | [], ns, e => by cases e; rfl
  | .str i :: r, ns, e => by
    simp only [dStrs] at e
    cases q : dStrs r with
    | none => rw [q] at e; cases e
    | some es => rw [q] at e; cases e; rw [dStrs_map q]; rfl
  | .none :: _, _, e => by cases e
  | .int _ :: _, _, e => by cases e
  | .bool _ :: _, _, e => by cases e
  | .list _ :: _, _, e => by cases e
  | .tuple _ :: _, _, e => by cases e
  | .dict _ :: _, _, e => by cases e
@[simp] theorem dStrs_strs : ∀ ns : List Str, dStrs (ns.map PyData.str) = some ns
  | [] => rfl
  | n :: ns => by simp only [List.map_cons, dStrs, dStrs_strs ns]; rfl
def lst1 {α : Type} (g : List D → Option α) (k : α → D) (ws : List W) (m : Mem) : Res W := match ws with
  | [w] => match (asL w m).bind g with
    | some ns => .ok (.d (k ns)) m
    | none => .bad
  | _ => .bad
theorem lst1_get {α : Type} {g : List D → Option α} {k : α → D} {σ : St} {G : Wd} {m : Mem} {vs : List V} {ws : List W} {H0 : Hp} {Q : VK} (R : RelM X.K G m) (r : RepRs X.K H0 G vs ws) (h : GPost X Wx σ G (RepR X.K) (lst1 g k ws m) Q) :
    ∃ a us ds ns, vs = [.ref a] ∧ SqL X.K G.H a us ∧ Reps X.K G.lv G.H us ds ∧ g ds = some ns ∧ GPost X Wx σ G (RepR X.K) (.ok (.d (k ns)) m) Q := by
  unfold lst1 at h
  split at h
  · rename_i w
    obtain ⟨v, rfl, r0⟩ := paired1 r
    cases e : asL w m with
    | none => simp only [e, Option.bind_none] at h; exact False.elim h
    | some ds =>
      simp only [e, Option.bind_some] at h
      obtain ⟨a, us, rfl, h1, r1⟩ := asL_sq R r0 e
      cases eg : g ds with
      | none => simp only [eg] at h; exact False.elim h
      | some ns => simp only [eg] at h; exact ⟨a, us, ds, ns, rfl, h1, r1, eg, h⟩
  · exact False.elim h
def sumW := lst1 dInts fun ns => .int ns.sum
theorem sumW_ok : CallOk X Wx (rSum X.K) sumW := by
  intro σ G m vs ws H0 Q R r h
  obtain ⟨a, us, ds, ns, rfl, h1, r1, eg, h⟩ := lst1_get R r h
  rw [dInts_map eg] at r1
  rw [r1.vints] at h1
  exact ⟨a, ns, rfl, h1, finD R h (.int _)⟩
def allW := lst1 dBools fun ns => .bool (ns.all id)
theorem allW_ok : CallOk X Wx (rAll X.K) allW := by
  intro σ G m vs ws H0 Q R r h
  obtain ⟨a, us, ds, ns, rfl, h1, r1, eg, h⟩ := lst1_get R r h
  rw [dBools_map eg] at r1
  rw [r1.vbls] at h1
  exact ⟨a, ns, rfl, h1, finD R h (.bl _)⟩
def anyW := lst1 dBools fun ns => .bool (ns.any id)
theorem anyW_ok : CallOk X Wx (rAny X.K) anyW := by
  intro σ G m vs ws H0 Q R r h
  obtain ⟨a, us, ds, ns, rfl, h1, r1, eg, h⟩ := lst1_get R r h
  rw [dBools_map eg] at r1
  rw [r1.vbls] at h1
  exact ⟨a, ns, rfl, h1, finD R h (.bl _)⟩
def listW (ws : List W) (m : Mem) : Res W := match ws with
  | [.d (.tuple ds)] => .ok (.fl ds) m
  | [w] => match asL w m with
    | some ds => .ok (.fl ds) m
    | none => .bad
  | _ => .bad
theorem listW_ok : CallOk X Wx (fun xs H Q => ∃ p ys, xs = [.ref p] ∧ (SqL X.K H p ys ∨ SqT X.K H p ys) ∧ ∀ l, H l = none → Q (.ref l) (upd H l (.lst ys))) listW := by
  intro σ G m vs ws H0 Q R r h
  unfold listW at h
  split at h
  · obtain ⟨v, rfl, r0⟩ := paired1 r
    cases r0 with
    | tup t r => exact ⟨_, _, rfl, .inr t.sq, fun l hl => finL R h r hl⟩
  · rename_i w _
    obtain ⟨v, rfl, r0⟩ := paired1 r
    cases e : asL w m with
    | none => simp only [e] at h; exact False.elim h
    | some ds =>
      simp only [e] at h
      obtain ⟨a, us, rfl, h1, r1⟩ := asL_sq R r0 e
      exact ⟨a, us, rfl, .inl h1, fun l hl => finL R h r1 hl⟩
  · exact False.elim h
def tupleW (ws : List W) (m : Mem) : Res W := match ws with
  | [.d (.tuple ds)] => .ok (.d (.tuple ds)) m
  | [w] => match asL w m with
    | some ds => .ok (.d (.tuple ds)) m
    | none => .bad
  | _ => .bad
theorem tupleW_ok : CallOk X Wx (fun xs H Q => ∃ p ys, xs = [.ref p] ∧ ((SqL X.K H p ys ∧ ∀ l, H l = none → Q (.ref l) (upd H l (.tup ys))) ∨ (SqT X.K H p ys ∧ Q (.ref p) H))) tupleW := by
  intro σ G m vs ws H0 Q R r h
  unfold tupleW at h
  split at h
  · obtain ⟨v, rfl, r0⟩ := paired1 r
    cases r0 with
    | tup t r => exact ⟨_, _, rfl, .inr ⟨t.sq, finD R h (.tup t r)⟩⟩
  · rename_i w _
    obtain ⟨v, rfl, r0⟩ := paired1 r
    cases e : asL w m with
    | none => simp only [e] at h; exact False.elim h
    | some ds =>
      simp only [e] at h
      obtain ⟨a, us, rfl, h1, r1⟩ := asL_sq R r0 e
      exact ⟨a, us, rfl, .inl ⟨h1, fun l hl => finT R h r1 hl⟩⟩
  · exact False.elim h
/-! ### isinstance -/
inductive Tk where
  | non | bl | int | str | lst | tup | dct
def Tk.name : Tk → String
  | .non => "NoneType"
  | .bl => "bool"
  | .int => "int"
  | .str => "str"
  | .lst => "list"
  | .tup => "tuple"
  | .dct => "dict"
def Tk.sub : Tk → Tk → Bool
  | .non, .non => true
  | .bl, .bl => true
  | .bl, .int => true
  | .int, .int => true
  | .str, .str => true
  | .lst, .lst => true
  | .tup, .tup => true
  | .dct, .dct => true
  | _, _ => false
theorem Tk.kit : ∀ a b : Tk, kitB a.name b.name = some (a.sub b) := by
  intro a b
  cases a <;> cases b <;> decide +kernel
def tyW (w : W) (m : Mem) : Option Tk := match w with
  | .d .none => some .non
  | .d (.bool _) => some .bl
  | .d (.int _) => some .int
  | .d (.str _) => some .str
  | .d (.list _) => some .lst
  | .d (.tuple _) => some .tup
  | .fl _ => some .lst
  | .ro _ => some .lst
  | .obj i => match m[i]? with
    | some (.lst _) => some .lst
    | some (.fz _) => some .lst
    | some (.dct _) => some .dct
    | none => none
  | _ => none
theorem SqL.tyx {K : PySem.W.Frag} {H : Hp} {a : Addr} {vs : List V} (h : SqL K H a vs) : TyX K H (.ref a) (.type "list") := by
  rcases h with (h | ⟨o, h⟩) | ⟨o, its, n, h1, h2, _⟩
  · exact .base (.lst h)
  · exact .base (.frz h)
  · exact .kList h1 h2
theorem tyW_ok {G : Wd} {m : Mem} {v : V} {w : W} {H0 : Hp} {t : Tk} (R : RelM X.K G m) (r : RepR X.K H0 G v w) (e : tyW w m = some t) : TyX X.K G.H v (.type t.name) := by
  cases w with
  | d x =>
    cases x with
    | none => cases r; cases e; exact .base .non
    | bool b => cases r; cases e; exact .base (.bl _)
    | int b => cases r; cases e; exact .base (.int _)
    | str b => cases r; cases e; exact .base (.str _)
    | list ds =>
      cases e
      cases r with
      | lst t r => exact .base (.lst t.2)
    | tuple ds =>
      cases e
      cases r with
      | tup t r =>
        rcases t with t | ⟨o, its, n, h1, h2, _⟩
        · exact .base (.tup t.2)
        · exact .kTuple h1 h2
    | dict _ => cases e
  | fl ds => cases e; obtain ⟨p, vs, rfl, _, _, _, h3, _⟩ := r; exact .base (.lst h3)
  | ro ds => cases e; obtain ⟨p, vs, rfl, h1, _⟩ := r; exact SqL.tyx h1.sq
  | obj i =>
    obtain ⟨a, h1, rfl⟩ := r
    simp only [tyW] at e
    cases eo : m[i]? with
    | none => rw [eo] at e; cases e
    | some o =>
      rw [eo] at e
      have q := R.ob i a o h1 eo
      cases o with
      | lst ds => cases e; obtain ⟨_, vs, h3, _⟩ := q; exact .base (.lst h3)
      | fz ds => cases e; obtain ⟨_, vs, h3, _⟩ := q; exact .base (.lst h3)
      | dct ds => cases e; obtain ⟨_, vs, h3, _⟩ := q; exact .base (.dK h3)
def eIsi (ts : List Tk) (f : EF) (env : Env) (m : Mem) : Res W := (f env m).bind fun w m1 => match tyW w m1 with
  | some t => .ok (.d (.bool (ts.any fun u => t.sub u))) m1
  | none => .bad
theorem me_isi (t : Tk) {e : Expr} {f : EF} {x : Str} {p p' pos : Pos} (hg : Gl X "isinstance") (hm : X.mg "isinstance" = none) (hgT : Gl X x) (hmT : X.mg x = none) (he : ME X Wx e f) (hx : bootBuiltins x = some (.type t.name) := by decide +kernel)
    (hn : x ≠ "__name__" := by decide) (hd : (x == ("__debug__" : Str)) = false := by decide)
    (h1 : starEach [e, .Name x p'] X.env = (false, eval e X.env) :: starEach [.Name x p'] X.env := by rfl) (hpl : (backTo pos (starEach [.Name x p'] X.env)).any (·.1) = false := by rfl) (h2 : starEach [.Name x p'] X.env = (false, eval (.Name x p') X.env) :: starEach [] X.env := by rfl) :
    ME X Wx (.Call (.Name "isinstance" p) [e, .Name x p'] [] pos) (eIsi [t] f) := by
  obtain ⟨te, pe, qe⟩ := he
  refine ⟨_, pe_callB call_isi hg hm (by decide +kernel) (pa_cons pe (pa_cons (pe_bltn (v := .ty t.name) hgT hmT hx rfl hn hd) pa_nil h2) h1) (by decide) (by decide) h1 hpl, fun env m σ G Q S R h => qe env m σ G _ S R (GPost.bind weakR h fun w m1 v G1 le1 R1 q1 h1 => ?_)⟩
  cases e : tyW w m1 with
  | none => simp only [e] at h1; exact False.elim h1
  | some t' =>
    simp only [e] at h1
    refine ⟨v, .ty t.name, .type t'.name, .type t.name, t'.sub t, rfl, .ty _, tyW_ok R1 q1 e, kit_ty (Tk.kit _ _), ?_⟩
    have h1 : GPost X Wx σ G1 (RepR X.K) (.ok (.d (.bool (t'.sub t || false))) m1) Q := h1
    rw [Bool.or_false] at h1
    exact finD R1 h1 (.bl _)
/-- isinstance(x, (A, B)) -/
theorem me_isi2 (t u : Tk) {e : Expr} {f : EF} {x y : Str} {p p1 p2 p3 pos : Pos} {x1} (hg : Gl X "isinstance") (hm : X.mg "isinstance" = none) (hgT : Gl X x) (hmT : X.mg x = none) (hgU : Gl X y) (hmU : X.mg y = none) (he : ME X Wx e f) (hx : bootBuiltins x = some (.type t.name) := by decide +kernel)
    (hy : bootBuiltins y = some (.type u.name) := by decide +kernel) (hn : x ≠ "__name__" := by decide) (hd : (x == ("__debug__" : Str)) = false := by decide) (hn' : y ≠ "__name__" := by decide) (hd' : (y == ("__debug__" : Str)) = false := by decide)
    (h1 : starEach [e, .Tuple [.Name x p1, .Name y p2] x1 p3] X.env = (false, eval e X.env) :: starEach [.Tuple [.Name x p1, .Name y p2] x1 p3] X.env := by rfl) (hpl : (backTo pos (starEach [.Tuple [.Name x p1, .Name y p2] x1 p3] X.env)).any (·.1) = false := by rfl)
    (h2 : starEach [.Tuple [.Name x p1, .Name y p2] x1 p3] X.env = (false, eval (.Tuple [.Name x p1, .Name y p2] x1 p3) X.env) :: starEach [] X.env := by rfl)
    (h3 : starEach [.Name x p1, .Name y p2] X.env = (false, eval (.Name x p1) X.env) :: starEach [.Name y p2] X.env := by rfl) (h4 : starEach [.Name y p2] X.env = (false, eval (.Name y p2) X.env) :: starEach [] X.env := by rfl) :
    ME X Wx (.Call (.Name "isinstance" p) [e, .Tuple [.Name x p1, .Name y p2] x1 p3] [] pos) (eIsi [t, u] f) := by
  obtain ⟨te, pe, qe⟩ := he
  refine ⟨_, pe_callB call_isiT hg hm (by decide +kernel) (pa_cons pe (pa_cons (pe_tup (pa_cons (pe_bltn (v := .ty t.name) hgT hmT hx rfl hn hd) (pa_cons (pe_bltn (v := .ty u.name) hgU hmU hy rfl hn' hd') pa_nil h4) h3)) pa_nil h2) h1) (by decide) (by decide) h1 hpl, fun env m σ G Q S R h => qe env m σ G _ S R (GPost.bind weakR h fun w m1 v G1 le1 R1 q1 h1 => ?_)⟩
  refine ⟨by show 2 ≤ sizeLine; decide, fun l hl => ?_⟩
  cases e : tyW w m1 with
  | none => simp only [e] at h1; exact False.elim h1
  | some t' =>
    simp only [e] at h1
    have le2 : Le G1 ⟨G1.io, G1.lv, upd G1.H l (.tup [.ty t.name, .ty u.name])⟩ := Le.new R1 hl
    have R2 := R1.new (o := .tup [.ty t.name, .ty u.name]) hl
    have h2 := GPost.later weakR h1 le2
    refine ⟨v, l, [.ty t.name, .ty u.name], .type t'.name, [.type t.name, .type u.name], t'.sub t || t'.sub u, rfl, upd_same, .cons (.ty _) (.cons (.ty _) .nil), tyW_ok R2 (q1.mono le2) e, ?_, ?_⟩
    · refine kitAny_cons (b := t'.sub t) (kit_ty (Tk.kit _ _)) (fun hb => kitAny_cons (b := t'.sub u) (kit_ty (Tk.kit _ _)) (fun hb' => ?_) (fun hb' => ?_)) (fun hb => ?_)
      · rw [hb, hb']; exact kitAny_nil
      · rw [hb']; simp
      · rw [hb]; simp
    · have h2 : GPost X Wx σ ⟨G1.io, G1.lv, upd G1.H l (.tup [.ty t.name, .ty u.name])⟩ (RepR X.K) (.ok (.d (.bool (t'.sub t || (t'.sub u || false)))) m1) Q := h2
      rw [Bool.or_false] at h2
      exact finD R2 h2 (.bl _)
/-! ### methods of lists -/
theorem obj_mut {i : Nat} {ds es : List D} {σ : St} {G : Wd} {m : Mem} {Q : VK} {v : V} {vs us : List V} {x : D} (R : RelM X.K G m) (h1 : G.io[i]? = some a) (hl : a ∈ G.lv) (r : Reps X.K G.lv G.H us es) (rx : Rep X.K G.lv G.H v x) (h : GPost X Wx σ G (RepR X.K) (.ok (.d x) (m.set i (.lst es))) Q) : Q v (upd G.H a (.lst us)) := by
  have le : Le G ⟨G.io, G.lv, upd G.H a (.lst us)⟩ := Le.mut R h1 hl
  exact h v _ le (R.mut h1 hl ⟨hl, us, upd_same, r.mono le.mo⟩ rfl) (Rep.mono le.mo rx)
/-- an object that is a list -/
def asO (w : W) (m : Mem) : Option (Nat × List D) := match w with
  | .obj i => match m[i]? with
    | some (.lst ds) => some (i, ds)
    | _ => none
  | _ => none
theorem asO_get {G : Wd} {m : Mem} {v : V} {w : W} {H0 : Hp} {i : Nat} {ds : List D} (R : RelM X.K G m) (r : RepR X.K H0 G v w) (e : asO w m = some (i, ds)) : ∃ a vs, v = .ref a ∧ G.io[i]? = some a ∧ a ∈ G.lv ∧ G.H a = some (.lst vs) ∧ Reps X.K G.lv G.H vs ds := by
  cases w with
  | obj j =>
    obtain ⟨a, h1, rfl⟩ := r
    simp only [asO] at e
    cases eo : m[j]? with
    | none => rw [eo] at e; cases e
    | some o =>
      rw [eo] at e
      cases o with
      | lst es => cases e; obtain ⟨h2, vs, h3, h4⟩ := R.ob _ a _ h1 eo; exact ⟨a, vs, rfl, h1, h2, h3, h4⟩
      | fz es => cases e
      | dct es => cases e
  | _ => cases e
def appendW (x : W) (ws : List W) (m : Mem) : Res W := match asO x m, ws with
  | some (i, ds), [.d y] => if ds.length < sizeLine then .ok (.d .none) (m.set i (.lst (ds ++ [y]))) else .bad
  | _, _ => .bad
theorem appendW_ok : MtOk X Wx rAppend appendW := by
  intro σ G m v x vs ws H0 H1 Q R rx rs h
  unfold appendW at h
  split at h
  · rename_i i ds y e
    obtain ⟨a, us, rfl, h1, h2, h3, h4⟩ := asO_get R rx e
    obtain ⟨u, rfl, ru⟩ := paired1 rs
    split at h
    · rename_i hz
      exact ⟨a, us, u, rfl, rfl, h3, by rw [h4.length]; exact hz, obj_mut (a := a) (ds := ds) (vs := us) R h1 h2 (h4.append (.one ru)) .non h⟩
    · exact False.elim h
  · exact False.elim h
def popW (x : W) (ws : List W) (m : Mem) : Res W := match asO x m, ws with
  | some (i, ds), [] => match ds[ds.length - 1]? with
    | some y => .ok (.d y) (m.set i (.lst ds.dropLast))
    | none => .bad
  | _, _ => .bad
theorem popW_ok : MtOk X Wx rPop popW := by
  intro σ G m v x vs ws H0 H1 Q R rx rs h
  unfold popW at h
  split at h
  · rename_i i ds e
    obtain ⟨a, us, rfl, h1, h2, h3, h4⟩ := asO_get R rx e
    cases rs
    cases ey : ds[ds.length - 1]? with
    | none => simp only [ey] at h; exact False.elim h
    | some y =>
      simp only [ey] at h
      obtain ⟨u, g1, g2⟩ := h4.get ey
      exact ⟨a, us, u, rfl, rfl, h3, by rw [h4.length]; exact g1, obj_mut (a := a) (ds := ds) (vs := us) R h1 h2 h4.dropLast g2 h⟩
  · exact False.elim h
noncomputable def popAtW (x : W) (ws : List W) (m : Mem) : Res W := match asO x m, ws with
  | some (i, ds), [.d (.int k)] => if grd (-(2 ^ 63) ≤ k ∧ k < 2 ^ 63) = true then (match seqIndex? k ds.length with
    | some j => match ds[j]? with
      | some y => .ok (.d y) (m.set i (.lst (ds.eraseIdx j)))
      | none => .bad
    | none => .bad) else .bad
  | _, _ => .bad
theorem popAtW_ok : MtOk X Wx rPopAt popAtW := by
  intro σ G m v x vs ws H0 H1 Q R rx rs h
  unfold popAtW at h
  split at h
  · rename_i i ds k e
    obtain ⟨a, us, rfl, h1, h2, h3, h4⟩ := asO_get R rx e
    obtain ⟨u, rfl, ru⟩ := paired1 rs
    cases ru
    split at h
    · rename_i hz
      have hz := grd_iff.mp hz
      cases ej : seqIndex? k ds.length with
      | none => simp only [ej] at h; exact False.elim h
      | some j =>
        simp only [ej] at h
        cases ey : ds[j]? with
        | none => simp only [ey] at h; exact False.elim h
        | some y =>
          simp only [ey] at h
          obtain ⟨u, g1, g2⟩ := h4.get ey
          exact ⟨a, us, k, j, u, rfl, rfl, h3, hz.1, hz.2, by rw [h4.length]; exact ej, g1, obj_mut (a := a) (ds := ds) (vs := us) R h1 h2 (h4.eraseIdx j) g2 h⟩
    · exact False.elim h
  · exact False.elim h
def clearW (x : W) (ws : List W) (m : Mem) : Res W := match asO x m, ws with
  | some (i, _), [] => .ok (.d .none) (m.set i (.lst []))
  | _, _ => .bad
theorem clearW_ok : MtOk X Wx rClear clearW := by
  intro σ G m v x vs ws H0 H1 Q R rx rs h
  unfold clearW at h
  split at h
  · rename_i i ds e
    obtain ⟨a, us, rfl, h1, h2, h3, h4⟩ := asO_get R rx e
    cases rs
    exact ⟨a, us, rfl, rfl, h3, obj_mut (a := a) (ds := ds) (vs := us) R h1 h2 .nil .non h⟩
  · exact False.elim h
def extendW (x : W) (ws : List W) (m : Mem) : Res W := match asO x m, ws with
  | some (i, ds), [w] => match asT w m with
    | some es => if ds.length + es.length ≤ sizeLine then .ok (.d .none) (m.set i (.lst (ds ++ es))) else .bad
    | none => .bad
  | _, _ => .bad
theorem extendW_ok : MtOk X Wx rExtend extendW := by
  intro σ G m v x vs ws H0 H1 Q R rx rs h
  unfold extendW at h
  split at h
  · rename_i i ds w e
    obtain ⟨a, us, rfl, h1, h2, h3, h4⟩ := asO_get R rx e
    obtain ⟨u, rfl, ru⟩ := paired1 rs
    cases ew : asT w m with
    | none => simp only [ew] at h; exact False.elim h
    | some es =>
      simp only [ew] at h
      obtain ⟨b, ws, rfl, g1, g2⟩ := asT_sq R ru ew
      split at h
      · rename_i hz
        exact ⟨a, b, us, ws, rfl, rfl, h3, g1, by rw [h4.length, g2.length]; exact hz, obj_mut (a := a) (ds := ds) (vs := us) R h1 h2 (h4.append g2) .non h⟩
      · exact False.elim h
  · exact False.elim h
/-! ### methods of texts -/
def joinW (x : W) (ws : List W) (m : Mem) : Res W := match x, ws with
  | .d (.str a), [w] => match (match w with | .d (.tuple ds) => some ds | w => asL w m).bind dStrs with
    | some ys => if (ys.map (·.length)).sum + ys.length * a.length ≤ 16777216 then .ok (.d (.str (Txt.join a ys))) m else .bad
    | none => .bad
  | _, _ => .bad
theorem joinW_ok : MtOk X Wx (fun x xs H Q => ∃ a p, ∃ ys : List Str, x = .str a ∧ xs = [.ref p] ∧ (SqL X.K H p (ys.map V.str) ∨ SqT X.K H p (ys.map V.str)) ∧ (ys.map (·.length)).sum + ys.length * a.length ≤ 16777216 ∧ Q (.str (Txt.join a ys)) H) joinW := by
  intro σ G m v x vs ws H0 H1 Q R rx rs h
  unfold joinW at h
  split at h
  · rename_i a w
    cases rx
    obtain ⟨u, rfl, ru⟩ := paired1 rs
    have go : ∀ (ds : List D) (p : Addr) (us : List V), (SqL X.K G.H p us ∨ SqT X.K G.H p us) → Reps X.K G.lv G.H us ds → u = .ref p → GPost X Wx σ G (RepR X.K) (match dStrs ds with | some ys => if (ys.map (·.length)).sum + ys.length * a.length ≤ 16777216 then .ok (.d (.str (Txt.join a ys))) m else .bad | none => .bad) Q →
        ∃ a' p, ∃ ys : List Str, V.str a = .str a' ∧ [u] = [.ref p] ∧ (SqL X.K G.H p (ys.map V.str) ∨ SqT X.K G.H p (ys.map V.str)) ∧ (ys.map (·.length)).sum + ys.length * a'.length ≤ 16777216 ∧ Q (.str (Txt.join a' ys)) G.H := fun ds p us h1 r1 e h => by
      cases es : dStrs ds with
      | none => rw [es] at h; exact False.elim h
      | some ys =>
        simp only [es] at h
        rw [dStrs_map es] at r1
        rw [r1.vstrs] at h1
        split at h
        · rename_i hz
          exact ⟨a, p, ys, rfl, by rw [e], h1, hz, finD R h (.str _)⟩
        · exact False.elim h
    have lst : GPost X Wx σ G (RepR X.K) (match (asL w m).bind dStrs with | some ys => if (ys.map (·.length)).sum + ys.length * a.length ≤ 16777216 then .ok (.d (.str (Txt.join a ys))) m else .bad | none => .bad) Q →
        ∃ a' p, ∃ ys : List Str, V.str a = .str a' ∧ [u] = [.ref p] ∧ (SqL X.K G.H p (ys.map V.str) ∨ SqT X.K G.H p (ys.map V.str)) ∧ (ys.map (·.length)).sum + ys.length * a'.length ≤ 16777216 ∧ Q (.str (Txt.join a' ys)) G.H := fun h => by
      cases e : asL w m with
      | none => rw [e] at h; exact False.elim h
      | some ds =>
        rw [e] at h
        obtain ⟨p, us, e1, h1, r1⟩ := asL_sq R ru e
        exact go ds p us (.inl h1) r1 e1 h
    cases w with
    | d x =>
      cases x with
      | tuple ds =>
        cases ru with
        | tup t r => exact go ds _ _ (.inr t.sq) r rfl h
      | _ => exact lst h
    | _ => exact lst h
  · exact False.elim h
def sindexW (x : W) (ws : List W) (m : Mem) : Res W := match x, ws with
  | .d (.str a), [.d (.str b)] => match Builtin.Str.occurrences a b 0 a.length 1 with
    | i :: _ => .ok (.d (.int (i : Int))) m
    | [] => .bad
  | _, _ => .bad
theorem sindexW_ok : MtOk X Wx (fun x xs H Q => ∃ a b i rest, x = .str a ∧ xs = [.str b] ∧ Builtin.Str.occurrences a b 0 a.length 1 = i :: rest ∧ Q (.int (i : Nat)) H) sindexW := by
  intro σ G m v x vs ws H0 H1 Q R rx rs h
  unfold sindexW at h
  split at h
  · rename_i a b
    cases rx
    obtain ⟨u, rfl, ru⟩ := paired1 rs
    cases ru
    split at h
    · rename_i i r e
      exact ⟨a, b, i, r, rfl, rfl, e, finD R h (.int _)⟩
    · exact False.elim h
  · exact False.elim h
def splitW (x : W) (ws : List W) (m : Mem) : Res W := match x, ws with
  | .d (.str a), [.d (.str b)] => if ((b.length == 0) = false ∧ a.length + 2 ≤ sizeLine) then .ok (.fl ((Txt.split a b).map .str)) m else .bad
  | _, _ => .bad
theorem Reps.strs {K : PySem.W.Frag} {lv : List Addr} {H : Hp} : ∀ (ns : List Str), Reps K lv H (ns.map V.str) (ns.map PyData.str)
  | [] => .nil
  | n :: ns => .cons (.str n) (Reps.strs ns)
theorem splitW_ok : MtOk X Wx (fun x xs H Q => ∃ a b, x = .str a ∧ xs = [.str b] ∧ (b.length == 0) = false ∧ a.length + 2 ≤ sizeLine ∧ rNewStrs (Txt.split a b) H Q) splitW := by
  intro σ G m v x vs ws H0 H1 Q R rx rs h
  unfold splitW at h
  split at h
  · rename_i a b
    cases rx
    obtain ⟨u, rfl, ru⟩ := paired1 rs
    cases ru
    split at h
    · rename_i hz
      exact ⟨a, b, rfl, rfl, hz.1, hz.2, fun p hp => finL R h (Reps.strs _) hp⟩
    · exact False.elim h
  · exact False.elim h
def upperW (x : W) (ws : List W) (m : Mem) : Res W := match x, ws with
  | .d (.str a), [] => if a.length ≤ 5592405 then .ok (.d (.str (Txt.upper a))) m else .bad
  | _, _ => .bad
theorem upperW_ok : MtOk X Wx (fun x xs H Q => ∃ a, x = .str a ∧ xs = [] ∧ a.length ≤ 5592405 ∧ Q (.str (Txt.upper a)) H) upperW := by
  intro σ G m v x vs ws H0 H1 Q R rx rs h
  unfold upperW at h
  split at h
  · rename_i a
    cases rx
    cases rs
    split at h
    · rename_i hz
      exact ⟨a, rfl, rfl, hz, finD R h (.str _)⟩
    · exact False.elim h
  · exact False.elim h
/-! ### xs[i] = v -/
def sSetI (o i : EF) (f : EF) (env : Env) (m : Mem) : SRes := eS ((f env m).bind fun v m1 => (o env m1).bind fun x m2 => (i env m2).bind fun k m3 => match asO x m3, k, v with
  | some (j, ds), .d (.int k), .d y => (match ixN ds.length k with
    | some n => .ok () (m3.set j (.lst (ds.set n y)))
    | none => .bad)
  | _, _, _ => .bad) env fun _ m1 => .nx env m1
theorem ms_setI {o i e : Expr} {fo fi f : EF} {tpos pos : Pos} (ho : ME X Wx o fo) (hi : ME X Wx i fi) (he : ME X Wx e f)
    (ha : ∀ v, assign (.Subscript o i tpos) X.env v = (do
      let ov ← holding [v] (eval o X.env)
      let iv ← holding [v, ov] (eval i X.env)
      standAt tpos
      holding [v, ov, iv] (setItem ov iv v)
      release [v, ov, iv] []) := by intro _; rfl)
    (hs : swapsWithSole [.Subscript o i tpos] e pos.line X.env = pure false := by rfl) (hw : swappedStores [.Subscript o i tpos] e X.env = pure none := by rfl)
    (h1 : (assignEach [.Subscript o i tpos] X.env).map (·.2) = [assign (.Subscript o i tpos) X.env] := by rfl) : MS X Wx (.Assign [.Subscript o i tpos] e pos) (sSetI fo fi f) := by
  obtain ⟨to, po, qo⟩ := ho
  obtain ⟨ti, pi, qi⟩ := hi
  obtain ⟨t, p, q⟩ := he
  refine ⟨_, ps_asg p (pg_sub po pi set_list ha) hs hw h1, fun env m σ G E S R h => ?_⟩
  have h' : GPost X Wx σ G (fun _ _ (_ : Unit) (_ : Unit) => True) ((f env m).bind fun v m1 => (fo env m1).bind fun x m2 => (fi env m2).bind fun k m3 => match asO x m3, k, v with
      | some (j, ds), .d (.int k), .d y => (match ixN ds.length k with
        | some n => .ok () (m3.set j (.lst (ds.set n y)))
        | none => .bad)
      | _, _, _ => .bad) (fun _ H' => E.nx σ H') := SPost.ofE h S fun a m1 v G1 le R1 _ h1 => h1 σ G1 (Le.refl R1) R1 (S.mono le)
  have wk : Weak (fun (_ : Hp) (_ : Wd) (_ : Unit) (_ : Unit) => True) := fun _ _ _ _ _ _ _ => trivial
  refine q env m σ G _ S R (GPost.bind wk h' fun w m1 v G1 le1 R1 q1 h1 => ?_)
  refine qo env m1 σ G1 _ (S.mono le1) R1 (GPost.bind wk h1 fun x m2 u G2 le2 R2 q2 h2 => ?_)
  refine qi env m2 σ G2 _ ((S.mono le1).mono le2) R2 (GPost.bind wk h2 fun k m3 z G3 le3 R3 q3 h3 => ?_)
  split at h3
  · rename_i j ds kk y e
    obtain ⟨a, vs, e1, g1, g2, g3, g4⟩ := asO_get R3 (q2.mono le3) e
    cases q3
    cases en : ixN ds.length kk with
    | none => simp only [en] at h3; exact False.elim h3
    | some n =>
      simp only [en] at h3
      have rv : Rep X.K G3.lv G3.H v y := Rep.mono (le2.trans le3).mo q1
      have le : Le G3 ⟨G3.io, G3.lv, upd G3.H a (.lst (vs.set n v))⟩ := Le.mut R3 g1 g2
      refine ⟨a, vs, kk, n, e1, rfl, g3, by rw [g4.length]; exact en, ?_⟩
      exact h3 () _ le (R3.mut g1 g2 ⟨g2, _, upd_same, (g4.set rv n).mono le.mo⟩ rfl) trivial
  · exact False.elim h3
end
end M

set_option Elab.async false
set_option linter.all false
set_option maxRecDepth 100000
namespace M
open PySem L2
section
variable {X : Cx} {Wx : WX}
/-- a list, and whether it still stands -/
def asC (w : W) (m : Mem) : Option (List D × (Mem → Bool)) := match w with
  | .obj i => (asL (.obj i) m).map fun ds => (ds, sameM i ds)
  | w => (asS w).map fun ds => (ds, yesM)
theorem asC_sq {G : Wd} {m : Mem} {v : V} {w : W} {H0 : Hp} {ds : List D} {chk : Mem → Bool} (R : RelM X.K G m) (r : RepR X.K H0 G v w) (e : asC w m = some (ds, chk)) : ∃ a, v = .ref a ∧ (∃ vs, SqL X.K G.H a vs) ∧ ∀ G2 m2, Le G G2 → RelM X.K G2 m2 → chk m2 = true → ∃ vs, SqL X.K G2.H a vs ∧ Reps X.K G2.lv G2.H vs ds := by
  have st : (asS w).map (fun ds => (ds, yesM)) = some (ds, chk) → ∃ a, v = .ref a ∧ (∃ vs, SqL X.K G.H a vs) ∧ ∀ G2 m2, Le G G2 → RelM X.K G2 m2 → chk m2 = true → ∃ vs, SqL X.K G2.H a vs ∧ Reps X.K G2.lv G2.H vs ds := fun e => by
    cases es : asS w with
    | none => rw [es] at e; cases e
    | some es' =>
      rw [es] at e
      cases e
      obtain ⟨a, vs, e1, h⟩ := asS_sq R r es
      exact ⟨a, e1, ⟨vs, (h G (Le.refl R)).1⟩, fun G2 m2 le _ _ => ⟨vs, h G2 le⟩⟩
  cases w with
  | obj i =>
    simp only [asC] at e
    cases el : asL (.obj i) m with
    | none => rw [el] at e; cases e
    | some es =>
      rw [el] at e
      cases e
      obtain ⟨a, ha, rfl⟩ := id r
      obtain ⟨a', vs, e1, h1, _⟩ := asL_sq (w := .obj i) R r el
      cases e1
      refine ⟨a, rfl, ⟨vs, h1⟩, fun G2 m2 le R2 hz => ?_⟩
      unfold sameM at hz
      cases e2 : asL (.obj i) m2 with
      | none => rw [e2] at hz; cases hz
      | some es =>
        rw [e2] at hz
        have ee := beqDs_eq _ _ hz
        subst ee
        obtain ⟨a2, vs2, e3, h3, r3⟩ := asL_sq (v := .ref a) (H0 := H0) (w := .obj i) R2 ⟨a, le.iget ha, rfl⟩ e2
        cases e3
        exact ⟨vs2, h3, r3⟩
  | d x => exact st e
  | fl x => exact st e
  | ro x => exact st e
def zipA (ws : List W) (m : Mem) : Res Its := match ws with
  | [.d (.tuple ds), .d (.tuple es)] => .ok (itsL (zipD ds es)) m
  | [w, u] => match asC w m, asC u m with
    | some (ds, c1), some (es, c2) => .ok ⟨(zipD ds es).map .d, fun m => c1 m && c2 m⟩ m
    | _, _ => .bad
  | _ => .bad
def iZipA (a : AF) (env : Env) (m : Mem) : Res Its := (a env m).bind zipA
theorem zip_get {ds es : List D} {i : Nat} {w' : W} (hw : ((zipD ds es).map W.d)[i]? = some w') : ∃ d e, ds[i]? = some d ∧ es[i]? = some e ∧ w' = .d (.tuple [d, e]) := by
  rw [List.getElem?_map] at hw
  unfold zipD at hw
  rw [List.getElem?_map] at hw
  cases e2 : (ds.zip es)[i]? with
  | none => rw [e2] at hw; cases hw
  | some d =>
    rw [e2] at hw
    cases hw
    obtain ⟨x1, x2⟩ := List.getElem?_zip_eq_some.mp e2
    exact ⟨d.1, d.2, x1, x2, rfl⟩
theorem mi_zipA {e e2 : Expr} {f : AF} {p pos tpos : Pos} {elts : List Expr} {kk : Nat} (hg : Gl X "zip") (hm : X.mg "zip" = none) (ha : MA X Wx [e, e2] f)
    (hs : starEach [e, e2] X.env = (false, eval e X.env) :: starEach [e2] X.env := by rfl) (hpl : (backTo pos (starEach [e2] X.env)).any (·.1) = false := by rfl) :
    MI X Wx (.Tuple elts kk tpos) (.Call (.Name "zip" p) [e, e2] [] pos) (iZipA f) := by
  obtain ⟨t, pa, q⟩ := ha
  refine ⟨_, RZ.pi_zipA hg hm pa hs hpl, fun env m σ G Q S R h => q env m σ G _ S R (GPost.bind weakI h fun ws m1 vs G1 le1 R1 q1 h1 => ?_)⟩
  unfold zipA at h1
  split at h1
  · rename_i ds es
    obtain ⟨v, v', rfl, r, r'⟩ := paired2 q1
    cases r with
    | @tup a vs _ t1 r1 =>
      cases r' with
      | @tup b us _ t2 r2 =>
        refine ⟨a, b, vs, us, rfl, .inr ⟨t1.sq, t2.sq, h1 _ G1 (Le.refl R1) R1 ?_⟩⟩
        intro G2 m2 le R2 hz i
        have hq := (t1.mono le.mo).sq
        have hq' := (t2.mono le.mo).sq
        have hr := r1.mono le.mo
        have hr' := r2.mono le.mo
        refine ⟨fun w' hw => ?_, fun hi => ⟨vs, us, hq, hq', by
          rw [hr.length, hr'.length]
          have hi : ((zipD ds es).map W.d).length ≤ i := hi
          simp [zipD] at hi
          omega⟩⟩
        obtain ⟨d, e, x1, x2, rfl⟩ := zip_get hw
        obtain ⟨v, g1, g2⟩ := hr.get x1
        obtain ⟨v', g1', g2'⟩ := hr'.get x2
        refine ⟨⟨vs, us, v, v', hq, hq', g1, g1'⟩, fun x H' ⟨T, y, y', ex, hT, eH, hy, hy'⟩ => ?_⟩
        have t1 := hy vs hq
        have t2 := hy' us hq'
        rw [g1] at t1
        rw [g1'] at t2
        cases t1
        cases t2
        rw [ex, eH]
        exact itPair R2 hT (.cons g2 (.cons g2' .nil))
  · rename_i w u _
    obtain ⟨v, v', rfl, r, r'⟩ := paired2 q1
    split at h1
    · rename_i ds c1 es c2 e1 e2
      obtain ⟨a, rfl, ⟨vs0, hs0⟩, hst⟩ := asC_sq R1 r e1
      obtain ⟨b, rfl, ⟨us0, hs1⟩, hst'⟩ := asC_sq R1 r' e2
      refine ⟨a, b, vs0, us0, rfl, .inl ⟨hs0, hs1, h1 _ G1 (Le.refl R1) R1 ?_⟩⟩
      intro G2 m2 le R2 hz i
      have hz : (c1 m2 && c2 m2) = true := hz
      rw [Bool.and_eq_true] at hz
      obtain ⟨vs, hq, hr⟩ := hst G2 m2 le R2 hz.1
      obtain ⟨us, hq', hr'⟩ := hst' G2 m2 le R2 hz.2
      refine ⟨fun w' hw => ?_, fun hi => ⟨vs, us, hq, hq', by
        rw [hr.length, hr'.length]
        have hi : ((zipD ds es).map W.d).length ≤ i := hi
        simp [zipD] at hi
        omega⟩⟩
      obtain ⟨d, e, x1, x2, rfl⟩ := zip_get hw
      obtain ⟨v, g1, g2⟩ := hr.get x1
      obtain ⟨v', g1', g2'⟩ := hr'.get x2
      refine ⟨⟨vs, us, v, v', hq, hq', g1, g1'⟩, fun x H' ⟨T, y, y', ex, hT, eH, hy, hy'⟩ => ?_⟩
      have t1 := hy vs hq
      have t2 := hy' us hq'
      rw [g1] at t1
      rw [g1'] at t2
      cases t1
      cases t2
      rw [ex, eH]
      exact itPair R2 hT (.cons g2 (.cons g2' .nil))
    · exact False.elim h1
  · exact False.elim h1
/-! ### - n -/
def negW (w : W) (m : Mem) : Res W := match w with
  | .d (.int i) => .ok (.d (.int (-i))) m
  | _ => .bad
def eNeg (f : EF) (env : Env) (m : Mem) : Res W := (f env m).bind negW
theorem me_neg {e : Expr} {f : EF} {pos : Pos} (h : ME X Wx e f) : ME X Wx (.UnaryOp .USub e pos) (eNeg f) := by
  obtain ⟨t, p, q⟩ := h
  refine ⟨_, pe_un un_neg p, fun env m σ G Q S R h => q env m σ G _ S R (GPost.bind weakR h fun w m1 v G1 le1 R1 q1 h1 => ?_)⟩
  cases w with
  | d x =>
    cases x with
    | int i => cases q1; exact ⟨i, rfl, finD R1 h1 (.int _)⟩
    | _ => exact False.elim h1
  | _ => exact False.elim h1
theorem hu65 {A : Around} {k : Nat} (hr : Room k A) : A.units + 65 < cLine := by have := hr.un; omega
theorem takesF : Takes X WF := takes0
/-! ### the law -/
def spLaw (K : PySem.W.Frag) : Sp := fun vs H Q _ => ∃ (a : Addr) (ns : List Int), vs = [.ref a] ∧ SqL K H a (ns.map V.int) ∧ ns.length ≤ 63 ∧ ∀ H', Q (.bl true) H'
theorem law_imp {P : Program} {w : World} {K : PySem.W.Frag} {mg : Str → Option Value} {base : Heap} {k : Nat} {f : Addr} {fd : FuncData} {x : Str} {F : FF} (h : FnOk P w K mg base (L2.CX P w) k f fd [x] (SpM K mg 1 F))
    (ht : ∀ ns : List Int, ns.length ≤ 63 → ∃ m, F [.ro (ns.map .int)] [] = .ok (.d (.bool true)) m) : FnOk P w K mg base (L2.CX P w) k f fd [x] (spLaw K) := by
  refine h.imp fun vs H Q E ⟨a, ns, e, hs, hl, hq⟩ => ?_
  subst e
  obtain ⟨m, hm⟩ := ht ns hl
  refine ⟨⟨[], [], H⟩, [.ro (ns.map .int)], [], rfl, ⟨fun i o e => by simp at e, rfl, List.nodup_nil, fun _ z => (nomatch z), fun _ z => (nomatch z), fun i a o e1 e2 => by simp at e2⟩, .cons ⟨a, _, rfl, ?_, Reps.ints ns⟩ .nil, rfl, ?_⟩
  · rcases hs with h | h
    · exact .inl ⟨fun z => (nomatch z), h⟩
    · exact .inr h
  · rw [hm]
    intro v G' le R r
    cases r
    exact hq _
theorem cx_no {P : Program} {w : World} {H : Hp} {s : Shared} {e : Value} {s' : Shared} (h : L2.CX P w [] H s (fun _ _ _ => False) e s') : False := by
  obtain ⟨_, _, _, _, _, _, _, _, _, _, _, _, z⟩ := h
  exact z
end
end M

set_option Elab.async false
set_option linter.all false
set_option maxRecDepth 100000
set_option maxHeartbeats 4000000
namespace M
open PySem PySem.Spec PyProof.Rows L2
/-! ### list.extend of a tuple, whichever the tuple's object is -/
theorem ext_tup (l b : Addr) (xs ys : Array Value) (n k : Nat) (dd : Option Addr) (sl : Array (Option Value)) (h0 : ¬(!xs.isEmpty && Builtin.List.listTooLong (xs.size + ys.size)) = true) (h1 : xs.size ≤ sizeLine) (h2 : xs.size + ys.size ≤ sizeLine + 1) :
    Meets (Builtin.«list.extend» ⟨[.ref l, .ref b], []⟩) (fun _ R s => s.heap.get? l = some { cls := .type "list", data := .seq xs n } ∧ s.heap.get? b = some { cls := .type "tuple", dict := dd, data := .seq ys k, slots := sl } ∧
      R (.ok (.ret Value.none)) { s with heap := s.heap.update l (Obj.mapSeq fun x => x ++ ys) }) :=
  .of_wp fun prog w A R s h => by
    obtain ⟨hp, g, d, tk, os⟩ := s
    obtain ⟨hl, hb, h⟩ := h
    have f1 := AutoSeq1.idx_int
    have f2 := AutoSeq1.sub_tuple_tuple
    have f3 := AutoSeq1.sub_list_list
    have f4 := AutoSeq1.sub_tuple_list
    have f5 := AutoSeq1.sub_list_tuple
    have hz : (xs ++ ys).size ≤ sizeLine + 1 := by rw [Array.size_append]; exact h2
    wp_walk using (wpAny_updateSeq hl rfl (hz := h1) (_hz' := hz)), wpAny_loadPart' hl, wpAny_loadPart' hb
    exact ⟨_, rfl, h⟩
section
variable {X : Cx} {Wx : WX}
/-! ### is True, is False -/
def isBW (neg : Bool) (x y : W) (m : Mem) : Res W := match x, y with
  | .d (.bool a), .d (.bool b) => .ok (.d (.bool (ngB neg (decide (a = b))))) m
  | _, _ => .bad
def rIsBA (neg : Bool) : R2 := fun x y H Q => ∃ a b : Bool, x = .bl a ∧ y = .bl b ∧ Q (.bl (ngB neg (decide (a = b)))) H
theorem op_isB : OpR X (compareOp .Is) (rIsBA false) := op_isBl
theorem op_isBN : OpR X (compareOp .IsNot) (rIsBA true) := op_notBl
theorem isBW_ok {neg : Bool} : OpOk X Wx (rIsBA neg) (isBW neg) := by
  intro σ G m v u x y H0 H1 Q R rx ry h
  unfold isBW at h
  split at h
  · cases rx; cases ry
    exact ⟨_, _, rfl, rfl, finD R h (.bl _)⟩
  · exact False.elim h
/-! ### extend by a list or a tuple -/
def rExtA (K : PySem.W.Frag) : V → List V → Hp → VK → Prop := fun x vs H Q => rExtend x vs H Q ∨ ∃ l b xs zs, x = .ref l ∧ vs = [.ref b] ∧ H l = some (.lst xs) ∧ SqT K H b zs ∧ xs.length + zs.length ≤ sizeLine ∧ Q .non (upd H l (.lst (xs ++ zs)))
theorem mt_extendA : MtM X "list.extend" (rExtA X.K) := by
  intro pins s σ H x vs v us Q I rx rv h
  rcases h with h | ⟨l, b, xs, zs, rfl, rfl, hH, hB, hz, q⟩
  · exact mt_extend pins s σ H x vs v us Q I rx rv h
  cases rx
  obtain ⟨u, rfl, ru⟩ := rv.one
  cases ru
  obtain ⟨z, its, n, r, hl, e⟩ := I.lstM hH
  obtain ⟨ts, r2, ⟨o, e2, hc, k, hd⟩, _⟩ := I.tuple hB
  obtain ⟨oc, od, oda, osl⟩ := o
  cases hc
  cases hd
  have e3 := r2.length
  have hsz : its.toArray.size + ts.toArray.size ≤ sizeLine := by rw [List.size_toArray, List.size_toArray]; omega
  have hlong : ¬ (!its.toArray.isEmpty && Builtin.List.listTooLong (its.toArray.size + ts.toArray.size)) = true := by
    rw [notLongL hsz, Bool.and_false]
    exact Bool.false_ne_true
  refine call_meets F.slot_list_extend ⟨_, e, rfl⟩ F.entry_list_extend (F.args_list_extend_2 _ _) (ext_tup l b its.toArray ts.toArray n k od osl hlong (by rw [List.size_toArray]; omega) (by omega)) ⟨e, e2, ?_⟩
  refine ⟨.non, _, I.lset (its' := its ++ ts) hH e (by simp) (r.append r2) ?_, rfl, q⟩
  rw [List.length_append]
  omega
def extendAW (x : W) (ws : List W) (m : Mem) : Res W := match ws with
  | [.d (.tuple es)] => match asO x m with
    | some (i, ds) => if ds.length + es.length ≤ sizeLine then .ok (.d .none) (m.set i (.lst (ds ++ es))) else .bad
    | none => .bad
  | ws => extendW x ws m
theorem extendAW_ok : MtOk X Wx (rExtA X.K) extendAW := by
  intro σ G m v x vs ws H0 H1 Q R rx rs h
  unfold extendAW at h
  split at h
  · rename_i es
    cases e : asO x m with
    | none => simp only [e] at h; exact False.elim h
    | some p =>
      obtain ⟨i, ds⟩ := p
      simp only [e] at h
      obtain ⟨a, us, rfl, h1, h2, h3, h4⟩ := asO_get R rx e
      obtain ⟨u, rfl, ru⟩ := paired1 rs
      cases ru with
      | tup hq hr =>
        split at h
        · rename_i hz
          exact .inr ⟨a, _, us, _, rfl, rfl, h3, hq.sq, by rw [h4.length, hr.length]; exact hz, obj_mut (a := a) (ds := ds) (vs := us) R h1 h2 (h4.append hr) .non h⟩
        · exact False.elim h
  · exact .inl (extendW_ok σ G m v x vs ws H0 H1 Q R rx rs h)
end
end M

set_option Elab.async false
set_option linter.all false
set_option maxRecDepth 100000
set_option maxHeartbeats 4000000
namespace M
open PySem L2
/-! ### dicts with texts as keys -/
def dlook (kvs : List (Str × W)) (k : Str) : Option W := (kvs.find? fun kv => decide (kv.1 = k)).map (·.2)
def dput (kvs : List (Str × W)) (k : Str) (v : W) : List (Str × W) :=
  if (kvs.any fun kv => decide (kv.1 = k)) = true then kvs.map (fun kv => if kv.1 = k then (kv.1, v) else kv) else kvs ++ [(k, v)]
def dgetW (x y : W) (m : Mem) : Res W := match x, y with
  | .obj i, .d (.str k) => match m[i]? with
    | some (.dct kvs) => (match dlook kvs k with | some w => .ok w m | none => .bad)
    | _ => .bad
  | _, _ => .bad
section
variable {K : PySem.W.Frag} {G : Wd}
abbrev DRel (K : PySem.W.Frag) (G : Wd) : List (Key × V) → List (Str × W) → Prop := Paired (fun (p : Key × V) (q : Str × W) => p.1 = Sum.inr q.1 ∧ RepW K G p.2 q.2)
theorem dlook_rep {ks : List (Key × V)} {kvs : List (Str × W)} {k : Str} {w : W} (r : DRel K G ks kvs) (e : dlook kvs k = some w) : ∃ v, valV ks (Sum.inr k : Key) = some v ∧ RepW K G v w := by
  induction r with
  | nil => cases e
  | @cons p q ps qs h t ih =>
    by_cases hk : q.1 = k
    · have e1 : dlook (q :: qs) k = some q.2 := by simp [dlook, List.find?_cons, hk]
      rw [e1] at e
      cases e
      exact ⟨p.2, valV_pos (by rw [h.1, hk]), h.2⟩
    · have e1 : dlook (q :: qs) k = dlook qs k := by simp [dlook, List.find?_cons, hk]
      rw [e1] at e
      obtain ⟨v, h1, h2⟩ := ih e
      exact ⟨v, by rw [valV_neg (by rw [h.1]; exact fun z => hk (Sum.inr.inj z))]; exact h1, h2⟩
theorem dput_any {ks : List (Key × V)} {kvs : List (Str × W)} {k : Str} (r : DRel K G ks kvs) : (ks.any fun kv => decide (kv.1 = (Sum.inr k : Key))) = (kvs.any fun kv => decide (kv.1 = k)) := by
  induction r with
  | nil => rfl
  | @cons p q ps qs h t ih =>
    have e : decide (p.1 = (Sum.inr k : Key)) = decide (q.1 = k) := by
      rw [h.1]
      congr 1
      exact propext ⟨fun z => Sum.inr.inj z, fun z => by rw [z]⟩
    simp only [List.any_cons, e, ih]
theorem dput_map {ks : List (Key × V)} {kvs : List (Str × W)} {k : Str} {v : V} {w : W} (r : DRel K G ks kvs) (rv : RepW K G v w) : DRel K G (ks.map fun kv => if kv.1 = (Sum.inr k : Key) then (kv.1, v) else kv) (kvs.map fun kv => if kv.1 = k then (kv.1, w) else kv) := by
  induction r with
  | nil => exact .nil
  | @cons p q ps qs h t ih =>
    refine .cons ?_ ih
    by_cases hk : q.1 = k
    · have e1 : p.1 = (Sum.inr k : Key) := by rw [h.1, hk]
      dsimp only
      rw [if_pos e1, if_pos hk]
      exact ⟨h.1, rv⟩
    · have e1 : ¬ p.1 = (Sum.inr k : Key) := by rw [h.1]; exact fun z => hk (Sum.inr.inj z)
      dsimp only
      rw [if_neg e1, if_neg hk]
      exact h
theorem dput_rep {ks : List (Key × V)} {kvs : List (Str × W)} {k : Str} {v : V} {w : W} (r : DRel K G ks kvs) (rv : RepW K G v w) : DRel K G (putK ks (Sum.inr k : Key) v) (dput kvs k w) := by
  unfold putK dput
  rw [dput_any r]
  split
  · exact dput_map r rv
  · exact Paired.snoc r ⟨rfl, rv⟩
theorem DRel.length {ks : List (Key × V)} {kvs : List (Str × W)} (r : DRel K G ks kvs) : ks.length = kvs.length := by
  induction r with
  | nil => rfl
  | cons _ _ ih => rw [List.length_cons, List.length_cons, ih]
end
section
variable {X : Cx} {Wx : WX}
theorem me_dget {o i : Expr} {fo fi : EF} {pos : Pos} (hu : X.A.units + 65 < cLine) (ho : ME X Wx o fo) (hi : ME X Wx i fi) (hs : NoSl i := by intro _ _; rfl) : ME X Wx (.Subscript o i pos) (eOp dgetW fo fi) := by
  obtain ⟨to, po, qo⟩ := ho
  obtain ⟨ti, pi, qi⟩ := hi
  refine ⟨_, pe_dget (by omega) po pi hs, fun env m σ G Q S R h => qo env m σ G _ S R (GPost.bind weakR h fun x m1 v G1 le1 R1 q1 h1 => ?_)⟩
  refine qi env m1 σ G1 _ (S.mono le1) R1 (GPost.bind weakR h1 fun y m2 u G2 le2 R2 q2 h2 => ?_)
  unfold dgetW at h2
  split at h2
  · rename_i j k
    obtain ⟨a, g1, rfl⟩ := q1.mono le2
    cases q2
    split at h2
    · rename_i kvs e
      obtain ⟨_, ks, g2, g3⟩ := R2.ob j a _ g1 e
      split at h2
      · rename_i w ew
        obtain ⟨z, z1, z2⟩ := dlook_rep g3 ew
        exact ⟨a, z, rfl, .inl ⟨ks, Sum.inr k, .inl g2, rfl, z1.symm⟩, h2 z G2 (Le.refl R2) R2 z2.r⟩
      · exact False.elim h2
    · exact False.elim h2
  · exact False.elim h2
/-! ### d[k] = v -/
def sSetD (o i : EF) (f : EF) (env : Env) (m : Mem) : SRes := eS ((f env m).bind fun v m1 => (o env m1).bind fun x m2 => (i env m2).bind fun k m3 => match x, k with
  | .obj j, .d (.str k) => (match m3[j]? with
    | some (.dct kvs) => if (decide (kvs.length < 1000) && okW j v) = true then .ok () (m3.set j (.dct (dput kvs k v))) else .bad
    | _ => .bad)
  | _, _ => .bad) env fun _ m1 => .nx env m1
theorem okO_dput {j : Nat} {kvs : List (Str × W)} {k : Str} {v : W} (h : okO j (.dct kvs) = true) (hv : okW j v = true) : okO j (.dct (dput kvs k v)) = true := by
  have h : ∀ p ∈ kvs, okW j p.2 = true := by simpa [okO] using h
  show (dput kvs k v).all (fun p => okW j p.2) = true
  rw [List.all_eq_true]
  intro p hp
  unfold dput at hp
  split at hp
  · obtain ⟨q, hq, rfl⟩ := List.mem_map.mp hp
    split
    · exact hv
    · exact h q hq
  · rcases List.mem_append.mp hp with hp | hp
    · exact h p hp
    · rw [List.mem_singleton.mp hp]; exact hv
theorem okW_rep {n : Nat} {H0 : Hp} {G : Wd} {v : V} {w : W} (h : RepR X.K H0 G v w) (ok : okW n w = true) : RepW X.K G v w := by
  cases w with
  | fl ds => cases ok
  | _ => exact h
theorem ms_setD {o i e : Expr} {fo fi f : EF} {tpos pos : Pos} (hu : X.A.units + 65 < cLine) (ho : ME X Wx o fo) (hi : ME X Wx i fi) (he : ME X Wx e f)
    (hs : swapsWith e (some (.Subscript o i tpos)) pos.line X.env = pure false := by rfl) : MS X Wx (.Assign [.Subscript o i tpos] e pos) (sSetD fo fi f) := by
  obtain ⟨to, po, qo⟩ := ho
  obtain ⟨ti, pi, qi⟩ := hi
  obtain ⟨t, p, q⟩ := he
  refine ⟨_, ps_dput (by omega) po pi p hs, fun env m σ G E S R h => ?_⟩
  have h' : GPost X Wx σ G (fun _ _ (_ : Unit) (_ : Unit) => True) ((f env m).bind fun v m1 => (fo env m1).bind fun x m2 => (fi env m2).bind fun k m3 => match x, k with
      | .obj j, .d (.str k) => (match m3[j]? with
        | some (.dct kvs) => if (decide (kvs.length < 1000) && okW j v) = true then .ok () (m3.set j (.dct (dput kvs k v))) else .bad
        | _ => .bad)
      | _, _ => .bad) (fun _ H' => E.nx σ H') := SPost.ofE h S fun a m1 v G1 le R1 _ h1 => h1 σ G1 (Le.refl R1) R1 (S.mono le)
  have wk : Weak (fun (_ : Hp) (_ : Wd) (_ : Unit) (_ : Unit) => True) := fun _ _ _ _ _ _ _ => trivial
  refine q env m σ G _ S R (GPost.bind wk h' fun w m1 v G1 le1 R1 q1 h1 => ?_)
  refine qo env m1 σ G1 _ (S.mono le1) R1 (GPost.bind wk h1 fun x m2 u G2 le2 R2 q2 h2 => ?_)
  refine qi env m2 σ G2 _ ((S.mono le1).mono le2) R2 (GPost.bind wk h2 fun k m3 z G3 le3 R3 q3 h3 => ?_)
  split at h3
  · rename_i j kk
    obtain ⟨a, g1, rfl⟩ := q2.mono le3
    cases q3
    split at h3
    · rename_i kvs e
      obtain ⟨gl, ks, g2, g3⟩ := R3.ob j a _ g1 e
      split at h3
      · rename_i hz
        rw [Bool.and_eq_true] at hz
        have hl := of_decide_eq_true hz.1
        have le : Le G3 ⟨G3.io, G3.lv, upd G3.H a (.dK (putK ks (Sum.inr kk : Key) v))⟩ := Le.mut R3 g1 gl
        have rv : RepW X.K G3 v w := okW_rep ((q1.mono le2).mono le3) hz.2
        have rd := dput_rep (k := kk) g3 rv
        refine ⟨a, _, rfl, .inl ⟨ks, Sum.inr kk, g2, rfl, by rw [g3.length, sizeLine_eq]; omega, rfl⟩, ?_⟩
        exact h3 () _ le (R3.mut g1 gl ⟨gl, _, upd_same, Paired.mono (fun _ _ z => ⟨z.1, z.2.mono le⟩) rd⟩ (okO_dput (R3.dw j _ e) hz.2)) trivial
      · exact False.elim h3
    · exact False.elim h3
  · exact False.elim h3
/-! ### {k: v, ..} -/
def relPs (K : PySem.W.Frag) (ks : List Str) (H0 : Hp) (G : Wd) (ps : List (V × V)) (ws : List W) : Prop := ps.map (·.1) = ks.map V.str ∧ RepRs K H0 G (ps.map (·.2)) ws
def MPs (X : Cx) (Wx : WX) (pos : Pos) (keys : List (Option Expr)) (values : List Expr) (ks : List Str) (f : AF) : Prop :=
  ∃ trs, PPs X pos keys values trs ∧ ∀ env m σ G Q, RelS X.K G σ env → RelM X.K G m → GPost X Wx σ G (relPs X.K ks) (f env m) Q → tPairs trs σ G.H Q
theorem mps_nil {pos : Pos} : MPs X Wx pos [] [] [] aNil := ⟨[], pps_nil, fun env m σ G Q S R h => h [] G (Le.refl R) R ⟨rfl, .nil⟩⟩
theorem mps_cons {pos : Pos} {k v : Expr} {s : Str} {keys : List (Option Expr)} {values : List Expr} {ks : List Str} {f : EF} {g : AF} (hk : ME X Wx k (eC (.str s))) (hv : ME X Wx v f) (hr : MPs X Wx pos keys values ks g) :
    MPs X Wx pos (some k :: keys) (v :: values) (s :: ks) (aCons f g) := by
  obtain ⟨tk, pk, qk⟩ := hk
  obtain ⟨tv, pv, qv⟩ := hv
  obtain ⟨trs, pr, qr⟩ := hr
  refine ⟨_, pps_cons pk pv pr, fun env m σ G Q S R h => ?_⟩
  refine qk env m σ G _ S R (fun kv Gk lek Rk rk => ?_)
  cases rk
  refine qv env m σ Gk _ (S.mono lek) Rk (GPost.bind1 h lek fun x m1 w G1 le1 R1 q1 h1 => ?_)
  refine qr env m1 σ G1 _ ((S.mono lek).mono le1) R1 (GPost.bind1 h1 (lek.trans le1) fun xs m2 ps G2 le2 R2 q2 h2 => ?_)
  refine h2 ((.str s, w) :: ps) G2 ((lek.trans le1).trans le2) R2 ⟨by rw [List.map_cons, q2.1]; rfl, ?_⟩
  exact .cons ((q1.weak lek.tr).mono le2) (Paired.mono (fun _ _ z => z.weak (lek.trans le1).tr) q2.2)
def eDict (ks : List Str) (f : AF) (env : Env) (m : Mem) : Res W := (f env m).bind fun ws m1 => if ws.all (okW m1.length) = true then .ok (.obj m1.length) (m1 ++ [.dct (ks.zip ws)]) else .bad
theorem merge_nodup : ∀ {kvs acc : List (Key × V)}, ((acc ++ kvs).map (·.1)).Nodup → mergeK acc kvs = acc ++ kvs
  | [], acc, _ => by rw [List.append_nil]; rfl
  | p :: kvs, acc, h => by
    have h1 : (acc.any fun kv => decide (kv.1 = p.1)) = false := by
      rw [Bool.eq_false_iff]
      intro z
      obtain ⟨q, hq, e⟩ := List.any_eq_true.mp z
      rw [List.map_append, List.map_cons, List.nodup_append] at h
      exact h.2.2 q.1 (List.mem_map.mpr ⟨q, hq, rfl⟩) p.1 List.mem_cons_self (of_decide_eq_true e)
    have e : putK acc p.1 p.2 = acc ++ [p] := by
      unfold putK
      rw [h1, if_neg (by decide)]
    show mergeK (putK acc p.1 p.2) kvs = _
    rw [e, merge_nodup (by rw [List.append_assoc]; exact h), List.append_assoc]
    rfl
theorem zip_rel {K : PySem.W.Frag} {G : Wd} : ∀ {ks : List Str} {ps : List (V × V)} {ws : List W}, ps.map (·.1) = ks.map V.str → Paired (fun v w => RepW K G v w) (ps.map (·.2)) ws → DRel K G ((ks.map fun k => (Sum.inr k : Key)).zip (ps.map (·.2))) (ks.zip ws)
  | [], ps, ws, _, _ => .nil
  | k :: ks, [], ws, e, _ => by cases e
  | k :: ks, p :: ps, ws, e, r => by
    rw [List.map_cons, List.map_cons] at e
    rw [List.map_cons] at r
    cases r with
    | cons h t => exact .cons ⟨rfl, h⟩ (zip_rel (List.cons.inj e).2 t)
theorem zip_ps : ∀ {ks : List Str} {ps : List (V × V)}, ps.map (·.1) = ks.map V.str → ps = (((ks.map fun k => (Sum.inr k : Key)).zip (ps.map (·.2))).map fun kv => (kV kv.1, kv.2))
  | [], [], _ => rfl
  | [], _ :: _, e => by cases e
  | k :: ks, [], e => by cases e
  | k :: ks, p :: ps, e => by
    rw [List.map_cons, List.map_cons] at e
    have e1 : p.1 = V.str k := (List.cons.inj e).1
    have e2 := zip_ps (List.cons.inj e).2
    simp only [List.map_cons, List.zip_cons_cons]
    rw [← e2]
    congr 1
    obtain ⟨p1, p2⟩ := p
    have e1 : p1 = V.str k := e1
    rw [e1]
    rfl
theorem all_repW {n : Nat} {H0 : Hp} {G : Wd} : ∀ {vs : List V} {ws : List W}, RepRs X.K H0 G vs ws → ws.all (okW n) = true → Paired (fun v w => RepW X.K G v w) vs ws
  | _, _, .nil, _ => .nil
  | _, _, .cons h t, e => by
    rw [List.all_cons, Bool.and_eq_true] at e
    exact .cons (okW_rep h e.1) (all_repW t e.2)
theorem me_dict {pos : Pos} {keys : List (Option Expr)} {values : List Expr} {ks : List Str} {f : AF} (h : MPs X Wx pos keys values ks f) (hnd : ks.Nodup := by decide +kernel) (hall : keys.all (·.isSome) = true := by rfl) (hl : keys.length = values.length := by rfl) (h0 : keys ≠ [] := by exact fun h => nomatch h) (h15 : keys.length ≤ 15 := by decide) (hk : ks.length ≤ 15 := by decide) :
    ME X Wx (.Dict keys values pos) (eDict ks f) := by
  obtain ⟨trs, pr, qr⟩ := h
  refine ⟨_, pe_disp pr hall hl h0 h15, fun env m σ G Q S R h p hp => ?_⟩
  have le0 : Le G ⟨G.io, p :: G.lv, upd G.H p (.dK [])⟩ := Le.newL R hp
  have R0 : RelM X.K ⟨G.io, p :: G.lv, upd G.H p (.dK [])⟩ m := R.newL hp
  refine qr env m σ ⟨G.io, p :: G.lv, upd G.H p (.dK [])⟩ _ (S.mono le0) R0 (GPost.bind1 h le0 fun ws m1 ps G2 le2 R2 q2 h2 => ?_)
  have np : p ∉ G.io := (R.ne hp).1
  have hz : (⟨G.io, p :: G.lv, upd G.H p (.dK [])⟩ : Wd).H p = some (.dK []) := upd_same
  have k1 : G2.H p = some (.dK []) := le2.keep p _ hz fun z => np z.1
  have k2 : p ∈ G2.lv := le2.stay p List.mem_cons_self np
  have k3 : p ∉ G2.io := le2.nio (by rw [hz]; simp) np
  refine ⟨k1, _, zip_ps q2.1, ?_, ?_⟩
  · rw [List.length_zip, List.length_map]; omega
  · split at h2
    · rename_i ha
      have e : mergeK [] ((ks.map fun k => (Sum.inr k : Key)).zip (ps.map (·.2))) = (ks.map fun k => (Sum.inr k : Key)).zip (ps.map (·.2)) := by
        rw [merge_nodup, List.nil_append]
        rw [List.nil_append]
        have hs : ∀ (as : List Key) (bs : List V), as.Nodup → ((as.zip bs).map (·.1)).Nodup := by
          intro as
          induction as with
          | nil => intro bs _; exact List.nodup_nil
          | cons a as ih =>
            intro bs hn
            cases bs with
            | nil => exact List.nodup_nil
            | cons b bs =>
              rw [List.nodup_cons] at hn
              rw [List.zip_cons_cons, List.map_cons, List.nodup_cons]
              refine ⟨fun z => hn.1 ?_, ih bs hn.2⟩
              obtain ⟨q, hq, e⟩ := List.mem_map.mp z
              have e : q.1 = a := e
              rw [← e]
              exact (List.of_mem_zip hq).1
        refine hs _ _ ?_
        rw [List.Nodup, List.pairwise_map]
        exact List.Pairwise.imp (fun hne z => hne (Sum.inr.inj z)) hnd
      rw [e]
      have rd := zip_rel q2.1 (all_repW q2.2 ha)
      have R3 : RelM X.K ⟨G2.io, G2.lv, upd G2.H p (.dK ((ks.map fun k => (Sum.inr k : Key)).zip (ps.map (·.2))))⟩ m1 := R2.updL k2 k3
      have le3 : Le G ⟨G2.io, G2.lv, upd G2.H p (.dK ((ks.map fun k => (Sum.inr k : Key)).zip (ps.map (·.2))))⟩ := (le0.trans le2).updF hp
      have hko : okO m1.length (.dct (ks.zip ws)) = true := by
        show (ks.zip ws).all (fun q => okW m1.length q.2) = true
        rw [List.all_eq_true] at ha ⊢
        exact fun q hq => ha q.2 (List.of_mem_zip hq).2
      have R4 := R3.own (p := p) (ob := .dct (ks.zip ws)) k3 (by show upd _ _ _ _ ≠ none; rw [upd_same]; simp) ⟨k2, _, upd_same, Paired.mono (fun _ _ z => ⟨z.1, z.2.updL k2⟩) rd⟩ hko
      refine h2 (.ref p) _ (le3.own hp) R4 ⟨p, ?_, rfl⟩
      show (G2.io ++ [p])[m1.length]? = some p
      rw [← R2.len]
      simp
    · exact False.elim h2
end
end M

set_option Elab.async false
set_option linter.all false
set_option maxRecDepth 100000
/-! plain laws of the mirrors' operations -/
namespace M
open PySem L2
abbrev En := M.Env
/-! ### texts as lists of codes -/
def S (l : List Nat) : Str := ⟨l.toArray⟩
@[simp] theorem S_cps (l : List Nat) : (S l).cps.toList = l := rfl
@[simp] theorem S_len (l : List Nat) : (S l).length = l.length := rfl
@[simp] theorem S_app (a b : List Nat) : S a ++ S b = S (a ++ b) := by
  show Str.mk (a.toArray ++ b.toArray) = Str.mk (a ++ b).toArray
  rw [List.append_toArray]
theorem S_eta (x : Str) : x = S x.cps.toList := rfl
theorem S_inj {a b : List Nat} : S a = S b ↔ a = b := ⟨fun h => by have := congrArg (fun x : Str => x.cps.toList) h; exact this, fun h => by rw [h]⟩
@[simp] theorem S_beq (a b : List Nat) : (S a == S b) = decide (a = b) := by
  by_cases h : a = b
  · subst h; simp
  · rw [decide_eq_false h]
    exact beq_eq_false_iff_ne.mpr fun z => h (S_inj.mp z)
theorem S_one (c : Nat) : (⟨#[c]⟩ : Str) = S [c] := rfl
def okC (l : List Nat) : Bool := l.all (· < 0x110000)
theorem strOk_S (l : List Nat) : PyData.strOk (S l) = okC l := by
  unfold PyData.strOk S okC
  simp
@[simp] theorem shaped_str (l : List Nat) : SeqAt.shaped (.str (S l)) = okC l := by
  show ((PyData.str (S l)).canLay0 && decide ((PyData.str (S l)).depth ≤ 64)) = _
  simp [PyData.canLay0, PyData.depth, strOk_S]
@[simp] theorem shaped_int (i : Int) : SeqAt.shaped (.int i) = true := by
  show ((PyData.int i).canLay0 && decide ((PyData.int i).depth ≤ 64)) = _
  simp [PyData.canLay0, PyData.depth]
@[simp] theorem shaped_bool (i : Bool) : SeqAt.shaped (.bool i) = true := by
  show ((PyData.bool i).canLay0 && decide ((PyData.bool i).depth ≤ 64)) = _
  simp [PyData.canLay0, PyData.depth]
@[simp] theorem shaped_none : SeqAt.shaped .none = true := by
  show (PyData.none.canLay0 && decide (PyData.none.depth ≤ 64)) = _
  simp [PyData.canLay0, PyData.depth]
@[simp] theorem shaped_nil : SeqAt.shaped (.list []) = true := by
  show ((PyData.list []).canLay0 && decide ((PyData.list []).depth ≤ 64)) = _
  simp [PyData.canLay0, PyData.canLayAll0, PyData.depth, PyData.depthAll]
@[simp] theorem eqv_str (a b : Str) : PyData.eqv (.str a) (.str b) = (a == b) := by simp [PyData.eqv]
@[simp] theorem eqv_int (a b : Int) : PyData.eqv (.int a) (.int b) = (a == b) := by simp [PyData.eqv]
@[simp] theorem eqv_bool (a b : Bool) : PyData.eqv (.bool a) (.bool b) = (a == b) := by simp [PyData.eqv]
theorem canLayAll0_ints : ∀ ns : List Int, PyData.canLayAll0 (ns.map PyData.int) = true
  | [] => by simp [PyData.canLayAll0]
  | n :: ns => by simp [PyData.canLayAll0, PyData.canLay0, canLayAll0_ints ns]
theorem depthAll_ints : ∀ ns : List Int, PyData.depthAll (ns.map PyData.int) = 0
  | [] => by simp [PyData.depthAll]
  | n :: ns => by simp [PyData.depthAll, PyData.depth, depthAll_ints ns]
@[simp] theorem shaped_ints (ns : List Int) : SeqAt.shaped (.list (ns.map PyData.int)) = true := by
  show ((PyData.list (ns.map PyData.int)).canLay0 && decide ((PyData.list (ns.map PyData.int)).depth ≤ 64)) = _
  simp [PyData.canLay0, PyData.depth, canLayAll0_ints, depthAll_ints]
/-! ### operations -/
section
variable {m : Mem}
@[simp] theorem addW_int (i j : Int) : addW (.d (.int i)) (.d (.int j)) m = .ok (.d (.int (i + j))) m := rfl
@[simp] theorem subW_int (i j : Int) : subW (.d (.int i)) (.d (.int j)) m = .ok (.d (.int (i - j))) m := rfl
theorem mulW_r {i j : Int} (h : -(2 ^ 64) < j) (h' : j < 2 ^ 64) : mulW (.d (.int i)) (.d (.int j)) m = .ok (.d (.int (i * j))) m := by
  have e : mulOk i j = true := grd_t (.inl (.inr ⟨h, h'⟩))
  show (if mulOk i j = true then _ else _) = _
  rw [if_pos e]
theorem divW_lit {i j : Int} (h : divOk 0 j = true) : divW (.d (.int i)) (.d (.int j)) m = .ok (.d (.int (i / j))) m := by
  show (if divOk i j = true then _ else _) = _
  rw [if_pos (show divOk i j = true from h)]
theorem modW_pos {i j : Int} (h : 0 < j) : modW (.d (.int i)) (.d (.int j)) m = .ok (.d (.int (i % j))) m := by
  show (if modOk i j = true then _ else _) = _
  rw [if_pos (show modOk i j = true from grd_t h)]
@[simp] theorem ltW_int (i j : Int) : ltW (.d (.int i)) (.d (.int j)) m = .ok (.d (.bool (decide (i < j)))) m := rfl
@[simp] theorem leW_int (i j : Int) : leW (.d (.int i)) (.d (.int j)) m = .ok (.d (.bool (decide (i ≤ j)))) m := rfl
@[simp] theorem gtW_int (i j : Int) : gtW (.d (.int i)) (.d (.int j)) m = .ok (.d (.bool (decide (j < i)))) m := rfl
@[simp] theorem geW_int (i j : Int) : geW (.d (.int i)) (.d (.int j)) m = .ok (.d (.bool (decide (j ≤ i)))) m := rfl
@[simp] theorem addIW_int (i j : Int) : addIW (.d (.int i)) (.d (.int j)) m = .ok (.d (.int (i + j))) m := rfl
@[simp] theorem eqW_int (n : Bool) (i j : Int) : eqW n (.d (.int i)) (.d (.int j)) m = .ok (.d (.bool (ngB n (decide (i = j))))) m := by
  unfold eqW asD
  simp only [shaped_int, Bool.and_self, if_true, eqv_int]
  rfl
theorem eqW_str {n : Bool} {a b : List Nat} (ha : okC a = true) (hb : okC b = true) : eqW n (.d (.str (S a))) (.d (.str (S b))) m = .ok (.d (.bool (ngB n (decide (a = b))))) m := by
  unfold eqW asD
  simp only [shaped_str, ha, hb, Bool.and_self, if_true, eqv_str, S_beq]
  rfl
theorem addW_str {a b : List Nat} (h : a.length + b.length ≤ sizeLine) : addW (.d (.str (S a))) (.d (.str (S b))) m = .ok (.d (.str (S (a ++ b)))) m := by
  show (if (S a).length + (S b).length ≤ sizeLine then _ else _) = _
  rw [if_pos (show (S a).length + (S b).length ≤ sizeLine from h), S_app]
theorem atI_of {α : Type} {xs : List α} {i : Int} (h0 : 0 ≤ i) : L2.atI xs i = xs[i.toNat]? := by
  unfold L2.atI ixN
  rw [if_pos h0]
  by_cases h : i < xs.length
  · rw [if_pos h]; rfl
  · rw [if_neg h, List.getElem?_eq_none (by omega)]; rfl
@[simp] theorem atI_cast {α : Type} (xs : List α) (k : Nat) : L2.atI xs (k : Int) = xs[k]? := by rw [atI_of (by omega)]; simp
@[simp] theorem atI_zero {α : Type} (xs : List α) : L2.atI xs 0 = xs[0]? := atI_cast xs 0
@[simp] theorem atI_one {α : Type} (xs : List α) : L2.atI xs 1 = xs[1]? := atI_cast xs 1
@[simp] theorem atI_two {α : Type} (xs : List α) : L2.atI xs 2 = xs[2]? := atI_cast xs 2
theorem ixW_str {l : List Nat} {i : Int} {c : Nat} (hl : l.length ≤ sizeLine) (h : L2.atI l i = some c) : ixW (.d (.str (S l))) (.d (.int i)) m = .ok (.d (.str (S [c]))) m := by
  show (if (S l).length ≤ sizeLine then (match L2.atI (S l).cps.toList i with | some c => Res.ok (W.d (.str ⟨#[c]⟩)) m | none => .bad) else .bad) = _
  rw [if_pos (show (S l).length ≤ sizeLine from hl), S_cps, h]
  rfl
theorem ixW_tup {ds : List D} {i : Int} {c : D} (h : L2.atI ds i = some c) : ixW (.d (.tuple ds)) (.d (.int i)) m = .ok (.d c) m := by
  show (match L2.atI ds i with | some c => Res.ok (W.d c) m | none => .bad) = _
  rw [h]
end
section
variable {m : Mem}
@[simp] theorem divW_s {i j : Int} (h : 0 < j) (h' : j < 18446744073709551616) : divW (.d (.int i)) (.d (.int j)) m = .ok (.d (.int (i / j))) m := by
  refine divW_lit ?_
  refine grd_t ⟨h, ?_⟩
  have h2 : j.natAbs < 2 ^ 64 := by omega
  have := PySem.Flt.log2_lt_of (show 0 < 64 by decide) h2
  omega
@[simp] theorem modW_s {i j : Int} (h : 0 < j) : modW (.d (.int i)) (.d (.int j)) m = .ok (.d (.int (i % j))) m := modW_pos h
@[simp] theorem mulW_s {i j : Int} (h : -18446744073709551616 < j) (h' : j < 18446744073709551616) : mulW (.d (.int i)) (.d (.int j)) m = .ok (.d (.int (i * j))) m := mulW_r (by omega) (by omega)
theorem mulW_l {i j : Int} (h : -18446744073709551616 < i) (h' : i < 18446744073709551616) : mulW (.d (.int i)) (.d (.int j)) m = .ok (.d (.int (i * j))) m := by
  have e : mulOk i j = true := grd_t (.inl (.inl ⟨by omega, by omega⟩))
  show (if mulOk i j = true then _ else _) = _
  rw [if_pos e]
end
section
variable {m : Mem}
@[simp] theorem powW_s {i j : Int} (h : 0 ≤ j) (h' : j ≤ 1000000) (h2 : i.natAbs < 18446744073709551616) : powW (.d (.int i)) (.d (.int j)) m = .ok (.d (.int (i ^ j.toNat))) m := by
  have e : powOk i j = true := grd_t ⟨h, h', by omega⟩
  show (if powOk i j = true then _ else _) = _
  rw [if_pos e]
theorem popAt0 {i : Nat} {d : D} {ds : List D} (h : m[i]? = some (.lst (d :: ds))) : popAtW (.obj i) [.d (.int 0)] m = .ok (.d d) (m.set i (.lst ds)) := by
  have e : grd (-(2 ^ 63) ≤ (0 : Int) ∧ (0 : Int) < 2 ^ 63) = true := grd_t ⟨by decide, by decide⟩
  have e2 : asO (.obj i) m = some (i, d :: ds) := by simp [asO, h]
  have e3 : seqIndex? 0 (d :: ds).length = some 0 := by
    have := (ixN_seq (n := (d :: ds).length) (i := 0) (j := 0) (by unfold ixN; simp)).1
    exact this
  simp only [popAtW, e2]
  rw [if_pos e, e3]
  rfl
@[simp] theorem isTy_d_list (ds : List D) : isTyW "list" (.d (.list ds)) m = true := rfl
end
/-! ### cuts -/
@[simp] theorem sIx_none' (n d : Nat) : HT.sIx n d none = d := rfl
@[simp] theorem sIx_cast (n d k : Nat) : HT.sIx n d (some (k : Int)) = min k n := HT.sIx_nat n d k
theorem sIx_of {n d : Nat} {i : Int} (h : 0 ≤ i) : HT.sIx n d (some i) = min i.toNat n := by
  unfold HT.sIx
  dsimp only
  rw [if_neg (by omega)]
theorem cutD_take {xs : List D} {i : Int} (h : 0 ≤ i) : cutD xs none (some i) = xs.take i.toNat := by
  unfold cutD
  rw [sIx_none', sIx_of h, List.drop_zero, Nat.sub_zero, Nat.min_def]
  split
  · rfl
  · rw [List.take_length, List.take_of_length_le (by omega)]
theorem cutD_drop {xs : List D} {i : Int} (h : 0 ≤ i) : cutD xs (some i) none = xs.drop i.toNat := by
  unfold cutD
  rw [sIx_none', sIx_of h, Nat.min_def]
  split
  · exact List.take_of_length_le (by rw [List.length_drop]; omega)
  · rw [List.drop_eq_nil_of_le (by omega), List.drop_eq_nil_of_le (by omega)]
    simp
theorem cutD_mid {xs : List D} {i j : Int} (h : 0 ≤ i) (h' : 0 ≤ j) : cutD xs (some i) (some j) = (xs.take j.toNat).drop i.toNat := by
  unfold cutD
  rw [sIx_of h, sIx_of h']
  rw [List.drop_take]
  by_cases h1 : i.toNat ≤ xs.length
  · rw [Nat.min_eq_left h1]
    by_cases h2 : j.toNat ≤ xs.length
    · rw [Nat.min_eq_left h2]
    · rw [Nat.min_eq_right (by omega), List.take_of_length_le (by rw [List.length_drop]; omega), List.take_of_length_le (by rw [List.length_drop]; omega)]
  · rw [List.drop_eq_nil_of_le (by omega), List.drop_eq_nil_of_le (by omega)]
    simp
theorem cutS_S (l : List Nat) (lo hi : Option Int) : cutS (S l) lo hi = S ((l.drop (HT.sIx l.length 0 lo)).take (HT.sIx l.length l.length hi - HT.sIx l.length 0 lo)) := rfl
theorem cutS_take {l : List Nat} {i : Int} (h : 0 ≤ i) : cutS (S l) none (some i) = S (l.take i.toNat) := by
  rw [cutS_S, sIx_none', sIx_of h, List.drop_zero, Nat.sub_zero, Nat.min_def]
  split
  · rfl
  · rw [List.take_length, List.take_of_length_le (by omega)]
theorem cutS_drop {l : List Nat} {i : Int} (h : 0 ≤ i) : cutS (S l) (some i) none = S (l.drop i.toNat) := by
  rw [cutS_S, sIx_none', sIx_of h, Nat.min_def]
  split
  · rw [List.take_of_length_le (by rw [List.length_drop]; omega)]
  · rw [List.drop_eq_nil_of_le (by omega), List.drop_eq_nil_of_le (by omega)]
    simp
theorem cutS_mid {l : List Nat} {i j : Int} (h : 0 ≤ i) (h' : 0 ≤ j) : cutS (S l) (some i) (some j) = S ((l.take j.toNat).drop i.toNat) := by
  rw [cutS_S, sIx_of h, sIx_of h', List.drop_take]
  congr 1
  by_cases h1 : i.toNat ≤ l.length
  · rw [Nat.min_eq_left h1]
    by_cases h2 : j.toNat ≤ l.length
    · rw [Nat.min_eq_left h2]
    · rw [Nat.min_eq_right (by omega), List.take_of_length_le (by rw [List.length_drop]; omega), List.take_of_length_le (by rw [List.length_drop]; omega)]
  · rw [List.drop_eq_nil_of_le (by omega), List.drop_eq_nil_of_le (by omega)]
    simp
theorem cutS_last {l : List Nat} : cutS (S l) none (some (-1)) = S l.dropLast := by
  rw [cutS_S, sIx_none', List.drop_zero, Nat.sub_zero, List.dropLast_eq_take]
  congr 2
  unfold HT.sIx
  dsimp only
  rw [if_pos (by decide)]
  omega
theorem atI_neg1 {α : Type} {xs : List α} {x : α} : L2.atI (xs ++ [x]) (-1) = some x := atI_last xs x
/-! ### join, index -/
theorem join_nil : ∀ ls : List (List Nat), Txt.join (S []) (ls.map S) = S ls.flatten := by
  have : ∀ ls : List (List Nat), Str.join (S []) (ls.map S) = S ls.flatten := by
    intro ls
    induction ls with
    | nil => rfl
    | cons a r ih =>
      cases r with
      | nil => show S a = S (List.flatten [a]); simp
      | cons b r => show S a ++ S [] ++ Str.join (S []) ((b :: r).map S) = _; rw [ih, S_app, S_app]; simp
  intro ls
  show Builtin.Str.glued (S []) (ls.map S) = _
  rw [StrLaws.glued_eq_join]
  exact this ls
theorem joinW_nil {m : Mem} {w : W} {ls : List (List Nat)} (h : asL w m = some (ls.map fun l => .str (S l))) (ht : ∀ ds, w ≠ .d (.tuple ds)) (hl : ls.flatten.length ≤ 16777216) : joinW (.d (.str (S []))) [w] m = .ok (.d (.str (S ls.flatten))) m := by
  have e : dStrs (ls.map fun l => .str (S l)) = some (ls.map S) := by
    have := dStrs_strs (ls.map S)
    rwa [List.map_map] at this
  have hz : ((ls.map S).map (·.length)).sum + (ls.map S).length * (S []).length ≤ 16777216 := by
    have e2 : ((ls.map S).map (·.length)).sum = ls.flatten.length := by
      rw [List.map_map, List.length_flatten]
      rfl
    rw [e2]
    simpa using hl
  have go : ∀ w : W, asL w m = some (ls.map fun l => .str (S l)) → (∀ ds, w ≠ .d (.tuple ds)) → joinW (.d (.str (S []))) [w] m = match (asL w m).bind dStrs with
      | some ys => if (ys.map (·.length)).sum + ys.length * (S []).length ≤ 16777216 then .ok (.d (.str (Txt.join (S []) ys))) m else .bad
      | none => .bad := fun w _ ht => by
    cases w with
    | d x =>
      cases x with
      | tuple ds => exact absurd rfl (ht ds)
      | _ => rfl
    | _ => rfl
  rw [go w h ht, h, Option.bind_some, e]
  show (if _ then _ else _) = _
  rw [if_pos hz, join_nil]
theorem sindexW_one {m : Mem} {l : List Nat} {c i : Nat} (h : l[i]? = some c) (hu : ∀ k, k < i → l[k]? ≠ some c) : sindexW (.d (.str (S l))) [.d (.str (S [c]))] m = .ok (.d (.int (i : Int))) m := by
  have key : ∃ r, Builtin.Str.occurrences (S l) (S [c]) 0 (S l).length 1 = i :: r := by
    rcases StrLaws.occ_head (S l) (S [c]) 1 (Nat.le_refl _) with ⟨_, hn⟩ | ⟨j, r, e, ha, hn⟩
    · exact absurd ((StrLaws.subAt_one (S l) c i).mpr h) (hn i)
    · have hj : l[j]? = some c := (StrLaws.subAt_one (S l) c j).mp ha
      have hji : ¬ j < i := fun z => hu j z hj
      have hij : ¬ i < j := fun z => hn i z ((StrLaws.subAt_one (S l) c i).mpr h)
      have : j = i := by omega
      subst this
      exact ⟨r, e⟩
  obtain ⟨r, e⟩ := key
  show (match Builtin.Str.occurrences (S l) (S [c]) 0 (S l).length 1 with | i :: _ => Res.ok (W.d (.int (i : Int))) m | [] => .bad) = _
  rw [e]
/-! ### memory: a list of objects -/
@[simp] theorem mem_last (m : Mem) (o : O) : (m ++ [o])[m.length]? = some o := by simp
@[simp] theorem mem_set_last (m : Mem) (o p : O) : (m ++ [o]).set m.length p = m ++ [p] := by simp
@[simp] theorem mem_take (m : Mem) (l : List O) : (m ++ l).take m.length = m := by simp
/-! ### loops -/
theorem forM_inv {chk : Mem → Bool} {b : W → SF} (P : Nat → Env → Mem → Prop) : ∀ {xs : List W} {env : Env} {m : Mem} (k : Nat),
    (∀ i w env m, xs[i]? = some w → P (k + i) env m → chk m = true ∧ ∃ env' m', (b w env m = .nx env' m' ∨ b w env m = .ct env' m') ∧ P (k + i + 1) env' m') →
    (∀ env m, P (k + xs.length) env m → chk m = true) → P k env m → ∃ env' m', forM chk b xs env m = .nx env' m' ∧ P (k + xs.length) env' m'
  | [], env, m, k, _, he, h => ⟨env, m, by
      have := he env m h
      simp only [forM, this, if_true], h⟩
  | x :: xs, env, m, k, hs, he, h => by
    obtain ⟨hc, env', m', hb, h'⟩ := hs 0 x env m rfl h
    have ih := forM_inv P (xs := xs) (env := env') (m := m') (k + 1) (fun i w e1 m1 hi hp => by
      have := hs (i + 1) w e1 m1 hi (by rw [← Nat.add_assoc, Nat.add_right_comm]; exact hp)
      rw [← Nat.add_assoc, Nat.add_right_comm k i 1] at this
      exact this) (fun e1 m1 hp => he e1 m1 (by rw [List.length_cons, Nat.add_comm xs.length 1, ← Nat.add_assoc]; exact hp)) h'
    obtain ⟨e2, m2, h1, h2⟩ := ih
    refine ⟨e2, m2, ?_, by rw [List.length_cons, Nat.add_comm xs.length 1, ← Nat.add_assoc]; exact h2⟩
    rcases hb with hb | hb
    · simp only [forM, hc, if_true, hb]; exact h1
    · simp only [forM, hc, if_true, hb]; exact h1
/-- a loop over a list that stays: what holds between the turns -/
theorem for_inv {b : W → SF} {xs : List W} {env : Env} {m : Mem} (P : Nat → Env → Mem → Prop) (h0 : P 0 env m)
    (hs : ∀ i w env m, xs[i]? = some w → P i env m → ∃ env' m', (b w env m = .nx env' m' ∨ b w env m = .ct env' m') ∧ P (i + 1) env' m') : ∃ env' m', forM yesM b xs env m = .nx env' m' ∧ P xs.length env' m' := by
  have := forM_inv (chk := yesM) (b := b) P (xs := xs) (env := env) (m := m) 0 (fun i w e m hi hp => ⟨rfl, by rw [Nat.zero_add] at hp ⊢; exact hs i w e m hi hp⟩) (fun _ _ _ => rfl) h0
  rwa [Nat.zero_add] at this
theorem rng_get {lo : Int} {n i : Nat} {w : W} (h : (rngI lo n).xs[i]? = some w) : i < n ∧ w = .d (.int (lo + (i : Int))) := by
  have hi : i < n := by
    have := (List.getElem?_eq_some_iff.mp h).1
    simpa [rngI] using this
  have h : ((List.range n).map fun (k : Nat) => (W.d (.int (lo + (k : Int))) : W))[i]? = some w := h
  rw [List.getElem?_map, List.getElem?_range hi] at h
  cases h
  exact ⟨hi, rfl⟩
@[simp] theorem rng_len (lo : Int) (n : Nat) : (rngI lo n).xs.length = n := by simp [rngI]
/-- for k in range(..) -/
theorem forR_inv {b : W → SF} {lo : Int} {n : Nat} {env : Env} {m : Mem} (P : Nat → Env → Mem → Prop) (h0 : P 0 env m)
    (hs : ∀ (i : Nat) env m, i < n → P i env m → ∃ env' m', (b (.d (.int (lo + (i : Int)))) env m = .nx env' m' ∨ b (.d (.int (lo + (i : Int)))) env m = .ct env' m') ∧ P (i + 1) env' m') : ∃ env' m', forM (rngI lo n).chk b (rngI lo n).xs env m = .nx env' m' ∧ P n env' m' := by
  have := for_inv (b := b) (xs := (rngI lo n).xs) P h0 fun i w e m hi hp => by
    obtain ⟨h1, rfl⟩ := rng_get hi
    exact hs i e m h1 hp
  rwa [rng_len] at this
theorem while_inv {c : TF} {b : SF} (P : Nat → Env → Mem → Prop) (Z : Env → Mem → Prop)
    (hs : ∀ k env m, P k env m → (∃ m1, c env m = .ok false m1 ∧ Z env m1) ∨ (∃ m1 env' m' k', c env m = .ok true m1 ∧ (b env m1 = .nx env' m' ∨ b env m1 = .ct env' m') ∧ k' < k ∧ P k' env' m')) :
    ∀ (n k : Nat) (env : Env) (m : Mem), k < n → P k env m → ∃ env' m', whileM c b n env m = .nx env' m' ∧ Z env' m'
  | 0, k, env, m, hk, _ => absurd hk (Nat.not_lt_zero _)
  | n + 1, k, env, m, hk, h => by
    rcases hs k env m h with ⟨m1, h1, h2⟩ | ⟨m1, env', m', k', h1, h2, h3, h4⟩
    · exact ⟨env, m1, by simp only [whileM, h1, eS_ok]; rfl, h2⟩
    · obtain ⟨e2, m2, h5, h6⟩ := while_inv P Z hs n k' env' m' (by omega) h4
      refine ⟨e2, m2, ?_, h6⟩
      rcases h2 with h2 | h2
      · simp only [whileM, h1, eS_ok, if_true, h2]; exact h5
      · simp only [whileM, h1, eS_ok, if_true, h2]; exact h5
def stepOk (r : SRes) (Q : Env → Mem → Prop) : Prop := match r with
  | .nx e m => Q e m
  | .ct e m => Q e m
  | _ => False
@[simp] theorem stepOk_nx (e : Env) (m : Mem) (Q : Env → Mem → Prop) : stepOk (.nx e m) Q = Q e m := rfl
@[simp] theorem stepOk_ct (e : Env) (m : Mem) (Q : Env → Mem → Prop) : stepOk (.ct e m) Q = Q e m := rfl
theorem stepOk_ex {r : SRes} {Q : Env → Mem → Prop} (h : stepOk r Q) : ∃ env' m', (r = .nx env' m' ∨ r = .ct env' m') ∧ Q env' m' := by
  cases r with
  | nx e m => exact ⟨e, m, .inl rfl, h⟩
  | ct e m => exact ⟨e, m, .inr rfl, h⟩
  | _ => exact False.elim h
def Res.wp {α : Type} (r : Res α) (Q : α → Mem → Prop) : Prop := match r with
  | .ok a m => Q a m
  | _ => False
@[simp] theorem Res.wp_ok {α : Type} (a : α) (m : Mem) (Q : α → Mem → Prop) : (Res.ok a m).wp Q = Q a m := rfl
theorem Res.wp_ex {α : Type} {r : Res α} {Q : α → Mem → Prop} (h : r.wp Q) : ∃ a m, r = .ok a m ∧ Q a m := by
  cases r with
  | ok a m => exact ⟨a, m, rfl, h⟩
  | _ => exact False.elim h
theorem for_ex {b : W → SF} {xs : List W} {env : Env} {m : Mem} {res : SRes} (hx : forM yesM b xs env m = res) (P : Nat → Env → Mem → Prop) (h0 : P 0 env m)
    (hs : ∀ i w env m, xs[i]? = some w → P i env m → stepOk (b w env m) (P (i + 1))) : ∃ env' m', res = .nx env' m' ∧ P xs.length env' m' := by
  obtain ⟨e, m', h1, h2⟩ := for_inv P h0 fun i w e m hi hp => stepOk_ex (hs i w e m hi hp)
  exact ⟨e, m', hx.symm.trans h1, h2⟩
theorem forR_ex {b : W → SF} {lo : Int} {n : Nat} {env : Env} {m : Mem} {res : SRes} (hx : forM (rngI lo n).chk b (rngI lo n).xs env m = res) (P : Nat → Env → Mem → Prop) (h0 : P 0 env m)
    (hs : ∀ (i : Nat) env m, i < n → P i env m → stepOk (b (.d (.int (lo + (i : Int)))) env m) (P (i + 1))) : ∃ env' m', res = .nx env' m' ∧ P n env' m' := by
  obtain ⟨e, m', h1, h2⟩ := forR_inv P h0 fun i e m hi hp => stepOk_ex (hs i e m hi hp)
  exact ⟨e, m', hx.symm.trans h1, h2⟩
theorem while_ex {c : TF} {b : SF} {n k : Nat} {env : Env} {m : Mem} {res : SRes} (hx : whileM c b n env m = res) (P : Nat → Env → Mem → Prop) (Z : Env → Mem → Prop) (h0 : P k env m) (hk : k < n)
    (hs : ∀ k env m, P k env m → (c env m).wp fun t m1 => if t = true then stepOk (b env m1) (fun e m' => ∃ k', k' < k ∧ P k' e m') else Z env m1) : ∃ env' m', res = .nx env' m' ∧ Z env' m' := by
  obtain ⟨e, m', h1, h2⟩ := while_inv (c := c) (b := b) P Z (fun k env m hp => by
    obtain ⟨t, m1, e1, h1⟩ := Res.wp_ex (hs k env m hp)
    cases t with
    | false => exact .inl ⟨m1, e1, by simpa using h1⟩
    | true =>
      simp only [if_true] at h1
      obtain ⟨e2, m2, h2, k', h3, h4⟩ := stepOk_ex h1
      exact .inr ⟨m1, e2, m2, k', e1, h2, h3, h4⟩) n k env m hk h0
  exact ⟨e, m', hx.symm.trans h1, h2⟩
theorem rng1_ok {j : Int} {m : Mem} (h : -1000000 ≤ j) (h' : j ≤ 1000000) : rng1 [.d (.int j)] m = .ok (rngI 0 j.toNat) m := by
  have e : smallI j = true := grd_t ⟨by omega, by omega⟩
  simp only [rng1, e, if_true]
theorem rng2_ok {i j : Int} {m : Mem} (h : -1000000 ≤ i) (h' : i ≤ 1000000) (h1 : -1000000 ≤ j) (h2 : j ≤ 1000000) : rng2 [.d (.int i), .d (.int j)] m = .ok (rngI i (j - i).toNat) m := by
  have e : (smallI i && smallI j) = true := by
    rw [Bool.and_eq_true]
    exact ⟨grd_t ⟨by omega, by omega⟩, grd_t ⟨by omega, by omega⟩⟩
  simp only [rng2, e, if_true]
/-! ### statement by statement -/
def WP (Z : SRes → Prop) (r : SRes) : Prop := Z r
def thenZ (b : SF) (Z : SRes → Prop) (r : SRes) : Prop := match r with
  | .nx e m => WP Z (b e m)
  | r => Z r
section
variable {Z : SRes → Prop} {a b : SF} {env e : En} {m m1 : Mem}
theorem wp_seq (h : WP (thenZ b Z) (a env m)) : WP Z (sSeq a b env m) := by
  have h : thenZ b Z (a env m) := h
  unfold WP sSeq
  cases q : a env m with
  | nx e m1 => rw [q] at h; exact h
  | bk e m1 => rw [q] at h; exact h
  | ct e m1 => rw [q] at h; exact h
  | rt w m1 => rw [q] at h; exact h
  | err x e m1 => rw [q] at h; exact h
  | bad => rw [q] at h; exact h
/-- a statement that goes on -/
theorem wp_go (h : a env m = .nx e m1) (k : WP Z (b e m1)) : WP Z (sSeq a b env m) := by
  unfold WP sSeq
  rw [h]
  exact k
theorem wp_nx (k : WP Z (b env m)) : WP (thenZ b Z) (sNx env m) := k
theorem wp_then (h : a env m = .nx e m1) (k : WP Z (b e m1)) : WP (thenZ b Z) (a env m) := by
  unfold WP
  rw [h]
  exact k
theorem wp_eq (h : a env m = r) (k : Z r) : WP Z (a env m) := by
  unfold WP
  rw [h]
  exact k
theorem wp_ret {f : EF} {w : W} (h : f env m = .ok w m1) (k : Z (.rt w m1)) : WP Z (sRet f env m) := by
  unfold WP sRet
  rw [h]
  exact k
theorem wp_ifT {c : TF} (h : c env m = .ok true m1) (k : WP Z (a env m1)) : WP Z (sIf c a b env m) := by
  unfold WP sIf
  rw [h]
  exact k
theorem wp_ifF {c : TF} (h : c env m = .ok false m1) (k : WP Z (b env m1)) : WP Z (sIf c a b env m) := by
  unfold WP sIf
  rw [h]
  exact k
theorem wp_if {c : TF} {t : Bool} (h : c env m = .ok t m1) (k : t = true → WP Z (a env m1)) (k' : t = false → WP Z (b env m1)) : WP Z (sIf c a b env m) := by
  cases t with
  | true => exact wp_ifT h (k rfl)
  | false => exact wp_ifF h (k' rfl)
theorem wp_forR {it : IF} {g : GF} {lo : Int} {n : Nat} (hi : it env m = .ok (rngI lo n) m1) (P : Nat → En → Mem → Prop) (h0 : P 0 env m1) (hs : ∀ (i : Nat) env m, i < n → P i env m → stepOk (sTg g b (.d (.int (lo + (i : Int)))) env m) (P (i + 1)))
    (k : ∀ e m', P n e m' → Z (.nx e m')) : WP Z (sFor it g b env m) := by
  unfold WP sFor
  rw [hi, eS_ok]
  obtain ⟨e, m', h1, h2⟩ := forR_ex rfl P h0 hs
  rw [h1]
  exact k e m' h2
theorem wp_forL {it : IF} {g : GF} {ds : List D} (hi : it env m = .ok (itsL ds) m1) (P : Nat → En → Mem → Prop) (h0 : P 0 env m1) (hs : ∀ (i : Nat) d env m, ds[i]? = some d → P i env m → stepOk (sTg g b (.d d) env m) (P (i + 1)))
    (k : ∀ e m', P ds.length e m' → Z (.nx e m')) : WP Z (sFor it g b env m) := by
  unfold WP sFor
  rw [hi, eS_ok]
  obtain ⟨e, m', h1, h2⟩ := for_ex (b := sTg g b) (xs := (itsL ds).xs) rfl P h0 fun i w env m hw hp => by
    have hw : (ds.map W.d)[i]? = some w := hw
    rw [List.getElem?_map] at hw
    cases q : ds[i]? with
    | none => rw [q] at hw; cases hw
    | some d => rw [q] at hw; cases hw; exact hs i d env m q hp
  have h1 : M.forM (itsL ds).chk (sTg g b) (itsL ds).xs env m1 = .nx e m' := h1
  rw [h1]
  refine k e m' ?_
  have hl : (itsL ds).xs.length = ds.length := by simp [itsL]
  rw [hl] at h2
  exact h2
theorem wp_while {c : TF} {n k0 : Nat} (P : Nat → En → Mem → Prop) (Y : En → Mem → Prop) (h0 : P k0 env m) (hk : k0 < n)
    (hs : ∀ k env m, P k env m → (c env m).wp fun t m1 => if t = true then stepOk (b env m1) (fun e m' => ∃ k', k' < k ∧ P k' e m') else Y env m1)
    (k : ∀ e m', Y e m' → Z (.nx e m')) : WP Z (whileM c b n env m) := by
  obtain ⟨e, m', h1, h2⟩ := while_ex rfl P Y h0 hk hs
  unfold WP
  rw [h1]
  exact k e m' h2
theorem wp_sForR {c : SF} {it : IF} {g : GF} {lo : Int} {n : Nat} (hi : it env m = .ok (rngI lo n) m1) (P : Nat → En → Mem → Prop) (h0 : P 0 env m1) (hs : ∀ (i : Nat) env m, i < n → P i env m → stepOk (sTg g b (.d (.int (lo + (i : Int)))) env m) (P (i + 1)))
    (k : ∀ e m', P n e m' → WP Z (c e m')) : WP Z (sSeq (sFor it g b) c env m) := wp_seq (wp_forR hi P h0 hs k)
theorem wp_sForL {c : SF} {it : IF} {g : GF} {ds : List D} (hi : it env m = .ok (itsL ds) m1) (P : Nat → En → Mem → Prop) (h0 : P 0 env m1) (hs : ∀ (i : Nat) d env m, ds[i]? = some d → P i env m → stepOk (sTg g b (.d d) env m) (P (i + 1)))
    (k : ∀ e m', P ds.length e m' → WP Z (c e m')) : WP Z (sSeq (sFor it g b) c env m) := wp_seq (wp_forL hi P h0 hs k)
theorem wp_sWhile {d : SF} {c : TF} {n k0 : Nat} (P : Nat → En → Mem → Prop) (Y : En → Mem → Prop) (h0 : P k0 env m) (hk : k0 < n)
    (hs : ∀ k env m, P k env m → (c env m).wp fun t m1 => if t = true then stepOk (b env m1) (fun e m' => ∃ k', k' < k ∧ P k' e m') else Y env m1)
    (k : ∀ e m', Y e m' → WP Z (d e m')) : WP Z (sSeq (whileM c b n) d env m) := wp_seq (wp_while P Y h0 hk hs k)
theorem wp_sIfT {c : TF} {d : SF} (h : c env m = .ok true m1) (k : WP (thenZ d Z) (a env m1)) : WP Z (sSeq (sIf c a b) d env m) := wp_seq (wp_ifT h k)
theorem wp_sIfF {c : TF} {d : SF} (h : c env m = .ok false m1) (k : WP (thenZ d Z) (b env m1)) : WP Z (sSeq (sIf c a b) d env m) := wp_seq (wp_ifF h k)
/-- if c: return .. -/
theorem wp_sIfN {c : TF} {d : SF} (h : c env m = .ok false m1) (k : WP Z (d env m1)) : WP Z (sSeq (sIf c a sNx) d env m) := wp_seq (wp_ifF h (wp_nx k))
theorem wp_sIfR {c : TF} {d : SF} {f : EF} {w : W} {m2 : Mem} (h : c env m = .ok true m1) (hf : f env m1 = .ok w m2) (k : Z (.rt w m2)) : WP Z (sSeq (sIf c (sRet f) b) d env m) := wp_seq (wp_ifT h (wp_ret hf k))
mutual
theorem beqD_refl : ∀ (d : D), d.canLay0 = true → beqD d d = true
  | .none, _ => by simp [beqD]
  | .bool a, _ => by simp [beqD]
  | .int a, _ => by simp [beqD]
  | .str a, _ => by simp [beqD]
  | .list a, h => by
    simp only [beqD]
    exact beqDs_refl a (by simpa [PyData.canLay0] using h)
  | .tuple a, h => by
    simp only [beqD]
    exact beqDs_refl a (by simpa [PyData.canLay0] using h)
  | .dict a, h => by simp [PyData.canLay0] at h
theorem beqDs_refl : ∀ (ds : List D), PyData.canLayAll0 ds = true → beqDs ds ds = true
  | [], _ => by simp [beqDs]
  | d :: ds, h => by
    simp only [PyData.canLayAll0, Bool.and_eq_true] at h
    simp only [beqDs, Bool.and_eq_true]
    exact ⟨beqD_refl d h.1, beqDs_refl ds h.2⟩
end
theorem sameM_of {i : Nat} {ds : List D} {m : Mem} (h : asL (.obj i) m = some ds) (hc : PyData.canLayAll0 ds = true) : sameM i ds m = true := by
  unfold sameM
  rw [h]
  exact beqDs_refl ds hc
/-- a loop over an object that stays as it is -/
theorem wp_sForO {c : SF} {it : IF} {g : GF} {o : Nat} {ds : List D} (hi : it env m = .ok ⟨ds.map .d, sameM o ds⟩ m1) (hc : PyData.canLayAll0 ds = true) (P : Nat → En → Mem → Prop) (h0 : P 0 env m1) (ho : ∀ i env m, P i env m → asL (.obj o) m = some ds)
    (hs : ∀ (i : Nat) d env m, ds[i]? = some d → P i env m → stepOk (sTg g b (.d d) env m) (P (i + 1)))
    (k : ∀ e m', P ds.length e m' → WP Z (c e m')) : WP Z (sSeq (sFor it g b) c env m) := by
  refine wp_seq ?_
  unfold WP sFor
  rw [hi, eS_ok]
  obtain ⟨e, m', h1, h2⟩ := forM_inv (chk := sameM o ds) (b := sTg g b) P (xs := ds.map .d) (env := env) (m := m1) 0 (fun i w env m hw hp => by
    rw [Nat.zero_add] at hp ⊢
    refine ⟨sameM_of (ho i env m hp) hc, ?_⟩
    rw [List.getElem?_map] at hw
    cases q : ds[i]? with
    | none => rw [q] at hw; cases hw
    | some d => rw [q] at hw; cases hw; exact stepOk_ex (hs i d env m q hp)) (fun env m hp => sameM_of (ho _ env m hp) hc) h0
  have h1 : M.forM (sameM o ds) (sTg g b) (ds.map .d) env m1 = .nx e m' := h1
  show thenZ c Z (M.forM (sameM o ds) (sTg g b) (ds.map .d) env m1)
  rw [h1]
  refine k e m' ?_
  rw [Nat.zero_add, List.length_map] at h2
  exact h2
def outF (n : Nat) (r : SRes) : Res W := match r with
  | .rt w m' => finM n w m'
  | .nx _ m' => finM n (.d .none) m'
  | .err e _ m' => .err e (m'.take n)
  | _ => .bad
theorem run_wp {Q : Res W → Prop} {N : Nat} {g : SF} {ws : List W} (h : WP (fun r => Q (outF m.length r)) (g (env0 N ws) m)) : Q (runF N g ws m) := by
  have h : Q (outF m.length (g (env0 N ws) m)) := h
  unfold outF at h
  unfold runF
  exact h
/-- a value handed back, nothing kept -/
@[simp] theorem outF_d (x : D) (l : List O) : outF m.length (.rt (.d x) (m ++ l)) = .ok (.d x) m := by simp [outF, finM]
@[simp] theorem outF_d0 (x : D) : outF m.length (.rt (.d x) m) = .ok (.d x) m := by simp [outF, finM]
@[simp] theorem outF_fl (x : List D) (l : List O) : outF m.length (.rt (.fl x) (m ++ l)) = .ok (.fl x) m := by simp [outF, finM]
@[simp] theorem outF_fl0 (x : List D) : outF m.length (.rt (.fl x) m) = .ok (.fl x) m := by simp [outF, finM]
theorem outF_obj {i : Nat} {l : List O} {ds : List D} (h : l[i]? = some (.lst ds)) : outF m.length (.rt (.obj (m.length + i)) (m ++ l)) = .ok (.fl ds) m := by
  have e : (m ++ l)[m.length + i]? = some (.lst ds) := by rw [List.getElem?_append_right (by omega), Nat.add_sub_cancel_left]; exact h
  simp only [outF, finM]
  rw [if_neg (by omega), e]
  simp
end
/-! ### comprehensions -/
theorem lcM_pure {b : W → Mem → Res (Option D)} {f : W → Option D} {m : Mem} : ∀ {xs : List W} {acc : List D}, (∀ w ∈ xs, b w m = .ok (f w) m) → acc.length + xs.length ≤ sizeLine → lcM yesM b xs acc m = .ok (.fl (acc ++ xs.filterMap f)) m
  | [], acc, _, _ => by simp [lcM, yesM]
  | x :: xs, acc, h, hl => by
    have hx := h x List.mem_cons_self
    simp only [List.length_cons] at hl
    simp only [lcM, yesM, if_true, hx, Res.bind_ok]
    cases e : f x with
    | none =>
      simp only [List.filterMap_cons, e]
      exact lcM_pure (fun w hw => h w (List.mem_cons_of_mem _ hw)) (by omega)
    | some d =>
      simp only [List.filterMap_cons, e]
      rw [if_pos (by omega)]
      have := lcM_pure (b := b) (f := f) (m := m) (xs := xs) (acc := acc ++ [d]) (fun w hw => h w (List.mem_cons_of_mem _ hw)) (by rw [List.length_append, List.length_singleton]; omega)
      rw [show acc ++ d :: xs.filterMap f = (acc ++ [d]) ++ xs.filterMap f by simp]
      exact this
theorem lc_map {b : W → Mem → Res (Option D)} {m : Mem} {ds : List D} {f : D → D} (h : ∀ d ∈ ds, b (.d d) m = .ok (some (f d)) m) (hl : ds.length ≤ sizeLine) : lcM yesM b (ds.map .d) [] m = .ok (.fl (ds.map f)) m := by
  have := lcM_pure (b := b) (f := fun w => match w with | .d d => some (f d) | _ => none) (m := m) (xs := ds.map .d) (acc := []) (fun w hw => by
    obtain ⟨d, hd, rfl⟩ := List.mem_map.mp hw
    exact h d hd) (by simpa using hl)
  rw [this, List.nil_append, List.filterMap_map]
  congr 2
  clear this h hl
  induction ds with
  | nil => rfl
  | cons d ds ih => simp [List.filterMap_cons, ih]
end M

set_option Elab.async false
set_option linter.all false
set_option maxRecDepth 100000
namespace K10
open PySem L2 M
def c_LETTERS : D := (.str (Str.ofString "abcdefghijklmnopqrstuvwxyz"))
def c_LONGEST : D := (.int 8)
def c_MOST_BASICS : D := (.int 12)
noncomputable def b1_word_end : SF :=
    (sAug 1 addIW (eC (.int 1)))
noncomputable def m_word_end : SF :=
    (sSeq (whileM (tAndF (tBool (eOp ltW (eVar 1) (eCall lenW (aCons (eVar 0) aNil)))) (tBool (eOp (inW false) (eOp ixW (eVar 0) (eVar 1)) (eC c_LETTERS)))) b1_word_end 1000)
    (sRet (eVar 1)))
noncomputable def F_word_end : FF := runF 2 m_word_end
noncomputable def m_kind_at (r_kind_at : FF) : SF :=
    (sSeq (sIf (tBool (eOp (eqW true) (eSl slW (eVar 0) (oSome (eVar 1)) (oSome (eOp addW (eVar 1) (eC (.int 1))))) (eC (.str (Str.ofString "("))))) (sSeq (sAsg (eFrz (eCallF F_word_end (aCons (eVar 0) (aCons (eVar 1) aNil)))) (gSet 3))
    (sSeq (sIf (tNotF (tBool (eChain leW leW (eC (.int 1)) (eOp subW (eVar 3) (eVar 1)) (eC c_LONGEST)))) sBad sNx)
    (sRet (eTup (aCons (eFrz (eSl slW (eVar 0) (oSome (eVar 1)) (oSome (eVar 3)))) (aCons (eVar 3) aNil)))))) sNx)
    (sSeq (sIf (tBool (eOp geW (eOp addW (eVar 2) (eC (.int 1))) (eC c_MOST_BASICS))) sBad sNx)
    (sSeq (sAsg (eFrz (eCallF r_kind_at (aCons (eVar 0) (aCons (eOp addW (eVar 1) (eC (.int 1))) (aCons (eOp addW (eVar 2) (eC (.int 1))) aNil))))) (gTupF 2 (gsCons (gSet 4) (gsCons (gSet 1) gsNil))))
    (sSeq (sIf (tBool (eOp (eqW true) (eSl slW (eVar 0) (oSome (eVar 1)) (oSome (eOp addW (eVar 1) (eC (.int 1))))) (eC (.str (Str.ofString ">"))))) sBad sNx)
    (sSeq (sAsg (eFrz (eCallF r_kind_at (aCons (eVar 0) (aCons (eOp addW (eVar 1) (eC (.int 1))) (aCons (eOp addW (eVar 2) (eC (.int 1))) aNil))))) (gTupF 2 (gsCons (gSet 5) (gsCons (gSet 1) gsNil))))
    (sSeq (sIf (tBool (eOp (eqW true) (eSl slW (eVar 0) (oSome (eVar 1)) (oSome (eOp addW (eVar 1) (eC (.int 1))))) (eC (.str (Str.ofString ")"))))) sBad sNx)
    (sRet (eTup (aCons (eTup (aCons (eVar 4) (aCons (eVar 5) aNil))) (aCons (eOp addW (eVar 1) (eC (.int 1))) aNil))))))))))
noncomputable def F_kind_at : Nat → FF
  | 0 => badF
  | n + 1 => runF 6 (m_kind_at (F_kind_at n))
noncomputable def m_basics_in (r_basics_in : FF) : SF :=
    (sSeq (sIf (tTru (eIsi [.str] (eVar 0))) (sRet (eLst (aCons (eVar 0) aNil))) sNx)
    (sRet (eOp addW (eCallF r_basics_in (aCons (eOp ixW (eVar 0) (eC (.int 0))) aNil)) (eCallF r_basics_in (aCons (eOp ixW (eVar 0) (eC (.int 1))) aNil)))))
noncomputable def F_basics_in : Nat → FF
  | 0 => badF
  | n + 1 => runF 1 (m_basics_in (F_basics_in n))
noncomputable def m_read_kind : SF :=
    (sSeq (sIf (tNotF (tTru (eIsi [.str] (eVar 0)))) sBad sNx)
    (sSeq (sAsg (eFrz (eCallF (F_kind_at 40) (aCons (eVar 0) (aCons (eC (.int 0)) (aCons (eC (.int 0)) aNil))))) (gTupF 2 (gsCons (gSet 1) (gsCons (gSet 2) gsNil))))
    (sSeq (sIf (tOrF (tBool (eOp (eqW true) (eVar 2) (eCall lenW (aCons (eVar 0) aNil)))) (tBool (eOp gtW (eCall lenW (aCons (eCallF (F_basics_in 40) (aCons (eVar 1) aNil)) aNil)) (eC c_MOST_BASICS)))) sBad sNx)
    (sRet (eVar 1)))))
noncomputable def F_read_kind : FF := runF 3 m_read_kind
noncomputable def m_show_kind (r_show_kind : FF) : SF :=
    (sSeq (sIf (tTru (eIsi [.str] (eVar 0))) (sRet (eVar 0)) sNx)
    (sRet (eOp addW (eOp addW (eOp addW (eOp addW (eC (.str (Str.ofString "("))) (eCallF r_show_kind (aCons (eOp ixW (eVar 0) (eC (.int 0))) aNil))) (eC (.str (Str.ofString ">")))) (eCallF r_show_kind (aCons (eOp ixW (eVar 0) (eC (.int 1))) aNil))) (eC (.str (Str.ofString ")"))))))
noncomputable def F_show_kind : Nat → FF
  | 0 => badF
  | n + 1 => runF 1 (m_show_kind (F_show_kind n))
noncomputable def m__law_deck : SF :=
    (sSeq (sAsg (eObj (eOp addW (eSl slW (eVar 0) oNone (oSome (eC (.int 63)))) (eLst (aCons (eC (.int 0)) aNil)))) (gSet 1))
    (sSeq (sAsg (eOp (eqW false) (eOp modW (eOp ixW (eVar 1) (eC (.int 0))) (eC (.int 2))) (eC (.int 1))) (gSet 2))
    (sSeq (sSetI (eVar 1) (eC (.int 0)) (eOp divW (eOp ixW (eVar 1) (eC (.int 0))) (eC (.int 2))))
    (sRet (eDict [Str.ofString "cells", Str.ofString "left", Str.ofString "at", Str.ofString "seed", Str.ofString "mixed"] (aCons (eObj (eVar 1)) (aCons (eObj (eC (.int 12))) (aCons (eObj (eC (.int 0))) (aCons (eObj (eOp addW (eC (.int 1)) (eOp modW (eCall sumW (aCons (eVar 1) aNil)) (eC (.int 2147483646))))) (aCons (eObj (eVar 2)) aNil))))))))))
noncomputable def F__law_deck : FF := runA 3 m__law_deck
noncomputable def m__law_next : SF :=
    (sSeq (sAsg (eObj (eOp dgetW (eVar 0) (eC (.str (Str.ofString "cells"))))) (gSet 1))
    (sSeq (sIf (tTru (eOp dgetW (eVar 0) (eC (.str (Str.ofString "mixed"))))) (sSeq (sSetD (eVar 0) (eC (.str (Str.ofString "at"))) (eOp addW (eOp dgetW (eVar 0) (eC (.str (Str.ofString "at")))) (eC (.int 1))))
    (sSeq (sAsg (eOp ixW (eVar 1) (eOp modW (eOp dgetW (eVar 0) (eC (.str (Str.ofString "at")))) (eCall lenW (aCons (eVar 1) aNil)))) (gSet 2))
    (sSeq (sSetD (eVar 0) (eC (.str (Str.ofString "seed"))) (eOp modW (eOp addW (eOp addW (eOp mulW (eOp dgetW (eVar 0) (eC (.str (Str.ofString "seed")))) (eC (.int 48271))) (eVar 2)) (eOp dgetW (eVar 0) (eC (.str (Str.ofString "at"))))) (eC (.int 2147483647))))
    (sSeq (sAsg (eOp modW (eOp addW (eOp mulW (eOp dgetW (eVar 0) (eC (.str (Str.ofString "seed")))) (eOp dgetW (eVar 0) (eC (.str (Str.ofString "seed"))))) (eOp mulW (eC (.int 7919)) (eOp dgetW (eVar 0) (eC (.str (Str.ofString "at")))))) (eC (.int 2147483629))) (gSet 3))
    (sRet (eOp modW (eOp mulW (eVar 3) (eOp addW (eVar 3) (eC (.int 69621)))) (eC (.int 999999999989)))))))) sNx)
    (sSeq (sAsg (eOp modW (eOp ixW (eVar 1) (eC (.int 0))) (eOp powW (eC (.int 10)) (eC (.int 12)))) (gSet 3))
    (sSeq (sSetI (eVar 1) (eC (.int 0)) (eOp divW (eOp ixW (eVar 1) (eC (.int 0))) (eOp powW (eC (.int 10)) (eC (.int 12)))))
    (sSeq (sSetD (eVar 0) (eC (.str (Str.ofString "left"))) (eOp subW (eOp dgetW (eVar 0) (eC (.str (Str.ofString "left")))) (eC (.int 1))))
    (sSeq (sIf (tAndF (tBool (eOp (eqW false) (eOp dgetW (eVar 0) (eC (.str (Str.ofString "left")))) (eC (.int 0)))) (tBool (eOp gtW (eCall lenW (aCons (eVar 1) aNil)) (eC (.int 1))))) (sSeq (sDrop (eMt "list" popAtW (eVar 1) (aCons (eC (.int 0)) aNil)))
    (sSetD (eVar 0) (eC (.str (Str.ofString "left"))) (eC (.int 12)))) sNx)
    (sRet (eVar 3))))))))
noncomputable def F__law_next : FF := runF 4 m__law_next
noncomputable def b1__law_spelled : SF :=
    (sSeq (sAsg (eOp addW (eVar 2) (eOp ixW (eC (.str (Str.ofString "abcdefghijklmnopqrstuvwxyz"))) (eOp modW (eVar 0) (eC (.int 26))))) (gSet 2))
    (sAsg (eOp divW (eVar 0) (eC (.int 26))) (gSet 0)))
noncomputable def m__law_spelled : SF :=
    (sSeq (sAsg (eC (.str (Str.ofString ""))) (gSet 2))
    (sSeq (sFor (iRange1 (aCons (eVar 1) aNil)) (gSet 3) b1__law_spelled)
    (sRet (eVar 2))))
noncomputable def F__law_spelled : FF := runF 4 m__law_spelled
noncomputable def b1__law_word : SF :=
    (sSeq (sAsg (eOp addW (eVar 3) (eC (.int 1))) (gSet 3))
    (sSeq (sAsg (eOp addW (eOp modW (eVar 4) (eC (.int 8))) (eC (.int 1))) (gSet 4))
    (sAsg (eFrz (eCallF F__law_spelled (aCons (eVar 3) (aCons (eVar 4) aNil)))) (gSet 5))))
noncomputable def m__law_word : SF :=
    (sSeq (sAsg (eFrz (eCallF F__law_next (aCons (eObj (eVar 0)) aNil))) (gSet 2))
    (sSeq (sAsg (eFrz (eCallF F__law_next (aCons (eObj (eVar 0)) aNil))) (gSet 3))
    (sSeq (sAsg (eOp addW (eC (.int 1)) (eOp modW (eVar 2) (eC (.int 8)))) (gSet 4))
    (sSeq (sAsg (eFrz (eCallF F__law_spelled (aCons (eVar 3) (aCons (eVar 4) aNil)))) (gSet 5))
    (sSeq (sIf (tAndF (tBool (eOp (eqW true) (eVar 1) (eLst aNil))) (tBool (eOp (eqW false) (eOp modW (eOp divW (eVar 2) (eC (.int 8))) (eC (.int 2))) (eC (.int 1))))) (sSeq (sAsg (eOp modW (eOp divW (eVar 2) (eC (.int 16))) (eCall lenW (aCons (eOp ixW (eVar 1) (eC (.int 0))) aNil))) (gSet 6))
    (sAsg (eFrz (eOp addW (eOp addW (eSl slW (eOp ixW (eVar 1) (eC (.int 0))) oNone (oSome (eVar 6))) (eOp ixW (eVar 5) (eC (.int 0)))) (eSl slW (eOp ixW (eVar 1) (eC (.int 0))) (oSome (eOp addW (eVar 6) (eC (.int 1)))) oNone))) (gSet 5))) sNx)
    (sSeq (whileM (tOrF (tBool (eOp (inW false) (eVar 5) (eVar 1))) (tBool (eOp (eqW false) (eVar 5) (eC (.str (Str.ofString "any")))))) b1__law_word 1000)
    (sRet (eVar 5))))))))
noncomputable def F__law_word : FF := runF 7 m__law_word
noncomputable def b1__law_words : SF :=
    (sDrop (eMt "list" appendW (eVar 2) (aCons (eFrz (eCallF F__law_word (aCons (eObj (eVar 0)) (aCons (eVar 2) aNil)))) aNil)))
noncomputable def m__law_words : SF :=
    (sSeq (sAsg (eObj (eLst aNil)) (gSet 2))
    (sSeq (sFor (iRange1 (aCons (eVar 1) aNil)) (gSet 3) b1__law_words)
    (sRet (eVar 2))))
noncomputable def F__law_words : FF := runF 4 m__law_words
noncomputable def b1__law_grown_kind : SF :=
    (sSeq (sAsg (eOp modW (eCallF F__law_next (aCons (eObj (eVar 0)) aNil)) (eOp subW (eCall lenW (aCons (eVar 3) aNil)) (eC (.int 1)))) (gSet 5))
    (sAsg (eFrz (eOp addW (eOp addW (eSl slW (eVar 3) oNone (oSome (eVar 5))) (eLst (aCons (eTup (aCons (eOp ixW (eVar 3) (eVar 5)) (aCons (eOp ixW (eVar 3) (eOp addW (eVar 5) (eC (.int 1)))) aNil))) aNil))) (eSl slW (eVar 3) (oSome (eOp addW (eVar 5) (eC (.int 2)))) oNone))) (gSet 3)))
noncomputable def m__law_grown_kind : SF :=
    (sSeq (sAsg (eFrz (eCallF F__law_words (aCons (eObj (eVar 0)) (aCons (eOp addW (eC (.int 1)) (eOp modW (eCallF F__law_next (aCons (eObj (eVar 0)) aNil)) (eVar 1))) aNil)))) (gSet 2))
    (sSeq (sAsg (eFrz (eLc (iRange1 (aCons (eVar 1) aNil)) (gSet 4) tYesF (eOp ixW (eVar 2) (eOp modW (eCallF F__law_next (aCons (eObj (eVar 0)) aNil)) (eCall lenW (aCons (eVar 2) aNil)))) [4])) (gSet 3))
    (sSeq (whileM (tBool (eOp gtW (eCall lenW (aCons (eVar 3) aNil)) (eC (.int 1)))) b1__law_grown_kind 1000)
    (sRet (eOp ixW (eVar 3) (eC (.int 0)))))))
noncomputable def F__law_grown_kind : FF := runF 6 m__law_grown_kind
noncomputable def m__law_kind_text (r__law_kind_text : FF) : SF :=
    (sSeq (sIf (tTru (eIsi [.str] (eVar 0))) (sRet (eVar 0)) sNx)
    (sRet (eOp addW (eOp addW (eOp addW (eOp addW (eC (.str (Str.ofString "("))) (eCallF r__law_kind_text (aCons (eOp ixW (eVar 0) (eC (.int 0))) aNil))) (eC (.str (Str.ofString ">")))) (eCallF r__law_kind_text (aCons (eOp ixW (eVar 0) (eC (.int 1))) aNil))) (eC (.str (Str.ofString ")"))))))
noncomputable def F__law_kind_text : Nat → FF
  | 0 => badF
  | n + 1 => runF 1 (m__law_kind_text (F__law_kind_text n))
noncomputable def m__law_same (r__law_same : FF) : SF :=
    (sSeq (sIf (tTru (eIsi [.str] (eVar 0))) (sRet (eAnd (eIsi [.str] (eVar 1)) (eOp (eqW false) (eVar 0) (eVar 1)))) sNx)
    (sSeq (sIf (tNotF (tTru (eIsi [.tup] (eVar 0)))) (sRet (eAnd (eIsi [.int] (eVar 1)) (eAnd (eNot (eIsi [.bl] (eVar 1))) (eOp (eqW false) (eVar 0) (eVar 1))))) sNx)
    (sSeq (sIf (tOrF (tNotF (tTru (eIsi [.tup] (eVar 1)))) (tBool (eOp (eqW true) (eCall lenW (aCons (eVar 0) aNil)) (eCall lenW (aCons (eVar 1) aNil))))) (sRet (eC (.bool false))) sNx)
    (sRet (eCall allW (aCons (eLc (iZipA (aCons (eVar 0) (aCons (eVar 1) aNil))) (gTupF 2 (gsCons (gSet 2) (gsCons (gSet 3) gsNil))) tYesF (eFrz (eCallF r__law_same (aCons (eVar 2) (aCons (eVar 3) aNil)))) [2, 3]) aNil))))))
noncomputable def F__law_same : Nat → FF
  | 0 => badF
  | n + 1 => runF 4 (m__law_same (F__law_same n))
noncomputable def b1_law : SF :=
    (sSeq (sAsg (eFrz (eCallF F__law_grown_kind (aCons (eObj (eVar 1)) (aCons (eOp addW (eC (.int 1)) (eOp modW (eCallF F__law_next (aCons (eObj (eVar 1)) aNil)) (eC (.int 12)))) aNil)))) (gSet 3))
    (sSeq (sAsg (eFrz (eCallF (F__law_kind_text 40) (aCons (eVar 3) aNil))) (gSet 4))
    (sSeq (sAsg (eFrz (eCallF (F_show_kind 40) (aCons (eVar 3) aNil))) (gSet 5))
    (sSeq (sIf (tOrF (tNotF (tTru (eIsi [.str] (eVar 5)))) (tBool (eOp (eqW true) (eVar 5) (eVar 4)))) (sRet (eC (.bool false))) sNx)
    (sSeq (sAsg (eFrz (eCallF F_read_kind (aCons (eVar 4) aNil))) (gSet 6))
    (sIf (tOrF (tNotF (tTru (eCallF (F__law_same 40) (aCons (eVar 3) (aCons (eVar 6) aNil))))) (tBool (eOp (eqW true) (eCallF (F_show_kind 40) (aCons (eVar 6) aNil)) (eVar 4)))) (sRet (eC (.bool false))) sNx))))))
noncomputable def m_law : SF :=
    (sSeq (sAsg (eObj (eCallF F__law_deck (aCons (eVar 0) aNil))) (gSet 1))
    (sSeq (sFor (iRange1 (aCons (eC (.int 10)) aNil)) (gSet 2) b1_law)
    (sRet (eC (.bool true)))))
noncomputable def F_law : FF := runF 7 m_law
end K10

set_option Elab.async false
set_option linter.all false
set_option maxRecDepth 100000
set_option maxHeartbeats 1000000
namespace K10
open PySem L2 M
/-! ### the deck -/
def kC : Str := Str.ofString "cells"
def kL : Str := Str.ofString "left"
def kA : Str := Str.ofString "at"
def kS : Str := Str.ofString "seed"
def kM : Str := Str.ofString "mixed"
def dk (a : Nat) (l t s : Int) (x : Bool) : List (Str × W) := [(kC, .obj a), (kL, .d (.int l)), (kA, .d (.int t)), (kS, .d (.int s)), (kM, .d (.bool x))]
theorem kne : kC ≠ kL ∧ kC ≠ kA ∧ kC ≠ kS ∧ kC ≠ kM ∧ kL ≠ kA ∧ kL ≠ kS ∧ kL ≠ kM ∧ kA ≠ kS ∧ kA ≠ kM ∧ kS ≠ kM := by
  refine ⟨?_, ?_, ?_, ?_, ?_, ?_, ?_, ?_, ?_, ?_⟩ <;> decide +kernel
section
variable {a b : Nat} {l t s : Int} {x : Bool} {m : Mem}
theorem lookC : dlook (dk a l t s x) kC = some (.obj a) := by simp [dlook, dk, List.find?_cons]
theorem lookL : dlook (dk a l t s x) kL = some (.d (.int l)) := by obtain ⟨h1, h2, h3, h4, h5, h6, h7, h8, h9, h10⟩ := kne; simp [dlook, dk, List.find?_cons, h1]
theorem lookA : dlook (dk a l t s x) kA = some (.d (.int t)) := by obtain ⟨h1, h2, h3, h4, h5, h6, h7, h8, h9, h10⟩ := kne; simp [dlook, dk, List.find?_cons, h2, h5]
theorem lookS : dlook (dk a l t s x) kS = some (.d (.int s)) := by obtain ⟨h1, h2, h3, h4, h5, h6, h7, h8, h9, h10⟩ := kne; simp [dlook, dk, List.find?_cons, h3, h6, h8]
theorem lookM : dlook (dk a l t s x) kM = some (.d (.bool x)) := by obtain ⟨h1, h2, h3, h4, h5, h6, h7, h8, h9, h10⟩ := kne; simp [dlook, dk, List.find?_cons, h4, h7, h9, h10]
theorem putL (l' : Int) : dput (dk a l t s x) kL (.d (.int l')) = dk a l' t s x := by
  obtain ⟨h1, h2, h3, h4, h5, h6, h7, h8, h9, h10⟩ := kne
  simp [dput, dk, h1, h5.symm, h6.symm, h7.symm]
theorem putA (l' : Int) : dput (dk a l t s x) kA (.d (.int l')) = dk a l l' s x := by
  obtain ⟨h1, h2, h3, h4, h5, h6, h7, h8, h9, h10⟩ := kne
  simp [dput, dk, h2, h5, h8.symm, h9.symm]
theorem putS (l' : Int) : dput (dk a l t s x) kS (.d (.int l')) = dk a l t l' x := by
  obtain ⟨h1, h2, h3, h4, h5, h6, h7, h8, h9, h10⟩ := kne
  simp [dput, dk, h3, h6, h8, h10.symm]
theorem dgetW_of {k : Str} {w : W} {kvs : List (Str × W)} (h : m[b]? = some (.dct kvs)) (e : dlook kvs k = some w) : dgetW (.obj b) (.d (.str k)) m = .ok w m := by
  simp only [dgetW, h, e]
theorem setD_of {env : En} {o : EF} {f : EF} {k : Str} {v : W} {kvs kvs' : List (Str × W)} (ho : o env m = .ok (.obj b) m) (hf : f env m = .ok v m) (h : m[b]? = some (.dct kvs)) (hl : kvs.length < 1000) (hv : okW b v = true) (e : dput kvs k v = kvs') : sSetD o (eC (.str k)) f env m = .nx env (m.set b (.dct kvs')) := by
  simp only [sSetD, hf, Res.bind_ok, ho, eC, h]
  rw [if_pos (by rw [Bool.and_eq_true]; exact ⟨decide_eq_true hl, hv⟩), e, eS_ok]
end
structure Dk (a b : Nat) (m : Mem) : Prop where
  ab : a < b
  ex : ∃ (cs : List Int) (l t s : Int) (x : Bool), cs ≠ [] ∧ cs.length ≤ 100 ∧ 0 ≤ s ∧ s < 2147483647 ∧ m[a]? = some (.lst (cs.map .int)) ∧ m[b]? = some (.dct (dk a l t s x))
/-- the same but for the deck -/
structure DSt (a b : Nat) (m m' : Mem) : Prop where
  len : m'.length = m.length
  same : ∀ i, i ≠ a → i ≠ b → m'[i]? = m[i]?
theorem DSt.refl (a b : Nat) (m : Mem) : DSt a b m m := ⟨rfl, fun _ _ _ => rfl⟩
theorem DSt.trans {a b : Nat} {m m' m'' : Mem} (h : DSt a b m m') (h' : DSt a b m' m'') : DSt a b m m'' := ⟨h'.len.trans h.len, fun i h1 h2 => (h'.same i h1 h2).trans (h.same i h1 h2)⟩
theorem DSt.setA (a b : Nat) (m : Mem) (o : O) : DSt a b m (m.set a o) := ⟨by simp, fun i h1 _ => List.getElem?_set_ne (Ne.symm h1)⟩
theorem DSt.setB (a b : Nat) (m : Mem) (o : O) : DSt a b m (m.set b o) := ⟨by simp, fun i _ h2 => List.getElem?_set_ne (Ne.symm h2)⟩
theorem Dk.lt {a b : Nat} {m : Mem} (h : Dk a b m) : b < m.length := by
  obtain ⟨cs, l, t, s, x, _, _, _, _, _, h2⟩ := h.ex
  exact (List.getElem?_eq_some_iff.mp h2).1
theorem Dk.app {a b : Nat} {m : Mem} (h : Dk a b m) (l : List O) : Dk a b (m ++ l) := by
  have hb := h.lt
  have hab := h.ab
  obtain ⟨cs, l1, t, s, x, h1, h2, h3, h4, h5, h6⟩ := h.ex
  exact ⟨hab, cs, l1, t, s, x, h1, h2, h3, h4, by rw [List.getElem?_append_left (by omega)]; exact h5, by rw [List.getElem?_append_left hb]; exact h6⟩
theorem Dk.unapp {a b : Nat} {m : Mem} {l : List O} (h : Dk a b (m ++ l)) (hb : b < m.length) : Dk a b m := by
  have hab := h.ab
  obtain ⟨cs, l1, t, s, x, h1, h2, h3, h4, h5, h6⟩ := h.ex
  rw [List.getElem?_append_left (by omega)] at h5
  rw [List.getElem?_append_left hb] at h6
  exact ⟨hab, cs, l1, t, s, x, h1, h2, h3, h4, h5, h6⟩
theorem DSt.split {a b : Nat} {m m' : Mem} {l : List O} (h : DSt a b (m ++ l) m') (ha : a < m.length) (hb : b < m.length) : ∃ m1, m' = m1 ++ l ∧ DSt a b m m1 := by
  have hlen := h.len
  rw [List.length_append] at hlen
  refine ⟨m'.take m.length, ?_, ⟨by rw [List.length_take]; omega, fun i h1 h2 => ?_⟩⟩
  · apply List.ext_getElem?
    intro i
    by_cases hi : i < m.length
    · rw [List.getElem?_append_left (by rw [List.length_take]; omega), List.getElem?_take_of_lt hi]
    · have e : (m'.take m.length).length = m.length := by rw [List.length_take]; omega
      rw [List.getElem?_append_right (by omega), e, h.same i (by omega) (by omega), List.getElem?_append_right (by omega)]
  · by_cases hi : i < m.length
    · rw [List.getElem?_take_of_lt hi, h.same i h1 h2, List.getElem?_append_left hi]
    · rw [List.getElem?_eq_none (by rw [List.length_take]; omega), List.getElem?_eq_none (by omega)]
/-- what a call that uses the deck does -/
def Uses (a b : Nat) (m : Mem) (r : Res W) (Q : W → Prop) : Prop := ∃ w m', Dk a b m' ∧ DSt a b m m' ∧ r = .ok w m' ∧ Q w
theorem eKC : Str.ofString "cells" = kC := rfl
theorem eKL : Str.ofString "left" = kL := rfl
theorem eKA : Str.ofString "at" = kA := rfl
theorem eKS : Str.ofString "seed" = kS := rfl
theorem eKM : Str.ofString "mixed" = kM := rfl

end K10

set_option Elab.async false
set_option linter.all false
set_option maxRecDepth 100000
set_option maxHeartbeats 1000000
namespace K10
open PySem L2 M
section
variable {a b : Nat} {m : Mem}
theorem set_b {o : O} (h : b < m.length) : (m.set b o)[b]? = some o := List.getElem?_set_self h
theorem set_ab {o p : O} (hab : a < b) (h : m[a]? = some p) : (m.set b o)[a]? = some p := by rw [List.getElem?_set_ne (by omega)]; exact h
theorem set_ba {o p : O} (hab : a < b) (h : m[b]? = some p) : (m.set a o)[b]? = some p := by rw [List.getElem?_set_ne (by omega)]; exact h
theorem ix_obj {ds : List D} {i : Int} {d : D} (h : m[a]? = some (.lst ds)) (e : L2.atI ds i = some d) : ixW (.obj a) (.d (.int i)) m = .ok (.d d) m := by
  simp only [ixW, asL, h, e]
theorem len_obj {ds : List D} (h : m[a]? = some (.lst ds)) : lenW [.obj a] m = .ok (.d (.int (ds.length : Int))) m := by
  simp only [lenW, asL, h]
theorem setI0 {env : En} {o f : EF} {d v : D} {ds : List D} (ho : o env m = .ok (.obj a) m) (hf : f env m = .ok (.d v) m) (h : m[a]? = some (.lst (d :: ds))) : sSetI o (eC (.int 0)) f env m = .nx env (m.set a (.lst (v :: ds))) := by
  have e : ixN (ds.length + 1) 0 = some 0 := by unfold ixN; simp
  simp only [sSetI, hf, Res.bind_ok, ho, eC, asO, h, List.length_cons, e, eS_ok, List.set_cons_zero]
end
theorem next_mixed {a b : Nat} {m : Mem} {cs : List Int} {l t s : Int} (hab : a < b) (hne : cs ≠ []) (ha : m[a]? = some (.lst (cs.map .int))) (hb : m[b]? = some (.dct (dk a l t s true))) :
    ∃ (n s' : Int), 0 ≤ n ∧ n < 1000000000000 ∧ 0 ≤ s' ∧ s' < 2147483647 ∧ F__law_next [.obj b] m = .ok (.d (.int n)) (m.set b (.dct (dk a l (t + 1) s' true))) := by
  have hbl := (List.getElem?_eq_some_iff.mp hb).1
  have hlen : 0 < cs.length := List.length_pos_iff.mpr hne
  obtain ⟨j, hj⟩ : ∃ j : Nat, (t + 1) % (cs.length : Int) = (j : Int) := ⟨((t + 1) % (cs.length : Int)).toNat, by have := Int.emod_nonneg (t + 1) (show (cs.length : Int) ≠ 0 by omega); omega⟩
  have hjl : j < cs.length := by have := Int.emod_lt_of_pos (t + 1) (show 0 < (cs.length : Int) by omega); omega
  obtain ⟨s', hs'⟩ : ∃ s', s' = (s * 48271 + cs[j] + (t + 1)) % 2147483647 := ⟨_, rfl⟩
  have hs0 : 0 ≤ s' := by omega
  have hs1 : s' < 2147483647 := by omega
  obtain ⟨q, hq⟩ : ∃ q, q = (s' * s' + 7919 * (t + 1)) % 2147483629 := ⟨_, rfl⟩
  have hq0 : 0 ≤ q := by omega
  have hq1 : q < 2147483629 := by omega
  obtain ⟨n, hn⟩ : ∃ n, n = q * (q + 69621) % 999999999989 := ⟨_, rfl⟩
  refine ⟨n, s', by omega, by omega, hs0, hs1, ?_⟩
  obtain ⟨m1, hm1⟩ : ∃ m1, m1 = m.set b (.dct (dk a l (t + 1) s true)) := ⟨_, rfl⟩
  have hb1 : m1[b]? = some (.dct (dk a l (t + 1) s true)) := by rw [hm1]; exact set_b hbl
  have ha1 : m1[a]? = some (.lst (cs.map .int)) := by rw [hm1]; exact set_ab hab ha
  obtain ⟨m2, hm2⟩ : ∃ m2, m2 = m1.set b (.dct (dk a l (t + 1) s' true)) := ⟨_, rfl⟩
  have hbl1 : b < m1.length := (List.getElem?_eq_some_iff.mp hb1).1
  have hb2 : m2[b]? = some (.dct (dk a l (t + 1) s' true)) := by rw [hm2]; exact set_b hbl1
  have hend : m2 = m.set b (.dct (dk a l (t + 1) s' true)) := by rw [hm2, hm1, List.set_set]
  rw [← hend]
  have hml : m.length = m2.length := by rw [hend, List.length_set]
  have g1 := dgetW_of hb lookC
  have g2 := dgetW_of hb lookM
  have g3 := dgetW_of hb lookA
  have g4 := dgetW_of hb1 lookA
  have g5 := dgetW_of hb1 lookS
  have g6 := dgetW_of hb2 lookS
  have g7 := dgetW_of hb2 lookA
  have hmod := modW_pos (m := m1) (i := t + 1) (j := (cs.length : Int)) (by omega)
  have hl1 := len_obj ha1
  rw [List.length_map] at hl1
  have hix := ix_obj (i := (j : Int)) (d := .int cs[j]) ha1 (by rw [atI_cast, List.getElem?_map, List.getElem?_eq_getElem hjl]; rfl)
  have hss := mulW_r (m := m2) (i := s') (j := s') (by omega) (by omega)
  have hqq := mulW_r (m := m2) (i := q) (j := q + 69621) (by omega) (by omega)
  have h79 := mulW_l (m := m2) (i := 7919) (j := t + 1) (by decide) (by decide)
  refine run_wp (Q := fun r => r = .ok (.d (.int n)) m2) ?_
  unfold m__law_next
  rw [eKC, eKL, eKA, eKS, eKM]
  refine wp_go (by simp only [runF, env0, finM, sSeq, sNx, sIf, sRet, sAsg, asgK, gSet, sDrop, sAug, eS_ok, tBool, tTru, truW, eOp, eChain, eVar, eC, eFrz, eObj, aNil, aCons, eTup, eLst, asDs, eCall, eCallF, callM, noFl, tAndF, tOrF, tNotF, eAnd, eOr, eNot, eIsi, tyW, Tk.sub, eSl, oNone, oSome, eMt, eMt0, isTyW, eNeg, negW, Res.bind_ok, List.length_cons, List.length_nil, List.map_cons, List.map_nil, List.cons_append, List.nil_append, List.replicate, List.getElem?_cons_zero, List.getElem?_cons_succ, List.set_cons_zero, List.set_cons_succ, if_true, if_false, Nat.sub_self, Nat.reduceSub, Nat.reduceAdd, sizeLine_eq, g1]; rfl) ?_
  refine wp_sIfT (by simp only [runF, env0, finM, sSeq, sNx, sIf, sRet, sAsg, asgK, gSet, sDrop, sAug, eS_ok, tBool, tTru, truW, eOp, eChain, eVar, eC, eFrz, eObj, aNil, aCons, eTup, eLst, asDs, eCall, eCallF, callM, noFl, tAndF, tOrF, tNotF, eAnd, eOr, eNot, eIsi, tyW, Tk.sub, eSl, oNone, oSome, eMt, eMt0, isTyW, eNeg, negW, Res.bind_ok, List.length_cons, List.length_nil, List.map_cons, List.map_nil, List.cons_append, List.nil_append, List.replicate, List.getElem?_cons_zero, List.getElem?_cons_succ, List.set_cons_zero, List.set_cons_succ, if_true, if_false, Nat.sub_self, Nat.reduceSub, Nat.reduceAdd, sizeLine_eq, g2]; rfl) ?_
  refine wp_go (e := [some (.obj b), some (.obj a), none, none]) (m1 := m1) (by rw [hm1]; exact setD_of (by simp only [runF, env0, finM, sSeq, sNx, sIf, sRet, sAsg, asgK, gSet, sDrop, sAug, eS_ok, tBool, tTru, truW, eOp, eChain, eVar, eC, eFrz, eObj, aNil, aCons, eTup, eLst, asDs, eCall, eCallF, callM, noFl, tAndF, tOrF, tNotF, eAnd, eOr, eNot, eIsi, tyW, Tk.sub, eSl, oNone, oSome, eMt, eMt0, isTyW, eNeg, negW, Res.bind_ok, List.length_cons, List.length_nil, List.map_cons, List.map_nil, List.cons_append, List.nil_append, List.replicate, List.getElem?_cons_zero, List.getElem?_cons_succ, List.set_cons_zero, List.set_cons_succ, if_true, if_false, Nat.sub_self, Nat.reduceSub, Nat.reduceAdd, sizeLine_eq]) (v := .d (.int (t + 1))) (by simp only [runF, env0, finM, sSeq, sNx, sIf, sRet, sAsg, asgK, gSet, sDrop, sAug, eS_ok, tBool, tTru, truW, eOp, eChain, eVar, eC, eFrz, eObj, aNil, aCons, eTup, eLst, asDs, eCall, eCallF, callM, noFl, tAndF, tOrF, tNotF, eAnd, eOr, eNot, eIsi, tyW, Tk.sub, eSl, oNone, oSome, eMt, eMt0, isTyW, eNeg, negW, Res.bind_ok, List.length_cons, List.length_nil, List.map_cons, List.map_nil, List.cons_append, List.nil_append, List.replicate, List.getElem?_cons_zero, List.getElem?_cons_succ, List.set_cons_zero, List.set_cons_succ, if_true, if_false, Nat.sub_self, Nat.reduceSub, Nat.reduceAdd, sizeLine_eq, g3, addW_int]) hb (by simp [dk]) rfl (putA (t + 1))) ?_
  refine wp_go (by simp only [runF, env0, finM, sSeq, sNx, sIf, sRet, sAsg, asgK, gSet, sDrop, sAug, eS_ok, tBool, tTru, truW, eOp, eChain, eVar, eC, eFrz, eObj, aNil, aCons, eTup, eLst, asDs, eCall, eCallF, callM, noFl, tAndF, tOrF, tNotF, eAnd, eOr, eNot, eIsi, tyW, Tk.sub, eSl, oNone, oSome, eMt, eMt0, isTyW, eNeg, negW, Res.bind_ok, List.length_cons, List.length_nil, List.map_cons, List.map_nil, List.cons_append, List.nil_append, List.replicate, List.getElem?_cons_zero, List.getElem?_cons_succ, List.set_cons_zero, List.set_cons_succ, if_true, if_false, Nat.sub_self, Nat.reduceSub, Nat.reduceAdd, sizeLine_eq, g4, hl1, hmod, hj, hix]; rfl) ?_
  refine wp_go (e := [some (.obj b), some (.obj a), some (.d (.int cs[j])), none]) (m1 := m2) (by rw [hm2]; exact setD_of (by simp only [runF, env0, finM, sSeq, sNx, sIf, sRet, sAsg, asgK, gSet, sDrop, sAug, eS_ok, tBool, tTru, truW, eOp, eChain, eVar, eC, eFrz, eObj, aNil, aCons, eTup, eLst, asDs, eCall, eCallF, callM, noFl, tAndF, tOrF, tNotF, eAnd, eOr, eNot, eIsi, tyW, Tk.sub, eSl, oNone, oSome, eMt, eMt0, isTyW, eNeg, negW, Res.bind_ok, List.length_cons, List.length_nil, List.map_cons, List.map_nil, List.cons_append, List.nil_append, List.replicate, List.getElem?_cons_zero, List.getElem?_cons_succ, List.set_cons_zero, List.set_cons_succ, if_true, if_false, Nat.sub_self, Nat.reduceSub, Nat.reduceAdd, sizeLine_eq]) (v := .d (.int s')) (by simp only [runF, env0, finM, sSeq, sNx, sIf, sRet, sAsg, asgK, gSet, sDrop, sAug, eS_ok, tBool, tTru, truW, eOp, eChain, eVar, eC, eFrz, eObj, aNil, aCons, eTup, eLst, asDs, eCall, eCallF, callM, noFl, tAndF, tOrF, tNotF, eAnd, eOr, eNot, eIsi, tyW, Tk.sub, eSl, oNone, oSome, eMt, eMt0, isTyW, eNeg, negW, Res.bind_ok, List.length_cons, List.length_nil, List.map_cons, List.map_nil, List.cons_append, List.nil_append, List.replicate, List.getElem?_cons_zero, List.getElem?_cons_succ, List.set_cons_zero, List.set_cons_succ, if_true, if_false, Nat.sub_self, Nat.reduceSub, Nat.reduceAdd, sizeLine_eq, g5, g4, addW_int, mulW_s (show -18446744073709551616 < (48271 : Int) by decide) (by decide), modW_s (show (0 : Int) < 2147483647 by decide), ← hs']) hb1 (by simp [dk]) rfl (putS s')) ?_
  refine wp_go (by simp only [runF, env0, finM, sSeq, sNx, sIf, sRet, sAsg, asgK, gSet, sDrop, sAug, eS_ok, tBool, tTru, truW, eOp, eChain, eVar, eC, eFrz, eObj, aNil, aCons, eTup, eLst, asDs, eCall, eCallF, callM, noFl, tAndF, tOrF, tNotF, eAnd, eOr, eNot, eIsi, tyW, Tk.sub, eSl, oNone, oSome, eMt, eMt0, isTyW, eNeg, negW, Res.bind_ok, List.length_cons, List.length_nil, List.map_cons, List.map_nil, List.cons_append, List.nil_append, List.replicate, List.getElem?_cons_zero, List.getElem?_cons_succ, List.set_cons_zero, List.set_cons_succ, if_true, if_false, Nat.sub_self, Nat.reduceSub, Nat.reduceAdd, sizeLine_eq, g6, g7, hss, h79, addW_int, modW_s (show (0 : Int) < 2147483629 by decide), ← hq]; rfl) ?_
  refine wp_ret (w := .d (.int n)) (m1 := m2) (by simp only [runF, env0, finM, sSeq, sNx, sIf, sRet, sAsg, asgK, gSet, sDrop, sAug, eS_ok, tBool, tTru, truW, eOp, eChain, eVar, eC, eFrz, eObj, aNil, aCons, eTup, eLst, asDs, eCall, eCallF, callM, noFl, tAndF, tOrF, tNotF, eAnd, eOr, eNot, eIsi, tyW, Tk.sub, eSl, oNone, oSome, eMt, eMt0, isTyW, eNeg, negW, Res.bind_ok, List.length_cons, List.length_nil, List.map_cons, List.map_nil, List.cons_append, List.nil_append, List.replicate, List.getElem?_cons_zero, List.getElem?_cons_succ, List.set_cons_zero, List.set_cons_succ, if_true, if_false, Nat.sub_self, Nat.reduceSub, Nat.reduceAdd, sizeLine_eq, addW_int, hqq, modW_s (show (0 : Int) < 999999999989 by decide), ← hn]) ?_
  show outF m.length _ = _
  rw [hml]
  simp
theorem next_plain {a b : Nat} {m : Mem} {c : Int} {cs : List Int} {l t s : Int} (hab : a < b) (ha : m[a]? = some (.lst ((c :: cs).map .int))) (hb : m[b]? = some (.dct (dk a l t s false))) :
    ∃ (l' : Int) (cs' : List Int), cs' ≠ [] ∧ cs'.length ≤ cs.length + 1 ∧ F__law_next [.obj b] m = .ok (.d (.int (c % 1000000000000))) ((m.set a (.lst (cs'.map .int))).set b (.dct (dk a l' t s false))) := by
  have hbl := (List.getElem?_eq_some_iff.mp hb).1
  have hal := (List.getElem?_eq_some_iff.mp ha).1
  obtain ⟨n, hn⟩ : ∃ n, n = c % 1000000000000 := ⟨_, rfl⟩
  obtain ⟨d, hd⟩ : ∃ d, d = c / 1000000000000 := ⟨_, rfl⟩
  rw [← hn]
  obtain ⟨m1, hm1⟩ : ∃ m1, m1 = m.set a (.lst ((d :: cs).map .int)) := ⟨_, rfl⟩
  have ha1 : m1[a]? = some (.lst ((d :: cs).map .int)) := by rw [hm1]; exact set_b hal
  have hb1 : m1[b]? = some (.dct (dk a l t s false)) := by rw [hm1]; exact set_ba hab hb
  obtain ⟨m2, hm2⟩ : ∃ m2, m2 = m1.set b (.dct (dk a (l - 1) t s false)) := ⟨_, rfl⟩
  have hbl1 : b < m1.length := (List.getElem?_eq_some_iff.mp hb1).1
  have hb2 : m2[b]? = some (.dct (dk a (l - 1) t s false)) := by rw [hm2]; exact set_b hbl1
  have ha2 : m2[a]? = some (.lst ((d :: cs).map .int)) := by rw [hm2]; exact set_ab hab ha1
  have hml : m2.length = m.length := by rw [hm2, hm1, List.length_set, List.length_set]
  have g1 := dgetW_of hb lookC
  have g2 := dgetW_of hb lookM
  have g3 := dgetW_of hb1 lookL
  have g4 := dgetW_of hb2 lookL
  have hix := ix_obj (i := 0) (d := .int c) ha (by simp)
  have hp : powW (.d (.int 10)) (.d (.int 12)) m = .ok (.d (.int 1000000000000)) m := by rw [powW_s (by decide) (by decide) (by decide)]; rfl
  have hl2 := len_obj ha2
  rw [List.length_map, List.length_cons] at hl2
  have step : ∀ (Q : Res W → Prop), WP (fun r => Q (outF m.length r)) ((sSeq (sIf (tAndF (tBool (eOp (eqW false) (eOp dgetW (eVar 0) (eC (.str kL))) (eC (.int 0)))) (tBool (eOp gtW (eCall lenW (aCons (eVar 1) aNil)) (eC (.int 1))))) (sSeq (sDrop (eMt "list" popAtW (eVar 1) (aCons (eC (.int 0)) aNil)))
      (sSetD (eVar 0) (eC (.str kL)) (eC (.int 12)))) sNx) (sRet (eVar 3))) [some (.obj b), some (.obj a), none, some (.d (.int n))] m2) → Q (F__law_next [.obj b] m) := by
    intro Q h
    refine run_wp ?_
    unfold m__law_next
    rw [eKC, eKL, eKA, eKS, eKM]
    refine wp_go (by simp only [runF, env0, finM, sSeq, sNx, sIf, sRet, sAsg, asgK, gSet, sDrop, sAug, eS_ok, tBool, tTru, truW, eOp, eChain, eVar, eC, eFrz, eObj, aNil, aCons, eTup, eLst, asDs, eCall, eCallF, callM, noFl, tAndF, tOrF, tNotF, eAnd, eOr, eNot, eIsi, tyW, Tk.sub, eSl, oNone, oSome, eMt, eMt0, isTyW, eNeg, negW, Res.bind_ok, List.length_cons, List.length_nil, List.map_cons, List.map_nil, List.cons_append, List.nil_append, List.replicate, List.getElem?_cons_zero, List.getElem?_cons_succ, List.set_cons_zero, List.set_cons_succ, if_true, if_false, Nat.sub_self, Nat.reduceSub, Nat.reduceAdd, sizeLine_eq, g1]; rfl) ?_
    refine wp_sIfN (by simp only [runF, env0, finM, sSeq, sNx, sIf, sRet, sAsg, asgK, gSet, sDrop, sAug, eS_ok, tBool, tTru, truW, eOp, eChain, eVar, eC, eFrz, eObj, aNil, aCons, eTup, eLst, asDs, eCall, eCallF, callM, noFl, tAndF, tOrF, tNotF, eAnd, eOr, eNot, eIsi, tyW, Tk.sub, eSl, oNone, oSome, eMt, eMt0, isTyW, eNeg, negW, Res.bind_ok, List.length_cons, List.length_nil, List.map_cons, List.map_nil, List.cons_append, List.nil_append, List.replicate, List.getElem?_cons_zero, List.getElem?_cons_succ, List.set_cons_zero, List.set_cons_succ, if_true, if_false, Nat.sub_self, Nat.reduceSub, Nat.reduceAdd, sizeLine_eq, g2]; rfl) ?_
    refine wp_go (e := [some (.obj b), some (.obj a), none, some (.d (.int n))]) (m1 := m) (by simp only [runF, env0, finM, sSeq, sNx, sIf, sRet, sAsg, asgK, gSet, sDrop, sAug, eS_ok, tBool, tTru, truW, eOp, eChain, eVar, eC, eFrz, eObj, aNil, aCons, eTup, eLst, asDs, eCall, eCallF, callM, noFl, tAndF, tOrF, tNotF, eAnd, eOr, eNot, eIsi, tyW, Tk.sub, eSl, oNone, oSome, eMt, eMt0, isTyW, eNeg, negW, Res.bind_ok, List.length_cons, List.length_nil, List.map_cons, List.map_nil, List.cons_append, List.nil_append, List.replicate, List.getElem?_cons_zero, List.getElem?_cons_succ, List.set_cons_zero, List.set_cons_succ, if_true, if_false, Nat.sub_self, Nat.reduceSub, Nat.reduceAdd, sizeLine_eq, hix, hp, modW_s (show (0 : Int) < 1000000000000 by decide), ← hn]) ?_
    refine wp_go (e := [some (.obj b), some (.obj a), none, some (.d (.int n))]) (m1 := m1) (by rw [hm1]; exact setI0 (by simp only [runF, env0, finM, sSeq, sNx, sIf, sRet, sAsg, asgK, gSet, sDrop, sAug, eS_ok, tBool, tTru, truW, eOp, eChain, eVar, eC, eFrz, eObj, aNil, aCons, eTup, eLst, asDs, eCall, eCallF, callM, noFl, tAndF, tOrF, tNotF, eAnd, eOr, eNot, eIsi, tyW, Tk.sub, eSl, oNone, oSome, eMt, eMt0, isTyW, eNeg, negW, Res.bind_ok, List.length_cons, List.length_nil, List.map_cons, List.map_nil, List.cons_append, List.nil_append, List.replicate, List.getElem?_cons_zero, List.getElem?_cons_succ, List.set_cons_zero, List.set_cons_succ, if_true, if_false, Nat.sub_self, Nat.reduceSub, Nat.reduceAdd, sizeLine_eq]) (v := .int d) (by simp only [runF, env0, finM, sSeq, sNx, sIf, sRet, sAsg, asgK, gSet, sDrop, sAug, eS_ok, tBool, tTru, truW, eOp, eChain, eVar, eC, eFrz, eObj, aNil, aCons, eTup, eLst, asDs, eCall, eCallF, callM, noFl, tAndF, tOrF, tNotF, eAnd, eOr, eNot, eIsi, tyW, Tk.sub, eSl, oNone, oSome, eMt, eMt0, isTyW, eNeg, negW, Res.bind_ok, List.length_cons, List.length_nil, List.map_cons, List.map_nil, List.cons_append, List.nil_append, List.replicate, List.getElem?_cons_zero, List.getElem?_cons_succ, List.set_cons_zero, List.set_cons_succ, if_true, if_false, Nat.sub_self, Nat.reduceSub, Nat.reduceAdd, sizeLine_eq, hix, hp, divW_s (show (0 : Int) < 1000000000000 by decide) (by decide), ← hd]) ha) ?_
    refine wp_go (e := [some (.obj b), some (.obj a), none, some (.d (.int n))]) (m1 := m2) (by rw [hm2]; exact setD_of (by simp only [runF, env0, finM, sSeq, sNx, sIf, sRet, sAsg, asgK, gSet, sDrop, sAug, eS_ok, tBool, tTru, truW, eOp, eChain, eVar, eC, eFrz, eObj, aNil, aCons, eTup, eLst, asDs, eCall, eCallF, callM, noFl, tAndF, tOrF, tNotF, eAnd, eOr, eNot, eIsi, tyW, Tk.sub, eSl, oNone, oSome, eMt, eMt0, isTyW, eNeg, negW, Res.bind_ok, List.length_cons, List.length_nil, List.map_cons, List.map_nil, List.cons_append, List.nil_append, List.replicate, List.getElem?_cons_zero, List.getElem?_cons_succ, List.set_cons_zero, List.set_cons_succ, if_true, if_false, Nat.sub_self, Nat.reduceSub, Nat.reduceAdd, sizeLine_eq]) (v := .d (.int (l - 1))) (by simp only [runF, env0, finM, sSeq, sNx, sIf, sRet, sAsg, asgK, gSet, sDrop, sAug, eS_ok, tBool, tTru, truW, eOp, eChain, eVar, eC, eFrz, eObj, aNil, aCons, eTup, eLst, asDs, eCall, eCallF, callM, noFl, tAndF, tOrF, tNotF, eAnd, eOr, eNot, eIsi, tyW, Tk.sub, eSl, oNone, oSome, eMt, eMt0, isTyW, eNeg, negW, Res.bind_ok, List.length_cons, List.length_nil, List.map_cons, List.map_nil, List.cons_append, List.nil_append, List.replicate, List.getElem?_cons_zero, List.getElem?_cons_succ, List.set_cons_zero, List.set_cons_succ, if_true, if_false, Nat.sub_self, Nat.reduceSub, Nat.reduceAdd, sizeLine_eq, g3, subW_int]) hb1 (by simp [dk]) rfl (putL (l - 1))) ?_
    exact h
  by_cases hc : l - 1 = 0 ∧ (1 : Int) < ((cs.length + 1 : Nat) : Int)
  · have hcs : cs ≠ [] := fun z => by rw [z] at hc; simp at hc
    obtain ⟨e, r, rfl⟩ := List.exists_cons_of_ne_nil hcs
    obtain ⟨m3, hm3⟩ : ∃ m3, m3 = m2.set a (.lst ((e :: r).map .int)) := ⟨_, rfl⟩
    have hal2 : a < m2.length := by omega
    have hb3 : m3[b]? = some (.dct (dk a (l - 1) t s false)) := by rw [hm3]; exact set_ba hab hb2
    have hpop := popAt0 (m := m2) (i := a) (d := .int d) (ds := (e :: r).map .int) ha2
    rw [← hm3] at hpop
    refine ⟨12, e :: r, by simp, by simp, step (fun res => res = .ok (.d (.int n)) ((m.set a (.lst ((e :: r).map .int))).set b (.dct (dk a 12 t s false)))) ?_⟩
    have hm2e : m2 = m1.set b (.dct (dk a (l - 1) t s false)) := hm2
    have h2 : (1 : Int) < ((r.length + 1 + 1 : Nat) : Int) := by omega
    refine wp_sIfT (by simp only [runF, env0, finM, sSeq, sNx, sIf, sRet, sAsg, asgK, gSet, sDrop, sAug, eS_ok, tBool, tTru, truW, eOp, eChain, eVar, eC, eFrz, eObj, aNil, aCons, eTup, eLst, asDs, eCall, eCallF, callM, noFl, tAndF, tOrF, tNotF, eAnd, eOr, eNot, eIsi, tyW, Tk.sub, eSl, oNone, oSome, eMt, eMt0, isTyW, eNeg, negW, Res.bind_ok, List.length_cons, List.length_nil, List.map_cons, List.map_nil, List.cons_append, List.nil_append, List.replicate, List.getElem?_cons_zero, List.getElem?_cons_succ, List.set_cons_zero, List.set_cons_succ, if_true, if_false, Nat.sub_self, Nat.reduceSub, Nat.reduceAdd, sizeLine_eq, g4, eqW_int, ngB, hc.1, decide_true, hl2, gtW_int, h2]; rfl) ?_
    refine wp_go (e := [some (.obj b), some (.obj a), none, some (.d (.int n))]) (m1 := m3) (by
      simp only [runF, env0, finM, sSeq, sNx, sIf, sRet, sAsg, asgK, gSet, sDrop, sAug, eS_ok, tBool, tTru, truW, eOp, eChain, eVar, eC, eFrz, eObj, aNil, aCons, eTup, eLst, asDs, eCall, eCallF, callM, noFl, tAndF, tOrF, tNotF, eAnd, eOr, eNot, eIsi, tyW, Tk.sub, eSl, oNone, oSome, eMt, eMt0, isTyW, eNeg, negW, Res.bind_ok, List.length_cons, List.length_nil, List.map_cons, List.map_nil, List.cons_append, List.nil_append, List.replicate, List.getElem?_cons_zero, List.getElem?_cons_succ, List.set_cons_zero, List.set_cons_succ, if_true, if_false, Nat.sub_self, Nat.reduceSub, Nat.reduceAdd, sizeLine_eq, isTyW, ha2, hpop]
      rfl) ?_
    refine wp_then (e := [some (.obj b), some (.obj a), none, some (.d (.int n))]) (m1 := m3.set b (.dct (dk a 12 t s false))) (setD_of (by simp only [runF, env0, finM, sSeq, sNx, sIf, sRet, sAsg, asgK, gSet, sDrop, sAug, eS_ok, tBool, tTru, truW, eOp, eChain, eVar, eC, eFrz, eObj, aNil, aCons, eTup, eLst, asDs, eCall, eCallF, callM, noFl, tAndF, tOrF, tNotF, eAnd, eOr, eNot, eIsi, tyW, Tk.sub, eSl, oNone, oSome, eMt, eMt0, isTyW, eNeg, negW, Res.bind_ok, List.length_cons, List.length_nil, List.map_cons, List.map_nil, List.cons_append, List.nil_append, List.replicate, List.getElem?_cons_zero, List.getElem?_cons_succ, List.set_cons_zero, List.set_cons_succ, if_true, if_false, Nat.sub_self, Nat.reduceSub, Nat.reduceAdd, sizeLine_eq]) (v := .d (.int 12)) (by simp only [runF, env0, finM, sSeq, sNx, sIf, sRet, sAsg, asgK, gSet, sDrop, sAug, eS_ok, tBool, tTru, truW, eOp, eChain, eVar, eC, eFrz, eObj, aNil, aCons, eTup, eLst, asDs, eCall, eCallF, callM, noFl, tAndF, tOrF, tNotF, eAnd, eOr, eNot, eIsi, tyW, Tk.sub, eSl, oNone, oSome, eMt, eMt0, isTyW, eNeg, negW, Res.bind_ok, List.length_cons, List.length_nil, List.map_cons, List.map_nil, List.cons_append, List.nil_append, List.replicate, List.getElem?_cons_zero, List.getElem?_cons_succ, List.set_cons_zero, List.set_cons_succ, if_true, if_false, Nat.sub_self, Nat.reduceSub, Nat.reduceAdd, sizeLine_eq]) hb3 (by simp [dk]) rfl (putL 12)) ?_
    refine wp_ret (by simp only [runF, env0, finM, sSeq, sNx, sIf, sRet, sAsg, asgK, gSet, sDrop, sAug, eS_ok, tBool, tTru, truW, eOp, eChain, eVar, eC, eFrz, eObj, aNil, aCons, eTup, eLst, asDs, eCall, eCallF, callM, noFl, tAndF, tOrF, tNotF, eAnd, eOr, eNot, eIsi, tyW, Tk.sub, eSl, oNone, oSome, eMt, eMt0, isTyW, eNeg, negW, Res.bind_ok, List.length_cons, List.length_nil, List.map_cons, List.map_nil, List.cons_append, List.nil_append, List.replicate, List.getElem?_cons_zero, List.getElem?_cons_succ, List.set_cons_zero, List.set_cons_succ, if_true, if_false, Nat.sub_self, Nat.reduceSub, Nat.reduceAdd, sizeLine_eq]; rfl) ?_
    have e5 : m3.set b (.dct (dk a 12 t s false)) = (m.set a (.lst ((e :: r).map .int))).set b (.dct (dk a 12 t s false)) := by
      rw [hm3, hm2, hm1]
      rw [List.set_comm _ _ (show b ≠ a by omega), List.set_set, List.set_set]
    rw [e5]
    simp [outF, finM, List.take_of_length_le]
  · refine ⟨l - 1, d :: cs, by simp, by simp, step (fun res => res = .ok (.d (.int n)) ((m.set a (.lst ((d :: cs).map .int))).set b (.dct (dk a (l - 1) t s false)))) ?_⟩
    refine wp_sIfN (by
      by_cases h1 : l - 1 = 0
      · have h2 : ¬ (1 : Int) < ((cs.length + 1 : Nat) : Int) := fun z => hc ⟨h1, z⟩
        simp only [runF, env0, finM, sSeq, sNx, sIf, sRet, sAsg, asgK, gSet, sDrop, sAug, eS_ok, tBool, tTru, truW, eOp, eChain, eVar, eC, eFrz, eObj, aNil, aCons, eTup, eLst, asDs, eCall, eCallF, callM, noFl, tAndF, tOrF, tNotF, eAnd, eOr, eNot, eIsi, tyW, Tk.sub, eSl, oNone, oSome, eMt, eMt0, isTyW, eNeg, negW, Res.bind_ok, List.length_cons, List.length_nil, List.map_cons, List.map_nil, List.cons_append, List.nil_append, List.replicate, List.getElem?_cons_zero, List.getElem?_cons_succ, List.set_cons_zero, List.set_cons_succ, if_true, if_false, Nat.sub_self, Nat.reduceSub, Nat.reduceAdd, sizeLine_eq, g4, eqW_int, ngB, h1, decide_true, hl2, gtW_int, h2, decide_false]
        rfl
      · simp only [runF, env0, finM, sSeq, sNx, sIf, sRet, sAsg, asgK, gSet, sDrop, sAug, eS_ok, tBool, tTru, truW, eOp, eChain, eVar, eC, eFrz, eObj, aNil, aCons, eTup, eLst, asDs, eCall, eCallF, callM, noFl, tAndF, tOrF, tNotF, eAnd, eOr, eNot, eIsi, tyW, Tk.sub, eSl, oNone, oSome, eMt, eMt0, isTyW, eNeg, negW, Res.bind_ok, List.length_cons, List.length_nil, List.map_cons, List.map_nil, List.cons_append, List.nil_append, List.replicate, List.getElem?_cons_zero, List.getElem?_cons_succ, List.set_cons_zero, List.set_cons_succ, if_true, if_false, Nat.sub_self, Nat.reduceSub, Nat.reduceAdd, sizeLine_eq, g4, eqW_int, ngB, h1, decide_false]
        rfl) ?_
    refine wp_ret (by simp only [runF, env0, finM, sSeq, sNx, sIf, sRet, sAsg, asgK, gSet, sDrop, sAug, eS_ok, tBool, tTru, truW, eOp, eChain, eVar, eC, eFrz, eObj, aNil, aCons, eTup, eLst, asDs, eCall, eCallF, callM, noFl, tAndF, tOrF, tNotF, eAnd, eOr, eNot, eIsi, tyW, Tk.sub, eSl, oNone, oSome, eMt, eMt0, isTyW, eNeg, negW, Res.bind_ok, List.length_cons, List.length_nil, List.map_cons, List.map_nil, List.cons_append, List.nil_append, List.replicate, List.getElem?_cons_zero, List.getElem?_cons_succ, List.set_cons_zero, List.set_cons_succ, if_true, if_false, Nat.sub_self, Nat.reduceSub, Nat.reduceAdd, sizeLine_eq]; rfl) ?_
    rw [hm2, hm1]
    simp [outF, finM, List.take_of_length_le]
theorem law_next {a b : Nat} {m : Mem} (h : Dk a b m) : ∃ (n : Int) (m' : Mem), 0 ≤ n ∧ n < 1000000000000 ∧ Dk a b m' ∧ DSt a b m m' ∧ F__law_next [.obj b] m = .ok (.d (.int n)) m' := by
  have hab := h.ab
  have hbl := h.lt
  obtain ⟨cs, l, t, s, x, h1, h2, h3, h4, h5, h6⟩ := h.ex
  cases x with
  | true =>
    obtain ⟨n, s', n1, n2, n3, n4, hF⟩ := next_mixed hab h1 h5 h6
    exact ⟨n, _, n1, n2, ⟨hab, cs, l, t + 1, s', true, h1, h2, n3, n4, set_ab hab h5, set_b hbl⟩, DSt.setB a b m _, hF⟩
  | false =>
    obtain ⟨c, r, rfl⟩ := List.exists_cons_of_ne_nil h1
    obtain ⟨l', cs', n1, n2, hF⟩ := next_plain hab h5 h6
    simp only [List.length_cons] at h2
    exact ⟨_, _, by omega, by omega, ⟨hab, cs', l', t, s, false, n1, by omega, h3, h4, set_ab hab (set_b (by omega)), set_b (by rw [List.length_set]; exact hbl)⟩, (DSt.setA a b m _).trans (DSt.setB a b _ _), hF⟩
theorem dInts_ints : ∀ ns : List Int, dInts (ns.map PyData.int) = some ns
  | [] => rfl
  | n :: ns => by rw [List.map_cons, dInts, dInts_ints ns]; rfl
theorem law_deck {ns : List Int} {m : Mem} (hn : ns.length ≤ 63) : ∃ m1 : List O, m1.length = 2 ∧ Dk m.length (m.length + 1) (m ++ m1) ∧ F__law_deck [.ro (ns.map .int)] m = .ok (.obj (m.length + 1)) (m ++ m1) := by
  obtain ⟨cs, hcs⟩ : ∃ cs, cs = ns.take 63 ++ [(0 : Int)] := ⟨_, rfl⟩
  have hlen : cs.length ≤ 64 := by rw [hcs]; simp; omega
  obtain ⟨c, r, hcr⟩ := List.exists_cons_of_ne_nil (show cs ≠ [] by rw [hcs]; simp)
  obtain ⟨A, hA⟩ : ∃ A : List D, A = (ns.take 63).map .int := ⟨_, rfl⟩
  have hsl : slW (.ro (ns.map .int)) none (some 63) m = .ok (.fl A) m := by
    simp only [slW, asL]
    rw [cutD_take (by decide), hA, List.map_take]
    rfl
  have hadd : addW (.fl A) (.fl [.int 0]) m = .ok (.fl (cs.map .int)) m := by
    simp only [addW, asT, asL, hA, List.length_map, List.length_singleton]
    rw [if_pos (by rw [sizeLine_eq, List.length_take]; omega), hcs]
    simp
  obtain ⟨x, hx⟩ : ∃ x, x = decide (c % 2 = 1) := ⟨_, rfl⟩
  obtain ⟨d, hd⟩ : ∃ d, d = c / 2 := ⟨_, rfl⟩
  obtain ⟨q, hq⟩ : ∃ q, q = 1 + (d :: r).sum % 2147483646 := ⟨_, rfl⟩
  have ix0 := ix_obj (m := m ++ [O.lst (cs.map .int)]) (a := m.length) (ds := cs.map .int) (i := 0) (d := .int c) (by simp) (by rw [hcr]; simp)
  have hset : ∀ {env : En} {o f : EF} {v : D}, o env (m ++ [O.lst (cs.map .int)]) = .ok (.obj m.length) (m ++ [O.lst (cs.map .int)]) → f env (m ++ [O.lst (cs.map .int)]) = .ok (.d v) (m ++ [O.lst (cs.map .int)]) → sSetI o (eC (.int 0)) f env (m ++ [O.lst (cs.map .int)]) = .nx env (m ++ [O.lst (v :: r.map .int)]) := fun ho hf => by
    have := setI0 (a := m.length) (d := .int c) (ds := r.map .int) ho hf (by rw [hcr]; simp)
    rw [this, mem_set_last]
  have hset' := fun env o f => @hset env o f (.int d)
  have hsum : sumW [.obj m.length] (m ++ [O.lst ((d :: r).map .int)]) = .ok (.d (.int (d :: r).sum)) (m ++ [O.lst ((d :: r).map .int)]) := by
    have e := dInts_ints (d :: r)
    have e2 : asL (.obj m.length) (m ++ [O.lst ((d :: r).map .int)]) = some ((d :: r).map .int) := by simp [asL]
    simp only [sumW, lst1, e2, Option.bind_some, e]
  have hrl : r.length + 1 = cs.length := by rw [hcr]; rfl
  refine ⟨[.lst ((d :: r).map .int), .dct (dk m.length 12 0 q x)], rfl, ⟨by omega, d :: r, 12, 0, q, x, by simp, by simp; omega, by omega, by omega, by simp, by simp⟩, ?_⟩
  have hB1 : PyData.int d :: r.map .int = (d :: r).map .int := rfl
  rw [hB1] at hset'
  obtain ⟨B, hB⟩ : ∃ B : List D, B = (d :: r).map .int := ⟨_, rfl⟩
  rw [← hB] at hsum hset' ⊢
  have key : WP (fun res => res = .rt (.obj (m.length + 1)) (m ++ [.lst B, .dct (dk m.length 12 0 q x)])) (m__law_deck (env0 3 [.ro (ns.map .int)]) m) := by
    unfold m__law_deck
    refine wp_go (e := [some (.ro (ns.map .int)), some (.obj m.length), none]) (m1 := m ++ [O.lst (cs.map .int)]) (by simp [runF, env0, finM, sSeq, sNx, sIf, sRet, sAsg, asgK, gSet, sDrop, sAug, eS_ok, tBool, tTru, truW, eOp, eChain, eVar, eC, eFrz, eObj, aNil, aCons, eTup, eLst, asDs, eCall, eCallF, callM, noFl, tAndF, tOrF, tNotF, eAnd, eOr, eNot, eIsi, tyW, Tk.sub, eSl, oNone, oSome, eMt, eMt0, isTyW, eNeg, negW, Res.bind_ok, List.length_cons, List.length_nil, List.map_cons, List.map_nil, List.cons_append, List.nil_append, List.replicate, List.getElem?_cons_zero, List.getElem?_cons_succ, List.set_cons_zero, List.set_cons_succ, if_true, if_false, Nat.sub_self, Nat.reduceSub, Nat.reduceAdd, sizeLine_eq, hsl, hadd]) ?_
    refine wp_go (e := [some (.ro (ns.map .int)), some (.obj m.length), some (.d (.bool x))]) (m1 := m ++ [O.lst (cs.map .int)]) (by simp only [runF, env0, finM, sSeq, sNx, sIf, sRet, sAsg, asgK, gSet, sDrop, sAug, eS_ok, tBool, tTru, truW, eOp, eChain, eVar, eC, eFrz, eObj, aNil, aCons, eTup, eLst, asDs, eCall, eCallF, callM, noFl, tAndF, tOrF, tNotF, eAnd, eOr, eNot, eIsi, tyW, Tk.sub, eSl, oNone, oSome, eMt, eMt0, isTyW, eNeg, negW, Res.bind_ok, List.length_cons, List.length_nil, List.map_cons, List.map_nil, List.cons_append, List.nil_append, List.replicate, List.getElem?_cons_zero, List.getElem?_cons_succ, List.set_cons_zero, List.set_cons_succ, if_true, if_false, Nat.sub_self, Nat.reduceSub, Nat.reduceAdd, sizeLine_eq, ix0, modW_s (show (0 : Int) < 2 by decide), eqW_int, ngB, hx, Bool.false_eq_true]) ?_
    refine wp_go (e := [some (.ro (ns.map .int)), some (.obj m.length), some (.d (.bool x))]) (m1 := m ++ [O.lst B]) (hset' _ _ _ (by simp only [runF, env0, finM, sSeq, sNx, sIf, sRet, sAsg, asgK, gSet, sDrop, sAug, eS_ok, tBool, tTru, truW, eOp, eChain, eVar, eC, eFrz, eObj, aNil, aCons, eTup, eLst, asDs, eCall, eCallF, callM, noFl, tAndF, tOrF, tNotF, eAnd, eOr, eNot, eIsi, tyW, Tk.sub, eSl, oNone, oSome, eMt, eMt0, isTyW, eNeg, negW, Res.bind_ok, List.length_cons, List.length_nil, List.map_cons, List.map_nil, List.cons_append, List.nil_append, List.replicate, List.getElem?_cons_zero, List.getElem?_cons_succ, List.set_cons_zero, List.set_cons_succ, if_true, if_false, Nat.sub_self, Nat.reduceSub, Nat.reduceAdd, sizeLine_eq]) (by simp only [runF, env0, finM, sSeq, sNx, sIf, sRet, sAsg, asgK, gSet, sDrop, sAug, eS_ok, tBool, tTru, truW, eOp, eChain, eVar, eC, eFrz, eObj, aNil, aCons, eTup, eLst, asDs, eCall, eCallF, callM, noFl, tAndF, tOrF, tNotF, eAnd, eOr, eNot, eIsi, tyW, Tk.sub, eSl, oNone, oSome, eMt, eMt0, isTyW, eNeg, negW, Res.bind_ok, List.length_cons, List.length_nil, List.map_cons, List.map_nil, List.cons_append, List.nil_append, List.replicate, List.getElem?_cons_zero, List.getElem?_cons_succ, List.set_cons_zero, List.set_cons_succ, if_true, if_false, Nat.sub_self, Nat.reduceSub, Nat.reduceAdd, sizeLine_eq, ix0, divW_s (show (0 : Int) < 2 by decide) (by decide), ← hd])) ?_
    refine wp_ret (w := .obj (m.length + 1)) (m1 := m ++ [.lst B, .dct (dk m.length 12 0 q x)]) (by
      simp only [runF, env0, finM, sSeq, sNx, sIf, sRet, sAsg, asgK, gSet, sDrop, sAug, eS_ok, tBool, tTru, truW, eOp, eChain, eVar, eC, eFrz, eObj, aNil, aCons, eTup, eLst, asDs, eCall, eCallF, callM, noFl, tAndF, tOrF, tNotF, eAnd, eOr, eNot, eIsi, tyW, Tk.sub, eSl, oNone, oSome, eMt, eMt0, isTyW, eNeg, negW, Res.bind_ok, List.length_cons, List.length_nil, List.map_cons, List.map_nil, List.cons_append, List.nil_append, List.replicate, List.getElem?_cons_zero, List.getElem?_cons_succ, List.set_cons_zero, List.set_cons_succ, if_true, if_false, Nat.sub_self, Nat.reduceSub, Nat.reduceAdd, sizeLine_eq, eDict, hsum, modW_s (show (0 : Int) < 2147483646 by decide), addW_int, ← hq, List.all_cons, List.all_nil, okW, List.length_append, Bool.and_true]
      simp [dk, kC, kL, kA, kS, kM]) ?_
    rfl
  have key : m__law_deck (env0 3 [.ro (ns.map .int)]) m = _ := key
  unfold F__law_deck runA
  rw [key]

end K10

set_option Elab.async false
set_option linter.all false
set_option maxRecDepth 100000
set_option maxHeartbeats 1000000
namespace K10
open PySem L2 M
def isC (c : Nat) : Bool := decide (97 ≤ c) && decide (c ≤ 122)
structure isW (w : List Nat) : Prop where
  lo : 1 ≤ w.length
  hi : w.length ≤ 8
  ab : ∀ c ∈ w, 97 ≤ c ∧ c ≤ 122
def abc : List Nat := (List.range 26).map (· + 97)
theorem abc_eq : Str.ofString "abcdefghijklmnopqrstuvwxyz" = S abc := by decide +kernel
theorem abc_len : abc.length = 26 := rfl
theorem abc_get {k : Nat} (h : k < 26) : abc[k]? = some (k + 97) := by
  unfold abc
  rw [List.getElem?_map, List.getElem?_range h]
  rfl
theorem ab_at {i : Int} (h0 : 0 ≤ i) (h1 : i < 26) : L2.atI abc i = some (i.toNat + 97) := by
  rw [atI_of h0]
  exact abc_get (by omega)
theorem okC_ab {w : List Nat} (h : ∀ c ∈ w, 97 ≤ c ∧ c ≤ 122) : okC w = true := by
  unfold okC
  rw [List.all_eq_true]
  intro c hc
  have := h c hc
  exact decide_eq_true (by omega)
theorem nil_eq : Str.ofString "" = S [] := by decide +kernel
def sts (ws : List (List Nat)) : List D := ws.map fun w => .str (S w)
theorem pigeon {α : Type} [DecidableEq α] (f : Nat → α) : ∀ (l : List α) (s : List Nat), s.Nodup → (∀ i ∈ s, ∀ j ∈ s, f i = f j → i = j) → l.length < s.length → ∃ j ∈ s, f j ∉ l
  | [], s, _, _, h => by
    cases s with
    | nil => simp at h
    | cons a r => exact ⟨a, List.mem_cons_self, by simp⟩
  | a :: t, s, nd, inj, h => by
    by_cases ha : ∃ j ∈ s, f j = a
    · obtain ⟨j, hj, e⟩ := ha
      obtain ⟨k, hk, hn⟩ := pigeon f t (s.erase j) (nd.erase j) (fun x hx y hy => inj x (List.mem_of_mem_erase hx) y (List.mem_of_mem_erase hy)) (by
        rw [List.length_erase_of_mem hj]
        simp at h
        omega)
      have hks := List.mem_of_mem_erase hk
      refine ⟨k, hks, fun z => ?_⟩
      rcases List.mem_cons.mp z with z | z
      · have : k = j := inj k hks j hj (z.trans e.symm)
        subst this
        exact (List.Nodup.not_mem_erase nd) hk
      · exact hn z
    · obtain ⟨k, hk, hn⟩ := pigeon f t s nd inj (by simp at h; omega)
      refine ⟨k, hk, fun z => ?_⟩
      rcases List.mem_cons.mp z with z | z
      · exact ha ⟨k, hk, z⟩
      · exact hn z
theorem canLayAll0_sts : ∀ {ws : List (List Nat)}, (∀ w ∈ ws, okC w = true) → PyData.canLayAll0 (sts ws) = true
  | [], _ => by simp [sts, PyData.canLayAll0]
  | w :: ws, h => by
    have := canLayAll0_sts (ws := ws) fun u hu => h u (List.mem_cons_of_mem _ hu)
    unfold sts at this
    simp [sts, PyData.canLayAll0, PyData.canLay0, strOk_S, h w List.mem_cons_self, this]
theorem depthAll_sts : ∀ ws : List (List Nat), PyData.depthAll (sts ws) = 0
  | [] => by simp [sts, PyData.depthAll]
  | w :: ws => by
    have := depthAll_sts ws
    unfold sts at this
    simp [sts, PyData.depthAll, PyData.depth, this]
theorem shaped_sts {ws : List (List Nat)} (h : ∀ w ∈ ws, okC w = true) : SeqAt.shaped (.list (sts ws)) = true := by
  show ((PyData.list (sts ws)).canLay0 && decide ((PyData.list (sts ws)).depth ≤ 64)) = _
  simp [PyData.canLay0, PyData.depth, canLayAll0_sts h, depthAll_sts]
theorem any_sts (w : List Nat) (ws : List (List Nat)) : ((sts ws).any fun z => PyData.eqv z (.str (S w))) = decide (w ∈ ws) := by
  rw [Bool.eq_iff_iff, List.any_eq_true]
  unfold sts
  constructor
  · rintro ⟨x, hx, e⟩
    obtain ⟨u, hu, rfl⟩ := List.mem_map.mp hx
    have e : u = w := by simpa using e
    rw [← e]
    exact decide_eq_true hu
  · intro h
    exact ⟨_, List.mem_map.mpr ⟨w, of_decide_eq_true h, rfl⟩, by simp⟩
theorem inW_sts {m : Mem} {x : W} {w : List Nat} {ws : List (List Nat)} {neg : Bool} (h : asL x m = some (sts ws)) (hx : ∀ y, x ≠ .d y) (hw : okC w = true) (hs : ∀ w ∈ ws, okC w = true) : inW neg (.d (.str (S w))) x m = .ok (.d (.bool (ngB neg (decide (w ∈ ws))))) m := by
  have go : ∀ x : W, (∀ y, x ≠ .d y) → inW neg (.d (.str (S w))) x m = match asD (.d (.str (S w))) m, asL x m with
      | some a, some ds => if (SeqAt.shaped a && SeqAt.shaped (.list ds)) = true then .ok (.d (.bool (ngB neg (ds.any fun z => PyData.eqv z a)))) m else .bad
      | _, _ => .bad := fun x hx => by
    cases x with
    | d y => exact absurd rfl (hx y)
    | _ => rfl
  rw [go x hx, h]
  simp only [asD, shaped_str, hw, shaped_sts hs, Bool.and_self, if_true, any_sts]
theorem isW.okC {w : List Nat} (h : isW w) : okC w = true := okC_ab h.ab
theorem isW.last {w : List Nat} (h : isW w) : ∃ p c, w = p ++ [c] := by
  have : w ≠ [] := fun e => by have := h.lo; rw [e] at this; simp at this
  exact ⟨w.dropLast, w.getLast this, (List.dropLast_concat_getLast this).symm⟩

/-! ### words from the deck -/
def spell : Nat → Nat → List Nat
  | 0, _ => []
  | k + 1, n => (97 + n % 26) :: spell k (n / 26)
theorem spell_len : ∀ k n, (spell k n).length = k
  | 0, _ => rfl
  | k + 1, n => by rw [spell, List.length_cons, spell_len k]
theorem spell_ab : ∀ k n, ∀ c ∈ spell k n, 97 ≤ c ∧ c ≤ 122
  | 0, _, c, h => nomatch h
  | k + 1, n, c, h => by
    rcases List.mem_cons.mp h with rfl | h
    · omega
    · exact spell_ab k _ c h
theorem spell_inj : ∀ k n n', spell k n = spell k n' → n % 26 ^ k = n' % 26 ^ k
  | 0, n, n', _ => by rw [Nat.pow_zero, Nat.mod_one, Nat.mod_one]
  | k + 1, n, n', h => by
    have h1 := (List.cons.inj h).1
    have h2 := spell_inj k _ _ (List.cons.inj h).2
    have e : ∀ n : Nat, n % 26 ^ (k + 1) = n % 26 + 26 * (n / 26 % 26 ^ k) := fun n => by
      rw [Nat.pow_succ, Nat.mul_comm, Nat.mod_mul]
    rw [e, e, h2]
    omega
theorem isW_spell {k n : Nat} (h : 1 ≤ k) (h' : k ≤ 8) : isW (spell k n) := ⟨by rw [spell_len]; exact h, by rw [spell_len]; exact h', spell_ab k n⟩
def spI (k0 n0 : Nat) (m : Mem) (i : Nat) (env : En) (m' : Mem) : Prop := ∃ (w : List Nat) (n : Nat) (x : Option W), env = [some (.d (.int (n : Int))), some (.d (.int (k0 : Int))), some (.d (.str (S w))), x] ∧ m' = m ∧ w.length = i ∧ ∃ r, i + r = k0 ∧ w ++ spell r n = spell k0 n0
theorem sp_step {k0 n0 : Nat} {m : Mem} {i : Nat} {env : En} {m' : Mem} {v : W} (hi : i < k0) (hk : k0 ≤ 1000) : spI k0 n0 m i env m' → stepOk (sTg (gSet 3) b1__law_spelled v env m') (spI k0 n0 m (i + 1)) := by
  rintro ⟨w, n, x, rfl, rfl, hl, r, hr, hw⟩
  obtain ⟨r, rfl⟩ : ∃ q, r = q + 1 := ⟨r - 1, by omega⟩
  have hix := ixW_str (m := m') (l := abc) (i := (n : Int) % 26) (c := 97 + n % 26) (by decide) (by rw [ab_at (by omega) (by omega)]; congr 1; omega)
  have hadd := addW_str (m := m') (a := w) (b := [97 + n % 26]) (by rw [sizeLine_eq, List.length_singleton]; omega)
  have e1 : (n : Int) / 26 = ((n / 26 : Nat) : Int) := by omega
  unfold b1__law_spelled
  simp only [sTg, gSet, runF, env0, finM, sSeq, sNx, sIf, sRet, sAsg, asgK, gSet, sDrop, sAug, eS_ok, tBool, tTru, truW, eOp, eChain, eVar, eC, eFrz, eObj, aNil, aCons, eTup, eLst, asDs, eCall, eCallF, callM, noFl, tAndF, tOrF, tNotF, eAnd, eOr, eNot, eIsi, tyW, Tk.sub, eSl, oNone, oSome, eMt, eMt0, isTyW, eNeg, negW, Res.bind_ok, List.length_cons, List.length_nil, List.map_cons, List.map_nil, List.cons_append, List.nil_append, List.replicate, List.getElem?_cons_zero, List.getElem?_cons_succ, List.set_cons_zero, List.set_cons_succ, if_true, if_false, Nat.sub_self, Nat.reduceSub, Nat.reduceAdd, sizeLine_eq, abc_eq, modW_s (show (0 : Int) < 26 by decide), hix, hadd, divW_s (show (0 : Int) < 26 by decide) (by decide), e1, stepOk_nx]
  refine ⟨w ++ [97 + n % 26], n / 26, _, rfl, rfl, by simp [hl], r, by omega, ?_⟩
  rw [← hw, spell, List.append_assoc]
  rfl
theorem law_spelled (n k : Nat) (hk : k ≤ 1000) (m : Mem) : F__law_spelled [.d (.int (n : Int)), .d (.int (k : Int))] m = .ok (.d (.str (S (spell k n)))) m := by
  have hr (m : Mem) : rng1 [.d (.int (k : Int))] m = .ok (rngI 0 k) m := by rw [rng1_ok (by omega) (by omega)]; simp
  refine run_wp (Q := fun r => r = .ok (.d (.str (S (spell k n)))) m) ?_
  unfold m__law_spelled
  refine wp_go (by simp [runF, env0, finM, sSeq, sNx, sIf, sRet, sAsg, asgK, gSet, sDrop, sAug, eS_ok, tBool, tTru, truW, eOp, eChain, eVar, eC, eFrz, eObj, aNil, aCons, eTup, eLst, asDs, eCall, eCallF, callM, noFl, tAndF, tOrF, tNotF, eAnd, eOr, eNot, eIsi, tyW, Tk.sub, eSl, oNone, oSome, eMt, eMt0, isTyW, eNeg, negW, Res.bind_ok, List.length_cons, List.length_nil, List.map_cons, List.map_nil, List.cons_append, List.nil_append, List.replicate, List.getElem?_cons_zero, List.getElem?_cons_succ, List.set_cons_zero, List.set_cons_succ, if_true, if_false, Nat.sub_self, Nat.reduceSub, Nat.reduceAdd, sizeLine_eq, nil_eq] <;> (try first | rfl | exact ⟨rfl, rfl⟩)) ?_
  refine wp_sForR (by simp [runF, env0, finM, sSeq, sNx, sIf, sRet, sAsg, asgK, gSet, sDrop, sAug, eS_ok, tBool, tTru, truW, eOp, eChain, eVar, eC, eFrz, eObj, aNil, aCons, eTup, eLst, asDs, eCall, eCallF, callM, noFl, tAndF, tOrF, tNotF, eAnd, eOr, eNot, eIsi, tyW, Tk.sub, eSl, oNone, oSome, eMt, eMt0, isTyW, eNeg, negW, Res.bind_ok, List.length_cons, List.length_nil, List.map_cons, List.map_nil, List.cons_append, List.nil_append, List.replicate, List.getElem?_cons_zero, List.getElem?_cons_succ, List.set_cons_zero, List.set_cons_succ, if_true, if_false, Nat.sub_self, Nat.reduceSub, Nat.reduceAdd, sizeLine_eq, iRange1, hr] <;> (try first | rfl | exact ⟨rfl, rfl⟩)) (spI k n m) ⟨[], n, _, rfl, rfl, rfl, k, by omega, rfl⟩ (fun i env m' hi hp => sp_step hi hk hp) ?_
  rintro _ _ ⟨w, n', x, rfl, rfl, hl, r, hr, hw⟩
  have : r = 0 := by omega
  subst this
  rw [spell, List.append_nil] at hw
  refine wp_ret (by simp [runF, env0, finM, sSeq, sNx, sIf, sRet, sAsg, asgK, gSet, sDrop, sAug, eS_ok, tBool, tTru, truW, eOp, eChain, eVar, eC, eFrz, eObj, aNil, aCons, eTup, eLst, asDs, eCall, eCallF, callM, noFl, tAndF, tOrF, tNotF, eAnd, eOr, eNot, eIsi, tyW, Tk.sub, eSl, oNone, oSome, eMt, eMt0, isTyW, eNeg, negW, Res.bind_ok, List.length_cons, List.length_nil, List.map_cons, List.map_nil, List.cons_append, List.nil_append, List.replicate, List.getElem?_cons_zero, List.getElem?_cons_succ, List.set_cons_zero, List.set_cons_succ, if_true, if_false, Nat.sub_self, Nat.reduceSub, Nat.reduceAdd, sizeLine_eq] <;> (try first | rfl | exact ⟨rfl, rfl⟩)) ?_
  rw [hw]
  simp
def anyL : List Nat := [97, 110, 121]
theorem any_eq : Str.ofString "any" = S anyL := by decide +kernel
theorem okC_any : okC anyL = true := by decide
/-- a word that is free comes -/
theorem word_free (n s : Nat) (h1 : 1 ≤ s) (h8 : s ≤ 8) (ws : List (List Nat)) (hl : ws.length ≤ 100) : ∃ J, 1 ≤ J ∧ J ≤ 900 ∧ spell ((s - 1 + J) % 8 + 1) (n + J) ∉ ws ∧ spell ((s - 1 + J) % 8 + 1) (n + J) ≠ anyL := by
  obtain ⟨i8, hi1, hi2, hi3⟩ : ∃ i8, 1 ≤ i8 ∧ i8 ≤ 8 ∧ (s - 1 + i8) % 8 = 7 := by
    by_cases h : s = 8
    · exact ⟨8, by omega, by omega, by omega⟩
    · exact ⟨8 - s, by omega, by omega, by omega⟩
  have e : ∀ j, (s - 1 + (i8 + 8 * j)) % 8 + 1 = 8 := fun j => by omega
  obtain ⟨j, hj, hn⟩ := pigeon (fun j => spell 8 (n + (i8 + 8 * j))) ws (List.range (ws.length + 1)) List.nodup_range (fun i hi j hj h => by
    have h := spell_inj 8 _ _ h
    have hi := List.mem_range.mp hi
    have hj := List.mem_range.mp hj
    have : (26 : Nat) ^ 8 = 208827064576 := by decide
    rw [this] at h
    omega) (by simp)
  have hj := List.mem_range.mp hj
  refine ⟨i8 + 8 * j, by omega, by omega, by rw [e]; exact hn, fun z => ?_⟩
  have := congrArg List.length z
  rw [e, spell_len] at this
  cases this

end K10

set_option Elab.async false
set_option linter.all false
set_option maxRecDepth 100000
set_option maxHeartbeats 1000000
namespace K10
open PySem L2 M
theorem eqW_nil {n : Bool} {k : Nat} {m : Mem} {ws : List (List Nat)} (h : m[k]? = some (.lst (sts ws))) (hw : ∀ w ∈ ws, okC w = true) : eqW n (.obj k) (.fl []) m = .ok (.d (.bool (ngB n (decide (ws = []))))) m := by
  have e : asL (.obj k) m = some (sts ws) := by simp [asL, h]
  have e1 : asD (.obj k) m = some (.list (sts ws)) := by
    show (asL (.obj k) m).map _ = _
    rw [e]
    rfl
  have e2 : asD (.fl []) m = some (.list []) := rfl
  unfold eqW
  rw [e1, e2]
  simp only [shaped_sts hw, shaped_nil, Bool.and_self, if_true]
  cases ws with
  | nil => cases n <;> simp [sts, PyData.eqv, PyData.eqvAll, ngB]
  | cons w ws => cases n <;> simp [sts, PyData.eqv, PyData.eqvAll, ngB]
def wdI (b k n s J : Nat) (ws : List (List Nat)) (A : List (Option W)) (m : Mem) (q : Nat) (env : En) (m' : Mem) : Prop := ∃ (j : Nat) (w : List Nat) (z : Option W), j + q = J ∧ isW w ∧ (1 ≤ j → w = spell ((s - 1 + j) % 8 + 1) (n + j)) ∧ env = A ++ [some (.d (.int ((n + j : Nat) : Int))), some (.d (.int (((s - 1 + j) % 8 + 1 : Nat) : Int))), some (.d (.str (S w))), z] ∧ m' = m
def wdZ (ws : List (List Nat)) (A : List (Option W)) (m : Mem) (env : En) (m' : Mem) : Prop := ∃ (x y z : Option W) (w : List Nat), isW w ∧ w ∉ ws ∧ w ≠ anyL ∧ env = A ++ [x, y, some (.d (.str (S w))), z] ∧ m' = m
theorem wd_step {b k n s J : Nat} {ws : List (List Nat)} {x : Option W} {m : Mem} (hk : m[k]? = some (.lst (sts ws))) (hws : ∀ w ∈ ws, isW w) (hJ : spell ((s - 1 + J) % 8 + 1) (n + J) ∉ ws) (hJ2 : spell ((s - 1 + J) % 8 + 1) (n + J) ≠ anyL) (hJ1 : 1 ≤ J) (q : Nat) (env : En) (m' : Mem) : wdI b k n s J ws [some (.obj b), some (.obj k), x] m q env m' →
    (((tOrF (tBool (eOp (inW false) (eVar 5) (eVar 1))) (tBool (eOp (eqW false) (eVar 5) (eC (.str (Str.ofString "any"))))))) env m').wp fun t m1 => if t = true then stepOk (b1__law_word env m1) (fun e m' => ∃ k', k' < q ∧ wdI b k n s J ws [some (.obj b), some (.obj k), x] m k' e m') else wdZ ws [some (.obj b), some (.obj k), x] m env m1 := by
  rintro ⟨j, w, z, hj, hw, hwj, rfl, rfl⟩
  have hin := inW_sts (m := m') (x := .obj k) (w := w) (ws := ws) (neg := false) (by simp [asL, hk]) (fun _ h => nomatch h) hw.okC (fun w h => (hws w h).okC)
  have hany := eqW_str (m := m') (n := false) hw.okC okC_any
  have go : (w ∈ ws ∨ w = anyL) → (((tOrF (tBool (eOp (inW false) (eVar 5) (eVar 1))) (tBool (eOp (eqW false) (eVar 5) (eC (.str (Str.ofString "any"))))))) ([some (.obj b), some (.obj k), x] ++ [some (.d (.int ((n + j : Nat) : Int))), some (.d (.int (((s - 1 + j) % 8 + 1 : Nat) : Int))), some (.d (.str (S w))), z]) m') = .ok true m' := by
    intro h
    by_cases h1 : w ∈ ws
    · simp only [runF, env0, finM, sSeq, sNx, sIf, sRet, sAsg, asgK, gSet, sDrop, sAug, eS_ok, tBool, tTru, truW, eOp, eChain, eVar, eC, eFrz, eObj, aNil, aCons, eTup, eLst, asDs, eCall, eCallF, callM, noFl, tAndF, tOrF, tNotF, eAnd, eOr, eNot, eIsi, tyW, Tk.sub, eSl, oNone, oSome, eMt, eMt0, isTyW, eNeg, negW, Res.bind_ok, List.length_cons, List.length_nil, List.map_cons, List.map_nil, List.cons_append, List.nil_append, List.replicate, List.getElem?_cons_zero, List.getElem?_cons_succ, List.set_cons_zero, List.set_cons_succ, if_true, if_false, Nat.sub_self, Nat.reduceSub, Nat.reduceAdd, sizeLine_eq, hin, h1, ngB, decide_true]
      rfl
    · have h2 : decide (w = anyL) = true := decide_eq_true (h.resolve_left h1)
      simp only [runF, env0, finM, sSeq, sNx, sIf, sRet, sAsg, asgK, gSet, sDrop, sAug, eS_ok, tBool, tTru, truW, eOp, eChain, eVar, eC, eFrz, eObj, aNil, aCons, eTup, eLst, asDs, eCall, eCallF, callM, noFl, tAndF, tOrF, tNotF, eAnd, eOr, eNot, eIsi, tyW, Tk.sub, eSl, oNone, oSome, eMt, eMt0, isTyW, eNeg, negW, Res.bind_ok, List.length_cons, List.length_nil, List.map_cons, List.map_nil, List.cons_append, List.nil_append, List.replicate, List.getElem?_cons_zero, List.getElem?_cons_succ, List.set_cons_zero, List.set_cons_succ, if_true, if_false, Nat.sub_self, Nat.reduceSub, Nat.reduceAdd, sizeLine_eq, hin, h1, ngB, decide_false, any_eq, hany, h2]
      rfl
  by_cases hc : w ∈ ws ∨ w = anyL
  · rw [go hc, Res.wp_ok, if_pos rfl]
    have hq : 0 < q := by
      rcases Nat.eq_zero_or_pos q with h0 | h0
      · exfalso
        have hjJ : j = J := by omega
        subst hjJ
        have hw2 := hwj hJ1
        rw [← hw2] at hJ hJ2
        exact hc.elim hJ hJ2
      · exact h0
    have c1 : ((n + j : Nat) : Int) + 1 = ((n + (j + 1) : Nat) : Int) := by omega
    have c2 : (((s - 1 + j) % 8 + 1 : Nat) : Int) % 8 + 1 = (((s - 1 + (j + 1)) % 8 + 1 : Nat) : Int) := by omega
    have hsp := law_spelled (n + (j + 1)) ((s - 1 + (j + 1)) % 8 + 1) (by omega) m'
    unfold b1__law_word
    simp only [runF, env0, finM, sSeq, sNx, sIf, sRet, sAsg, asgK, gSet, sDrop, sAug, eS_ok, tBool, tTru, truW, eOp, eChain, eVar, eC, eFrz, eObj, aNil, aCons, eTup, eLst, asDs, eCall, eCallF, callM, noFl, tAndF, tOrF, tNotF, eAnd, eOr, eNot, eIsi, tyW, Tk.sub, eSl, oNone, oSome, eMt, eMt0, isTyW, eNeg, negW, Res.bind_ok, List.length_cons, List.length_nil, List.map_cons, List.map_nil, List.cons_append, List.nil_append, List.replicate, List.getElem?_cons_zero, List.getElem?_cons_succ, List.set_cons_zero, List.set_cons_succ, if_true, if_false, Nat.sub_self, Nat.reduceSub, Nat.reduceAdd, sizeLine_eq, addW_int, c1, modW_s (show (0 : Int) < 8 by decide), c2, hsp, stepOk_nx]
    exact ⟨q - 1, by omega, j + 1, _, z, by omega, isW_spell (by omega) (by omega), fun _ => rfl, rfl, rfl⟩
  · have h1 : w ∉ ws := fun h => hc (.inl h)
    have h2 : w ≠ anyL := fun h => hc (.inr h)
    simp only [runF, env0, finM, sSeq, sNx, sIf, sRet, sAsg, asgK, gSet, sDrop, sAug, eS_ok, tBool, tTru, truW, eOp, eChain, eVar, eC, eFrz, eObj, aNil, aCons, eTup, eLst, asDs, eCall, eCallF, callM, noFl, tAndF, tOrF, tNotF, eAnd, eOr, eNot, eIsi, tyW, Tk.sub, eSl, oNone, oSome, eMt, eMt0, isTyW, eNeg, negW, Res.bind_ok, List.length_cons, List.length_nil, List.map_cons, List.map_nil, List.cons_append, List.nil_append, List.replicate, List.getElem?_cons_zero, List.getElem?_cons_succ, List.set_cons_zero, List.set_cons_succ, if_true, if_false, Nat.sub_self, Nat.reduceSub, Nat.reduceAdd, sizeLine_eq, hin, h1, ngB, decide_false, any_eq, hany, h2, Res.wp_ok, Bool.false_eq_true]
    exact ⟨_, _, z, w, hw, h1, h2, rfl, rfl⟩
theorem law_word {a b k : Nat} {m : Mem} {ws : List (List Nat)} (h : Dk a b m) (hka : k ≠ a) (hkb : k ≠ b) (hk : m[k]? = some (.lst (sts ws))) (hws : ∀ w ∈ ws, isW w) (hl : ws.length ≤ 100) : ∃ (w : List Nat) (m' : Mem), isW w ∧ w ∉ ws ∧ w ≠ anyL ∧ Dk a b m' ∧ DSt a b m m' ∧ F__law_word [.obj b, .obj k] m = .ok (.d (.str (S w))) m' := by
  obtain ⟨n1, m1, p1, q1, D1, S1, F1⟩ := law_next h
  obtain ⟨n2, m2, p2, q2, D2, S2, F2⟩ := law_next D1
  have S12 := S1.trans S2
  have hk2 : m2[k]? = some (.lst (sts ws)) := by rw [S12.same k hka hkb]; exact hk
  obtain ⟨n, rfl⟩ : ∃ n : Nat, n2 = (n : Int) := ⟨n2.toNat, by omega⟩
  obtain ⟨s, hs⟩ : ∃ s : Nat, 1 + n1 % 8 = (s : Int) := ⟨(1 + n1 % 8).toNat, by omega⟩
  have hs1 : 1 ≤ s := by omega
  have hs8 : s ≤ 8 := by omega
  obtain ⟨J, hJ1, hJ9, hJ, hJ2⟩ := word_free n s hs1 hs8 ws hl
  have hsp := law_spelled n s (by omega) m2
  have hnil := eqW_nil (n := true) hk2 (fun w h => (hws w h).okC)
  have hml : m.length = m2.length := S12.len.symm
  refine run_wp (Q := fun r => ∃ (w : List Nat) (m' : Mem), isW w ∧ w ∉ ws ∧ w ≠ anyL ∧ Dk a b m' ∧ DSt a b m m' ∧ r = .ok (.d (.str (S w))) m') ?_
  unfold m__law_word
  refine wp_go (by simp only [runF, env0, finM, sSeq, sNx, sIf, sRet, sAsg, asgK, gSet, sDrop, sAug, eS_ok, tBool, tTru, truW, eOp, eChain, eVar, eC, eFrz, eObj, aNil, aCons, eTup, eLst, asDs, eCall, eCallF, callM, noFl, tAndF, tOrF, tNotF, eAnd, eOr, eNot, eIsi, tyW, Tk.sub, eSl, oNone, oSome, eMt, eMt0, isTyW, eNeg, negW, Res.bind_ok, List.length_cons, List.length_nil, List.map_cons, List.map_nil, List.cons_append, List.nil_append, List.replicate, List.getElem?_cons_zero, List.getElem?_cons_succ, List.set_cons_zero, List.set_cons_succ, if_true, if_false, Nat.sub_self, Nat.reduceSub, Nat.reduceAdd, sizeLine_eq, F1]; rfl) ?_
  refine wp_go (by simp only [runF, env0, finM, sSeq, sNx, sIf, sRet, sAsg, asgK, gSet, sDrop, sAug, eS_ok, tBool, tTru, truW, eOp, eChain, eVar, eC, eFrz, eObj, aNil, aCons, eTup, eLst, asDs, eCall, eCallF, callM, noFl, tAndF, tOrF, tNotF, eAnd, eOr, eNot, eIsi, tyW, Tk.sub, eSl, oNone, oSome, eMt, eMt0, isTyW, eNeg, negW, Res.bind_ok, List.length_cons, List.length_nil, List.map_cons, List.map_nil, List.cons_append, List.nil_append, List.replicate, List.getElem?_cons_zero, List.getElem?_cons_succ, List.set_cons_zero, List.set_cons_succ, if_true, if_false, Nat.sub_self, Nat.reduceSub, Nat.reduceAdd, sizeLine_eq, F2]; rfl) ?_
  refine wp_go (by simp only [runF, env0, finM, sSeq, sNx, sIf, sRet, sAsg, asgK, gSet, sDrop, sAug, eS_ok, tBool, tTru, truW, eOp, eChain, eVar, eC, eFrz, eObj, aNil, aCons, eTup, eLst, asDs, eCall, eCallF, callM, noFl, tAndF, tOrF, tNotF, eAnd, eOr, eNot, eIsi, tyW, Tk.sub, eSl, oNone, oSome, eMt, eMt0, isTyW, eNeg, negW, Res.bind_ok, List.length_cons, List.length_nil, List.map_cons, List.map_nil, List.cons_append, List.nil_append, List.replicate, List.getElem?_cons_zero, List.getElem?_cons_succ, List.set_cons_zero, List.set_cons_succ, if_true, if_false, Nat.sub_self, Nat.reduceSub, Nat.reduceAdd, sizeLine_eq, modW_s (show (0 : Int) < 8 by decide), addW_int, hs]; rfl) ?_
  refine wp_go (by simp only [runF, env0, finM, sSeq, sNx, sIf, sRet, sAsg, asgK, gSet, sDrop, sAug, eS_ok, tBool, tTru, truW, eOp, eChain, eVar, eC, eFrz, eObj, aNil, aCons, eTup, eLst, asDs, eCall, eCallF, callM, noFl, tAndF, tOrF, tNotF, eAnd, eOr, eNot, eIsi, tyW, Tk.sub, eSl, oNone, oSome, eMt, eMt0, isTyW, eNeg, negW, Res.bind_ok, List.length_cons, List.length_nil, List.map_cons, List.map_nil, List.cons_append, List.nil_append, List.replicate, List.getElem?_cons_zero, List.getElem?_cons_succ, List.set_cons_zero, List.set_cons_succ, if_true, if_false, Nat.sub_self, Nat.reduceSub, Nat.reduceAdd, sizeLine_eq, hsp]; rfl) ?_
  have fin : ∀ (w : List Nat) (z : Option W), isW w → WP (fun r => ∃ (w : List Nat) (m' : Mem), isW w ∧ w ∉ ws ∧ w ≠ anyL ∧ Dk a b m' ∧ DSt a b m m' ∧ outF m.length r = .ok (.d (.str (S w))) m') ((sSeq (whileM (tOrF (tBool (eOp (inW false) (eVar 5) (eVar 1))) (tBool (eOp (eqW false) (eVar 5) (eC (.str (Str.ofString "any")))))) b1__law_word 1000) (sRet (eVar 5))) [some (.obj b), some (.obj k), some (.d (.int n1)), some (.d (.int (n : Int))), some (.d (.int (s : Int))), some (.d (.str (S w))), z] m2) := by
    intro w z hw
    refine wp_sWhile (k0 := J) (wdI b k n s J ws [some (.obj b), some (.obj k), some (.d (.int n1))] m2) (wdZ ws [some (.obj b), some (.obj k), some (.d (.int n1))] m2) ⟨0, w, z, by omega, hw, fun h => by omega, by
      have : (s - 1 + 0) % 8 + 1 = s := by omega
      rw [this]
      rfl, rfl⟩ (by omega) (fun q env m' h => wd_step hk2 hws hJ hJ2 hJ1 q env m' h) ?_
    rintro _ m' ⟨x, y, z, w, hw, h1, h2, rfl, hm'⟩
    rw [hm']
    refine wp_ret (by simp only [runF, env0, finM, sSeq, sNx, sIf, sRet, sAsg, asgK, gSet, sDrop, sAug, eS_ok, tBool, tTru, truW, eOp, eChain, eVar, eC, eFrz, eObj, aNil, aCons, eTup, eLst, asDs, eCall, eCallF, callM, noFl, tAndF, tOrF, tNotF, eAnd, eOr, eNot, eIsi, tyW, Tk.sub, eSl, oNone, oSome, eMt, eMt0, isTyW, eNeg, negW, Res.bind_ok, List.length_cons, List.length_nil, List.map_cons, List.map_nil, List.cons_append, List.nil_append, List.replicate, List.getElem?_cons_zero, List.getElem?_cons_succ, List.set_cons_zero, List.set_cons_succ, if_true, if_false, Nat.sub_self, Nat.reduceSub, Nat.reduceAdd, sizeLine_eq]; rfl) ?_
    exact ⟨w, m2, hw, h1, h2, D2, S12, by rw [hml]; simp⟩
  by_cases hc : ws ≠ [] ∧ n1 / 8 % 2 = 1
  · obtain ⟨u, us, rfl⟩ := List.exists_cons_of_ne_nil hc.1
    have hu := hws u List.mem_cons_self
    have hul := hu.lo
    have hu8 := hu.hi
    obtain ⟨t, ht⟩ : ∃ t : Nat, n1 / 16 % (u.length : Int) = (t : Int) := ⟨(n1 / 16 % (u.length : Int)).toNat, by have := Int.emod_nonneg (n1 / 16) (show (u.length : Int) ≠ 0 by omega); omega⟩
    have htl : t < u.length := by have := Int.emod_lt_of_pos (n1 / 16) (show 0 < (u.length : Int) by omega); omega
    have i0 := ix_obj (i := 0) (d := .str (S u)) hk2 (by simp [sts])
    have hlen : lenW [.d (.str (S u))] m2 = .ok (.d (.int (u.length : Int))) m2 := by
      show (if (S u).length ≤ sizeLine then Res.ok (W.d (.int ((S u).length : Int))) m2 else .bad) = _
      rw [if_pos (show (S u).length ≤ sizeLine by rw [S_len, sizeLine_eq]; omega), S_len]
    have hsz : (S u).length ≤ sizeLine := by rw [S_len, sizeLine_eq]; omega
    have s1 : slW (.d (.str (S u))) none (some (t : Int)) m2 = .ok (.d (.str (S (u.take t)))) m2 := by
      show (if (S u).length ≤ sizeLine then Res.ok (W.d (.str (cutS (S u) none (some (t : Int))))) m2 else .bad) = _
      rw [if_pos hsz, cutS_take (by omega)]
      rfl
    have s2 : slW (.d (.str (S u))) (some ((t : Int) + 1)) none m2 = .ok (.d (.str (S (u.drop (t + 1))))) m2 := by
      show (if (S u).length ≤ sizeLine then Res.ok (W.d (.str (cutS (S u) (some ((t : Int) + 1)) none))) m2 else .bad) = _
      rw [if_pos hsz, cutS_drop (by omega)]
      rfl
    obtain ⟨c, r, hcr⟩ := List.exists_cons_of_ne_nil (show spell s n ≠ [] from fun z => by have := spell_len s n; rw [z] at this; simp at this; omega)
    have hcab := spell_ab s n c (by rw [hcr]; exact List.mem_cons_self)
    have hix := ixW_str (m := m2) (l := spell s n) (i := 0) (c := c) (by rw [spell_len, sizeLine_eq]; omega) (by rw [hcr]; simp)
    have a1 := addW_str (m := m2) (a := u.take t) (b := [c]) (by rw [sizeLine_eq, List.length_singleton, List.length_take]; omega)
    have a2 := addW_str (m := m2) (a := u.take t ++ [c]) (b := u.drop (t + 1)) (by rw [sizeLine_eq, List.length_append, List.length_singleton, List.length_take, List.length_drop]; omega)
    have hmod := modW_pos (m := m2) (i := n1 / 16) (j := (u.length : Int)) (by omega)
    refine wp_sIfT (by simp only [runF, env0, finM, sSeq, sNx, sIf, sRet, sAsg, asgK, gSet, sDrop, sAug, eS_ok, tBool, tTru, truW, eOp, eChain, eVar, eC, eFrz, eObj, aNil, aCons, eTup, eLst, asDs, eCall, eCallF, callM, noFl, tAndF, tOrF, tNotF, eAnd, eOr, eNot, eIsi, tyW, Tk.sub, eSl, oNone, oSome, eMt, eMt0, isTyW, eNeg, negW, Res.bind_ok, List.length_cons, List.length_nil, List.map_cons, List.map_nil, List.cons_append, List.nil_append, List.replicate, List.getElem?_cons_zero, List.getElem?_cons_succ, List.set_cons_zero, List.set_cons_succ, if_true, if_false, Nat.sub_self, Nat.reduceSub, Nat.reduceAdd, sizeLine_eq, Nat.zero_le, hnil, hc.1, ngB, decide_false, divW_s (show (0 : Int) < 8 by decide) (by decide), modW_s (show (0 : Int) < 2 by decide), eqW_int, hc.2, decide_true]; rfl) ?_
    refine wp_go (by simp only [runF, env0, finM, sSeq, sNx, sIf, sRet, sAsg, asgK, gSet, sDrop, sAug, eS_ok, tBool, tTru, truW, eOp, eChain, eVar, eC, eFrz, eObj, aNil, aCons, eTup, eLst, asDs, eCall, eCallF, callM, noFl, tAndF, tOrF, tNotF, eAnd, eOr, eNot, eIsi, tyW, Tk.sub, eSl, oNone, oSome, eMt, eMt0, isTyW, eNeg, negW, Res.bind_ok, List.length_cons, List.length_nil, List.map_cons, List.map_nil, List.cons_append, List.nil_append, List.replicate, List.getElem?_cons_zero, List.getElem?_cons_succ, List.set_cons_zero, List.set_cons_succ, if_true, if_false, Nat.sub_self, Nat.reduceSub, Nat.reduceAdd, sizeLine_eq, divW_s (show (0 : Int) < 16 by decide) (by decide), i0, hlen, hmod, ht]; rfl) ?_
    refine wp_then (by simp only [runF, env0, finM, sSeq, sNx, sIf, sRet, sAsg, asgK, gSet, sDrop, sAug, eS_ok, tBool, tTru, truW, eOp, eChain, eVar, eC, eFrz, eObj, aNil, aCons, eTup, eLst, asDs, eCall, eCallF, callM, noFl, tAndF, tOrF, tNotF, eAnd, eOr, eNot, eIsi, tyW, Tk.sub, eSl, oNone, oSome, eMt, eMt0, isTyW, eNeg, negW, Res.bind_ok, List.length_cons, List.length_nil, List.map_cons, List.map_nil, List.cons_append, List.nil_append, List.replicate, List.getElem?_cons_zero, List.getElem?_cons_succ, List.set_cons_zero, List.set_cons_succ, if_true, if_false, Nat.sub_self, Nat.reduceSub, Nat.reduceAdd, sizeLine_eq, i0, s1, hix, a1, addW_int, s2, a2]; rfl) ?_
    refine fin (u.take t ++ [c] ++ u.drop (t + 1)) _ ⟨?_, ?_, fun d hd => ?_⟩
    · rw [List.length_append, List.length_append, List.length_singleton]; omega
    · rw [List.length_append, List.length_append, List.length_singleton, List.length_take, List.length_drop]; omega
    · rcases List.mem_append.mp hd with hd | hd
      · rcases List.mem_append.mp hd with hd | hd
        · exact hu.ab d (List.mem_of_mem_take hd)
        · rw [List.mem_singleton.mp hd]; exact hcab
      · exact hu.ab d (List.mem_of_mem_drop hd)
  · refine wp_sIfN (by
      by_cases h1 : ws = []
      · simp only [runF, env0, finM, sSeq, sNx, sIf, sRet, sAsg, asgK, gSet, sDrop, sAug, eS_ok, tBool, tTru, truW, eOp, eChain, eVar, eC, eFrz, eObj, aNil, aCons, eTup, eLst, asDs, eCall, eCallF, callM, noFl, tAndF, tOrF, tNotF, eAnd, eOr, eNot, eIsi, tyW, Tk.sub, eSl, oNone, oSome, eMt, eMt0, isTyW, eNeg, negW, Res.bind_ok, List.length_cons, List.length_nil, List.map_cons, List.map_nil, List.cons_append, List.nil_append, List.replicate, List.getElem?_cons_zero, List.getElem?_cons_succ, List.set_cons_zero, List.set_cons_succ, if_true, if_false, Nat.sub_self, Nat.reduceSub, Nat.reduceAdd, sizeLine_eq, Nat.zero_le, hnil, h1, ngB, decide_true]; rfl
      · have h2 : ¬ n1 / 8 % 2 = 1 := fun z => hc ⟨h1, z⟩
        simp only [runF, env0, finM, sSeq, sNx, sIf, sRet, sAsg, asgK, gSet, sDrop, sAug, eS_ok, tBool, tTru, truW, eOp, eChain, eVar, eC, eFrz, eObj, aNil, aCons, eTup, eLst, asDs, eCall, eCallF, callM, noFl, tAndF, tOrF, tNotF, eAnd, eOr, eNot, eIsi, tyW, Tk.sub, eSl, oNone, oSome, eMt, eMt0, isTyW, eNeg, negW, Res.bind_ok, List.length_cons, List.length_nil, List.map_cons, List.map_nil, List.cons_append, List.nil_append, List.replicate, List.getElem?_cons_zero, List.getElem?_cons_succ, List.set_cons_zero, List.set_cons_succ, if_true, if_false, Nat.sub_self, Nat.reduceSub, Nat.reduceAdd, sizeLine_eq, Nat.zero_le, hnil, h1, ngB, decide_false, divW_s (show (0 : Int) < 8 by decide) (by decide), modW_s (show (0 : Int) < 2 by decide), eqW_int, h2]; rfl) ?_
    exact fin (spell s n) _ (isW_spell hs1 hs8)
def wsI (a b : Nat) (n : Int) (m : Mem) (i : Nat) (env : En) (m' : Mem) : Prop := ∃ (ws : List (List Nat)) (m1 : Mem) (x : Option W), env = [some (.obj b), some (.d (.int n)), some (.obj m.length), x] ∧ m' = m1 ++ [.lst (sts ws)] ∧ Dk a b m1 ∧ DSt a b m m1 ∧ ws.length = i ∧ (∀ w ∈ ws, isW w ∧ w ≠ anyL) ∧ ws.Nodup
theorem ws_step {a b : Nat} {n : Int} {m : Mem} {i : Nat} {env : En} {m' : Mem} {v : W} (hi : i < 100) : wsI a b n m i env m' → stepOk (sTg (gSet 3) b1__law_words v env m') (wsI a b n m (i + 1)) := by
  rintro ⟨ws, m1, x, rfl, rfl, hD, hS, hl, hw, nd⟩
  have hml := hS.len
  have hbl := hD.lt
  have hab := hD.ab
  obtain ⟨w, m2, h1, h2, h3, D2, S2, F2⟩ := law_word (k := m.length) (ws := ws) (hD.app [.lst (sts ws)]) (by omega) (by omega) (by rw [← hml]; simp) (fun w h => (hw w h).1) (by omega)
  obtain ⟨m3, rfl, S3⟩ := S2.split (by omega) (by omega)
  have D3 := D2.unapp (by rw [S3.len]; omega)
  have hml3 : m3.length = m.length := by rw [S3.len, hml]
  have ho : appendW (.obj m.length) [.d (.str (S w))] (m3 ++ [O.lst (sts ws)]) = .ok (.d .none) (m3 ++ [.lst (sts (ws ++ [w]))]) := by
    rw [← hml3]
    simp [appendW, asO, sts, hl, sizeLine_eq]
    omega
  have hty : (m1 ++ [O.lst (sts ws)])[m.length]? = some (.lst (sts ws)) := by rw [← hml]; simp
  unfold b1__law_words
  simp only [runF, env0, finM, sSeq, sNx, sIf, sRet, sAsg, asgK, gSet, sDrop, sAug, eS_ok, tBool, tTru, truW, eOp, eChain, eVar, eC, eFrz, eObj, aNil, aCons, eTup, eLst, asDs, eCall, eCallF, callM, noFl, tAndF, tOrF, tNotF, eAnd, eOr, eNot, eIsi, tyW, Tk.sub, eSl, oNone, oSome, eMt, eMt0, isTyW, eNeg, negW, Res.bind_ok, List.length_cons, List.length_nil, List.map_cons, List.map_nil, List.cons_append, List.nil_append, List.replicate, List.getElem?_cons_zero, List.getElem?_cons_succ, List.set_cons_zero, List.set_cons_succ, if_true, if_false, Nat.sub_self, Nat.reduceSub, Nat.reduceAdd, sizeLine_eq, sTg, gSet, hty, F2, ho, stepOk_nx]
  refine ⟨ws ++ [w], m3, _, rfl, rfl, D3, hS.trans S3, by simp [hl], fun u hu => ?_, ?_⟩
  · rcases List.mem_append.mp hu with h | h
    · exact hw u h
    · rw [List.mem_singleton.mp h]; exact ⟨h1, h3⟩
  · rw [List.nodup_append]
    refine ⟨nd, by simp, fun p hp q hq => ?_⟩
    rw [List.mem_singleton.mp hq]
    exact fun z => h2 (z ▸ hp)
theorem law_words {a b : Nat} {m : Mem} (h : Dk a b m) (n : Nat) (hn : n ≤ 100) : ∃ (ws : List (List Nat)) (m' : Mem), ws.length = n ∧ (∀ w ∈ ws, isW w ∧ w ≠ anyL) ∧ ws.Nodup ∧ Dk a b m' ∧ DSt a b m m' ∧ F__law_words [.obj b, .d (.int (n : Int))] m = .ok (.fl (sts ws)) m' := by
  have hr (m : Mem) : rng1 [.d (.int (n : Int))] m = .ok (rngI 0 n) m := by rw [rng1_ok (by omega) (by omega)]; simp
  refine run_wp (Q := fun r => ∃ (ws : List (List Nat)) (m' : Mem), ws.length = n ∧ (∀ w ∈ ws, isW w ∧ w ≠ anyL) ∧ ws.Nodup ∧ Dk a b m' ∧ DSt a b m m' ∧ r = .ok (.fl (sts ws)) m') ?_
  unfold m__law_words
  refine wp_go (by simp [runF, env0, finM, sSeq, sNx, sIf, sRet, sAsg, asgK, gSet, sDrop, sAug, eS_ok, tBool, tTru, truW, eOp, eChain, eVar, eC, eFrz, eObj, aNil, aCons, eTup, eLst, asDs, eCall, eCallF, callM, noFl, tAndF, tOrF, tNotF, eAnd, eOr, eNot, eIsi, tyW, Tk.sub, eSl, oNone, oSome, eMt, eMt0, isTyW, eNeg, negW, Res.bind_ok, List.length_cons, List.length_nil, List.map_cons, List.map_nil, List.cons_append, List.nil_append, List.replicate, List.getElem?_cons_zero, List.getElem?_cons_succ, List.set_cons_zero, List.set_cons_succ, if_true, if_false, Nat.sub_self, Nat.reduceSub, Nat.reduceAdd, sizeLine_eq] <;> (try first | rfl | exact ⟨rfl, rfl⟩)) ?_
  refine wp_sForR (by simp [runF, env0, finM, sSeq, sNx, sIf, sRet, sAsg, asgK, gSet, sDrop, sAug, eS_ok, tBool, tTru, truW, eOp, eChain, eVar, eC, eFrz, eObj, aNil, aCons, eTup, eLst, asDs, eCall, eCallF, callM, noFl, tAndF, tOrF, tNotF, eAnd, eOr, eNot, eIsi, tyW, Tk.sub, eSl, oNone, oSome, eMt, eMt0, isTyW, eNeg, negW, Res.bind_ok, List.length_cons, List.length_nil, List.map_cons, List.map_nil, List.cons_append, List.nil_append, List.replicate, List.getElem?_cons_zero, List.getElem?_cons_succ, List.set_cons_zero, List.set_cons_succ, if_true, if_false, Nat.sub_self, Nat.reduceSub, Nat.reduceAdd, sizeLine_eq, iRange1, hr] <;> (try first | rfl | exact ⟨rfl, rfl⟩)) (wsI a b n m) ⟨[], m, _, rfl, rfl, h, DSt.refl a b m, rfl, ⟨fun w h => (nomatch h), List.nodup_nil⟩⟩ (fun i env m' hi hp => ws_step (by omega) hp) ?_
  rintro _ _ ⟨ws, m1, x, rfl, rfl, hD, hS, hl, hw, nd⟩
  refine wp_ret (by simp only [runF, env0, finM, sSeq, sNx, sIf, sRet, sAsg, asgK, gSet, sDrop, sAug, eS_ok, tBool, tTru, truW, eOp, eChain, eVar, eC, eFrz, eObj, aNil, aCons, eTup, eLst, asDs, eCall, eCallF, callM, noFl, tAndF, tOrF, tNotF, eAnd, eOr, eNot, eIsi, tyW, Tk.sub, eSl, oNone, oSome, eMt, eMt0, isTyW, eNeg, negW, Res.bind_ok, List.length_cons, List.length_nil, List.map_cons, List.map_nil, List.cons_append, List.nil_append, List.replicate, List.getElem?_cons_zero, List.getElem?_cons_succ, List.set_cons_zero, List.set_cons_succ, if_true, if_false, Nat.sub_self, Nat.reduceSub, Nat.reduceAdd, sizeLine_eq]; rfl) ?_
  refine ⟨ws, m1, hl, hw, nd, hD, hS, ?_⟩
  rw [← hS.len]
  exact outF_obj (i := 0) rfl

end K10

set_option Elab.async false
set_option linter.all false
set_option maxRecDepth 100000
set_option maxHeartbeats 1000000
namespace K10
open PySem L2 M
/-! ### kinds -/
inductive Kd where
  | b (w : List Nat)
  | p (x y : Kd)
def encK : Kd → D
  | .b w => .str (S w)
  | .p x y => .tuple [encK x, encK y]
def Kd.size : Kd → Nat
  | .b _ => 1
  | .p x y => x.size + y.size
def Kd.wf : Kd → Prop
  | .b w => isW w
  | .p x y => x.wf ∧ y.wf
theorem Kd.size_pos : ∀ f : Kd, 1 ≤ f.size
  | .b _ => Nat.le_refl _
  | .p x y => by have := x.size_pos; show 1 ≤ x.size + y.size; omega
def textK : Kd → List Nat
  | .b w => w
  | .p x y => 40 :: (textK x ++ [62] ++ textK y ++ [41])
theorem textK_len : ∀ {f : Kd}, f.wf → (textK f).length + 3 ≤ 11 * f.size
  | .b w, h => by
    have := isW.hi h
    show w.length + 3 ≤ 11 * 1
    omega
  | .p x y, h => by
    have hx := textK_len h.1
    have hy := textK_len h.2
    show (40 :: (textK x ++ [62] ++ textK y ++ [41])).length + 3 ≤ 11 * (x.size + y.size)
    simp only [List.length_append, List.length_cons, List.length_nil]
    omega
theorem okC_app {a b : List Nat} (ha : okC a = true) (hb : okC b = true) : okC (a ++ b) = true := by
  unfold okC at *
  rw [List.all_append, ha, hb]
  rfl
theorem okC_textK : ∀ {f : Kd}, f.wf → okC (textK f) = true
  | .b w, h => isW.okC h
  | .p x y, h => okC_app (a := [40]) rfl (okC_app (okC_app (okC_app (okC_textK h.1) rfl) (okC_textK h.2)) rfl)
theorem open_eq : Str.ofString "(" = S [40] := by decide +kernel
theorem close_eq : Str.ofString ")" = S [41] := by decide +kernel
theorem gt_eq : Str.ofString ">" = S [62] := by decide +kernel
theorem ixT0 (a : D) (r : List D) {m : Mem} : ixW (.d (.tuple (a :: r))) (.d (.int 0)) m = .ok (.d a) m := ixW_tup (by simp)
theorem ixT1 (a b : D) (r : List D) {m : Mem} : ixW (.d (.tuple (a :: b :: r))) (.d (.int 1)) m = .ok (.d b) m := ixW_tup (by simp)
section
variable {x y : Kd} {m : Mem}
theorem k_a1 (hx : x.wf) (hs : x.size + y.size ≤ 1000) : addW (.d (.str (S [40]))) (.d (.str (S (textK x)))) m = .ok (.d (.str (S (40 :: textK x)))) m := addW_str (a := [40]) (by have := textK_len hx; rw [sizeLine_eq, List.length_singleton]; omega)
theorem k_a2 (hx : x.wf) (hs : x.size + y.size ≤ 1000) : addW (.d (.str (S (40 :: textK x)))) (.d (.str (S [62]))) m = .ok (.d (.str (S (40 :: (textK x ++ [62]))))) m := addW_str (by have := textK_len hx; rw [sizeLine_eq, List.length_cons, List.length_singleton]; omega)
theorem k_a3 (hx : x.wf) (hy : y.wf) (hs : x.size + y.size ≤ 1000) : addW (.d (.str (S (40 :: (textK x ++ [62]))))) (.d (.str (S (textK y)))) m = .ok (.d (.str (S (40 :: (textK x ++ [62] ++ textK y))))) m := addW_str (by have := textK_len hx; have := textK_len hy; rw [sizeLine_eq, List.length_cons, List.length_append, List.length_singleton]; omega)
theorem k_a4 (hx : x.wf) (hy : y.wf) (hs : x.size + y.size ≤ 1000) : addW (.d (.str (S (40 :: (textK x ++ [62] ++ textK y))))) (.d (.str (S [41]))) m = .ok (.d (.str (S (textK (.p x y))))) m := addW_str (by have := textK_len hx; have := textK_len hy; rw [sizeLine_eq, List.length_cons, List.length_append, List.length_append, List.length_singleton, List.length_singleton]; omega)
end
theorem kind_text_ok : ∀ (n : Nat) (f : Kd) (m : Mem), f.size ≤ n → f.size ≤ 1000 → f.wf → F__law_kind_text n [.d (encK f)] m = .ok (.d (.str (S (textK f)))) m
  | 0, f, m, h, _, _ => by have := f.size_pos; omega
  | n + 1, .b w, m, h, _, hw => by
    refine run_wp (Q := fun r => r = .ok (.d (.str (S w))) m) ?_
    unfold m__law_kind_text
    refine wp_sIfR (by simp [runF, env0, finM, sSeq, sNx, sIf, sRet, sAsg, asgK, gSet, sDrop, sAug, eS_ok, tBool, tTru, truW, eOp, eChain, eVar, eC, eFrz, eObj, aNil, aCons, eTup, eLst, asDs, eCall, eCallF, callM, noFl, tAndF, tOrF, tNotF, eAnd, eOr, eNot, eIsi, tyW, Tk.sub, eSl, oNone, oSome, eMt, eMt0, isTyW, eNeg, negW, Res.bind_ok, List.length_cons, List.length_nil, List.map_cons, List.map_nil, List.cons_append, List.nil_append, List.replicate, List.getElem?_cons_zero, List.getElem?_cons_succ, List.set_cons_zero, List.set_cons_succ, if_true, if_false, Nat.sub_self, Nat.reduceSub, Nat.reduceAdd, sizeLine_eq, encK] <;> (try first | rfl | exact ⟨rfl, rfl⟩)) (by simp [runF, env0, finM, sSeq, sNx, sIf, sRet, sAsg, asgK, gSet, sDrop, sAug, eS_ok, tBool, tTru, truW, eOp, eChain, eVar, eC, eFrz, eObj, aNil, aCons, eTup, eLst, asDs, eCall, eCallF, callM, noFl, tAndF, tOrF, tNotF, eAnd, eOr, eNot, eIsi, tyW, Tk.sub, eSl, oNone, oSome, eMt, eMt0, isTyW, eNeg, negW, Res.bind_ok, List.length_cons, List.length_nil, List.map_cons, List.map_nil, List.cons_append, List.nil_append, List.replicate, List.getElem?_cons_zero, List.getElem?_cons_succ, List.set_cons_zero, List.set_cons_succ, if_true, if_false, Nat.sub_self, Nat.reduceSub, Nat.reduceAdd, sizeLine_eq, encK] <;> (try first | rfl | exact ⟨rfl, rfl⟩)) ?_
    simp
  | n + 1, .p x y, m, h, hs, hw => by
    have px := x.size_pos
    have py := y.size_pos
    have h : x.size + y.size ≤ n + 1 := h
    have hs : x.size + y.size ≤ 1000 := hs
    have ix := kind_text_ok n x m (by omega) (by omega) hw.1
    have iy := kind_text_ok n y m (by omega) (by omega) hw.2
    refine run_wp (Q := fun r => r = .ok (.d (.str (S (textK (.p x y))))) m) ?_
    unfold m__law_kind_text
    refine wp_sIfN (by simp [runF, env0, finM, sSeq, sNx, sIf, sRet, sAsg, asgK, gSet, sDrop, sAug, eS_ok, tBool, tTru, truW, eOp, eChain, eVar, eC, eFrz, eObj, aNil, aCons, eTup, eLst, asDs, eCall, eCallF, callM, noFl, tAndF, tOrF, tNotF, eAnd, eOr, eNot, eIsi, tyW, Tk.sub, eSl, oNone, oSome, eMt, eMt0, isTyW, eNeg, negW, Res.bind_ok, List.length_cons, List.length_nil, List.map_cons, List.map_nil, List.cons_append, List.nil_append, List.replicate, List.getElem?_cons_zero, List.getElem?_cons_succ, List.set_cons_zero, List.set_cons_succ, if_true, if_false, Nat.sub_self, Nat.reduceSub, Nat.reduceAdd, sizeLine_eq, encK] <;> (try first | rfl | exact ⟨rfl, rfl⟩)) ?_
    refine wp_ret (by simp only [runF, env0, finM, sSeq, sNx, sIf, sRet, sAsg, asgK, gSet, sDrop, sAug, eS_ok, tBool, tTru, truW, eOp, eChain, eVar, eC, eFrz, eObj, aNil, aCons, eTup, eLst, asDs, eCall, eCallF, callM, noFl, tAndF, tOrF, tNotF, eAnd, eOr, eNot, eIsi, tyW, Tk.sub, eSl, oNone, oSome, eMt, eMt0, isTyW, eNeg, negW, Res.bind_ok, List.length_cons, List.length_nil, List.map_cons, List.map_nil, List.cons_append, List.nil_append, List.replicate, List.getElem?_cons_zero, List.getElem?_cons_succ, List.set_cons_zero, List.set_cons_succ, if_true, if_false, Nat.sub_self, Nat.reduceSub, Nat.reduceAdd, sizeLine_eq, encK, open_eq, ixT0, ixT1, ix, iy, k_a1 (m := m) hw.1 hs, gt_eq, k_a2 (m := m) hw.1 hs, k_a3 (m := m) hw.1 hw.2 hs, close_eq, k_a4 (m := m) hw.1 hw.2 hs]; rfl) ?_
    simp
theorem show_kind_ok : ∀ (n : Nat) (f : Kd) (m : Mem), f.size ≤ n → f.size ≤ 1000 → f.wf → F_show_kind n [.d (encK f)] m = .ok (.d (.str (S (textK f)))) m
  | 0, f, m, h, _, _ => by have := f.size_pos; omega
  | n + 1, .b w, m, h, _, hw => by
    refine run_wp (Q := fun r => r = .ok (.d (.str (S w))) m) ?_
    unfold m_show_kind
    refine wp_sIfR (by simp [runF, env0, finM, sSeq, sNx, sIf, sRet, sAsg, asgK, gSet, sDrop, sAug, eS_ok, tBool, tTru, truW, eOp, eChain, eVar, eC, eFrz, eObj, aNil, aCons, eTup, eLst, asDs, eCall, eCallF, callM, noFl, tAndF, tOrF, tNotF, eAnd, eOr, eNot, eIsi, tyW, Tk.sub, eSl, oNone, oSome, eMt, eMt0, isTyW, eNeg, negW, Res.bind_ok, List.length_cons, List.length_nil, List.map_cons, List.map_nil, List.cons_append, List.nil_append, List.replicate, List.getElem?_cons_zero, List.getElem?_cons_succ, List.set_cons_zero, List.set_cons_succ, if_true, if_false, Nat.sub_self, Nat.reduceSub, Nat.reduceAdd, sizeLine_eq, encK] <;> (try first | rfl | exact ⟨rfl, rfl⟩)) (by simp [runF, env0, finM, sSeq, sNx, sIf, sRet, sAsg, asgK, gSet, sDrop, sAug, eS_ok, tBool, tTru, truW, eOp, eChain, eVar, eC, eFrz, eObj, aNil, aCons, eTup, eLst, asDs, eCall, eCallF, callM, noFl, tAndF, tOrF, tNotF, eAnd, eOr, eNot, eIsi, tyW, Tk.sub, eSl, oNone, oSome, eMt, eMt0, isTyW, eNeg, negW, Res.bind_ok, List.length_cons, List.length_nil, List.map_cons, List.map_nil, List.cons_append, List.nil_append, List.replicate, List.getElem?_cons_zero, List.getElem?_cons_succ, List.set_cons_zero, List.set_cons_succ, if_true, if_false, Nat.sub_self, Nat.reduceSub, Nat.reduceAdd, sizeLine_eq, encK] <;> (try first | rfl | exact ⟨rfl, rfl⟩)) ?_
    simp
  | n + 1, .p x y, m, h, hs, hw => by
    have px := x.size_pos
    have py := y.size_pos
    have h : x.size + y.size ≤ n + 1 := h
    have hs : x.size + y.size ≤ 1000 := hs
    have ix := show_kind_ok n x m (by omega) (by omega) hw.1
    have iy := show_kind_ok n y m (by omega) (by omega) hw.2
    refine run_wp (Q := fun r => r = .ok (.d (.str (S (textK (.p x y))))) m) ?_
    unfold m_show_kind
    refine wp_sIfN (by simp [runF, env0, finM, sSeq, sNx, sIf, sRet, sAsg, asgK, gSet, sDrop, sAug, eS_ok, tBool, tTru, truW, eOp, eChain, eVar, eC, eFrz, eObj, aNil, aCons, eTup, eLst, asDs, eCall, eCallF, callM, noFl, tAndF, tOrF, tNotF, eAnd, eOr, eNot, eIsi, tyW, Tk.sub, eSl, oNone, oSome, eMt, eMt0, isTyW, eNeg, negW, Res.bind_ok, List.length_cons, List.length_nil, List.map_cons, List.map_nil, List.cons_append, List.nil_append, List.replicate, List.getElem?_cons_zero, List.getElem?_cons_succ, List.set_cons_zero, List.set_cons_succ, if_true, if_false, Nat.sub_self, Nat.reduceSub, Nat.reduceAdd, sizeLine_eq, encK] <;> (try first | rfl | exact ⟨rfl, rfl⟩)) ?_
    refine wp_ret (by simp only [runF, env0, finM, sSeq, sNx, sIf, sRet, sAsg, asgK, gSet, sDrop, sAug, eS_ok, tBool, tTru, truW, eOp, eChain, eVar, eC, eFrz, eObj, aNil, aCons, eTup, eLst, asDs, eCall, eCallF, callM, noFl, tAndF, tOrF, tNotF, eAnd, eOr, eNot, eIsi, tyW, Tk.sub, eSl, oNone, oSome, eMt, eMt0, isTyW, eNeg, negW, Res.bind_ok, List.length_cons, List.length_nil, List.map_cons, List.map_nil, List.cons_append, List.nil_append, List.replicate, List.getElem?_cons_zero, List.getElem?_cons_succ, List.set_cons_zero, List.set_cons_succ, if_true, if_false, Nat.sub_self, Nat.reduceSub, Nat.reduceAdd, sizeLine_eq, encK, open_eq, ixT0, ixT1, ix, iy, k_a1 (m := m) hw.1 hs, gt_eq, k_a2 (m := m) hw.1 hs, k_a3 (m := m) hw.1 hw.2 hs, close_eq, k_a4 (m := m) hw.1 hw.2 hs]; rfl) ?_
    simp
def basK : Kd → List D
  | .b w => [.str (S w)]
  | .p x y => basK x ++ basK y
theorem basK_len : ∀ f, (basK f).length = f.size
  | .b _ => rfl
  | .p x y => by rw [basK, List.length_append, basK_len x, basK_len y]; rfl
theorem basics_in_ok : ∀ (n : Nat) (f : Kd) (m : Mem), f.size ≤ n → f.size ≤ 1000 → F_basics_in n [.d (encK f)] m = .ok (.fl (basK f)) m
  | 0, f, m, h, _ => by have := f.size_pos; omega
  | n + 1, .b w, m, h, _ => by
    refine run_wp (Q := fun r => r = .ok (.fl [.str (S w)]) m) ?_
    unfold m_basics_in
    refine wp_sIfR (by simp [runF, env0, finM, sSeq, sNx, sIf, sRet, sAsg, asgK, gSet, sDrop, sAug, eS_ok, tBool, tTru, truW, eOp, eChain, eVar, eC, eFrz, eObj, aNil, aCons, eTup, eLst, asDs, eCall, eCallF, callM, noFl, tAndF, tOrF, tNotF, eAnd, eOr, eNot, eIsi, tyW, Tk.sub, eSl, oNone, oSome, eMt, eMt0, isTyW, eNeg, negW, Res.bind_ok, List.length_cons, List.length_nil, List.map_cons, List.map_nil, List.cons_append, List.nil_append, List.replicate, List.getElem?_cons_zero, List.getElem?_cons_succ, List.set_cons_zero, List.set_cons_succ, if_true, if_false, Nat.sub_self, Nat.reduceSub, Nat.reduceAdd, sizeLine_eq, encK] <;> (try first | rfl | exact ⟨rfl, rfl⟩)) (by simp [runF, env0, finM, sSeq, sNx, sIf, sRet, sAsg, asgK, gSet, sDrop, sAug, eS_ok, tBool, tTru, truW, eOp, eChain, eVar, eC, eFrz, eObj, aNil, aCons, eTup, eLst, asDs, eCall, eCallF, callM, noFl, tAndF, tOrF, tNotF, eAnd, eOr, eNot, eIsi, tyW, Tk.sub, eSl, oNone, oSome, eMt, eMt0, isTyW, eNeg, negW, Res.bind_ok, List.length_cons, List.length_nil, List.map_cons, List.map_nil, List.cons_append, List.nil_append, List.replicate, List.getElem?_cons_zero, List.getElem?_cons_succ, List.set_cons_zero, List.set_cons_succ, if_true, if_false, Nat.sub_self, Nat.reduceSub, Nat.reduceAdd, sizeLine_eq, encK] <;> (try first | rfl | exact ⟨rfl, rfl⟩)) ?_
    simp
  | n + 1, .p x y, m, h, hs => by
    have px := x.size_pos
    have py := y.size_pos
    have h : x.size + y.size ≤ n + 1 := h
    have hs : x.size + y.size ≤ 1000 := hs
    have ix := basics_in_ok n x m (by omega) (by omega)
    have iy := basics_in_ok n y m (by omega) (by omega)
    have a1 : addW (.fl (basK x)) (.fl (basK y)) m = .ok (.fl (basK x ++ basK y)) m := by
      simp [addW, asT, asL, sizeLine_eq, basK_len]; omega
    refine run_wp (Q := fun r => r = .ok (.fl (basK x ++ basK y)) m) ?_
    unfold m_basics_in
    refine wp_sIfN (by simp [runF, env0, finM, sSeq, sNx, sIf, sRet, sAsg, asgK, gSet, sDrop, sAug, eS_ok, tBool, tTru, truW, eOp, eChain, eVar, eC, eFrz, eObj, aNil, aCons, eTup, eLst, asDs, eCall, eCallF, callM, noFl, tAndF, tOrF, tNotF, eAnd, eOr, eNot, eIsi, tyW, Tk.sub, eSl, oNone, oSome, eMt, eMt0, isTyW, eNeg, negW, Res.bind_ok, List.length_cons, List.length_nil, List.map_cons, List.map_nil, List.cons_append, List.nil_append, List.replicate, List.getElem?_cons_zero, List.getElem?_cons_succ, List.set_cons_zero, List.set_cons_succ, if_true, if_false, Nat.sub_self, Nat.reduceSub, Nat.reduceAdd, sizeLine_eq, encK] <;> (try first | rfl | exact ⟨rfl, rfl⟩)) ?_
    refine wp_ret (by simp [runF, env0, finM, sSeq, sNx, sIf, sRet, sAsg, asgK, gSet, sDrop, sAug, eS_ok, tBool, tTru, truW, eOp, eChain, eVar, eC, eFrz, eObj, aNil, aCons, eTup, eLst, asDs, eCall, eCallF, callM, noFl, tAndF, tOrF, tNotF, eAnd, eOr, eNot, eIsi, tyW, Tk.sub, eSl, oNone, oSome, eMt, eMt0, isTyW, eNeg, negW, Res.bind_ok, List.length_cons, List.length_nil, List.map_cons, List.map_nil, List.cons_append, List.nil_append, List.replicate, List.getElem?_cons_zero, List.getElem?_cons_succ, List.set_cons_zero, List.set_cons_succ, if_true, if_false, Nat.sub_self, Nat.reduceSub, Nat.reduceAdd, sizeLine_eq, encK, ixT0, ixT1, ix, iy, a1] <;> (try first | rfl | exact ⟨rfl, rfl⟩)) ?_
    simp
/-! ### a kind read -/
def isL (c : Nat) : Bool := decide (97 ≤ c ∧ c ≤ 122)
def noL (r : List Nat) : Prop := ∀ c t, r = c :: t → isL c = false
theorem mem_abc (c : Nat) : c ∈ abc ↔ 97 ≤ c ∧ c ≤ 122 := by
  constructor
  · intro h
    have : ∀ c ∈ abc, 97 ≤ c ∧ c ≤ 122 := by decide
    exact this c h
  · intro h
    have e := abc_get (show c - 97 < 26 by omega)
    have : c - 97 + 97 = c := by omega
    rw [this] at e
    exact List.mem_of_getElem? e
theorem inS_one (c : Nat) (l : List Nat) : inS (S [c]) (S l) = decide (c ∈ l) := rfl
theorem lets_eq : c_LETTERS = .str (S abc) := by unfold c_LETTERS; rw [abc_eq]
section
variable {m : Mem} {l : List Nat} {p : Nat}
theorem lenT (h : l.length < 900) : lenW [.d (.str (S l))] m = .ok (.d (.int (l.length : Int))) m := by
  show (if (S l).length ≤ sizeLine then Res.ok (W.d (.int ((S l).length : Int))) m else .bad) = _
  rw [if_pos (show (S l).length ≤ sizeLine by rw [S_len, sizeLine_eq]; omega), S_len]
theorem slT (h : l.length < 900) (i j : Nat) : slW (.d (.str (S l))) (some (i : Int)) (some (j : Int)) m = .ok (.d (.str (S ((l.take j).drop i)))) m := by
  show (if (S l).length ≤ sizeLine then Res.ok (W.d (.str (cutS (S l) (some (i : Int)) (some (j : Int))))) m else .bad) = _
  rw [if_pos (show (S l).length ≤ sizeLine by rw [S_len, sizeLine_eq]; omega), cutS_mid (by omega) (by omega)]
  simp
theorem sl1 (h : l.length < 900) (i : Nat) : slW (.d (.str (S l))) (some (i : Int)) (some ((i : Int) + 1)) m = .ok (.d (.str (S ((l.drop i).take 1)))) m := by
  have e : ((i : Int) + 1) = ((i + 1 : Nat) : Int) := by omega
  rw [e, slT h]
  rw [List.drop_take]
  simp
theorem ixT {c : Nat} (h : l.length < 900) (i : Nat) (hc : l[i]? = some c) : ixW (.d (.str (S l))) (.d (.int (i : Int))) m = .ok (.d (.str (S [c]))) m := ixW_str (by rw [sizeLine_eq]; omega) (by rw [atI_cast]; exact hc)
def weI (l w : List Nat) (p : Nat) (m : Mem) (k : Nat) (env : En) (m' : Mem) : Prop := ∃ j, j + k = w.length ∧ env = [some (.d (.str (S l))), some (.d (.int ((p + j : Nat) : Int)))] ∧ m' = m
theorem we_step {w r : List Nat} (hl : l.length < 900) (hd : l.drop p = w ++ r) (hw : ∀ c ∈ w, isL c = true) (hr : noL r) (k : Nat) (env : En) (m' : Mem) : weI l w p m k env m' →
    ((tAndF (tBool (eOp ltW (eVar 1) (eCall lenW (aCons (eVar 0) aNil)))) (tBool (eOp (inW false) (eOp ixW (eVar 0) (eVar 1)) (eC c_LETTERS)))) env m').wp fun t m1 => if t = true then stepOk (b1_word_end env m1) (fun e m' => ∃ k', k' < k ∧ weI l w p m k' e m') else weI l w p m 0 env m1 := by
  rintro ⟨j, hj, rfl, rfl⟩
  have hget : l[p + j]? = (w ++ r)[j]? := by rw [← hd, List.getElem?_drop]
  have hlen := lenT (m := m') hl
  have hcast : ((p + j : Nat) : Int) + 1 = ((p + (j + 1) : Nat) : Int) := by omega
  by_cases hk : k = 0
  · subst hk
    have hjw : j = w.length := by omega
    subst hjw
    rw [List.getElem?_append_right (Nat.le_refl _), Nat.sub_self] at hget
    cases r with
    | nil =>
      have hge : l.length ≤ p + w.length := List.getElem?_eq_none_iff.mp (by rw [hget]; rfl)
      have hlt : ¬ ((p + w.length : Nat) : Int) < (l.length : Int) := by omega
      simp only [runF, env0, finM, sSeq, sNx, sIf, sRet, sAsg, asgK, gSet, sDrop, sAug, eS_ok, tBool, tTru, truW, eOp, eChain, eVar, eC, eFrz, eObj, aNil, aCons, eTup, eLst, asDs, eCall, eCallF, callM, noFl, tAndF, tOrF, tNotF, eAnd, eOr, eNot, eIsi, tyW, Tk.sub, eSl, oNone, oSome, eMt, eMt0, isTyW, eNeg, negW, Res.bind_ok, List.length_cons, List.length_nil, List.map_cons, List.map_nil, List.cons_append, List.nil_append, List.replicate, List.getElem?_cons_zero, List.getElem?_cons_succ, List.set_cons_zero, List.set_cons_succ, if_true, if_false, Nat.sub_self, Nat.reduceSub, Nat.reduceAdd, sizeLine_eq, hlen, ltW_int, hlt, decide_false, Bool.false_eq_true]
      exact ⟨w.length, by omega, rfl, rfl⟩
    | cons c t =>
      have hge : p + w.length < l.length := (List.getElem?_eq_some_iff.mp hget).1
      have hlt : ((p + w.length : Nat) : Int) < (l.length : Int) := by omega
      have hix := ixT (m := m') hl (p + w.length) hget
      have hc := hr c t rfl
      have hin : ¬ (97 ≤ c ∧ c ≤ 122) := of_decide_eq_false hc
      simp only [runF, env0, finM, sSeq, sNx, sIf, sRet, sAsg, asgK, gSet, sDrop, sAug, eS_ok, tBool, tTru, truW, eOp, eChain, eVar, eC, eFrz, eObj, aNil, aCons, eTup, eLst, asDs, eCall, eCallF, callM, noFl, tAndF, tOrF, tNotF, eAnd, eOr, eNot, eIsi, tyW, Tk.sub, eSl, oNone, oSome, eMt, eMt0, isTyW, eNeg, negW, Res.bind_ok, List.length_cons, List.length_nil, List.map_cons, List.map_nil, List.cons_append, List.nil_append, List.replicate, List.getElem?_cons_zero, List.getElem?_cons_succ, List.set_cons_zero, List.set_cons_succ, if_true, if_false, Nat.sub_self, Nat.reduceSub, Nat.reduceAdd, sizeLine_eq, hlen, ltW_int, hlt, decide_true, hix, lets_eq, inW, inS_one, mem_abc, hin, decide_false, ngB, Res.wp_ok, Bool.false_eq_true]
      exact ⟨w.length, by omega, rfl, rfl⟩
  · have hjw : j < w.length := by omega
    rw [List.getElem?_append_left hjw, List.getElem?_eq_getElem hjw] at hget
    have hge : p + j < l.length := (List.getElem?_eq_some_iff.mp hget).1
    have hlt : ((p + j : Nat) : Int) < (l.length : Int) := by omega
    have hix := ixT (m := m') hl (p + j) hget
    have hc : 97 ≤ w[j] ∧ w[j] ≤ 122 := of_decide_eq_true (hw _ (List.getElem_mem hjw))
    simp only [runF, env0, finM, sSeq, sNx, sIf, sRet, sAsg, asgK, gSet, sDrop, sAug, eS_ok, tBool, tTru, truW, eOp, eChain, eVar, eC, eFrz, eObj, aNil, aCons, eTup, eLst, asDs, eCall, eCallF, callM, noFl, tAndF, tOrF, tNotF, eAnd, eOr, eNot, eIsi, tyW, Tk.sub, eSl, oNone, oSome, eMt, eMt0, isTyW, eNeg, negW, Res.bind_ok, List.length_cons, List.length_nil, List.map_cons, List.map_nil, List.cons_append, List.nil_append, List.replicate, List.getElem?_cons_zero, List.getElem?_cons_succ, List.set_cons_zero, List.set_cons_succ, if_true, if_false, Nat.sub_self, Nat.reduceSub, Nat.reduceAdd, sizeLine_eq, hlen, ltW_int, hlt, decide_true, hix, lets_eq, inW, inS_one, mem_abc, hc, ngB, Res.wp_ok, Bool.false_eq_true, and_self]
    simp only [b1_word_end, runF, env0, finM, sSeq, sNx, sIf, sRet, sAsg, asgK, gSet, sDrop, sAug, eS_ok, tBool, tTru, truW, eOp, eChain, eVar, eC, eFrz, eObj, aNil, aCons, eTup, eLst, asDs, eCall, eCallF, callM, noFl, tAndF, tOrF, tNotF, eAnd, eOr, eNot, eIsi, tyW, Tk.sub, eSl, oNone, oSome, eMt, eMt0, isTyW, eNeg, negW, Res.bind_ok, List.length_cons, List.length_nil, List.map_cons, List.map_nil, List.cons_append, List.nil_append, List.replicate, List.getElem?_cons_zero, List.getElem?_cons_succ, List.set_cons_zero, List.set_cons_succ, if_true, if_false, Nat.sub_self, Nat.reduceSub, Nat.reduceAdd, sizeLine_eq, addIW_int, hcast, stepOk_nx]
    exact ⟨k - 1, by omega, j + 1, by omega, rfl, rfl⟩
theorem word_end_ok {w r : List Nat} (hl : l.length < 900) (hp : p ≤ l.length) (hd : l.drop p = w ++ r) (hw : ∀ c ∈ w, isL c = true) (hr : noL r) : F_word_end [.d (.str (S l)), .d (.int (p : Int))] m = .ok (.d (.int ((p + w.length : Nat) : Int))) m := by
  have hlen : w.length + r.length + p = l.length := by
    have := congrArg List.length hd
    rw [List.length_drop, List.length_append] at this
    omega
  refine run_wp (Q := fun r => r = .ok (.d (.int ((p + w.length : Nat) : Int))) m) ?_
  unfold m_word_end
  refine wp_sWhile (k0 := w.length) (weI l w p m) (weI l w p m 0) ⟨0, by omega, by simp [env0], rfl⟩ (by omega) (fun k env m' h => we_step hl hd hw hr k env m' h) ?_
  rintro _ _ ⟨j, hj, rfl, rfl⟩
  have : j = w.length := by omega
  subst this
  refine wp_ret (by simp only [runF, env0, finM, sSeq, sNx, sIf, sRet, sAsg, asgK, gSet, sDrop, sAug, eS_ok, tBool, tTru, truW, eOp, eChain, eVar, eC, eFrz, eObj, aNil, aCons, eTup, eLst, asDs, eCall, eCallF, callM, noFl, tAndF, tOrF, tNotF, eAnd, eOr, eNot, eIsi, tyW, Tk.sub, eSl, oNone, oSome, eMt, eMt0, isTyW, eNeg, negW, Res.bind_ok, List.length_cons, List.length_nil, List.map_cons, List.map_nil, List.cons_append, List.nil_append, List.replicate, List.getElem?_cons_zero, List.getElem?_cons_succ, List.set_cons_zero, List.set_cons_succ, if_true, if_false, Nat.sub_self, Nat.reduceSub, Nat.reduceAdd, sizeLine_eq]; rfl) ?_
  simp
end

end K10

set_option Elab.async false
set_option linter.all false
set_option maxRecDepth 100000
set_option maxHeartbeats 1000000
namespace K10
open PySem L2 M
theorem noL_of {c : Nat} {r : List Nat} (h : isL c = false) : noL (c :: r) := fun d t e => by cases e; exact h
theorem drop_cons {l : List Nat} {p c : Nat} {r : List Nat} (h : l.drop p = c :: r) : l.drop (p + 1) = r ∧ p < l.length := by
  have h1 : l[p]? = some c := by
    have := congrArg (·[0]?) h
    rw [List.getElem?_drop] at this
    simpa using this
  refine ⟨?_, (List.getElem?_eq_some_iff.mp h1).1⟩
  rw [← List.drop_drop, h]
  rfl
theorem drop_app {l a r : List Nat} {p : Nat} (h : l.drop p = a ++ r) : l.drop (p + a.length) = r := by
  rw [← List.drop_drop, h]
  simp
theorem drop_len {l a r : List Nat} {p : Nat} (h : l.drop p = a ++ r) (hp : p ≤ l.length) : p + a.length + r.length = l.length := by
  have := congrArg List.length h
  rw [List.length_drop, List.length_append] at this
  omega
theorem kind_at_ok : ∀ (n : Nat) (f : Kd) (l r : List Nat) (p d : Nat) (m : Mem), f.size ≤ n → d + f.size ≤ 12 → f.wf → l.length < 900 → okC l = true → p ≤ l.length → l.drop p = textK f ++ r → noL r →
    F_kind_at n [.d (.str (S l)), .d (.int (p : Int)), .d (.int (d : Int))] m = .ok (.d (.tuple [encK f, .int ((p + (textK f).length : Nat) : Int)])) m
  | 0, f, l, r, p, d, m, h, _, _, _, _, _, _, _ => by have := f.size_pos; omega
  | n + 1, .b w, l, r, p, d, m, h, _, hw, hl, hk, hp, hd, hr => by
    have hw : isW w := hw
    have hd : l.drop p = w ++ r := hd
    have hL : ∀ c ∈ w, isL c = true := fun c hc => decide_eq_true (hw.ab c hc)
    have hwe := word_end_ok (m := m) hl hp hd hL hr
    have hln := drop_len hd hp
    have h1 := hw.lo
    have h8 := hw.hi
    obtain ⟨c, t, hct⟩ := List.exists_cons_of_ne_nil (show w ≠ [] from fun z => by rw [z] at h1; simp at h1)
    have hc := hw.ab c (by rw [hct]; exact List.mem_cons_self)
    have t1 : (l.drop p).take 1 = [c] := by rw [hd, hct]; rfl
    have e1 := sl1 (m := m) hl p
    rw [t1] at e1
    have e2 := eqW_str (m := m) (n := true) (a := [c]) (b := [40]) (okC_ab (by intro d hd; rw [List.mem_singleton.mp hd]; exact hc)) rfl
    have hne : ¬ [c] = [40] := fun z => by have : c = 40 := by simpa using z
                                           omega
    have hcut : (l.take (p + w.length)).drop p = w := by
      rw [List.drop_take, hd]
      simp
    have hsl := slT (m := m) hl p (p + w.length)
    rw [hcut] at hsl
    have hsub : ((p + w.length : Nat) : Int) - (p : Int) = (w.length : Int) := by omega
    have g1 : (1 : Int) ≤ (w.length : Int) := by omega
    have g2 : (w.length : Int) ≤ 8 := by omega
    refine run_wp (Q := fun r => r = .ok (.d (.tuple [.str (S w), .int ((p + w.length : Nat) : Int)])) m) ?_
    unfold m_kind_at
    refine wp_sIfT (by simp only [runF, env0, finM, sSeq, sNx, sIf, sRet, sAsg, asgK, gSet, sDrop, sAug, eS_ok, tBool, tTru, truW, eOp, eChain, eVar, eC, eFrz, eObj, aNil, aCons, eTup, eLst, asDs, eCall, eCallF, callM, noFl, tAndF, tOrF, tNotF, eAnd, eOr, eNot, eIsi, tyW, Tk.sub, eSl, oNone, oSome, eMt, eMt0, isTyW, eNeg, negW, Res.bind_ok, List.length_cons, List.length_nil, List.map_cons, List.map_nil, List.cons_append, List.nil_append, List.replicate, List.getElem?_cons_zero, List.getElem?_cons_succ, List.set_cons_zero, List.set_cons_succ, if_true, if_false, Nat.sub_self, Nat.reduceSub, Nat.reduceAdd, sizeLine_eq, addW_int, e1, open_eq, e2, ngB, hne, decide_false]; rfl) ?_
    refine wp_go (by simp only [runF, env0, finM, sSeq, sNx, sIf, sRet, sAsg, asgK, gSet, sDrop, sAug, eS_ok, tBool, tTru, truW, eOp, eChain, eVar, eC, eFrz, eObj, aNil, aCons, eTup, eLst, asDs, eCall, eCallF, callM, noFl, tAndF, tOrF, tNotF, eAnd, eOr, eNot, eIsi, tyW, Tk.sub, eSl, oNone, oSome, eMt, eMt0, isTyW, eNeg, negW, Res.bind_ok, List.length_cons, List.length_nil, List.map_cons, List.map_nil, List.cons_append, List.nil_append, List.replicate, List.getElem?_cons_zero, List.getElem?_cons_succ, List.set_cons_zero, List.set_cons_succ, if_true, if_false, Nat.sub_self, Nat.reduceSub, Nat.reduceAdd, sizeLine_eq, hwe]; rfl) ?_
    refine wp_sIfN (by simp only [runF, env0, finM, sSeq, sNx, sIf, sRet, sAsg, asgK, gSet, sDrop, sAug, eS_ok, tBool, tTru, truW, eOp, eChain, eVar, eC, eFrz, eObj, aNil, aCons, eTup, eLst, asDs, eCall, eCallF, callM, noFl, tAndF, tOrF, tNotF, eAnd, eOr, eNot, eIsi, tyW, Tk.sub, eSl, oNone, oSome, eMt, eMt0, isTyW, eNeg, negW, Res.bind_ok, List.length_cons, List.length_nil, List.map_cons, List.map_nil, List.cons_append, List.nil_append, List.replicate, List.getElem?_cons_zero, List.getElem?_cons_succ, List.set_cons_zero, List.set_cons_succ, if_true, if_false, Nat.sub_self, Nat.reduceSub, Nat.reduceAdd, sizeLine_eq, subW_int, hsub, leW_int, g1, g2, decide_true, c_LONGEST]; rfl) ?_
    refine wp_ret (by simp only [runF, env0, finM, sSeq, sNx, sIf, sRet, sAsg, asgK, gSet, sDrop, sAug, eS_ok, tBool, tTru, truW, eOp, eChain, eVar, eC, eFrz, eObj, aNil, aCons, eTup, eLst, asDs, eCall, eCallF, callM, noFl, tAndF, tOrF, tNotF, eAnd, eOr, eNot, eIsi, tyW, Tk.sub, eSl, oNone, oSome, eMt, eMt0, isTyW, eNeg, negW, Res.bind_ok, List.length_cons, List.length_nil, List.map_cons, List.map_nil, List.cons_append, List.nil_append, List.replicate, List.getElem?_cons_zero, List.getElem?_cons_succ, List.set_cons_zero, List.set_cons_succ, if_true, if_false, Nat.sub_self, Nat.reduceSub, Nat.reduceAdd, sizeLine_eq, hsl]; rfl) ?_
    simp [thenZ]
  | n + 1, .p x y, l, r, p, d, m, h, hds, hw, hl, hk, hp, hd, hr => by
    have px := x.size_pos
    have py := y.size_pos
    have h : x.size + y.size ≤ n + 1 := h
    have hds : d + (x.size + y.size) ≤ 12 := hds
    have hok : ∀ i : Nat, okC ((l.drop i).take 1) = true := fun i => by
      unfold okC at hk ⊢
      rw [List.all_eq_true] at hk ⊢
      exact fun c hc => hk c (List.mem_of_mem_drop (List.mem_of_mem_take hc))
    have hd0 : l.drop p = 40 :: (textK x ++ (62 :: (textK y ++ (41 :: r)))) := by rw [hd]; simp [textK]
    obtain ⟨hd1, hp1⟩ := drop_cons hd0
    have hl1 := drop_len hd1 (by omega)
    have hd2 := drop_app hd1
    obtain ⟨hd3, hp3⟩ := drop_cons hd2
    have hd4 := drop_app hd3
    have hl3 := drop_len hd3 (by omega)
    obtain ⟨hd5, hp5⟩ := drop_cons hd4
    have ix := kind_at_ok n x l _ (p + 1) (d + 1) m (by omega) (by omega) hw.1 hl hk (by omega) hd1 (noL_of (by decide))
    have iy := kind_at_ok n y l _ (p + 1 + (textK x).length + 1) (d + 1) m (by omega) (by omega) hw.2 hl hk (by omega) hd3 (noL_of (by decide))
    obtain ⟨p2, hp2⟩ : ∃ p2, p2 = p + 1 + (textK x).length := ⟨_, rfl⟩
    rw [← hp2] at ix iy hd2 hd4
    obtain ⟨p4, hp4⟩ : ∃ p4, p4 = p2 + 1 + (textK y).length := ⟨_, rfl⟩
    rw [← hp4] at iy hd4
    have c1 : (p : Int) + 1 = ((p + 1 : Nat) : Int) := by omega
    have c2 : (d : Int) + 1 = ((d + 1 : Nat) : Int) := by omega
    have c3 : (p2 : Int) + 1 = ((p2 + 1 : Nat) : Int) := by omega
    have c4 : (p4 : Int) + 1 = ((p4 + 1 : Nat) : Int) := by omega
    have t1 : (l.drop p).take 1 = [40] := by rw [hd0]; rfl
    have t2 : (l.drop p2).take 1 = [62] := by rw [hd2]; rfl
    have t4 : (l.drop p4).take 1 = [41] := by rw [hd4]; rfl
    have e1 := sl1 (m := m) hl p
    have e2 := sl1 (m := m) hl p2
    have e4 := sl1 (m := m) hl p4
    rw [t1, c1] at e1
    rw [t2, c3] at e2
    rw [t4, c4] at e4
    have f1 := eqW_str (m := m) (n := true) (a := [40]) (b := [40]) rfl rfl
    have f2 := eqW_str (m := m) (n := true) (a := [62]) (b := [62]) rfl rfl
    have f4 := eqW_str (m := m) (n := true) (a := [41]) (b := [41]) rfl rfl
    have hge : ¬ (12 : Int) ≤ ((d + 1 : Nat) : Int) := by omega
    have hfin : p + (textK (.p x y)).length = p4 + 1 := by
      rw [hp4, hp2, textK]
      simp only [List.length_cons, List.length_append, List.length_nil]
      omega
    rw [hfin]
    refine run_wp (Q := fun r => r = .ok (.d (.tuple [.tuple [encK x, encK y], .int ((p4 + 1 : Nat) : Int)])) m) ?_
    unfold m_kind_at
    refine wp_sIfN (by simp only [runF, env0, finM, sSeq, sNx, sIf, sRet, sAsg, asgK, gSet, sDrop, sAug, eS_ok, tBool, tTru, truW, eOp, eChain, eVar, eC, eFrz, eObj, aNil, aCons, eTup, eLst, asDs, eCall, eCallF, callM, noFl, tAndF, tOrF, tNotF, eAnd, eOr, eNot, eIsi, tyW, Tk.sub, eSl, oNone, oSome, eMt, eMt0, isTyW, eNeg, negW, Res.bind_ok, List.length_cons, List.length_nil, List.map_cons, List.map_nil, List.cons_append, List.nil_append, List.replicate, List.getElem?_cons_zero, List.getElem?_cons_succ, List.set_cons_zero, List.set_cons_succ, if_true, if_false, Nat.sub_self, Nat.reduceSub, Nat.reduceAdd, sizeLine_eq, addW_int, c1, e1, open_eq, f1, ngB, decide_true]; rfl) ?_
    refine wp_sIfN (by simp only [runF, env0, finM, sSeq, sNx, sIf, sRet, sAsg, asgK, gSet, sDrop, sAug, eS_ok, tBool, tTru, truW, eOp, eChain, eVar, eC, eFrz, eObj, aNil, aCons, eTup, eLst, asDs, eCall, eCallF, callM, noFl, tAndF, tOrF, tNotF, eAnd, eOr, eNot, eIsi, tyW, Tk.sub, eSl, oNone, oSome, eMt, eMt0, isTyW, eNeg, negW, Res.bind_ok, List.length_cons, List.length_nil, List.map_cons, List.map_nil, List.cons_append, List.nil_append, List.replicate, List.getElem?_cons_zero, List.getElem?_cons_succ, List.set_cons_zero, List.set_cons_succ, if_true, if_false, Nat.sub_self, Nat.reduceSub, Nat.reduceAdd, sizeLine_eq, addW_int, c2, c_MOST_BASICS, geW_int, hge, decide_false]; rfl) ?_
    refine wp_go (by simp only [runF, env0, finM, sSeq, sNx, sIf, sRet, sAsg, asgK, gSet, sDrop, sAug, eS_ok, tBool, tTru, truW, eOp, eChain, eVar, eC, eFrz, eObj, aNil, aCons, eTup, eLst, asDs, eCall, eCallF, callM, noFl, tAndF, tOrF, tNotF, eAnd, eOr, eNot, eIsi, tyW, Tk.sub, eSl, oNone, oSome, eMt, eMt0, isTyW, eNeg, negW, Res.bind_ok, List.length_cons, List.length_nil, List.map_cons, List.map_nil, List.cons_append, List.nil_append, List.replicate, List.getElem?_cons_zero, List.getElem?_cons_succ, List.set_cons_zero, List.set_cons_succ, if_true, if_false, Nat.sub_self, Nat.reduceSub, Nat.reduceAdd, sizeLine_eq, addW_int, c1, c2, ix, gTupF, gsCons, gsNil]; rfl) ?_
    refine wp_sIfN (by simp only [runF, env0, finM, sSeq, sNx, sIf, sRet, sAsg, asgK, gSet, sDrop, sAug, eS_ok, tBool, tTru, truW, eOp, eChain, eVar, eC, eFrz, eObj, aNil, aCons, eTup, eLst, asDs, eCall, eCallF, callM, noFl, tAndF, tOrF, tNotF, eAnd, eOr, eNot, eIsi, tyW, Tk.sub, eSl, oNone, oSome, eMt, eMt0, isTyW, eNeg, negW, Res.bind_ok, List.length_cons, List.length_nil, List.map_cons, List.map_nil, List.cons_append, List.nil_append, List.replicate, List.getElem?_cons_zero, List.getElem?_cons_succ, List.set_cons_zero, List.set_cons_succ, if_true, if_false, Nat.sub_self, Nat.reduceSub, Nat.reduceAdd, sizeLine_eq, addW_int, c3, e2, gt_eq, f2, ngB, decide_true]; rfl) ?_
    refine wp_go (by simp only [runF, env0, finM, sSeq, sNx, sIf, sRet, sAsg, asgK, gSet, sDrop, sAug, eS_ok, tBool, tTru, truW, eOp, eChain, eVar, eC, eFrz, eObj, aNil, aCons, eTup, eLst, asDs, eCall, eCallF, callM, noFl, tAndF, tOrF, tNotF, eAnd, eOr, eNot, eIsi, tyW, Tk.sub, eSl, oNone, oSome, eMt, eMt0, isTyW, eNeg, negW, Res.bind_ok, List.length_cons, List.length_nil, List.map_cons, List.map_nil, List.cons_append, List.nil_append, List.replicate, List.getElem?_cons_zero, List.getElem?_cons_succ, List.set_cons_zero, List.set_cons_succ, if_true, if_false, Nat.sub_self, Nat.reduceSub, Nat.reduceAdd, sizeLine_eq, addW_int, c3, c2, iy, gTupF, gsCons, gsNil]; rfl) ?_
    refine wp_sIfN (by simp only [runF, env0, finM, sSeq, sNx, sIf, sRet, sAsg, asgK, gSet, sDrop, sAug, eS_ok, tBool, tTru, truW, eOp, eChain, eVar, eC, eFrz, eObj, aNil, aCons, eTup, eLst, asDs, eCall, eCallF, callM, noFl, tAndF, tOrF, tNotF, eAnd, eOr, eNot, eIsi, tyW, Tk.sub, eSl, oNone, oSome, eMt, eMt0, isTyW, eNeg, negW, Res.bind_ok, List.length_cons, List.length_nil, List.map_cons, List.map_nil, List.cons_append, List.nil_append, List.replicate, List.getElem?_cons_zero, List.getElem?_cons_succ, List.set_cons_zero, List.set_cons_succ, if_true, if_false, Nat.sub_self, Nat.reduceSub, Nat.reduceAdd, sizeLine_eq, addW_int, c4, e4, close_eq, f4, ngB, decide_true]; rfl) ?_
    refine wp_ret (by simp only [runF, env0, finM, sSeq, sNx, sIf, sRet, sAsg, asgK, gSet, sDrop, sAug, eS_ok, tBool, tTru, truW, eOp, eChain, eVar, eC, eFrz, eObj, aNil, aCons, eTup, eLst, asDs, eCall, eCallF, callM, noFl, tAndF, tOrF, tNotF, eAnd, eOr, eNot, eIsi, tyW, Tk.sub, eSl, oNone, oSome, eMt, eMt0, isTyW, eNeg, negW, Res.bind_ok, List.length_cons, List.length_nil, List.map_cons, List.map_nil, List.cons_append, List.nil_append, List.replicate, List.getElem?_cons_zero, List.getElem?_cons_succ, List.set_cons_zero, List.set_cons_succ, if_true, if_false, Nat.sub_self, Nat.reduceSub, Nat.reduceAdd, sizeLine_eq, addW_int, c4]; rfl) ?_
    simp
theorem read_kind_ok {f : Kd} {m : Mem} (hw : f.wf) (hs : f.size ≤ 12) : F_read_kind [.d (.str (S (textK f)))] m = .ok (.d (encK f)) m := by
  have hlen := textK_len hw
  have hk := kind_at_ok 40 f (textK f) [] 0 0 m (by omega) (by omega) hw (by omega) (okC_textK hw) (by omega) (by simp) (fun c t e => nomatch e)
  have hk : F_kind_at 40 [.d (.str (S (textK f))), .d (.int 0), .d (.int 0)] m = .ok (.d (.tuple [encK f, .int ((0 + (textK f).length : Nat) : Int)])) m := hk
  rw [Nat.zero_add] at hk
  have hL := lenT (m := m) (l := textK f) (by omega)
  have hB := basics_in_ok 40 f m (by omega) (by omega)
  have hBl : lenW [.fl (basK f)] m = .ok (.d (.int (f.size : Int))) m := by simp only [lenW, asL, basK_len]
  have hgt : ¬ (12 : Int) < (f.size : Int) := by omega
  refine run_wp (Q := fun r => r = .ok (.d (encK f)) m) ?_
  unfold m_read_kind
  refine wp_sIfN (by simp [runF, env0, finM, sSeq, sNx, sIf, sRet, sAsg, asgK, gSet, sDrop, sAug, eS_ok, tBool, tTru, truW, eOp, eChain, eVar, eC, eFrz, eObj, aNil, aCons, eTup, eLst, asDs, eCall, eCallF, callM, noFl, tAndF, tOrF, tNotF, eAnd, eOr, eNot, eIsi, tyW, Tk.sub, eSl, oNone, oSome, eMt, eMt0, isTyW, eNeg, negW, Res.bind_ok, List.length_cons, List.length_nil, List.map_cons, List.map_nil, List.cons_append, List.nil_append, List.replicate, List.getElem?_cons_zero, List.getElem?_cons_succ, List.set_cons_zero, List.set_cons_succ, if_true, if_false, Nat.sub_self, Nat.reduceSub, Nat.reduceAdd, sizeLine_eq] <;> (try first | rfl | exact ⟨rfl, rfl⟩)) ?_
  refine wp_go (by simp only [runF, env0, finM, sSeq, sNx, sIf, sRet, sAsg, asgK, gSet, sDrop, sAug, eS_ok, tBool, tTru, truW, eOp, eChain, eVar, eC, eFrz, eObj, aNil, aCons, eTup, eLst, asDs, eCall, eCallF, callM, noFl, tAndF, tOrF, tNotF, eAnd, eOr, eNot, eIsi, tyW, Tk.sub, eSl, oNone, oSome, eMt, eMt0, isTyW, eNeg, negW, Res.bind_ok, List.length_cons, List.length_nil, List.map_cons, List.map_nil, List.cons_append, List.nil_append, List.replicate, List.getElem?_cons_zero, List.getElem?_cons_succ, List.set_cons_zero, List.set_cons_succ, if_true, if_false, Nat.sub_self, Nat.reduceSub, Nat.reduceAdd, sizeLine_eq, hk, gTupF, gsCons, gsNil]; rfl) ?_
  refine wp_sIfN (by simp only [runF, env0, finM, sSeq, sNx, sIf, sRet, sAsg, asgK, gSet, sDrop, sAug, eS_ok, tBool, tTru, truW, eOp, eChain, eVar, eC, eFrz, eObj, aNil, aCons, eTup, eLst, asDs, eCall, eCallF, callM, noFl, tAndF, tOrF, tNotF, eAnd, eOr, eNot, eIsi, tyW, Tk.sub, eSl, oNone, oSome, eMt, eMt0, isTyW, eNeg, negW, Res.bind_ok, List.length_cons, List.length_nil, List.map_cons, List.map_nil, List.cons_append, List.nil_append, List.replicate, List.getElem?_cons_zero, List.getElem?_cons_succ, List.set_cons_zero, List.set_cons_succ, if_true, if_false, Nat.sub_self, Nat.reduceSub, Nat.reduceAdd, sizeLine_eq, hL, eqW_int, ngB, decide_true, hB, hBl, gtW_int, c_MOST_BASICS, hgt, decide_false]; rfl) ?_
  refine wp_ret (by simp [runF, env0, finM, sSeq, sNx, sIf, sRet, sAsg, asgK, gSet, sDrop, sAug, eS_ok, tBool, tTru, truW, eOp, eChain, eVar, eC, eFrz, eObj, aNil, aCons, eTup, eLst, asDs, eCall, eCallF, callM, noFl, tAndF, tOrF, tNotF, eAnd, eOr, eNot, eIsi, tyW, Tk.sub, eSl, oNone, oSome, eMt, eMt0, isTyW, eNeg, negW, Res.bind_ok, List.length_cons, List.length_nil, List.map_cons, List.map_nil, List.cons_append, List.nil_append, List.replicate, List.getElem?_cons_zero, List.getElem?_cons_succ, List.set_cons_zero, List.set_cons_succ, if_true, if_false, Nat.sub_self, Nat.reduceSub, Nat.reduceAdd, sizeLine_eq] <;> (try first | rfl | exact ⟨rfl, rfl⟩)) ?_
  simp
/-! ### alike -/
theorem lcM_all {chk : Mem → Bool} {b : W → Mem → Res (Option D)} {m : Mem} {d : D} (hc : chk m = true) : ∀ {xs : List W} {acc : List D}, (∀ w ∈ xs, b w m = .ok (some d) m) → acc.length + xs.length ≤ sizeLine → lcM chk b xs acc m = .ok (.fl (acc ++ List.replicate xs.length d)) m
  | [], acc, _, _ => by simp [lcM, hc]
  | x :: xs, acc, h, hl => by
    have hx := h x List.mem_cons_self
    simp only [List.length_cons] at hl
    simp only [lcM, hc, if_true, hx, Res.bind_ok]
    rw [if_pos (by omega), lcM_all hc (fun w hw => h w (List.mem_cons_of_mem _ hw)) (by simp; omega)]
    simp [List.replicate_succ]
theorem dBools_rep : ∀ n, dBools (List.replicate n (.bool true)) = some (List.replicate n true)
  | 0 => rfl
  | n + 1 => by rw [List.replicate_succ, dBools, dBools_rep n]; rfl
theorem allW_rep (n : Nat) (m : Mem) : allW [.fl (List.replicate n (.bool true))] m = .ok (.d (.bool true)) m := by
  simp [allW, lst1, asL, dBools_rep]
theorem zip_self {ds : List D} {w : W} (h : w ∈ (zipD ds ds).map W.d) : ∃ d ∈ ds, w = .d (.tuple [d, d]) := by
  obtain ⟨i, hi⟩ := List.getElem?_of_mem h
  obtain ⟨d, e, h1, h2, h3⟩ := zip_get hi
  rw [h1] at h2
  cases h2
  exact ⟨d, List.mem_of_getElem? h1, h3⟩
theorem sameK : ∀ (n : Nat) (f : Kd) (m : Mem), f.size ≤ n → f.wf → F__law_same n [.d (encK f), .d (encK f)] m = .ok (.d (.bool true)) m
  | 0, f, m, h, _ => by have := f.size_pos; omega
  | n + 1, .b w, m, h, hw => by
    have he := eqW_str (m := m) (n := false) (isW.okC hw) (isW.okC hw)
    refine run_wp (Q := fun r => r = .ok (.d (.bool true)) m) ?_
    unfold m__law_same
    refine wp_sIfR (by simp [runF, env0, finM, sSeq, sNx, sIf, sRet, sAsg, asgK, gSet, sDrop, sAug, eS_ok, tBool, tTru, truW, eOp, eChain, eVar, eC, eFrz, eObj, aNil, aCons, eTup, eLst, asDs, eCall, eCallF, callM, noFl, tAndF, tOrF, tNotF, eAnd, eOr, eNot, eIsi, tyW, Tk.sub, eSl, oNone, oSome, eMt, eMt0, isTyW, eNeg, negW, Res.bind_ok, List.length_cons, List.length_nil, List.map_cons, List.map_nil, List.cons_append, List.nil_append, List.replicate, List.getElem?_cons_zero, List.getElem?_cons_succ, List.set_cons_zero, List.set_cons_succ, if_true, if_false, Nat.sub_self, Nat.reduceSub, Nat.reduceAdd, sizeLine_eq, encK] <;> (try first | rfl | exact ⟨rfl, rfl⟩)) (by simp [runF, env0, finM, sSeq, sNx, sIf, sRet, sAsg, asgK, gSet, sDrop, sAug, eS_ok, tBool, tTru, truW, eOp, eChain, eVar, eC, eFrz, eObj, aNil, aCons, eTup, eLst, asDs, eCall, eCallF, callM, noFl, tAndF, tOrF, tNotF, eAnd, eOr, eNot, eIsi, tyW, Tk.sub, eSl, oNone, oSome, eMt, eMt0, isTyW, eNeg, negW, Res.bind_ok, List.length_cons, List.length_nil, List.map_cons, List.map_nil, List.cons_append, List.nil_append, List.replicate, List.getElem?_cons_zero, List.getElem?_cons_succ, List.set_cons_zero, List.set_cons_succ, if_true, if_false, Nat.sub_self, Nat.reduceSub, Nat.reduceAdd, sizeLine_eq, encK, he, ngB] <;> (try first | rfl | exact ⟨rfl, rfl⟩)) ?_
    simp
  | n + 1, .p x y, m, h, hw => by
    have px := x.size_pos
    have py := y.size_pos
    have h : x.size + y.size ≤ n + 1 := h
    have ix := sameK n x m (by omega) hw.1
    have iy := sameK n y m (by omega) hw.2
    have hlc := lcM_all (chk := yesM) (m := m) (d := .bool true) (b := lcB (gTupF 2 (gsCons (gSet 2) (gsCons (gSet 3) gsNil))) tYesF (eFrz (eCallF (F__law_same n) (aCons (eVar 2) (aCons (eVar 3) aNil)))) [some (.d (.tuple [encK x, encK y])), some (.d (.tuple [encK x, encK y])), none, none]) rfl (xs := (zipD [encK x, encK y] [encK x, encK y]).map W.d) (acc := []) (fun w hw => by
      obtain ⟨d, hd, rfl⟩ := zip_self hw
      rcases List.mem_cons.mp hd with rfl | hd
      · simp [lcB, gTupF, gsCons, gsNil, tYesF, runF, env0, finM, sSeq, sNx, sIf, sRet, sAsg, asgK, gSet, sDrop, sAug, eS_ok, tBool, tTru, truW, eOp, eChain, eVar, eC, eFrz, eObj, aNil, aCons, eTup, eLst, asDs, eCall, eCallF, callM, noFl, tAndF, tOrF, tNotF, eAnd, eOr, eNot, eIsi, tyW, Tk.sub, eSl, oNone, oSome, eMt, eMt0, isTyW, eNeg, negW, Res.bind_ok, List.length_cons, List.length_nil, List.map_cons, List.map_nil, List.cons_append, List.nil_append, List.replicate, List.getElem?_cons_zero, List.getElem?_cons_succ, List.set_cons_zero, List.set_cons_succ, if_true, if_false, Nat.sub_self, Nat.reduceSub, Nat.reduceAdd, sizeLine_eq, ix, noErr]
      · rw [List.mem_singleton.mp hd]
        simp [lcB, gTupF, gsCons, gsNil, tYesF, runF, env0, finM, sSeq, sNx, sIf, sRet, sAsg, asgK, gSet, sDrop, sAug, eS_ok, tBool, tTru, truW, eOp, eChain, eVar, eC, eFrz, eObj, aNil, aCons, eTup, eLst, asDs, eCall, eCallF, callM, noFl, tAndF, tOrF, tNotF, eAnd, eOr, eNot, eIsi, tyW, Tk.sub, eSl, oNone, oSome, eMt, eMt0, isTyW, eNeg, negW, Res.bind_ok, List.length_cons, List.length_nil, List.map_cons, List.map_nil, List.cons_append, List.nil_append, List.replicate, List.getElem?_cons_zero, List.getElem?_cons_succ, List.set_cons_zero, List.set_cons_succ, if_true, if_false, Nat.sub_self, Nat.reduceSub, Nat.reduceAdd, sizeLine_eq, iy, noErr]) (by simp [zipD, sizeLine_eq])
    have hall := allW_rep ((zipD [encK x, encK y] [encK x, encK y]).map W.d).length m
    refine run_wp (Q := fun r => r = .ok (.d (.bool true)) m) ?_
    unfold m__law_same
    refine wp_sIfN (by simp [runF, env0, finM, sSeq, sNx, sIf, sRet, sAsg, asgK, gSet, sDrop, sAug, eS_ok, tBool, tTru, truW, eOp, eChain, eVar, eC, eFrz, eObj, aNil, aCons, eTup, eLst, asDs, eCall, eCallF, callM, noFl, tAndF, tOrF, tNotF, eAnd, eOr, eNot, eIsi, tyW, Tk.sub, eSl, oNone, oSome, eMt, eMt0, isTyW, eNeg, negW, Res.bind_ok, List.length_cons, List.length_nil, List.map_cons, List.map_nil, List.cons_append, List.nil_append, List.replicate, List.getElem?_cons_zero, List.getElem?_cons_succ, List.set_cons_zero, List.set_cons_succ, if_true, if_false, Nat.sub_self, Nat.reduceSub, Nat.reduceAdd, sizeLine_eq, encK] <;> (try first | rfl | exact ⟨rfl, rfl⟩)) ?_
    refine wp_sIfN (by simp [runF, env0, finM, sSeq, sNx, sIf, sRet, sAsg, asgK, gSet, sDrop, sAug, eS_ok, tBool, tTru, truW, eOp, eChain, eVar, eC, eFrz, eObj, aNil, aCons, eTup, eLst, asDs, eCall, eCallF, callM, noFl, tAndF, tOrF, tNotF, eAnd, eOr, eNot, eIsi, tyW, Tk.sub, eSl, oNone, oSome, eMt, eMt0, isTyW, eNeg, negW, Res.bind_ok, List.length_cons, List.length_nil, List.map_cons, List.map_nil, List.cons_append, List.nil_append, List.replicate, List.getElem?_cons_zero, List.getElem?_cons_succ, List.set_cons_zero, List.set_cons_succ, if_true, if_false, Nat.sub_self, Nat.reduceSub, Nat.reduceAdd, sizeLine_eq, encK] <;> (try first | rfl | exact ⟨rfl, rfl⟩)) ?_
    refine wp_sIfN (by simp [runF, env0, finM, sSeq, sNx, sIf, sRet, sAsg, asgK, gSet, sDrop, sAug, eS_ok, tBool, tTru, truW, eOp, eChain, eVar, eC, eFrz, eObj, aNil, aCons, eTup, eLst, asDs, eCall, eCallF, callM, noFl, tAndF, tOrF, tNotF, eAnd, eOr, eNot, eIsi, tyW, Tk.sub, eSl, oNone, oSome, eMt, eMt0, isTyW, eNeg, negW, Res.bind_ok, List.length_cons, List.length_nil, List.map_cons, List.map_nil, List.cons_append, List.nil_append, List.replicate, List.getElem?_cons_zero, List.getElem?_cons_succ, List.set_cons_zero, List.set_cons_succ, if_true, if_false, Nat.sub_self, Nat.reduceSub, Nat.reduceAdd, sizeLine_eq, encK, lenW, ngB] <;> (try first | rfl | exact ⟨rfl, rfl⟩)) ?_
    refine wp_ret (m1 := m) (w := .d (.bool true)) (by simp only [runF, env0, finM, sSeq, sNx, sIf, sRet, sAsg, asgK, gSet, sDrop, sAug, eS_ok, tBool, tTru, truW, eOp, eChain, eVar, eC, eFrz, eObj, aNil, aCons, eTup, eLst, asDs, eCall, eCallF, callM, noFl, tAndF, tOrF, tNotF, eAnd, eOr, eNot, eIsi, tyW, Tk.sub, eSl, oNone, oSome, eMt, eMt0, isTyW, eNeg, negW, Res.bind_ok, List.length_cons, List.length_nil, List.map_cons, List.map_nil, List.cons_append, List.nil_append, List.replicate, List.getElem?_cons_zero, List.getElem?_cons_succ, List.set_cons_zero, List.set_cons_succ, if_true, if_false, Nat.sub_self, Nat.reduceSub, Nat.reduceAdd, sizeLine_eq, encK, iZipA, zipA, eLc, itsL, wipeE]; rw [hlc]; simp only [runF, env0, finM, sSeq, sNx, sIf, sRet, sAsg, asgK, gSet, sDrop, sAug, eS_ok, tBool, tTru, truW, eOp, eChain, eVar, eC, eFrz, eObj, aNil, aCons, eTup, eLst, asDs, eCall, eCallF, callM, noFl, tAndF, tOrF, tNotF, eAnd, eOr, eNot, eIsi, tyW, Tk.sub, eSl, oNone, oSome, eMt, eMt0, isTyW, eNeg, negW, Res.bind_ok, List.length_cons, List.length_nil, List.map_cons, List.map_nil, List.cons_append, List.nil_append, List.replicate, List.getElem?_cons_zero, List.getElem?_cons_succ, List.set_cons_zero, List.set_cons_succ, if_true, if_false, Nat.sub_self, Nat.reduceSub, Nat.reduceAdd, sizeLine_eq]; exact hall) ?_
    simp

end K10

set_option Elab.async false
set_option linter.all false
set_option maxRecDepth 100000
set_option maxHeartbeats 1000000
namespace K10
open PySem L2 M
theorem lcM_st {b : W → Mem → Res (Option D)} (P : Nat → List D → Mem → Prop) : ∀ {xs : List W} {acc : List D} {m : Mem} (i : Nat), P i acc m → (∀ j w acc m, xs[j]? = some w → P (i + j) acc m → ∃ d m', b w m = .ok (some d) m' ∧ acc.length < sizeLine ∧ P (i + j + 1) (acc ++ [d]) m') →
    ∃ acc' m', lcM yesM b xs acc m = .ok (.fl acc') m' ∧ P (i + xs.length) acc' m'
  | [], acc, m, i, h, _ => ⟨acc, m, by simp [lcM, yesM], h⟩
  | x :: xs, acc, m, i, h, hs => by
    obtain ⟨d, m', e, hl, hp⟩ := hs 0 x acc m rfl h
    obtain ⟨acc', m2, e2, h2⟩ := lcM_st P (xs := xs) (acc := acc ++ [d]) (m := m') (i + 1) hp (fun j w acc m hj hp => by
      have := hs (j + 1) w acc m hj (by rw [← Nat.add_assoc, Nat.add_right_comm]; exact hp)
      rw [← Nat.add_assoc, Nat.add_right_comm i j 1] at this
      exact this)
    refine ⟨acc', m2, ?_, by rw [List.length_cons, Nat.add_comm xs.length 1, ← Nat.add_assoc]; exact h2⟩
    simp only [lcM, yesM, if_true, e, Res.bind_ok]
    rw [if_pos hl]
    exact e2
def sizes : List Kd → Nat
  | [] => 0
  | f :: r => f.size + sizes r
theorem sizes_app : ∀ a b : List Kd, sizes (a ++ b) = sizes a + sizes b
  | [], b => by simp [sizes]
  | x :: a, b => by simp only [List.cons_append, sizes, sizes_app a b]; omega
def rowP (a b : Nat) (m0 : Mem) (i : Nat) (acc : List D) (m : Mem) : Prop := ∃ fs : List Kd, acc = fs.map encK ∧ (∀ f ∈ fs, f.wf) ∧ fs.length = i ∧ sizes fs = i ∧ Dk a b m ∧ DSt a b m0 m
theorem next_mod {a b : Nat} {m : Mem} (h : Dk a b m) (k : Nat) (hk : 0 < k) : ∃ (j : Nat) (n : Int) (m' : Mem), j < k ∧ n % (k : Int) = (j : Int) ∧ Dk a b m' ∧ DSt a b m m' ∧ F__law_next [.obj b] m = .ok (.d (.int n)) m' := by
  obtain ⟨n, m', h1, h2, D, S, F⟩ := law_next h
  have e1 := Int.emod_nonneg n (show (k : Int) ≠ 0 by omega)
  have e2 := Int.emod_lt_of_pos n (show 0 < (k : Int) by omega)
  exact ⟨(n % (k : Int)).toNat, n, m', by omega, by omega, D, S, F⟩
theorem sts_ix {ws : List (List Nat)} {k : Nat} (h : k < ws.length) (m : Mem) : ixW (.d (.list (sts ws))) (.d (.int (k : Int))) m = .ok (.d (.str (S ws[k]))) m := by
  simp only [ixW, asL, atI_cast]
  unfold sts
  rw [List.getElem?_map, List.getElem?_eq_getElem h]
  rfl
def gkI (a b many : Nat) (A B : Option W) (m : Mem) (k : Nat) (env : En) (m' : Mem) : Prop := ∃ (fs : List Kd) (x y : Option W), env = [some (.obj b), A, B, some (.d (.list (fs.map encK))), x, y] ∧ fs.length = k + 1 ∧ (∀ f ∈ fs, f.wf) ∧ sizes fs = many ∧ Dk a b m' ∧ DSt a b m m'
theorem gk_step {a b many : Nat} {A B : Option W} {m : Mem} (hm : many ≤ 12) (k : Nat) (env : En) (m' : Mem) : gkI a b many A B m k env m' →
    ((tBool (eOp gtW (eCall lenW (aCons (eVar 3) aNil)) (eC (.int 1)))) env m').wp fun t m1 => if t = true then stepOk (b1__law_grown_kind env m1) (fun e m' => ∃ k', k' < k ∧ gkI a b many A B m k' e m') else gkI a b many A B m 0 env m1 := by
  rintro ⟨fs, x, y, rfl, hl, hw, hs, dD, dS⟩
  have hlen : ∀ m, lenW [.d (.list (fs.map encK))] m = .ok (.d (.int ((k + 1 : Nat) : Int))) m := fun m => by simp only [lenW, asL, List.length_map, hl]
  by_cases hk : k = 0
  · subst hk
    have hlt : ¬ (1 : Int) < ((0 + 1 : Nat) : Int) := by omega
    simp only [runF, env0, finM, sSeq, sNx, sIf, sRet, sAsg, asgK, gSet, sDrop, sAug, eS_ok, tBool, tTru, truW, eOp, eChain, eVar, eC, eFrz, eObj, aNil, aCons, eTup, eLst, asDs, eCall, eCallF, callM, noFl, tAndF, tOrF, tNotF, eAnd, eOr, eNot, eIsi, tyW, Tk.sub, eSl, oNone, oSome, eMt, eMt0, isTyW, eNeg, negW, Res.bind_ok, List.length_cons, List.length_nil, List.map_cons, List.map_nil, List.cons_append, List.nil_append, List.replicate, List.getElem?_cons_zero, List.getElem?_cons_succ, List.set_cons_zero, List.set_cons_succ, if_true, if_false, Nat.sub_self, Nat.reduceSub, Nat.reduceAdd, sizeLine_eq, hlen, gtW_int, hlt, decide_false, Res.wp_ok, Bool.false_eq_true]
    exact ⟨fs, x, y, rfl, hl, hw, hs, dD, dS⟩
  · have hlt : (1 : Int) < ((k + 1 : Nat) : Int) := by omega
    have hk12 : k + 1 ≤ 12 := by
      have : ∀ l : List Kd, l.length ≤ sizes l := by
        intro l
        induction l with
        | nil => exact Nat.le_refl _
        | cons f r ih => have := f.size_pos; simp only [List.length_cons, sizes]; omega
      have := this fs
      omega
    obtain ⟨j, n, m2, hj, hjn, D2, S2, F2⟩ := next_mod dD k (by omega)
    have hsub : ((k + 1 : Nat) : Int) - 1 = (k : Int) := by omega
    have hmod := modW_pos (m := m2) (i := n) (j := (k : Int)) (by omega)
    have hj1 : j < fs.length := by omega
    have hj2 : j + 1 < fs.length := by omega
    have i1 : ixW (.d (.list (fs.map encK))) (.d (.int (j : Int))) m2 = .ok (.d (encK fs[j])) m2 := by
      simp only [ixW, asL, atI_cast, List.getElem?_map, List.getElem?_eq_getElem hj1, Option.map_some]
    have c1 : (j : Int) + 1 = ((j + 1 : Nat) : Int) := by omega
    have c2 : (j : Int) + 2 = ((j + 2 : Nat) : Int) := by omega
    have i2 : ixW (.d (.list (fs.map encK))) (.d (.int ((j + 1 : Nat) : Int))) m2 = .ok (.d (encK fs[j + 1])) m2 := by
      simp only [ixW, asL, atI_cast, List.getElem?_map, List.getElem?_eq_getElem hj2, Option.map_some]
    have s1 : slW (.d (.list (fs.map encK))) none (some (j : Int)) m2 = .ok (.fl ((fs.take j).map encK)) m2 := by
      simp only [slW, asL]; rw [cutD_take (by omega), List.map_take]; rfl
    have s2 : slW (.d (.list (fs.map encK))) (some ((j + 2 : Nat) : Int)) none m2 = .ok (.fl ((fs.drop (j + 2)).map encK)) m2 := by
      simp only [slW, asL]; rw [cutD_drop (by omega), List.map_drop]; rfl
    have a1 : addW (.fl ((fs.take j).map encK)) (.fl [.tuple [encK fs[j], encK fs[j + 1]]]) m2 = .ok (.fl ((fs.take j ++ [Kd.p fs[j] fs[j + 1]]).map encK)) m2 := by
      simp only [addW, asT, asL]
      rw [if_pos (by rw [sizeLine_eq, List.length_map, List.length_take, List.length_singleton]; omega)]
      simp [encK]
    have a2 : addW (.fl ((fs.take j ++ [Kd.p fs[j] fs[j + 1]]).map encK)) (.fl ((fs.drop (j + 2)).map encK)) m2 = .ok (.fl ((fs.take j ++ [Kd.p fs[j] fs[j + 1]] ++ fs.drop (j + 2)).map encK)) m2 := by
      simp only [addW, asT, asL]
      rw [if_pos (by rw [sizeLine_eq, List.length_map, List.length_map, List.length_append, List.length_take, List.length_drop, List.length_singleton]; omega)]
      simp
    have hsplit : fs = fs.take j ++ (fs[j] :: fs[j + 1] :: fs.drop (j + 2)) := by
      rw [← List.drop_eq_getElem_cons hj2, ← List.drop_eq_getElem_cons hj1, List.take_append_drop]
    have hcond : (tBool (eOp gtW (eCall lenW (aCons (eVar 3) aNil)) (eC (.int 1)))) [some (.obj b), A, B, some (.d (.list (fs.map encK))), x, y] m' = .ok true m' := by
      simp only [runF, env0, finM, sSeq, sNx, sIf, sRet, sAsg, asgK, gSet, sDrop, sAug, eS_ok, tBool, tTru, truW, eOp, eChain, eVar, eC, eFrz, eObj, aNil, aCons, eTup, eLst, asDs, eCall, eCallF, callM, noFl, tAndF, tOrF, tNotF, eAnd, eOr, eNot, eIsi, tyW, Tk.sub, eSl, oNone, oSome, eMt, eMt0, isTyW, eNeg, negW, Res.bind_ok, List.length_cons, List.length_nil, List.map_cons, List.map_nil, List.cons_append, List.nil_append, List.replicate, List.getElem?_cons_zero, List.getElem?_cons_succ, List.set_cons_zero, List.set_cons_succ, if_true, if_false, Nat.sub_self, Nat.reduceSub, Nat.reduceAdd, sizeLine_eq, hlen, gtW_int, hlt, decide_true]
    rw [hcond, Res.wp_ok, if_pos rfl]
    obtain ⟨T, hT⟩ : ∃ T : D, T = .tuple [encK fs[j], encK fs[j + 1]] := ⟨_, rfl⟩
    rw [← hT] at a1
    obtain ⟨R1, hR1⟩ : ∃ R : List D, R = (fs.take j ++ [Kd.p fs[j] fs[j + 1]]).map encK := ⟨_, rfl⟩
    rw [← hR1] at a1 a2
    obtain ⟨R2, hR2⟩ : ∃ R : List D, R = (fs.take j ++ [Kd.p fs[j] fs[j + 1]] ++ fs.drop (j + 2)).map encK := ⟨_, rfl⟩
    rw [← hR2] at a2
    have key : WP (fun r => stepOk r (fun e m' => ∃ k', k' < k ∧ gkI a b many A B m k' e m')) (b1__law_grown_kind [some (.obj b), A, B, some (.d (.list (fs.map encK))), x, y] m') := by
      unfold b1__law_grown_kind
      refine wp_go (e := [some (.obj b), A, B, some (.d (.list (fs.map encK))), x, some (.d (.int (j : Int)))]) (m1 := m2) (by simp only [runF, env0, finM, sSeq, sNx, sIf, sRet, sAsg, asgK, gSet, sDrop, sAug, eS_ok, tBool, tTru, truW, eOp, eChain, eVar, eC, eFrz, eObj, aNil, aCons, eTup, eLst, asDs, eCall, eCallF, callM, noFl, tAndF, tOrF, tNotF, eAnd, eOr, eNot, eIsi, tyW, Tk.sub, eSl, oNone, oSome, eMt, eMt0, isTyW, eNeg, negW, Res.bind_ok, List.length_cons, List.length_nil, List.map_cons, List.map_nil, List.cons_append, List.nil_append, List.replicate, List.getElem?_cons_zero, List.getElem?_cons_succ, List.set_cons_zero, List.set_cons_succ, if_true, if_false, Nat.sub_self, Nat.reduceSub, Nat.reduceAdd, sizeLine_eq, F2, hlen, subW_int, hsub, hmod, hjn]) ?_
      refine wp_eq (r := .nx [some (.obj b), A, B, some (.d (.list R2)), x, some (.d (.int (j : Int)))] m2) (by
        simp only [runF, env0, finM, sSeq, sNx, sIf, sRet, sAsg, asgK, gSet, sDrop, sAug, eS_ok, tBool, tTru, truW, eOp, eChain, eVar, eC, eFrz, eObj, aNil, aCons, eTup, eLst, asDs, eCall, eCallF, callM, noFl, tAndF, tOrF, tNotF, eAnd, eOr, eNot, eIsi, tyW, Tk.sub, eSl, oNone, oSome, eMt, eMt0, isTyW, eNeg, negW, Res.bind_ok, List.length_cons, List.length_nil, List.map_cons, List.map_nil, List.cons_append, List.nil_append, List.replicate, List.getElem?_cons_zero, List.getElem?_cons_succ, List.set_cons_zero, List.set_cons_succ, if_true, if_false, Nat.sub_self, Nat.reduceSub, Nat.reduceAdd, sizeLine_eq, s1, i1, addW_int, c1, i2, Option.map_some, Nat.reduceLeDiff, ← hT, a1, c2, s2, a2]) ?_
      refine ⟨k - 1, by omega, fs.take j ++ [Kd.p fs[j] fs[j + 1]] ++ fs.drop (j + 2), _, _, by rw [hR2], ?_, fun f hf => ?_, ?_, D2, dS.trans S2⟩
      · rw [List.length_append, List.length_append, List.length_take, List.length_drop, List.length_singleton]; omega
      · rcases List.mem_append.mp hf with hf | hf
        · rcases List.mem_append.mp hf with hf | hf
          · exact hw f (List.mem_of_mem_take hf)
          · rw [List.mem_singleton.mp hf]; exact ⟨hw _ (List.getElem_mem hj1), hw _ (List.getElem_mem hj2)⟩
        · exact hw f (List.mem_of_mem_drop hf)
      · rw [hsplit, sizes_app] at hs
        rw [sizes_app, sizes_app]
        simp only [sizes, Kd.size] at hs ⊢
        omega
    exact key
theorem grown_kind {a b : Nat} {m : Mem} (h : Dk a b m) (many : Nat) (h1 : 1 ≤ many) (h12 : many ≤ 12) : ∃ (f : Kd) (m' : Mem), f.wf ∧ f.size = many ∧ Dk a b m' ∧ DSt a b m m' ∧ F__law_grown_kind [.obj b, .d (.int (many : Int))] m = .ok (.d (encK f)) m' := by
  obtain ⟨j, n, m1, hj, hjn, D1, S1, F1⟩ := next_mod h many (by omega)
  obtain ⟨ws, m2, hwl, hww, _, D2, S2, F2⟩ := law_words D1 (1 + j) (by omega)
  have hmod := modW_pos (m := m1) (i := n) (j := (many : Int)) (by omega)
  have c1 : 1 + (j : Int) = ((1 + j : Nat) : Int) := by omega
  have hr (m : Mem) : rng1 [.d (.int (many : Int))] m = .ok (rngI 0 many) m := by rw [rng1_ok (by omega) (by omega)]; simp
  have hlw (m : Mem) : lenW [.d (.list (sts ws))] m = .ok (.d (.int (ws.length : Int))) m := by simp [lenW, asL, sts]
  obtain ⟨acc, m3, hlc, fs, rfl, hfw, hfl, hfs, D3, S3⟩ := lcM_st (b := lcB (gSet 4) tYesF (eOp ixW (eVar 2) (eOp modW (eCallF F__law_next (aCons (eObj (eVar 0)) aNil)) (eCall lenW (aCons (eVar 2) aNil)))) [some (.obj b), some (.d (.int (many : Int))), some (.d (.list (sts ws))), none, none, none]) (rowP a b m2) (xs := (rngI 0 many).xs) (acc := []) (m := m2) 0 ⟨[], rfl, fun _ h => (nomatch h), rfl, rfl, D2, DSt.refl a b m2⟩ (fun i w acc m hi hp => by
    obtain ⟨fs, rfl, hw, hl, hs, D, S⟩ := hp
    obtain ⟨q, n, m', hq, hqn, D', S', F'⟩ := next_mod D ws.length (by omega)
    have hmod := modW_pos (m := m') (i := n) (j := (ws.length : Int)) (by omega)
    have hix := sts_ix hq m'
    obtain ⟨hi1, rfl⟩ := rng_get hi
    refine ⟨encK (.b ws[q]), m', ?_, by rw [sizeLine_eq, List.length_map]; omega, fs ++ [.b ws[q]], by simp, fun f hf => ?_, by simp; omega, by rw [sizes_app]; simp [sizes, Kd.size]; omega, D', S.trans S'⟩
    · simp only [lcB, tYesF, runF, env0, finM, sSeq, sNx, sIf, sRet, sAsg, asgK, gSet, sDrop, sAug, eS_ok, tBool, tTru, truW, eOp, eChain, eVar, eC, eFrz, eObj, aNil, aCons, eTup, eLst, asDs, eCall, eCallF, callM, noFl, tAndF, tOrF, tNotF, eAnd, eOr, eNot, eIsi, tyW, Tk.sub, eSl, oNone, oSome, eMt, eMt0, isTyW, eNeg, negW, Res.bind_ok, List.length_cons, List.length_nil, List.map_cons, List.map_nil, List.cons_append, List.nil_append, List.replicate, List.getElem?_cons_zero, List.getElem?_cons_succ, List.set_cons_zero, List.set_cons_succ, if_true, if_false, Nat.sub_self, Nat.reduceSub, Nat.reduceAdd, sizeLine_eq, noErr, F', hlw, hmod, hqn, hix, encK]
    · rcases List.mem_append.mp hf with hf | hf
      · exact hw f hf
      · rw [List.mem_singleton.mp hf]; exact (hww _ (List.getElem_mem hq)).1)
  rw [Nat.zero_add, rng_len] at hfl hfs
  refine run_wp (Q := fun r => ∃ (f : Kd) (m' : Mem), f.wf ∧ f.size = many ∧ Dk a b m' ∧ DSt a b m m' ∧ r = .ok (.d (encK f)) m') ?_
  unfold m__law_grown_kind
  refine wp_go (e := [some (.obj b), some (.d (.int (many : Int))), some (.d (.list (sts ws))), none, none, none]) (m1 := m2) (by simp only [runF, env0, finM, sSeq, sNx, sIf, sRet, sAsg, asgK, gSet, sDrop, sAug, eS_ok, tBool, tTru, truW, eOp, eChain, eVar, eC, eFrz, eObj, aNil, aCons, eTup, eLst, asDs, eCall, eCallF, callM, noFl, tAndF, tOrF, tNotF, eAnd, eOr, eNot, eIsi, tyW, Tk.sub, eSl, oNone, oSome, eMt, eMt0, isTyW, eNeg, negW, Res.bind_ok, List.length_cons, List.length_nil, List.map_cons, List.map_nil, List.cons_append, List.nil_append, List.replicate, List.getElem?_cons_zero, List.getElem?_cons_succ, List.set_cons_zero, List.set_cons_succ, if_true, if_false, Nat.sub_self, Nat.reduceSub, Nat.reduceAdd, sizeLine_eq, F1, hmod, hjn, addW_int, c1, F2]) ?_
  refine wp_go (e := [some (.obj b), some (.d (.int (many : Int))), some (.d (.list (sts ws))), some (.d (.list (fs.map encK))), none, none]) (m1 := m3) (by
    have e : (rngI 0 many).chk = yesM := rfl
    simp only [runF, env0, finM, sSeq, sNx, sIf, sRet, sAsg, asgK, gSet, sDrop, sAug, eS_ok, tBool, tTru, truW, eOp, eChain, eVar, eC, eFrz, eObj, aNil, aCons, eTup, eLst, asDs, eCall, eCallF, callM, noFl, tAndF, tOrF, tNotF, eAnd, eOr, eNot, eIsi, tyW, Tk.sub, eSl, oNone, oSome, eMt, eMt0, isTyW, eNeg, negW, Res.bind_ok, List.length_cons, List.length_nil, List.map_cons, List.map_nil, List.cons_append, List.nil_append, List.replicate, List.getElem?_cons_zero, List.getElem?_cons_succ, List.set_cons_zero, List.set_cons_succ, if_true, if_false, Nat.sub_self, Nat.reduceSub, Nat.reduceAdd, sizeLine_eq, eLc, iRange1, hr, wipeE]
    rw [e, hlc]
    rfl) ?_
  refine wp_sWhile (k0 := many - 1) (gkI a b many (some (.d (.int (many : Int)))) (some (.d (.list (sts ws)))) m3) (gkI a b many (some (.d (.int (many : Int)))) (some (.d (.list (sts ws)))) m3 0) ⟨fs, _, _, rfl, by omega, hfw, hfs, D3, DSt.refl a b m3⟩ (by omega) (fun k env m' h => gk_step h12 k env m' h) ?_
  rintro _ m4 ⟨gs, x, y, rfl, hgl, hgw, hgs, D4, S4⟩
  obtain ⟨f, rfl⟩ := List.length_eq_one_iff.mp hgl
  have hix : ixW (.d (.list ([f].map encK))) (.d (.int 0)) m4 = .ok (.d (encK f)) m4 := by simp [ixW, asL]
  refine wp_ret (w := .d (encK f)) (m1 := m4) (by simp only [runF, env0, finM, sSeq, sNx, sIf, sRet, sAsg, asgK, gSet, sDrop, sAug, eS_ok, tBool, tTru, truW, eOp, eChain, eVar, eC, eFrz, eObj, aNil, aCons, eTup, eLst, asDs, eCall, eCallF, callM, noFl, tAndF, tOrF, tNotF, eAnd, eOr, eNot, eIsi, tyW, Tk.sub, eSl, oNone, oSome, eMt, eMt0, isTyW, eNeg, negW, Res.bind_ok, List.length_cons, List.length_nil, List.map_cons, List.map_nil, List.cons_append, List.nil_append, List.replicate, List.getElem?_cons_zero, List.getElem?_cons_succ, List.set_cons_zero, List.set_cons_succ, if_true, if_false, Nat.sub_self, Nat.reduceSub, Nat.reduceAdd, sizeLine_eq]; exact hix) ?_
  have ST := (((S1.trans S2).trans S3).trans S4)
  refine ⟨f, m4, hgw f (by simp), by simpa [sizes] using hgs, D4, ST, ?_⟩
  rw [← ST.len]
  simp
def lawI (a b : Nat) (A : Option W) (i : Nat) (env : En) (m' : Mem) : Prop := ∃ x1 x2 x3 x4 x5, env = [A, some (.obj b), x1, x2, x3, x4, x5] ∧ Dk a b m'
theorem law_step {a b : Nat} {A : Option W} {i : Nat} {env : En} {m' : Mem} {v' : D} : lawI a b A i env m' → stepOk (sTg (gSet 2) b1_law (.d v') env m') (lawI a b A (i + 1)) := by
  rintro ⟨x1, x2, x3, x4, x5, rfl, D⟩
  obtain ⟨j, n, m1, hj, hjn, D1, S1, F1⟩ := next_mod D 12 (by omega)
  have hjn : n % 12 = (j : Int) := hjn
  have c1 : 1 + (j : Int) = ((1 + j : Nat) : Int) := by omega
  obtain ⟨f, m2, hw, hs, D2, S2, F2⟩ := grown_kind D1 (1 + j) (by omega) (by omega)
  have hT := kind_text_ok 40 f m2 (by omega) (by omega) hw
  have hS := show_kind_ok 40 f m2 (by omega) (by omega) hw
  have hR := read_kind_ok (m := m2) hw (by omega)
  have hsame := sameK 40 f m2 (by omega) hw
  have hne := eqW_str (m := m2) (n := true) (okC_textK hw) (okC_textK hw)
  have key : WP (fun r => stepOk r (lawI a b A (i + 1))) (b1_law [A, some (.obj b), some (.d v'), x2, x3, x4, x5] m') := by
    unfold b1_law
    refine wp_go (by simp only [runF, env0, finM, sSeq, sNx, sIf, sRet, sAsg, asgK, gSet, sDrop, sAug, eS_ok, tBool, tTru, truW, eOp, eChain, eVar, eC, eFrz, eObj, aNil, aCons, eTup, eLst, asDs, eCall, eCallF, callM, noFl, tAndF, tOrF, tNotF, eAnd, eOr, eNot, eIsi, tyW, Tk.sub, eSl, oNone, oSome, eMt, eMt0, isTyW, eNeg, negW, Res.bind_ok, List.length_cons, List.length_nil, List.map_cons, List.map_nil, List.cons_append, List.nil_append, List.replicate, List.getElem?_cons_zero, List.getElem?_cons_succ, List.set_cons_zero, List.set_cons_succ, if_true, if_false, Nat.sub_self, Nat.reduceSub, Nat.reduceAdd, sizeLine_eq, F1, modW_s (show (0 : Int) < 12 by decide), hjn, addW_int, c1, F2]; rfl) ?_
    refine wp_go (by simp only [runF, env0, finM, sSeq, sNx, sIf, sRet, sAsg, asgK, gSet, sDrop, sAug, eS_ok, tBool, tTru, truW, eOp, eChain, eVar, eC, eFrz, eObj, aNil, aCons, eTup, eLst, asDs, eCall, eCallF, callM, noFl, tAndF, tOrF, tNotF, eAnd, eOr, eNot, eIsi, tyW, Tk.sub, eSl, oNone, oSome, eMt, eMt0, isTyW, eNeg, negW, Res.bind_ok, List.length_cons, List.length_nil, List.map_cons, List.map_nil, List.cons_append, List.nil_append, List.replicate, List.getElem?_cons_zero, List.getElem?_cons_succ, List.set_cons_zero, List.set_cons_succ, if_true, if_false, Nat.sub_self, Nat.reduceSub, Nat.reduceAdd, sizeLine_eq, hT]; rfl) ?_
    refine wp_go (by simp only [runF, env0, finM, sSeq, sNx, sIf, sRet, sAsg, asgK, gSet, sDrop, sAug, eS_ok, tBool, tTru, truW, eOp, eChain, eVar, eC, eFrz, eObj, aNil, aCons, eTup, eLst, asDs, eCall, eCallF, callM, noFl, tAndF, tOrF, tNotF, eAnd, eOr, eNot, eIsi, tyW, Tk.sub, eSl, oNone, oSome, eMt, eMt0, isTyW, eNeg, negW, Res.bind_ok, List.length_cons, List.length_nil, List.map_cons, List.map_nil, List.cons_append, List.nil_append, List.replicate, List.getElem?_cons_zero, List.getElem?_cons_succ, List.set_cons_zero, List.set_cons_succ, if_true, if_false, Nat.sub_self, Nat.reduceSub, Nat.reduceAdd, sizeLine_eq, hS]; rfl) ?_
    refine wp_sIfN (by simp only [runF, env0, finM, sSeq, sNx, sIf, sRet, sAsg, asgK, gSet, sDrop, sAug, eS_ok, tBool, tTru, truW, eOp, eChain, eVar, eC, eFrz, eObj, aNil, aCons, eTup, eLst, asDs, eCall, eCallF, callM, noFl, tAndF, tOrF, tNotF, eAnd, eOr, eNot, eIsi, tyW, Tk.sub, eSl, oNone, oSome, eMt, eMt0, isTyW, eNeg, negW, Res.bind_ok, List.length_cons, List.length_nil, List.map_cons, List.map_nil, List.cons_append, List.nil_append, List.replicate, List.getElem?_cons_zero, List.getElem?_cons_succ, List.set_cons_zero, List.set_cons_succ, if_true, if_false, Nat.sub_self, Nat.reduceSub, Nat.reduceAdd, sizeLine_eq, hne, ngB, decide_true]; rfl) ?_
    refine wp_go (by simp only [runF, env0, finM, sSeq, sNx, sIf, sRet, sAsg, asgK, gSet, sDrop, sAug, eS_ok, tBool, tTru, truW, eOp, eChain, eVar, eC, eFrz, eObj, aNil, aCons, eTup, eLst, asDs, eCall, eCallF, callM, noFl, tAndF, tOrF, tNotF, eAnd, eOr, eNot, eIsi, tyW, Tk.sub, eSl, oNone, oSome, eMt, eMt0, isTyW, eNeg, negW, Res.bind_ok, List.length_cons, List.length_nil, List.map_cons, List.map_nil, List.cons_append, List.nil_append, List.replicate, List.getElem?_cons_zero, List.getElem?_cons_succ, List.set_cons_zero, List.set_cons_succ, if_true, if_false, Nat.sub_self, Nat.reduceSub, Nat.reduceAdd, sizeLine_eq, hR]; rfl) ?_
    refine wp_ifF (by simp only [runF, env0, finM, sSeq, sNx, sIf, sRet, sAsg, asgK, gSet, sDrop, sAug, eS_ok, tBool, tTru, truW, eOp, eChain, eVar, eC, eFrz, eObj, aNil, aCons, eTup, eLst, asDs, eCall, eCallF, callM, noFl, tAndF, tOrF, tNotF, eAnd, eOr, eNot, eIsi, tyW, Tk.sub, eSl, oNone, oSome, eMt, eMt0, isTyW, eNeg, negW, Res.bind_ok, List.length_cons, List.length_nil, List.map_cons, List.map_nil, List.cons_append, List.nil_append, List.replicate, List.getElem?_cons_zero, List.getElem?_cons_succ, List.set_cons_zero, List.set_cons_succ, if_true, if_false, Nat.sub_self, Nat.reduceSub, Nat.reduceAdd, sizeLine_eq, hsame, hS, hne, ngB, decide_true]; rfl) ?_
    exact ⟨_, _, _, _, _, rfl, D2⟩
  exact key
theorem law_true : ∀ ns : List Int, ns.length ≤ 63 → ∃ m, F_law [.ro (ns.map .int)] [] = .ok (.d (.bool true)) m := by
  intro ns hn
  obtain ⟨m1, hl1, D1, F1⟩ := law_deck (m := []) hn
  rw [List.nil_append] at D1 F1
  have hr (m : Mem) : rng1 [.d (.int 10)] m = .ok (rngI 0 10) m := by rw [rng1_ok (by omega) (by omega)]; rfl
  refine run_wp (Q := fun r => ∃ m, r = .ok (.d (.bool true)) m) ?_
  unfold m_law
  refine wp_go (by simp only [runF, env0, finM, sSeq, sNx, sIf, sRet, sAsg, asgK, gSet, sDrop, sAug, eS_ok, tBool, tTru, truW, eOp, eChain, eVar, eC, eFrz, eObj, aNil, aCons, eTup, eLst, asDs, eCall, eCallF, callM, noFl, tAndF, tOrF, tNotF, eAnd, eOr, eNot, eIsi, tyW, Tk.sub, eSl, oNone, oSome, eMt, eMt0, isTyW, eNeg, negW, Res.bind_ok, List.length_cons, List.length_nil, List.map_cons, List.map_nil, List.cons_append, List.nil_append, List.replicate, List.getElem?_cons_zero, List.getElem?_cons_succ, List.set_cons_zero, List.set_cons_succ, if_true, if_false, Nat.sub_self, Nat.reduceSub, Nat.reduceAdd, sizeLine_eq, F1]; rfl) ?_
  refine wp_sForR (by simp [runF, env0, finM, sSeq, sNx, sIf, sRet, sAsg, asgK, gSet, sDrop, sAug, eS_ok, tBool, tTru, truW, eOp, eChain, eVar, eC, eFrz, eObj, aNil, aCons, eTup, eLst, asDs, eCall, eCallF, callM, noFl, tAndF, tOrF, tNotF, eAnd, eOr, eNot, eIsi, tyW, Tk.sub, eSl, oNone, oSome, eMt, eMt0, isTyW, eNeg, negW, Res.bind_ok, List.length_cons, List.length_nil, List.map_cons, List.map_nil, List.cons_append, List.nil_append, List.replicate, List.getElem?_cons_zero, List.getElem?_cons_succ, List.set_cons_zero, List.set_cons_succ, if_true, if_false, Nat.sub_self, Nat.reduceSub, Nat.reduceAdd, sizeLine_eq, iRange1, hr] <;> (try first | rfl | exact ⟨rfl, rfl⟩)) (lawI 0 1 (some (.ro (ns.map .int)))) ⟨_, _, _, _, _, rfl, D1⟩ (fun i env m' hi hp => law_step hp) ?_
  rintro _ m' ⟨x1, x2, x3, x4, x5, rfl, _⟩
  refine wp_ret (by simp only [runF, env0, finM, sSeq, sNx, sIf, sRet, sAsg, asgK, gSet, sDrop, sAug, eS_ok, tBool, tTru, truW, eOp, eChain, eVar, eC, eFrz, eObj, aNil, aCons, eTup, eLst, asDs, eCall, eCallF, callM, noFl, tAndF, tOrF, tNotF, eAnd, eOr, eNot, eIsi, tyW, Tk.sub, eSl, oNone, oSome, eMt, eMt0, isTyW, eNeg, negW, Res.bind_ok, List.length_cons, List.length_nil, List.map_cons, List.map_nil, List.cons_append, List.nil_append, List.replicate, List.getElem?_cons_zero, List.getElem?_cons_succ, List.set_cons_zero, List.set_cons_succ, if_true, if_false, Nat.sub_self, Nat.reduceSub, Nat.reduceAdd, sizeLine_eq]; rfl) ?_
  exact ⟨_, rfl⟩

end K10

set_option Elab.async false
set_option linter.all false
set_option maxRecDepth 100000
set_option maxHeartbeats 4000000
namespace K10
open PySem L2 M
def top (i : Nat) : Stmt := PySem.Challenge.pw_slashwise_k10_kinds_written.main.body.getD i (.Pass ⟨0, 0, 0, 0⟩)
structure Txt (K : PySem.W.Frag) (mg : Str → Option Value) where
  ad_word_end : Addr
  fd_word_end : FuncData
  fn_word_end : Fun K "word_end" "word_end" (top 7) ad_word_end fd_word_end
  bn_word_end : Binds K fd_word_end ["text", "at"] []
  gl_word_end : mg "word_end" = some (.ref ad_word_end)
  ad_kind_at : Addr
  fd_kind_at : FuncData
  fn_kind_at : Fun K "kind_at" "kind_at" (top 8) ad_kind_at fd_kind_at
  bn_kind_at : Binds K fd_kind_at ["text", "at", "open_ones"] []
  gl_kind_at : mg "kind_at" = some (.ref ad_kind_at)
  ad_basics_in : Addr
  fd_basics_in : FuncData
  fn_basics_in : Fun K "basics_in" "basics_in" (top 9) ad_basics_in fd_basics_in
  bn_basics_in : Binds K fd_basics_in ["kind"] []
  gl_basics_in : mg "basics_in" = some (.ref ad_basics_in)
  ad_read_kind : Addr
  fd_read_kind : FuncData
  fn_read_kind : Fun K "read_kind" "read_kind" (top 10) ad_read_kind fd_read_kind
  bn_read_kind : Binds K fd_read_kind ["text"] []
  gl_read_kind : mg "read_kind" = some (.ref ad_read_kind)
  ad_show_kind : Addr
  fd_show_kind : FuncData
  fn_show_kind : Fun K "show_kind" "show_kind" (top 11) ad_show_kind fd_show_kind
  bn_show_kind : Binds K fd_show_kind ["kind"] []
  gl_show_kind : mg "show_kind" = some (.ref ad_show_kind)
  ad__law_deck : Addr
  fd__law_deck : FuncData
  fn__law_deck : Fun K "_law_deck" "_law_deck" (top 13) ad__law_deck fd__law_deck
  bn__law_deck : Binds K fd__law_deck ["_law_script"] []
  gl__law_deck : mg "_law_deck" = some (.ref ad__law_deck)
  ad__law_next : Addr
  fd__law_next : FuncData
  fn__law_next : Fun K "_law_next" "_law_next" (top 14) ad__law_next fd__law_next
  bn__law_next : Binds K fd__law_next ["_law_deck_here"] []
  gl__law_next : mg "_law_next" = some (.ref ad__law_next)
  ad__law_spelled : Addr
  fd__law_spelled : FuncData
  fn__law_spelled : Fun K "_law_spelled" "_law_spelled" (top 15) ad__law_spelled fd__law_spelled
  bn__law_spelled : Binds K fd__law_spelled ["_law_number", "_law_size"] []
  gl__law_spelled : mg "_law_spelled" = some (.ref ad__law_spelled)
  ad__law_word : Addr
  fd__law_word : FuncData
  fn__law_word : Fun K "_law_word" "_law_word" (top 16) ad__law_word fd__law_word
  bn__law_word : Binds K fd__law_word ["_law_deck_here", "_law_words_here"] []
  gl__law_word : mg "_law_word" = some (.ref ad__law_word)
  ad__law_words : Addr
  fd__law_words : FuncData
  fn__law_words : Fun K "_law_words" "_law_words" (top 17) ad__law_words fd__law_words
  bn__law_words : Binds K fd__law_words ["_law_deck_here", "_law_many"] []
  gl__law_words : mg "_law_words" = some (.ref ad__law_words)
  ad__law_grown_kind : Addr
  fd__law_grown_kind : FuncData
  fn__law_grown_kind : Fun K "_law_grown_kind" "_law_grown_kind" (top 18) ad__law_grown_kind fd__law_grown_kind
  bn__law_grown_kind : Binds K fd__law_grown_kind ["_law_deck_here", "_law_many"] []
  gl__law_grown_kind : mg "_law_grown_kind" = some (.ref ad__law_grown_kind)
  ad__law_kind_text : Addr
  fd__law_kind_text : FuncData
  fn__law_kind_text : Fun K "_law_kind_text" "_law_kind_text" (top 19) ad__law_kind_text fd__law_kind_text
  bn__law_kind_text : Binds K fd__law_kind_text ["_law_kind"] []
  gl__law_kind_text : mg "_law_kind_text" = some (.ref ad__law_kind_text)
  ad__law_same : Addr
  fd__law_same : FuncData
  fn__law_same : Fun K "_law_same" "_law_same" (top 20) ad__law_same fd__law_same
  bn__law_same : Binds K fd__law_same ["_law_one", "_law_other"] []
  gl__law_same : mg "_law_same" = some (.ref ad__law_same)
  ad_law : Addr
  fd_law : FuncData
  fn_law : Fun K "law" "law" (top 21) ad_law fd_law
  bn_law : Binds K fd_law ["_law_script"] []
  gl_law : mg "law" = some (.ref ad_law)
  z_all : mg "all" = none
  z_bool : mg "bool" = none
  z_int : mg "int" = none
  z_isinstance : mg "isinstance" = none
  z_len : mg "len" = none
  z_range : mg "range" = none
  z_str : mg "str" = none
  z_sum : mg "sum" = none
  z_tuple : mg "tuple" = none
  z_zip : mg "zip" = none
  k_LETTERS : KRep K mg "LETTERS" c_LETTERS
  k_LONGEST : KRep K mg "LONGEST" c_LONGEST
  k_MOST_BASICS : KRep K mg "MOST_BASICS" c_MOST_BASICS
section
variable {P : Program} {w : World} {K : PySem.W.Frag} {mg : Str → Option Value} {base : Heap}
abbrev N_word_end : List Str := ["text", "at"]
theorem sc_word_end : FnScope N_word_end ["text", "at"] (defScope (top 7)) := ⟨rfl, rfl, rfl, by decide +kernel, rfl, by decide +kernel, by decide +kernel⟩
theorem ok_word_end (T : Txt K mg) : FnOk P w K mg base (L2.CX P w) (1) T.ad_word_end T.fd_word_end ["text", "at"] (SpM K mg 2 F_word_end) :=
  okF T.fn_word_end sc_word_end fun cdv A outer s H E hr =>
    (mb_cons (ms_while 1000 (passes_of rfl) (MP.mt (mp_and (mt_cmp op_lt ltW_ok (me_var 1) (me_callB call_len lenW_ok (by rfl) T.z_len (ma_cons (me_var 0) ma_nil))) (mp_and1 (mt_cmp (op_inA (hu65 hr)) inW_ok (me_ix ix_seq ixW_ok (me_var 0) (me_var 1)) (me_glob (by rfl) T.k_LETTERS))))) (mb_one (ms_aug 1 sc_word_end.nd ip_addI addIW_ok me_int)))
    (mb_one (ms_ret (me_var 1))))
abbrev N_kind_at : List Str := ["text", "at", "open_ones", "end", "one", "other"]
theorem sc_kind_at : FnScope N_kind_at ["text", "at", "open_ones"] (defScope (top 8)) := ⟨rfl, rfl, rfl, by decide +kernel, rfl, by decide +kernel, by decide +kernel⟩
theorem st_kind_at (T : Txt K mg) {n : Nat} (ih_kind_at : FnOk P w K mg base (L2.CX P w) (n + 1) T.ad_kind_at T.fd_kind_at ["text", "at", "open_ones"] (SpM K mg 3 (F_kind_at n))) : FnOk P w K mg base (L2.CX P w) (n + 1 + 1) T.ad_kind_at T.fd_kind_at ["text", "at", "open_ones"] (SpM K mg 3 (F_kind_at (n + 1))) :=
  okF T.fn_kind_at sc_kind_at fun cdv A outer s H E hr =>
    (mb_cons (ms_if (mt_cmp (op_neD hr.units) neW_ok (me_slice sl_all slW_ok (me_var 0) (mo_some (me_var 1)) (mo_some (me_op op_addA addW_ok (me_var 1) me_int))) me_str) (mb_cons (ms_set 3 sc_kind_at.nd (me_frz (me_call (takes_of rfl rfl rfl rfl) (ok_word_end T) (hr.mono (by omega)) T.gl_word_end T.fn_word_end.kp T.bn_word_end (by rfl) (ma_cons (me_var 0) (ma_cons (me_var 1) ma_nil)) (aCons_len (aCons_len aNil_len)))))
    (mb_cons (ms_if (mt_not (mt_chain op_le op_le leW_ok leW_ok me_int (me_op op_sub subW_ok (me_var 3) (me_var 1)) (me_glob (by rfl) T.k_LONGEST))) (mb_one ms_never) mb_nil)
    (mb_one (ms_ret (me_tup (ma_cons (me_frz (me_slice sl_all slW_ok (me_var 0) (mo_some (me_var 1)) (mo_some (me_var 3)))) (ma_cons (me_var 3) ma_nil))))))) mb_nil)
    (mb_cons (ms_if (mt_cmp op_ge geW_ok (me_op op_addA addW_ok (me_var 2) me_int) (me_glob (by rfl) T.k_MOST_BASICS)) (mb_one ms_never) mb_nil)
    (mb_cons (ms_asg (me_frz (me_call (takes_of rfl rfl rfl rfl) ih_kind_at hr T.gl_kind_at T.fn_kind_at.kp T.bn_kind_at (by rfl) (ma_cons (me_var 0) (ma_cons (me_op op_addA addW_ok (me_var 1) me_int) (ma_cons (me_op op_addA addW_ok (me_var 2) me_int) ma_nil))) (aCons_len (aCons_len (aCons_len aNil_len))))) (mg_tup rfl (mgs_cons (mg_name 4 sc_kind_at.nd) (mgs_cons (mg_name 1 sc_kind_at.nd) mgs_nil))))
    (mb_cons (ms_if (mt_cmp (op_neD hr.units) neW_ok (me_slice sl_all slW_ok (me_var 0) (mo_some (me_var 1)) (mo_some (me_op op_addA addW_ok (me_var 1) me_int))) me_str) (mb_one ms_never) mb_nil)
    (mb_cons (ms_asg (me_frz (me_call (takes_of rfl rfl rfl rfl) ih_kind_at hr T.gl_kind_at T.fn_kind_at.kp T.bn_kind_at (by rfl) (ma_cons (me_var 0) (ma_cons (me_op op_addA addW_ok (me_var 1) me_int) (ma_cons (me_op op_addA addW_ok (me_var 2) me_int) ma_nil))) (aCons_len (aCons_len (aCons_len aNil_len))))) (mg_tup rfl (mgs_cons (mg_name 5 sc_kind_at.nd) (mgs_cons (mg_name 1 sc_kind_at.nd) mgs_nil))))
    (mb_cons (ms_if (mt_cmp (op_neD hr.units) neW_ok (me_slice sl_all slW_ok (me_var 0) (mo_some (me_var 1)) (mo_some (me_op op_addA addW_ok (me_var 1) me_int))) me_str) (mb_one ms_never) mb_nil)
    (mb_one (ms_ret (me_tup (ma_cons (me_tup (ma_cons (me_var 4) (ma_cons (me_var 5) ma_nil))) (ma_cons (me_op op_addA addW_ok (me_var 1) me_int) ma_nil)))))))))))
theorem ok_kind_at (T : Txt K mg) : ∀ n : Nat, FnOk P w K mg base (L2.CX P w) (n + 1) T.ad_kind_at T.fd_kind_at ["text", "at", "open_ones"] (SpM K mg 3 (F_kind_at n))
  | 0 => okBad
  | n + 1 => (st_kind_at T (ok_kind_at T n)).mono (by omega)
abbrev N_basics_in : List Str := ["kind"]
theorem sc_basics_in : FnScope N_basics_in ["kind"] (defScope (top 9)) := ⟨rfl, rfl, rfl, by decide +kernel, rfl, by decide +kernel, by decide +kernel⟩
theorem st_basics_in (T : Txt K mg) {n : Nat} (ih_basics_in : FnOk P w K mg base (L2.CX P w) (n + 0) T.ad_basics_in T.fd_basics_in ["kind"] (SpM K mg 1 (F_basics_in n))) : FnOk P w K mg base (L2.CX P w) (n + 0 + 1) T.ad_basics_in T.fd_basics_in ["kind"] (SpM K mg 1 (F_basics_in (n + 1))) :=
  okF T.fn_basics_in sc_basics_in fun cdv A outer s H E hr =>
    (mb_cons (ms_if (mt_tru (me_isi .str (by rfl) T.z_isinstance (by rfl) T.z_str (me_var 0))) (mb_one (ms_ret (me_lst (ma_cons (me_var 0) ma_nil)))) mb_nil)
    (mb_one (ms_ret (me_op op_addA addW_ok (me_call (takes_of rfl rfl rfl rfl) ih_basics_in hr T.gl_basics_in T.fn_basics_in.kp T.bn_basics_in (by rfl) (ma_cons (me_ix ix_seq ixW_ok (me_var 0) me_int) ma_nil) (aCons_len aNil_len)) (me_call (takes_of rfl rfl rfl rfl) ih_basics_in hr T.gl_basics_in T.fn_basics_in.kp T.bn_basics_in (by rfl) (ma_cons (me_ix ix_seq ixW_ok (me_var 0) me_int) ma_nil) (aCons_len aNil_len))))))
theorem ok_basics_in (T : Txt K mg) : ∀ n : Nat, FnOk P w K mg base (L2.CX P w) (n + 0) T.ad_basics_in T.fd_basics_in ["kind"] (SpM K mg 1 (F_basics_in n))
  | 0 => okBad
  | n + 1 => (st_basics_in T (ok_basics_in T n)).mono (by omega)
abbrev N_read_kind : List Str := ["text", "kind", "end"]
theorem sc_read_kind : FnScope N_read_kind ["text"] (defScope (top 10)) := ⟨rfl, rfl, rfl, by decide +kernel, rfl, by decide +kernel, by decide +kernel⟩
theorem ok_read_kind (T : Txt K mg) : FnOk P w K mg base (L2.CX P w) (42) T.ad_read_kind T.fd_read_kind ["text"] (SpM K mg 1 F_read_kind) :=
  okF T.fn_read_kind sc_read_kind fun cdv A outer s H E hr =>
    (mb_cons (ms_if (mt_not (mt_tru (me_isi .str (by rfl) T.z_isinstance (by rfl) T.z_str (me_var 0)))) (mb_one ms_never) mb_nil)
    (mb_cons (ms_asg (me_frz (me_call (takes_of rfl rfl rfl rfl) (ok_kind_at T 40) (hr.mono (by decide)) T.gl_kind_at T.fn_kind_at.kp T.bn_kind_at (by rfl) (ma_cons (me_var 0) (ma_cons me_int (ma_cons me_int ma_nil))) (aCons_len (aCons_len (aCons_len aNil_len))))) (mg_tup rfl (mgs_cons (mg_name 1 sc_read_kind.nd) (mgs_cons (mg_name 2 sc_read_kind.nd) mgs_nil))))
    (mb_cons (ms_if (MP.mt (mp_or (mt_cmp (op_neD hr.units) neW_ok (me_var 2) (me_callB call_len lenW_ok (by rfl) T.z_len (ma_cons (me_var 0) ma_nil))) (mp_or1 (mt_cmp op_gt gtW_ok (me_callB call_len lenW_ok (by rfl) T.z_len (ma_cons (me_call (takes_of rfl rfl rfl rfl) (ok_basics_in T 40) (hr.mono (by decide)) T.gl_basics_in T.fn_basics_in.kp T.bn_basics_in (by rfl) (ma_cons (me_var 1) ma_nil) (aCons_len aNil_len)) ma_nil)) (me_glob (by rfl) T.k_MOST_BASICS))))) (mb_one ms_never) mb_nil)
    (mb_one (ms_ret (me_var 1))))))
abbrev N_show_kind : List Str := ["kind"]
theorem sc_show_kind : FnScope N_show_kind ["kind"] (defScope (top 11)) := ⟨rfl, rfl, rfl, by decide +kernel, rfl, by decide +kernel, by decide +kernel⟩
theorem st_show_kind (T : Txt K mg) {n : Nat} (ih_show_kind : FnOk P w K mg base (L2.CX P w) (n + 0) T.ad_show_kind T.fd_show_kind ["kind"] (SpM K mg 1 (F_show_kind n))) : FnOk P w K mg base (L2.CX P w) (n + 0 + 1) T.ad_show_kind T.fd_show_kind ["kind"] (SpM K mg 1 (F_show_kind (n + 1))) :=
  okF T.fn_show_kind sc_show_kind fun cdv A outer s H E hr =>
    (mb_cons (ms_if (mt_tru (me_isi .str (by rfl) T.z_isinstance (by rfl) T.z_str (me_var 0))) (mb_one (ms_ret (me_var 0))) mb_nil)
    (mb_one (ms_ret (me_op op_addA addW_ok (me_op op_addA addW_ok (me_op op_addA addW_ok (me_op op_addA addW_ok me_str (me_call (takes_of rfl rfl rfl rfl) ih_show_kind hr T.gl_show_kind T.fn_show_kind.kp T.bn_show_kind (by rfl) (ma_cons (me_ix ix_seq ixW_ok (me_var 0) me_int) ma_nil) (aCons_len aNil_len))) me_str) (me_call (takes_of rfl rfl rfl rfl) ih_show_kind hr T.gl_show_kind T.fn_show_kind.kp T.bn_show_kind (by rfl) (ma_cons (me_ix ix_seq ixW_ok (me_var 0) me_int) ma_nil) (aCons_len aNil_len))) me_str))))
theorem ok_show_kind (T : Txt K mg) : ∀ n : Nat, FnOk P w K mg base (L2.CX P w) (n + 0) T.ad_show_kind T.fd_show_kind ["kind"] (SpM K mg 1 (F_show_kind n))
  | 0 => okBad
  | n + 1 => (st_show_kind T (ok_show_kind T n)).mono (by omega)
abbrev N__law_deck : List Str := ["_law_script", "_law_cells", "_law_mixed"]
theorem sc__law_deck : FnScope N__law_deck ["_law_script"] (defScope (top 13)) := ⟨rfl, rfl, rfl, by decide +kernel, rfl, by decide +kernel, by decide +kernel⟩
theorem ok__law_deck (T : Txt K mg) : FnOk P w K mg base (L2.CX P w) (1) T.ad__law_deck T.fd__law_deck ["_law_script"] (SpM K mg 1 F__law_deck) :=
  okA T.fn__law_deck sc__law_deck fun cdv A outer s H E hr =>
    (mb_cons (ms_set 1 sc__law_deck.nd (me_obj (me_op op_addA addW_ok (me_slice sl_all slW_ok (me_var 0) mo_none (mo_some me_int)) (me_lst (ma_cons me_int ma_nil)))))
    (mb_cons (ms_set 2 sc__law_deck.nd (me_cmp (op_eqD hr.units) eqW_ok (me_op op_mod modW_ok (me_ix ix_seq ixW_ok (me_var 1) me_int) me_int) me_int))
    (mb_cons (ms_setI (me_var 1) me_int (me_op op_fdivW divW_ok (me_ix ix_seq ixW_ok (me_var 1) me_int) me_int))
    (mb_one (ms_ret (me_dict (mps_cons me_str (me_obj (me_var 1)) (mps_cons me_str (me_obj me_int) (mps_cons me_str (me_obj me_int) (mps_cons me_str (me_obj (me_op op_addA addW_ok me_int (me_op op_mod modW_ok (me_callB (cr_sum rfl) sumW_ok (by rfl) T.z_sum (ma_cons (me_var 1) ma_nil)) me_int))) (mps_cons me_str (me_obj (me_var 2)) mps_nil)))))))))))
abbrev N__law_next : List Str := ["_law_deck_here", "_law_cells", "_law_cell", "_law_number"]
theorem sc__law_next : FnScope N__law_next ["_law_deck_here"] (defScope (top 14)) := ⟨rfl, rfl, rfl, by decide +kernel, rfl, by decide +kernel, by decide +kernel⟩
theorem ok__law_next (T : Txt K mg) : FnOk P w K mg base (L2.CX P w) (1) T.ad__law_next T.fd__law_next ["_law_deck_here"] (SpM K mg 1 F__law_next) :=
  okF T.fn__law_next sc__law_next fun cdv A outer s H E hr =>
    (mb_cons (ms_set 1 sc__law_next.nd (me_obj (me_dget (hu65 hr) (me_var 0) me_str)))
    (mb_cons (ms_if (mt_tru (me_dget (hu65 hr) (me_var 0) me_str)) (mb_cons (ms_setD (hu65 hr) (me_var 0) me_str (me_op op_addA addW_ok (me_dget (hu65 hr) (me_var 0) me_str) me_int))
    (mb_cons (ms_set 2 sc__law_next.nd (me_ix ix_seq ixW_ok (me_var 1) (me_op op_mod modW_ok (me_dget (hu65 hr) (me_var 0) me_str) (me_callB call_len lenW_ok (by rfl) T.z_len (ma_cons (me_var 1) ma_nil)))))
    (mb_cons (ms_setD (hu65 hr) (me_var 0) me_str (me_op op_mod modW_ok (me_op op_addA addW_ok (me_op op_addA addW_ok (me_op op_mulA mulW_ok (me_dget (hu65 hr) (me_var 0) me_str) me_int) (me_var 2)) (me_dget (hu65 hr) (me_var 0) me_str)) me_int))
    (mb_cons (ms_set 3 sc__law_next.nd (me_op op_mod modW_ok (me_op op_addA addW_ok (me_op op_mulA mulW_ok (me_dget (hu65 hr) (me_var 0) me_str) (me_dget (hu65 hr) (me_var 0) me_str)) (me_op op_mulA mulW_ok me_int (me_dget (hu65 hr) (me_var 0) me_str))) me_int))
    (mb_one (ms_ret (me_op op_mod modW_ok (me_op op_mulA mulW_ok (me_var 3) (me_op op_addA addW_ok (me_var 3) me_int)) me_int))))))) mb_nil)
    (mb_cons (ms_set 3 sc__law_next.nd (me_op op_mod modW_ok (me_ix ix_seq ixW_ok (me_var 1) me_int) (me_op op_pow powW_ok me_int me_int)))
    (mb_cons (ms_setI (me_var 1) me_int (me_op op_fdivW divW_ok (me_ix ix_seq ixW_ok (me_var 1) me_int) (me_op op_pow powW_ok me_int me_int)))
    (mb_cons (ms_setD (hu65 hr) (me_var 0) me_str (me_op op_sub subW_ok (me_dget (hu65 hr) (me_var 0) me_str) me_int))
    (mb_cons (ms_if (MP.mt (mp_and (mt_cmp (op_eqD hr.units) eqW_ok (me_dget (hu65 hr) (me_var 0) me_str) me_int) (mp_and1 (mt_cmp op_gt gtW_ok (me_callB call_len lenW_ok (by rfl) T.z_len (ma_cons (me_var 1) ma_nil)) me_int)))) (mb_cons (ms_expr (me_bm PySem.F.plainAttrs_list PySem.F.slot_list_pop PySem.F.type_list_pop mt_popAt popAtW_ok (me_var 1) (ma_cons me_int ma_nil)))
    (mb_one (ms_setD (hu65 hr) (me_var 0) me_str me_int))) mb_nil)
    (mb_one (ms_ret (me_var 3)))))))))
abbrev N__law_spelled : List Str := ["_law_number", "_law_size", "_law_word_here", "_law_k"]
theorem sc__law_spelled : FnScope N__law_spelled ["_law_number", "_law_size"] (defScope (top 15)) := ⟨rfl, rfl, rfl, by decide +kernel, rfl, by decide +kernel, by decide +kernel⟩
theorem ok__law_spelled (T : Txt K mg) : FnOk P w K mg base (L2.CX P w) (1) T.ad__law_spelled T.fd__law_spelled ["_law_number", "_law_size"] (SpM K mg 2 F__law_spelled) :=
  okF T.fn__law_spelled sc__law_spelled fun cdv A outer s H E hr =>
    (mb_cons (ms_set 2 sc__law_spelled.nd me_str)
    (mb_cons (ms_for (passes_of rfl) rfl (mi_range1 (by rfl) T.z_range (ma_cons (me_var 1) ma_nil)) (mg_name 3 sc__law_spelled.nd) (mb_cons (ms_set 2 sc__law_spelled.nd (me_op op_addA addW_ok (me_var 2) (me_ix ix_seq ixW_ok me_str (me_op op_mod modW_ok (me_var 0) me_int))))
    (mb_one (ms_set 0 sc__law_spelled.nd (me_op op_fdivW divW_ok (me_var 0) me_int)))))
    (mb_one (ms_ret (me_var 2)))))
abbrev N__law_word : List Str := ["_law_deck_here", "_law_words_here", "_law_way", "_law_number", "_law_size", "_law_word_here", "_law_at"]
theorem sc__law_word : FnScope N__law_word ["_law_deck_here", "_law_words_here"] (defScope (top 16)) := ⟨rfl, rfl, rfl, by decide +kernel, rfl, by decide +kernel, by decide +kernel⟩
theorem ok__law_word (T : Txt K mg) : FnOk P w K mg base (L2.CX P w) (2) T.ad__law_word T.fd__law_word ["_law_deck_here", "_law_words_here"] (SpM K mg 2 F__law_word) :=
  okF T.fn__law_word sc__law_word fun cdv A outer s H E hr =>
    (mb_cons (ms_set 2 sc__law_word.nd (me_frz (me_call (takes_of rfl rfl rfl rfl) (ok__law_next T) (hr.mono (by decide)) T.gl__law_next T.fn__law_next.kp T.bn__law_next (by rfl) (ma_cons (me_obj (me_var 0)) ma_nil) (aCons_len aNil_len))))
    (mb_cons (ms_set 3 sc__law_word.nd (me_frz (me_call (takes_of rfl rfl rfl rfl) (ok__law_next T) (hr.mono (by decide)) T.gl__law_next T.fn__law_next.kp T.bn__law_next (by rfl) (ma_cons (me_obj (me_var 0)) ma_nil) (aCons_len aNil_len))))
    (mb_cons (ms_set 4 sc__law_word.nd (me_op op_addA addW_ok me_int (me_op op_mod modW_ok (me_var 2) me_int)))
    (mb_cons (ms_set 5 sc__law_word.nd (me_frz (me_call (takes_of rfl rfl rfl rfl) (ok__law_spelled T) (hr.mono (by decide)) T.gl__law_spelled T.fn__law_spelled.kp T.bn__law_spelled (by rfl) (ma_cons (me_var 3) (ma_cons (me_var 4) ma_nil)) (aCons_len (aCons_len aNil_len)))))
    (mb_cons (ms_if (MP.mt (mp_and (mt_cmp (op_neD hr.units) neW_ok (me_var 1) (me_lst ma_nil)) (mp_and1 (mt_cmp (op_eqD hr.units) eqW_ok (me_op op_mod modW_ok (me_op op_fdivW divW_ok (me_var 2) me_int) me_int) me_int)))) (mb_cons (ms_set 6 sc__law_word.nd (me_op op_mod modW_ok (me_op op_fdivW divW_ok (me_var 2) me_int) (me_callB call_len lenW_ok (by rfl) T.z_len (ma_cons (me_ix ix_seq ixW_ok (me_var 1) me_int) ma_nil))))
    (mb_one (ms_set 5 sc__law_word.nd (me_frz (me_op op_addA addW_ok (me_op op_addA addW_ok (me_slice sl_all slW_ok (me_ix ix_seq ixW_ok (me_var 1) me_int) mo_none (mo_some (me_var 6))) (me_ix ix_seq ixW_ok (me_var 5) me_int)) (me_slice sl_all slW_ok (me_ix ix_seq ixW_ok (me_var 1) me_int) (mo_some (me_op op_addA addW_ok (me_var 6) me_int)) mo_none)))))) mb_nil)
    (mb_cons (ms_while 1000 (passes_of rfl) (MP.mt (mp_or (mt_cmp (op_inA (hu65 hr)) inW_ok (me_var 5) (me_var 1)) (mp_or1 (mt_cmp (op_eqD hr.units) eqW_ok (me_var 5) me_str)))) (mb_cons (ms_set 3 sc__law_word.nd (me_op op_addA addW_ok (me_var 3) me_int))
    (mb_cons (ms_set 4 sc__law_word.nd (me_op op_addA addW_ok (me_op op_mod modW_ok (me_var 4) me_int) me_int))
    (mb_one (ms_set 5 sc__law_word.nd (me_frz (me_call (takes_of rfl rfl rfl rfl) (ok__law_spelled T) (hr.mono (by decide)) T.gl__law_spelled T.fn__law_spelled.kp T.bn__law_spelled (by rfl) (ma_cons (me_var 3) (ma_cons (me_var 4) ma_nil)) (aCons_len (aCons_len aNil_len)))))))))
    (mb_one (ms_ret (me_var 5)))))))))
abbrev N__law_words : List Str := ["_law_deck_here", "_law_many", "_law_words_here", "_law_k"]
theorem sc__law_words : FnScope N__law_words ["_law_deck_here", "_law_many"] (defScope (top 17)) := ⟨rfl, rfl, rfl, by decide +kernel, rfl, by decide +kernel, by decide +kernel⟩
theorem ok__law_words (T : Txt K mg) : FnOk P w K mg base (L2.CX P w) (3) T.ad__law_words T.fd__law_words ["_law_deck_here", "_law_many"] (SpM K mg 2 F__law_words) :=
  okF T.fn__law_words sc__law_words fun cdv A outer s H E hr =>
    (mb_cons (ms_set 2 sc__law_words.nd (me_obj (me_lst ma_nil)))
    (mb_cons (ms_for (passes_of rfl) rfl (mi_range1 (by rfl) T.z_range (ma_cons (me_var 1) ma_nil)) (mg_name 3 sc__law_words.nd) (mb_one (ms_expr (me_bm PySem.F.plainAttrs_list PySem.F.slot_list_append PySem.F.type_list_append mt_append appendW_ok (me_var 2) (ma_cons (me_frz (me_call (takes_of rfl rfl rfl rfl) (ok__law_word T) (hr.mono (by decide)) T.gl__law_word T.fn__law_word.kp T.bn__law_word (by rfl) (ma_cons (me_obj (me_var 0)) (ma_cons (me_var 2) ma_nil)) (aCons_len (aCons_len aNil_len)))) ma_nil)))))
    (mb_one (ms_ret (me_var 2)))))
abbrev N__law_grown_kind : List Str := ["_law_deck_here", "_law_many", "_law_names", "_law_row", "_law_k", "_law_at"]
theorem sc__law_grown_kind : FnScope N__law_grown_kind ["_law_deck_here", "_law_many"] (defScope (top 18)) := ⟨rfl, rfl, rfl, by decide +kernel, rfl, by decide +kernel, by decide +kernel⟩
theorem ok__law_grown_kind (T : Txt K mg) : FnOk P w K mg base (L2.CX P w) (4) T.ad__law_grown_kind T.fd__law_grown_kind ["_law_deck_here", "_law_many"] (SpM K mg 2 F__law_grown_kind) :=
  okF T.fn__law_grown_kind sc__law_grown_kind fun cdv A outer s H E hr =>
    (mb_cons (ms_set 2 sc__law_grown_kind.nd (me_frz (me_call (takes_of rfl rfl rfl rfl) (ok__law_words T) (hr.mono (by decide)) T.gl__law_words T.fn__law_words.kp T.bn__law_words (by rfl) (ma_cons (me_obj (me_var 0)) (ma_cons (me_op op_addA addW_ok me_int (me_op op_mod modW_ok (me_call (takes_of rfl rfl rfl rfl) (ok__law_next T) (hr.mono (by decide)) T.gl__law_next T.fn__law_next.kp T.bn__law_next (by rfl) (ma_cons (me_obj (me_var 0)) ma_nil) (aCons_len aNil_len)) (me_var 1))) ma_nil)) (aCons_len (aCons_len aNil_len)))))
    (mb_cons (ms_setLc 3 (own := [("_law_k", 4)]) (cv := eFrz) cvFrz rfl sc__law_grown_kind.nd (mi_range1 (by rfl) T.z_range (ma_cons (me_var 1) ma_nil)) (blkOk_by (own := [("_law_k", 4)]) (N := N__law_grown_kind) (sc := defScope (top 18)) (by decide +kernel)) (fun _ _ _ _ _ => (mg_name 4 sc__law_grown_kind.nd)) (fun _ _ _ _ _ => mts_nil) (fun _ _ _ _ _ => (me_ix ix_seq ixW_ok (me_var 2) (me_op op_mod modW_ok (me_call takesF (ok__law_next T) (hr.mono (by decide)) T.gl__law_next T.fn__law_next.kp T.bn__law_next (by rfl) (ma_cons (me_obj (me_var 0)) ma_nil) (aCons_len aNil_len)) (me_callB call_len lenW_ok (by rfl) T.z_len (ma_cons (me_var 2) ma_nil))))) (sw_true rfl rfl rfl (by decide +kernel)))
    (mb_cons (ms_while 1000 (passes_of rfl) (mt_cmp op_gt gtW_ok (me_callB call_len lenW_ok (by rfl) T.z_len (ma_cons (me_var 3) ma_nil)) me_int) (mb_cons (ms_set 5 sc__law_grown_kind.nd (me_op op_mod modW_ok (me_call (takes_of rfl rfl rfl rfl) (ok__law_next T) (hr.mono (by decide)) T.gl__law_next T.fn__law_next.kp T.bn__law_next (by rfl) (ma_cons (me_obj (me_var 0)) ma_nil) (aCons_len aNil_len)) (me_op op_sub subW_ok (me_callB call_len lenW_ok (by rfl) T.z_len (ma_cons (me_var 3) ma_nil)) me_int)))
    (mb_one (ms_set 3 sc__law_grown_kind.nd (me_frz (me_op op_addA addW_ok (me_op op_addA addW_ok (me_slice sl_all slW_ok (me_var 3) mo_none (mo_some (me_var 5))) (me_lst (ma_cons (me_tup (ma_cons (me_ix ix_seq ixW_ok (me_var 3) (me_var 5)) (ma_cons (me_ix ix_seq ixW_ok (me_var 3) (me_op op_addA addW_ok (me_var 5) me_int)) ma_nil))) ma_nil))) (me_slice sl_all slW_ok (me_var 3) (mo_some (me_op op_addA addW_ok (me_var 5) me_int)) mo_none)))))))
    (mb_one (ms_ret (me_ix ix_seq ixW_ok (me_var 3) me_int))))))
abbrev N__law_kind_text : List Str := ["_law_kind"]
theorem sc__law_kind_text : FnScope N__law_kind_text ["_law_kind"] (defScope (top 19)) := ⟨rfl, rfl, rfl, by decide +kernel, rfl, by decide +kernel, by decide +kernel⟩
theorem st__law_kind_text (T : Txt K mg) {n : Nat} (ih__law_kind_text : FnOk P w K mg base (L2.CX P w) (n + 0) T.ad__law_kind_text T.fd__law_kind_text ["_law_kind"] (SpM K mg 1 (F__law_kind_text n))) : FnOk P w K mg base (L2.CX P w) (n + 0 + 1) T.ad__law_kind_text T.fd__law_kind_text ["_law_kind"] (SpM K mg 1 (F__law_kind_text (n + 1))) :=
  okF T.fn__law_kind_text sc__law_kind_text fun cdv A outer s H E hr =>
    (mb_cons (ms_if (mt_tru (me_isi .str (by rfl) T.z_isinstance (by rfl) T.z_str (me_var 0))) (mb_one (ms_ret (me_var 0))) mb_nil)
    (mb_one (ms_ret (me_op op_addA addW_ok (me_op op_addA addW_ok (me_op op_addA addW_ok (me_op op_addA addW_ok me_str (me_call (takes_of rfl rfl rfl rfl) ih__law_kind_text hr T.gl__law_kind_text T.fn__law_kind_text.kp T.bn__law_kind_text (by rfl) (ma_cons (me_ix ix_seq ixW_ok (me_var 0) me_int) ma_nil) (aCons_len aNil_len))) me_str) (me_call (takes_of rfl rfl rfl rfl) ih__law_kind_text hr T.gl__law_kind_text T.fn__law_kind_text.kp T.bn__law_kind_text (by rfl) (ma_cons (me_ix ix_seq ixW_ok (me_var 0) me_int) ma_nil) (aCons_len aNil_len))) me_str))))
theorem ok__law_kind_text (T : Txt K mg) : ∀ n : Nat, FnOk P w K mg base (L2.CX P w) (n + 0) T.ad__law_kind_text T.fd__law_kind_text ["_law_kind"] (SpM K mg 1 (F__law_kind_text n))
  | 0 => okBad
  | n + 1 => (st__law_kind_text T (ok__law_kind_text T n)).mono (by omega)
abbrev N__law_same : List Str := ["_law_one", "_law_other", "_law_here", "_law_there"]
theorem sc__law_same : FnScope N__law_same ["_law_one", "_law_other"] (defScope (top 20)) := ⟨rfl, rfl, rfl, by decide +kernel, rfl, by decide +kernel, by decide +kernel⟩
theorem st__law_same (T : Txt K mg) {n : Nat} (ih__law_same : FnOk P w K mg base (L2.CX P w) (n + 0) T.ad__law_same T.fd__law_same ["_law_one", "_law_other"] (SpM K mg 2 (F__law_same n))) : FnOk P w K mg base (L2.CX P w) (n + 0 + 1) T.ad__law_same T.fd__law_same ["_law_one", "_law_other"] (SpM K mg 2 (F__law_same (n + 1))) :=
  okF T.fn__law_same sc__law_same fun cdv A outer s H E hr =>
    (mb_cons (ms_if (mt_tru (me_isi .str (by rfl) T.z_isinstance (by rfl) T.z_str (me_var 0))) (mb_one (ms_ret (me_and (me_isi .str (by rfl) T.z_isinstance (by rfl) T.z_str (me_var 1)) (me_one (me_cmp (op_eqD hr.units) eqW_ok (me_var 0) (me_var 1)))))) mb_nil)
    (mb_cons (ms_if (mt_not (mt_tru (me_isi .tup (by rfl) T.z_isinstance (by rfl) T.z_tuple (me_var 0)))) (mb_one (ms_ret (me_and (me_isi .int (by rfl) T.z_isinstance (by rfl) T.z_int (me_var 1)) (me_and (me_not (me_isi .bl (by rfl) T.z_isinstance (by rfl) T.z_bool (me_var 1))) (me_one (me_cmp (op_eqD hr.units) eqW_ok (me_var 0) (me_var 1))))))) mb_nil)
    (mb_cons (ms_if (MP.mt (mp_or (mt_not (mt_tru (me_isi .tup (by rfl) T.z_isinstance (by rfl) T.z_tuple (me_var 1)))) (mp_or1 (mt_cmp (op_neD hr.units) neW_ok (me_callB call_len lenW_ok (by rfl) T.z_len (ma_cons (me_var 0) ma_nil)) (me_callB call_len lenW_ok (by rfl) T.z_len (ma_cons (me_var 1) ma_nil)))))) (mb_one (ms_ret me_bl)) mb_nil)
    (mb_one (ms_ret (me_callB (cr_all rfl) allW_ok (by rfl) T.z_all (ma_cons (me_lc (own := [("_law_here", 2), ("_law_there", 3)]) rfl sc__law_same.nd (mi_zipA (by rfl) T.z_zip (ma_cons (me_var 0) (ma_cons (me_var 1) ma_nil))) (blkOk_by (own := [("_law_here", 2), ("_law_there", 3)]) (N := N__law_same) (sc := defScope (top 20)) (by decide +kernel)) (fun _ _ _ _ _ => (mg_tup rfl (mgs_cons (mg_name 2 sc__law_same.nd) (mgs_cons (mg_name 3 sc__law_same.nd) mgs_nil)))) (fun _ _ _ _ _ => mts_nil) (fun _ _ _ _ _ => (me_frz (me_call takesF ih__law_same hr T.gl__law_same T.fn__law_same.kp T.bn__law_same (by rfl) (ma_cons (me_var 2) (ma_cons (me_var 3) ma_nil)) (aCons_len (aCons_len aNil_len)))))) ma_nil)))))))
theorem ok__law_same (T : Txt K mg) : ∀ n : Nat, FnOk P w K mg base (L2.CX P w) (n + 0) T.ad__law_same T.fd__law_same ["_law_one", "_law_other"] (SpM K mg 2 (F__law_same n))
  | 0 => okBad
  | n + 1 => (st__law_same T (ok__law_same T n)).mono (by omega)
abbrev N_law : List Str := ["_law_script", "_law_deck_here", "_law_k", "_law_kind", "_law_text", "_law_found", "_law_told"]
theorem sc_law : FnScope N_law ["_law_script"] (defScope (top 21)) := ⟨rfl, rfl, rfl, by decide +kernel, rfl, by decide +kernel, by decide +kernel⟩
theorem ok_law (T : Txt K mg) : FnOk P w K mg base (L2.CX P w) (43) T.ad_law T.fd_law ["_law_script"] (SpM K mg 1 F_law) :=
  okF T.fn_law sc_law fun cdv A outer s H E hr =>
    (mb_cons (ms_set 1 sc_law.nd (me_obj (me_call (takes_of rfl rfl rfl rfl) (ok__law_deck T) (hr.mono (by decide)) T.gl__law_deck T.fn__law_deck.kp T.bn__law_deck (by rfl) (ma_cons (me_var 0) ma_nil) (aCons_len aNil_len))))
    (mb_cons (ms_for (passes_of rfl) rfl (mi_range1 (by rfl) T.z_range (ma_cons me_int ma_nil)) (mg_name 2 sc_law.nd) (mb_cons (ms_set 3 sc_law.nd (me_frz (me_call (takes_of rfl rfl rfl rfl) (ok__law_grown_kind T) (hr.mono (by decide)) T.gl__law_grown_kind T.fn__law_grown_kind.kp T.bn__law_grown_kind (by rfl) (ma_cons (me_obj (me_var 1)) (ma_cons (me_op op_addA addW_ok me_int (me_op op_mod modW_ok (me_call (takes_of rfl rfl rfl rfl) (ok__law_next T) (hr.mono (by decide)) T.gl__law_next T.fn__law_next.kp T.bn__law_next (by rfl) (ma_cons (me_obj (me_var 1)) ma_nil) (aCons_len aNil_len)) me_int)) ma_nil)) (aCons_len (aCons_len aNil_len)))))
    (mb_cons (ms_set 4 sc_law.nd (me_frz (me_call (takes_of rfl rfl rfl rfl) (ok__law_kind_text T 40) (hr.mono (by decide)) T.gl__law_kind_text T.fn__law_kind_text.kp T.bn__law_kind_text (by rfl) (ma_cons (me_var 3) ma_nil) (aCons_len aNil_len))))
    (mb_cons (ms_set 5 sc_law.nd (me_frz (me_call (takes_of rfl rfl rfl rfl) (ok_show_kind T 40) (hr.mono (by decide)) T.gl_show_kind T.fn_show_kind.kp T.bn_show_kind (by rfl) (ma_cons (me_var 3) ma_nil) (aCons_len aNil_len))))
    (mb_cons (ms_if (MP.mt (mp_or (mt_not (mt_tru (me_isi .str (by rfl) T.z_isinstance (by rfl) T.z_str (me_var 5)))) (mp_or1 (mt_cmp (op_neD hr.units) neW_ok (me_var 5) (me_var 4))))) (mb_one (ms_ret me_bl)) mb_nil)
    (mb_cons (ms_set 6 sc_law.nd (me_frz (me_call (takes_of rfl rfl rfl rfl) (ok_read_kind T) (hr.mono (by decide)) T.gl_read_kind T.fn_read_kind.kp T.bn_read_kind (by rfl) (ma_cons (me_var 4) ma_nil) (aCons_len aNil_len))))
    (mb_one (ms_if (MP.mt (mp_or (mt_not (mt_tru (me_call (takes_of rfl rfl rfl rfl) (ok__law_same T 40) (hr.mono (by decide)) T.gl__law_same T.fn__law_same.kp T.bn__law_same (by rfl) (ma_cons (me_var 3) (ma_cons (me_var 6) ma_nil)) (aCons_len (aCons_len aNil_len))))) (mp_or1 (mt_cmp (op_neD hr.units) neW_ok (me_call (takes_of rfl rfl rfl rfl) (ok_show_kind T 40) (hr.mono (by decide)) T.gl_show_kind T.fn_show_kind.kp T.bn_show_kind (by rfl) (ma_cons (me_var 6) ma_nil) (aCons_len aNil_len)) (me_var 4))))) (mb_one (ms_ret me_bl)) mb_nil))))))))
    (mb_one (ms_ret me_bl))))
end

theorem all_mk {l : PySem.W.OpenLaw} {w : World} {K : PySem.W.Frag} {h : Heap} {mg : Str → Option Value} {fa : Addr} (X : K.In h) (G : h.Ns mainGlobals mg) (hfa : mg "law" = some (.ref fa))
    {f1 : Addr} {od1 an1 : Option Addr} {sl1 : Array (Option Value)} {oc1 kV1 dc1 pm1 cd1 ct1 : Value}
    {f2 : Addr} {od2 an2 : Option Addr} {sl2 : Array (Option Value)} {oc2 kV2 dc2 pm2 cd2 ct2 : Value}
    {f3 : Addr} {od3 an3 : Option Addr} {sl3 : Array (Option Value)} {oc3 kV3 dc3 pm3 cd3 ct3 : Value}
    {f4 : Addr} {od4 an4 : Option Addr} {sl4 : Array (Option Value)} {oc4 kV4 dc4 pm4 cd4 ct4 : Value}
    {f5 : Addr} {od5 an5 : Option Addr} {sl5 : Array (Option Value)} {oc5 kV5 dc5 pm5 cd5 ct5 : Value}
    {f6 : Addr} {od6 an6 : Option Addr} {sl6 : Array (Option Value)} {oc6 kV6 dc6 pm6 cd6 ct6 : Value}
    {f7 : Addr} {od7 an7 : Option Addr} {sl7 : Array (Option Value)} {oc7 kV7 dc7 pm7 cd7 ct7 : Value}
    {f8 : Addr} {od8 an8 : Option Addr} {sl8 : Array (Option Value)} {oc8 kV8 dc8 pm8 cd8 ct8 : Value}
    {f9 : Addr} {od9 an9 : Option Addr} {sl9 : Array (Option Value)} {oc9 kV9 dc9 pm9 cd9 ct9 : Value}
    {f10 : Addr} {od10 an10 : Option Addr} {sl10 : Array (Option Value)} {oc10 kV10 dc10 pm10 cd10 ct10 : Value}
    {f11 : Addr} {od11 an11 : Option Addr} {sl11 : Array (Option Value)} {oc11 kV11 dc11 pm11 cd11 ct11 : Value}
    {f12 : Addr} {od12 an12 : Option Addr} {sl12 : Array (Option Value)} {oc12 kV12 dc12 pm12 cd12 ct12 : Value}
    {f13 : Addr} {od13 an13 : Option Addr} {sl13 : Array (Option Value)} {oc13 kV13 dc13 pm13 cd13 ct13 : Value}
    {f14 : Addr} {od14 an14 : Option Addr} {sl14 : Array (Option Value)} {oc14 kV14 dc14 pm14 cd14 ct14 : Value}
    {qt_LETTERS : Tok}
    {qt_LONGEST : Tok}
    {qt_MOST_BASICS : Tok}
    (a1 : PySem.W.nsIn K mainGlobals "word_end" = some (some (.ref f1))) (l1 : K.lookup f1 = some ⟨oc1, od1, .func (PySem.W.fnOf "word_end" "word_end" (defArgs (top 7)) (defBody (top 7)) (defScope (top 7)) .none kV1 dc1 pm1 an1 cd1 ct1), sl1⟩) (c1 : PySem.W.codeIn K cd1 "word_end" = true) (k1 : PySem.W.keepIn K (.ref f1) = true)
    (a2 : PySem.W.nsIn K mainGlobals "kind_at" = some (some (.ref f2))) (l2 : K.lookup f2 = some ⟨oc2, od2, .func (PySem.W.fnOf "kind_at" "kind_at" (defArgs (top 8)) (defBody (top 8)) (defScope (top 8)) .none kV2 dc2 pm2 an2 cd2 ct2), sl2⟩) (c2 : PySem.W.codeIn K cd2 "kind_at" = true) (k2 : PySem.W.keepIn K (.ref f2) = true)
    (a3 : PySem.W.nsIn K mainGlobals "basics_in" = some (some (.ref f3))) (l3 : K.lookup f3 = some ⟨oc3, od3, .func (PySem.W.fnOf "basics_in" "basics_in" (defArgs (top 9)) (defBody (top 9)) (defScope (top 9)) .none kV3 dc3 pm3 an3 cd3 ct3), sl3⟩) (c3 : PySem.W.codeIn K cd3 "basics_in" = true) (k3 : PySem.W.keepIn K (.ref f3) = true)
    (a4 : PySem.W.nsIn K mainGlobals "read_kind" = some (some (.ref f4))) (l4 : K.lookup f4 = some ⟨oc4, od4, .func (PySem.W.fnOf "read_kind" "read_kind" (defArgs (top 10)) (defBody (top 10)) (defScope (top 10)) .none kV4 dc4 pm4 an4 cd4 ct4), sl4⟩) (c4 : PySem.W.codeIn K cd4 "read_kind" = true) (k4 : PySem.W.keepIn K (.ref f4) = true)
    (a5 : PySem.W.nsIn K mainGlobals "show_kind" = some (some (.ref f5))) (l5 : K.lookup f5 = some ⟨oc5, od5, .func (PySem.W.fnOf "show_kind" "show_kind" (defArgs (top 11)) (defBody (top 11)) (defScope (top 11)) .none kV5 dc5 pm5 an5 cd5 ct5), sl5⟩) (c5 : PySem.W.codeIn K cd5 "show_kind" = true) (k5 : PySem.W.keepIn K (.ref f5) = true)
    (a6 : PySem.W.nsIn K mainGlobals "_law_deck" = some (some (.ref f6))) (l6 : K.lookup f6 = some ⟨oc6, od6, .func (PySem.W.fnOf "_law_deck" "_law_deck" (defArgs (top 13)) (defBody (top 13)) (defScope (top 13)) .none kV6 dc6 pm6 an6 cd6 ct6), sl6⟩) (c6 : PySem.W.codeIn K cd6 "_law_deck" = true) (k6 : PySem.W.keepIn K (.ref f6) = true)
    (a7 : PySem.W.nsIn K mainGlobals "_law_next" = some (some (.ref f7))) (l7 : K.lookup f7 = some ⟨oc7, od7, .func (PySem.W.fnOf "_law_next" "_law_next" (defArgs (top 14)) (defBody (top 14)) (defScope (top 14)) .none kV7 dc7 pm7 an7 cd7 ct7), sl7⟩) (c7 : PySem.W.codeIn K cd7 "_law_next" = true) (k7 : PySem.W.keepIn K (.ref f7) = true)
    (a8 : PySem.W.nsIn K mainGlobals "_law_spelled" = some (some (.ref f8))) (l8 : K.lookup f8 = some ⟨oc8, od8, .func (PySem.W.fnOf "_law_spelled" "_law_spelled" (defArgs (top 15)) (defBody (top 15)) (defScope (top 15)) .none kV8 dc8 pm8 an8 cd8 ct8), sl8⟩) (c8 : PySem.W.codeIn K cd8 "_law_spelled" = true) (k8 : PySem.W.keepIn K (.ref f8) = true)
    (a9 : PySem.W.nsIn K mainGlobals "_law_word" = some (some (.ref f9))) (l9 : K.lookup f9 = some ⟨oc9, od9, .func (PySem.W.fnOf "_law_word" "_law_word" (defArgs (top 16)) (defBody (top 16)) (defScope (top 16)) .none kV9 dc9 pm9 an9 cd9 ct9), sl9⟩) (c9 : PySem.W.codeIn K cd9 "_law_word" = true) (k9 : PySem.W.keepIn K (.ref f9) = true)
    (a10 : PySem.W.nsIn K mainGlobals "_law_words" = some (some (.ref f10))) (l10 : K.lookup f10 = some ⟨oc10, od10, .func (PySem.W.fnOf "_law_words" "_law_words" (defArgs (top 17)) (defBody (top 17)) (defScope (top 17)) .none kV10 dc10 pm10 an10 cd10 ct10), sl10⟩) (c10 : PySem.W.codeIn K cd10 "_law_words" = true) (k10 : PySem.W.keepIn K (.ref f10) = true)
    (a11 : PySem.W.nsIn K mainGlobals "_law_grown_kind" = some (some (.ref f11))) (l11 : K.lookup f11 = some ⟨oc11, od11, .func (PySem.W.fnOf "_law_grown_kind" "_law_grown_kind" (defArgs (top 18)) (defBody (top 18)) (defScope (top 18)) .none kV11 dc11 pm11 an11 cd11 ct11), sl11⟩) (c11 : PySem.W.codeIn K cd11 "_law_grown_kind" = true) (k11 : PySem.W.keepIn K (.ref f11) = true)
    (a12 : PySem.W.nsIn K mainGlobals "_law_kind_text" = some (some (.ref f12))) (l12 : K.lookup f12 = some ⟨oc12, od12, .func (PySem.W.fnOf "_law_kind_text" "_law_kind_text" (defArgs (top 19)) (defBody (top 19)) (defScope (top 19)) .none kV12 dc12 pm12 an12 cd12 ct12), sl12⟩) (c12 : PySem.W.codeIn K cd12 "_law_kind_text" = true) (k12 : PySem.W.keepIn K (.ref f12) = true)
    (a13 : PySem.W.nsIn K mainGlobals "_law_same" = some (some (.ref f13))) (l13 : K.lookup f13 = some ⟨oc13, od13, .func (PySem.W.fnOf "_law_same" "_law_same" (defArgs (top 20)) (defBody (top 20)) (defScope (top 20)) .none kV13 dc13 pm13 an13 cd13 ct13), sl13⟩) (c13 : PySem.W.codeIn K cd13 "_law_same" = true) (k13 : PySem.W.keepIn K (.ref f13) = true)
    (a14 : PySem.W.nsIn K mainGlobals "law" = some (some (.ref f14))) (l14 : K.lookup f14 = some ⟨oc14, od14, .func (PySem.W.fnOf "law" "law" (defArgs (top 21)) (defBody (top 21)) (defScope (top 21)) .none kV14 dc14 pm14 an14 cd14 ct14), sl14⟩) (c14 : PySem.W.codeIn K cd14 "law" = true) (k14 : PySem.W.keepIn K (.ref f14) = true)
    (z_all : PySem.W.nsIn K mainGlobals "all" = some none)
    (z_bool : PySem.W.nsIn K mainGlobals "bool" = some none)
    (z_int : PySem.W.nsIn K mainGlobals "int" = some none)
    (z_isinstance : PySem.W.nsIn K mainGlobals "isinstance" = some none)
    (z_len : PySem.W.nsIn K mainGlobals "len" = some none)
    (z_range : PySem.W.nsIn K mainGlobals "range" = some none)
    (z_str : PySem.W.nsIn K mainGlobals "str" = some none)
    (z_sum : PySem.W.nsIn K mainGlobals "sum" = some none)
    (z_tuple : PySem.W.nsIn K mainGlobals "tuple" = some none)
    (z_zip : PySem.W.nsIn K mainGlobals "zip" = some none)
    (q_LETTERS_a : PySem.W.nsIn K mainGlobals "LETTERS" = some (some (.str (Str.ofString "abcdefghijklmnopqrstuvwxyz") qt_LETTERS)))
    (q_LONGEST_a : PySem.W.nsIn K mainGlobals "LONGEST" = some (some (.int 8 qt_LONGEST)))
    (q_MOST_BASICS_a : PySem.W.nsIn K mainGlobals "MOST_BASICS" = some (some (.int 12 qt_MOST_BASICS))) :
    ∃ fd : FuncData, (∀ (s : Shared) (v : Value), BindsTo s fd ⟨[v], []⟩ [("_law_script", v)]) ∧ ∀ base : Heap, K.In base → base.Ns mainGlobals mg → FnOk l.prog w K mg base (L2.CX l.prog w) 43 fa fd ["_law_script"] (spLaw K) := by
  have e := hfa.symm.trans (PySem.W.mg_of X G a14)
  cases e
  let T : Txt K mg := {
    ad_word_end := f1, fd_word_end := PySem.W.fnOf "word_end" "word_end" (defArgs (top 7)) (defBody (top 7)) (defScope (top 7)) .none kV1 dc1 pm1 an1 cd1 ct1, fn_word_end := fun_mk (st := top 7) l1 c1 k1, bn_word_end := (fun_mk (st := top 7) l1 c1 k1).binds (ps := ["text", "at"]) fun _ _ _ _ _ _ us hl => (match us, hl with | [_, _], _ => rfl), gl_word_end := PySem.W.mg_of X G a1,
    ad_kind_at := f2, fd_kind_at := PySem.W.fnOf "kind_at" "kind_at" (defArgs (top 8)) (defBody (top 8)) (defScope (top 8)) .none kV2 dc2 pm2 an2 cd2 ct2, fn_kind_at := fun_mk (st := top 8) l2 c2 k2, bn_kind_at := (fun_mk (st := top 8) l2 c2 k2).binds (ps := ["text", "at", "open_ones"]) fun _ _ _ _ _ _ us hl => (match us, hl with | [_, _, _], _ => rfl), gl_kind_at := PySem.W.mg_of X G a2,
    ad_basics_in := f3, fd_basics_in := PySem.W.fnOf "basics_in" "basics_in" (defArgs (top 9)) (defBody (top 9)) (defScope (top 9)) .none kV3 dc3 pm3 an3 cd3 ct3, fn_basics_in := fun_mk (st := top 9) l3 c3 k3, bn_basics_in := (fun_mk (st := top 9) l3 c3 k3).binds (ps := ["kind"]) fun _ _ _ _ _ _ us hl => (match us, hl with | [_], _ => rfl), gl_basics_in := PySem.W.mg_of X G a3,
    ad_read_kind := f4, fd_read_kind := PySem.W.fnOf "read_kind" "read_kind" (defArgs (top 10)) (defBody (top 10)) (defScope (top 10)) .none kV4 dc4 pm4 an4 cd4 ct4, fn_read_kind := fun_mk (st := top 10) l4 c4 k4, bn_read_kind := (fun_mk (st := top 10) l4 c4 k4).binds (ps := ["text"]) fun _ _ _ _ _ _ us hl => (match us, hl with | [_], _ => rfl), gl_read_kind := PySem.W.mg_of X G a4,
    ad_show_kind := f5, fd_show_kind := PySem.W.fnOf "show_kind" "show_kind" (defArgs (top 11)) (defBody (top 11)) (defScope (top 11)) .none kV5 dc5 pm5 an5 cd5 ct5, fn_show_kind := fun_mk (st := top 11) l5 c5 k5, bn_show_kind := (fun_mk (st := top 11) l5 c5 k5).binds (ps := ["kind"]) fun _ _ _ _ _ _ us hl => (match us, hl with | [_], _ => rfl), gl_show_kind := PySem.W.mg_of X G a5,
    ad__law_deck := f6, fd__law_deck := PySem.W.fnOf "_law_deck" "_law_deck" (defArgs (top 13)) (defBody (top 13)) (defScope (top 13)) .none kV6 dc6 pm6 an6 cd6 ct6, fn__law_deck := fun_mk (st := top 13) l6 c6 k6, bn__law_deck := (fun_mk (st := top 13) l6 c6 k6).binds (ps := ["_law_script"]) fun _ _ _ _ _ _ us hl => (match us, hl with | [_], _ => rfl), gl__law_deck := PySem.W.mg_of X G a6,
    ad__law_next := f7, fd__law_next := PySem.W.fnOf "_law_next" "_law_next" (defArgs (top 14)) (defBody (top 14)) (defScope (top 14)) .none kV7 dc7 pm7 an7 cd7 ct7, fn__law_next := fun_mk (st := top 14) l7 c7 k7, bn__law_next := (fun_mk (st := top 14) l7 c7 k7).binds (ps := ["_law_deck_here"]) fun _ _ _ _ _ _ us hl => (match us, hl with | [_], _ => rfl), gl__law_next := PySem.W.mg_of X G a7,
    ad__law_spelled := f8, fd__law_spelled := PySem.W.fnOf "_law_spelled" "_law_spelled" (defArgs (top 15)) (defBody (top 15)) (defScope (top 15)) .none kV8 dc8 pm8 an8 cd8 ct8, fn__law_spelled := fun_mk (st := top 15) l8 c8 k8, bn__law_spelled := (fun_mk (st := top 15) l8 c8 k8).binds (ps := ["_law_number", "_law_size"]) fun _ _ _ _ _ _ us hl => (match us, hl with | [_, _], _ => rfl), gl__law_spelled := PySem.W.mg_of X G a8,
    ad__law_word := f9, fd__law_word := PySem.W.fnOf "_law_word" "_law_word" (defArgs (top 16)) (defBody (top 16)) (defScope (top 16)) .none kV9 dc9 pm9 an9 cd9 ct9, fn__law_word := fun_mk (st := top 16) l9 c9 k9, bn__law_word := (fun_mk (st := top 16) l9 c9 k9).binds (ps := ["_law_deck_here", "_law_words_here"]) fun _ _ _ _ _ _ us hl => (match us, hl with | [_, _], _ => rfl), gl__law_word := PySem.W.mg_of X G a9,
    ad__law_words := f10, fd__law_words := PySem.W.fnOf "_law_words" "_law_words" (defArgs (top 17)) (defBody (top 17)) (defScope (top 17)) .none kV10 dc10 pm10 an10 cd10 ct10, fn__law_words := fun_mk (st := top 17) l10 c10 k10, bn__law_words := (fun_mk (st := top 17) l10 c10 k10).binds (ps := ["_law_deck_here", "_law_many"]) fun _ _ _ _ _ _ us hl => (match us, hl with | [_, _], _ => rfl), gl__law_words := PySem.W.mg_of X G a10,
    ad__law_grown_kind := f11, fd__law_grown_kind := PySem.W.fnOf "_law_grown_kind" "_law_grown_kind" (defArgs (top 18)) (defBody (top 18)) (defScope (top 18)) .none kV11 dc11 pm11 an11 cd11 ct11, fn__law_grown_kind := fun_mk (st := top 18) l11 c11 k11, bn__law_grown_kind := (fun_mk (st := top 18) l11 c11 k11).binds (ps := ["_law_deck_here", "_law_many"]) fun _ _ _ _ _ _ us hl => (match us, hl with | [_, _], _ => rfl), gl__law_grown_kind := PySem.W.mg_of X G a11,
    ad__law_kind_text := f12, fd__law_kind_text := PySem.W.fnOf "_law_kind_text" "_law_kind_text" (defArgs (top 19)) (defBody (top 19)) (defScope (top 19)) .none kV12 dc12 pm12 an12 cd12 ct12, fn__law_kind_text := fun_mk (st := top 19) l12 c12 k12, bn__law_kind_text := (fun_mk (st := top 19) l12 c12 k12).binds (ps := ["_law_kind"]) fun _ _ _ _ _ _ us hl => (match us, hl with | [_], _ => rfl), gl__law_kind_text := PySem.W.mg_of X G a12,
    ad__law_same := f13, fd__law_same := PySem.W.fnOf "_law_same" "_law_same" (defArgs (top 20)) (defBody (top 20)) (defScope (top 20)) .none kV13 dc13 pm13 an13 cd13 ct13, fn__law_same := fun_mk (st := top 20) l13 c13 k13, bn__law_same := (fun_mk (st := top 20) l13 c13 k13).binds (ps := ["_law_one", "_law_other"]) fun _ _ _ _ _ _ us hl => (match us, hl with | [_, _], _ => rfl), gl__law_same := PySem.W.mg_of X G a13,
    ad_law := _, fd_law := PySem.W.fnOf "law" "law" (defArgs (top 21)) (defBody (top 21)) (defScope (top 21)) .none kV14 dc14 pm14 an14 cd14 ct14, fn_law := fun_mk (st := top 21) l14 c14 k14, bn_law := (fun_mk (st := top 21) l14 c14 k14).binds (ps := ["_law_script"]) fun _ _ _ _ _ _ us hl => (match us, hl with | [_], _ => rfl), gl_law := PySem.W.mg_of X G a14,
    z_all := PySem.W.mg_none_of X G z_all,
    z_bool := PySem.W.mg_none_of X G z_bool,
    z_int := PySem.W.mg_none_of X G z_int,
    z_isinstance := PySem.W.mg_none_of X G z_isinstance,
    z_len := PySem.W.mg_none_of X G z_len,
    z_range := PySem.W.mg_none_of X G z_range,
    z_str := PySem.W.mg_none_of X G z_str,
    z_sum := PySem.W.mg_none_of X G z_sum,
    z_tuple := PySem.W.mg_none_of X G z_tuple,
    z_zip := PySem.W.mg_none_of X G z_zip,
    k_LETTERS := ⟨_, .str (Str.ofString "abcdefghijklmnopqrstuvwxyz"), PySem.W.mg_of X G q_LETTERS_a, ⟨_, rfl⟩, fun _ _ => .str _⟩,
    k_LONGEST := ⟨_, .int 8, PySem.W.mg_of X G q_LONGEST_a, ⟨_, rfl⟩, fun _ _ => .int _⟩,
    k_MOST_BASICS := ⟨_, .int 12, PySem.W.mg_of X G q_MOST_BASICS_a, ⟨_, rfl⟩, fun _ _ => .int _⟩ }
  exact ⟨PySem.W.fnOf "law" "law" (defArgs (top 21)) (defBody (top 21)) (defScope (top 21)) .none kV14 dc14 pm14 an14 cd14 ct14, fun s v => .of_eq rfl, fun base _ _ => law_imp (ok_law T) law_true⟩
end K10
open PySem PySem.W PyProof.Rows
set_option maxRecDepth 100000 in
set_option maxHeartbeats 0 in
theorem PySem.Challenge.cw_slashwise_k10_kinds_written_holds : PySem.Challenge.rw_slashwise_k10_kinds_written.Holds := by
  w_on; o_law; k_head; (case hw => w_witness2)
  k_fill
  refine L2.walk_of (l := PySem.Challenge.rw_slashwise_k10_kinds_written) (n := 63) (k := 43) (x := "_law_script") (CX := fun w => L2.CX PySem.Challenge.rw_slashwise_k10_kinds_written.prog w) (sp := fun w => M.spLaw _) rfl (by decide) rfl ⟨rfl, by decide, by decide⟩ (fun w h Y => PySem.W.kIn_of Y) ?F (fun _ _ a ns hl _ hS => ⟨a, ns, rfl, hS, hl, fun _ => rfl⟩) (fun _ _ _ _ _ h => M.cx_no h)
  case F =>
    intro w mg fa h KX G hmg
    refine' K10.all_mk KX G hmg ?a1 ?l1 ?c1 ?k1 ?a2 ?l2 ?c2 ?k2 ?a3 ?l3 ?c3 ?k3 ?a4 ?l4 ?c4 ?k4 ?a5 ?l5 ?c5 ?k5 ?a6 ?l6 ?c6 ?k6 ?a7 ?l7 ?c7 ?k7 ?a8 ?l8 ?c8 ?k8 ?a9 ?l9 ?c9 ?k9 ?a10 ?l10 ?c10 ?k10 ?a11 ?l11 ?c11 ?k11 ?a12 ?l12 ?c12 ?k12 ?a13 ?l13 ?c13 ?k13 ?a14 ?l14 ?c14 ?k14 ?z_all ?z_bool ?z_int ?z_isinstance ?z_len ?z_range ?z_str ?z_sum ?z_tuple ?z_zip ?q_LETTERS_a ?q_LONGEST_a ?q_MOST_BASICS_a
    (case a1 => k_is)
    (case l1 => k_is)
    (case c1 => k_is)
    (case k1 => k_is)
    (case a2 => k_is)
    (case l2 => k_is)
    (case c2 => k_is)
    (case k2 => k_is)
    (case a3 => k_is)
    (case l3 => k_is)
    (case c3 => k_is)
    (case k3 => k_is)
    (case a4 => k_is)
    (case l4 => k_is)
    (case c4 => k_is)
    (case k4 => k_is)
    (case a5 => k_is)
    (case l5 => k_is)
    (case c5 => k_is)
    (case k5 => k_is)
    (case a6 => k_is)
    (case l6 => k_is)
    (case c6 => k_is)
    (case k6 => k_is)
    (case a7 => k_is)
    (case l7 => k_is)
    (case c7 => k_is)
    (case k7 => k_is)
    (case a8 => k_is)
    (case l8 => k_is)
    (case c8 => k_is)
    (case k8 => k_is)
    (case a9 => k_is)
    (case l9 => k_is)
    (case c9 => k_is)
    (case k9 => k_is)
    (case a10 => k_is)
    (case l10 => k_is)
    (case c10 => k_is)
    (case k10 => k_is)
    (case a11 => k_is)
    (case l11 => k_is)
    (case c11 => k_is)
    (case k11 => k_is)
    (case a12 => k_is)
    (case l12 => k_is)
    (case c12 => k_is)
    (case k12 => k_is)
    (case a13 => k_is)
    (case l13 => k_is)
    (case c13 => k_is)
    (case k13 => k_is)
    (case a14 => k_is)
    (case l14 => k_is)
    (case c14 => k_is)
    (case k14 => k_is)
    (case z_all => k_is)
    (case z_bool => k_is)
    (case z_int => k_is)
    (case z_isinstance => k_is)
    (case z_len => k_is)
    (case z_range => k_is)
    (case z_str => k_is)
    (case z_sum => k_is)
    (case z_tuple => k_is)
    (case z_zip => k_is)
    (case q_LETTERS_a => k_is)
    (case q_LONGEST_a => k_is)
    (case q_MOST_BASICS_a => k_is)

