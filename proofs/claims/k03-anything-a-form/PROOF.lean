import PyProof.Rows.All
import Wide.All
import OpenK.AllK
import Wide.FinOn
import HandS.ForMost
import HandS.ForExc
import HandS.CallSlots
import HandS.IsInst
import HandS.Wide
import HandS.Deep
import HandS.TupAny
import HandS.Conv
import HandS.Replace
import HandS.Zip
import HandS.Style
import PySem.Challenge.RW_slashwise_k03_anything_a_form
set_option Elab.async false
set_option linter.all false
set_option maxRecDepth 100000
/-! M: defs as functions over plain data. D: data; W: a value (data, a mutable object by its number, a fresh list); O: a mutable object -/
namespace M
open PySem L2

abbrev D := PyData
inductive W where
  | d (x : D)
  | obj (i : Nat)
  | fl (xs : List D)
  | ro (xs : List D)
inductive O where
  | lst (xs : List D)
  | fz (xs : List D)
  | dct (kvs : List (Str × W))
abbrev Mem := List O
abbrev Env := List (Option W)
structure Exn where
  cls : Str
  fs : List (Str × D)
inductive Res (α : Type) where
  | ok (a : α) (m : Mem)
  | err (e : Exn) (m : Mem)
  | bad
def Res.bind {α β : Type} (r : Res α) (k : α → Mem → Res β) : Res β :=
  match r with
  | .ok a m => k a m
  | .err e m => .err e m
  | .bad => .bad
@[simp] theorem Res.bind_ok {α β : Type} (a : α) (m : Mem) (k : α → Mem → Res β) : (Res.ok a m).bind k = k a m := rfl
@[simp] theorem Res.bind_err {α β : Type} (e : Exn) (m : Mem) (k : α → Mem → Res β) : (Res.err e m : Res α).bind k = .err e m := rfl
@[simp] theorem Res.bind_bad {α β : Type} (k : α → Mem → Res β) : (Res.bad : Res α).bind k = .bad := rfl

/-! ### data on the heap -/
def KL (K : PySem.W.Frag) (a : Addr) (xs : List V) : Prop :=
  ∃ (o : Obj) (its : Array Value) (n : Nat), K.lookup a = some o ∧ o.cls = .type "list" ∧ o.dict = none ∧ o.data = .seq its n ∧ its.size ≤ sizeLine ∧ Vals xs its.toList
def KT (K : PySem.W.Frag) (a : Addr) (xs : List V) : Prop :=
  ∃ (o : Obj) (its : Array Value) (n : Nat), K.lookup a = some o ∧ o.cls = .type "tuple" ∧ o.data = .seq its n ∧ its.size ≤ sizeLine ∧ Vals xs its.toList
def LsI (K : PySem.W.Frag) (lv : List Addr) (H : Hp) (a : Addr) (xs : List V) : Prop := (a ∉ lv ∧ Rd H a (.lst xs)) ∨ KL K a xs
def LsT (lv : List Addr) (H : Hp) (a : Addr) (xs : List V) : Prop := a ∉ lv ∧ H a = some (.lst xs)
def TpI (K : PySem.W.Frag) (lv : List Addr) (H : Hp) (a : Addr) (xs : List V) : Prop := (a ∉ lv ∧ H a = some (.tup xs)) ∨ KT K a xs
mutual
inductive Rep (K : PySem.W.Frag) (lv : List Addr) (H : Hp) : V → D → Prop
  | non : Rep K lv H .non .none
  | bl (b : Bool) : Rep K lv H (.bl b) (.bool b)
  | int (i : Int) : Rep K lv H (.int i) (.int i)
  | str (x : Str) : Rep K lv H (.str x) (.str x)
  | lst {a : Addr} {xs : List V} {ds : List D} : LsT lv H a xs → Reps K lv H xs ds → Rep K lv H (.ref a) (.list ds)
  | tup {a : Addr} {xs : List V} {ds : List D} : TpI K lv H a xs → Reps K lv H xs ds → Rep K lv H (.ref a) (.tuple ds)
inductive Reps (K : PySem.W.Frag) (lv : List Addr) (H : Hp) : List V → List D → Prop
  | nil : Reps K lv H [] []
  | cons {v : V} {vs : List V} {d : D} {ds : List D} : Rep K lv H v d → Reps K lv H vs ds → Reps K lv H (v :: vs) (d :: ds)
end
/-- what was held is held -/
structure Mo (lv : List Addr) (H : Hp) (lv' : List Addr) (H' : Hp) : Prop where
  keep : ∀ a o, H a = some o → a ∉ lv → H' a = some o
  out : ∀ a o, H a = some o → a ∉ lv → a ∉ lv'
section
variable {K : PySem.W.Frag} {lv lv' : List Addr} {H H' : Hp}
theorem LsI.mono {a : Addr} {xs : List V} (h : LsI K lv H a xs) (m : Mo lv H lv' H') : LsI K lv' H' a xs := by
  rcases h with ⟨n, h | ⟨o, h⟩⟩ | h
  · exact .inl ⟨m.out _ _ h n, .inl (m.keep _ _ h n)⟩
  · exact .inl ⟨m.out _ _ h n, .inr ⟨o, m.keep _ _ h n⟩⟩
  · exact .inr h
theorem LsT.mono {a : Addr} {xs : List V} (h : LsT lv H a xs) (m : Mo lv H lv' H') : LsT lv' H' a xs := ⟨m.out _ _ h.2 h.1, m.keep _ _ h.2 h.1⟩
theorem LsT.sq {a : Addr} {xs : List V} (h : LsT lv H a xs) : SqL K H a xs := .inl (.inl h.2)
theorem TpI.mono {a : Addr} {xs : List V} (h : TpI K lv H a xs) (m : Mo lv H lv' H') : TpI K lv' H' a xs := by
  rcases h with ⟨n, h⟩ | h
  · exact .inl ⟨m.out _ _ h n, m.keep _ _ h n⟩
  · exact .inr h
theorem LsI.sq {a : Addr} {xs : List V} (h : LsI K lv H a xs) : SqL K H a xs := by
  rcases h with ⟨_, h⟩ | h
  · exact .inl h
  · exact .inr h
theorem TpI.sq {a : Addr} {xs : List V} (h : TpI K lv H a xs) : SqT K H a xs := by
  rcases h with ⟨_, h⟩ | h
  · exact .inl (.inl h)
  · exact .inr h
mutual
theorem Rep.mono (m : Mo lv H lv' H') : ∀ {v : V} {d : D}, Rep K lv H v d → Rep K lv' H' v d
  | _, _, .non => .non
  | _, _, .bl b => .bl b
  | _, _, .int i => .int i
  | _, _, .str x => .str x
  | _, _, .lst h r => .lst (h.mono m) (Reps.mono m r)
  | _, _, .tup h r => .tup (h.mono m) (Reps.mono m r)
theorem Reps.mono (m : Mo lv H lv' H') : ∀ {vs : List V} {ds : List D}, Reps K lv H vs ds → Reps K lv' H' vs ds
  | _, _, .nil => .nil
  | _, _, .cons h r => .cons (Rep.mono m h) (Reps.mono m r)
end
mutual
theorem Rep.dp : ∀ {v : V} {d : D}, Rep K lv H v d → Dp K H v d
  | _, _, .non => .non
  | _, _, .bl b => .bl b
  | _, _, .int i => .int i
  | _, _, .str x => .str x
  | _, _, .lst h r => .lst h.sq (Reps.dp r)
  | _, _, .tup h r => .tup h.sq (Reps.dp r)
theorem Reps.dp : ∀ {vs : List V} {ds : List D}, Reps K lv H vs ds → DpAll K H vs ds
  | _, _, .nil => .nil
  | _, _, .cons h r => .cons (Rep.dp h) (Reps.dp r)
end
theorem Reps.length : ∀ {vs : List V} {ds : List D}, Reps K lv H vs ds → vs.length = ds.length
  | _, _, .nil => rfl
  | _, _, .cons _ r => by rw [List.length_cons, List.length_cons, Reps.length r]
theorem Reps.append : ∀ {vs us : List V} {ds es : List D}, Reps K lv H vs ds → Reps K lv H us es → Reps K lv H (vs ++ us) (ds ++ es)
  | _, _, _, _, .nil, s => s
  | _, _, _, _, .cons h r, s => .cons h (Reps.append r s)
theorem Reps.get : ∀ {vs : List V} {ds : List D} {i : Nat} {d : D}, Reps K lv H vs ds → ds[i]? = some d → ∃ v, vs[i]? = some v ∧ Rep K lv H v d
  | _, _, _, _, .nil, e => by simp at e
  | _, _, 0, _, .cons h r, e => by simp at e; subst e; exact ⟨_, rfl, h⟩
  | _, _, i + 1, d, .cons h r, e => by
    obtain ⟨v, h1, h2⟩ := Reps.get (i := i) (d := d) r (by simpa using e)
    exact ⟨v, by simpa using h1, h2⟩
theorem Reps.get' : ∀ {vs : List V} {ds : List D} {i : Nat} {v : V}, Reps K lv H vs ds → vs[i]? = some v → ∃ d, ds[i]? = some d ∧ Rep K lv H v d
  | _, _, _, _, .nil, e => by simp at e
  | _, _, 0, _, .cons h r, e => by simp at e; subst e; exact ⟨_, rfl, h⟩
  | _, _, i + 1, d, .cons h r, e => by
    obtain ⟨v, h1, h2⟩ := Reps.get' (i := i) (v := d) r (by simpa using e)
    exact ⟨v, by simpa using h1, h2⟩
theorem Reps.take : ∀ {vs : List V} {ds : List D} (n : Nat), Reps K lv H vs ds → Reps K lv H (vs.take n) (ds.take n)
  | _, _, 0, _ => .nil
  | _, _, _ + 1, .nil => .nil
  | _, _, n + 1, .cons h r => .cons h (Reps.take n r)
theorem Reps.drop : ∀ {vs : List V} {ds : List D} (n : Nat), Reps K lv H vs ds → Reps K lv H (vs.drop n) (ds.drop n)
  | _, _, 0, r => r
  | _, _, _ + 1, .nil => .nil
  | _, _, n + 1, .cons h r => Reps.drop n r
theorem Reps.set {v : V} {d : D} (h : Rep K lv H v d) : ∀ {vs : List V} {ds : List D} (i : Nat), Reps K lv H vs ds → Reps K lv H (vs.set i v) (ds.set i d)
  | _, _, _, .nil => .nil
  | _, _, 0, .cons _ t => .cons h t
  | _, _, i + 1, .cons q t => .cons q (Reps.set h i t)
theorem Reps.eraseIdx : ∀ {vs : List V} {ds : List D} (i : Nat), Reps K lv H vs ds → Reps K lv H (vs.eraseIdx i) (ds.eraseIdx i)
  | _, _, _, .nil => .nil
  | _, _, 0, .cons _ t => t
  | _, _, i + 1, .cons q t => .cons q (Reps.eraseIdx i t)
theorem Reps.dropLast : ∀ {vs : List V} {ds : List D}, Reps K lv H vs ds → Reps K lv H vs.dropLast ds.dropLast := fun {vs ds} r => by
  rw [List.dropLast_eq_take, List.dropLast_eq_take, r.length]; exact r.take _
theorem Reps.reverse : ∀ {vs : List V} {ds : List D}, Reps K lv H vs ds → Reps K lv H vs.reverse ds.reverse
  | _, _, .nil => .nil
  | _, _, .cons h r => by rw [List.reverse_cons, List.reverse_cons]; exact (Reps.reverse r).append (.cons h .nil)
theorem Reps.one {v : V} {d : D} (h : Rep K lv H v d) : Reps K lv H [v] [d] := .cons h .nil
theorem Reps.ints : ∀ (ns : List Int), Reps K lv H (ns.map V.int) (ns.map PyData.int)
  | [] => .nil
  | n :: ns => .cons (.int n) (Reps.ints ns)
theorem Reps.vints : ∀ {vs : List V} {ns : List Int}, Reps K lv H vs (ns.map PyData.int) → vs = ns.map V.int
  | [], [], _ => rfl
  | v :: vs, n :: ns, .cons h r => by cases h; rw [Reps.vints r]; rfl
theorem Reps.vstrs : ∀ {vs : List V} {ns : List Str}, Reps K lv H vs (ns.map PyData.str) → vs = ns.map V.str
  | [], [], _ => rfl
  | v :: vs, n :: ns, .cons h r => by cases h; rw [Reps.vstrs r]; rfl
theorem Reps.vbls : ∀ {vs : List V} {ns : List Bool}, Reps K lv H vs (ns.map PyData.bool) → vs = ns.map V.bl
  | [], [], _ => rfl
  | v :: vs, n :: ns, .cons h r => by cases h; rw [Reps.vbls r]; rfl
end

/-! ### the world: the objects' places; those that no data holds (objects that may change, fresh lists); the heap -/
structure Wd where
  io : List Addr
  lv : List Addr
  H : Hp
def RepW (K : PySem.W.Frag) (G : Wd) (v : V) : W → Prop
  | .d x => Rep K G.lv G.H v x
  | .obj i => ∃ a, G.io[i]? = some a ∧ v = .ref a
  | .fl _ => False
  | .ro ds => ∃ a vs, v = .ref a ∧ LsI K G.lv G.H a vs ∧ Reps K G.lv G.H vs ds
def RepR (K : PySem.W.Frag) (H0 : Hp) (G : Wd) (v : V) : W → Prop
  | .d x => Rep K G.lv G.H v x
  | .obj i => ∃ a, G.io[i]? = some a ∧ v = .ref a
  | .fl ds => ∃ p vs, v = .ref p ∧ H0 p = none ∧ p ∉ G.io ∧ p ∈ G.lv ∧ G.H p = some (.lst vs) ∧ Reps K G.lv G.H vs ds
  | .ro ds => ∃ a vs, v = .ref a ∧ LsI K G.lv G.H a vs ∧ Reps K G.lv G.H vs ds
def ORep (K : PySem.W.Frag) (G : Wd) (a : Addr) : O → Prop
  | .lst ds => a ∈ G.lv ∧ ∃ vs, G.H a = some (.lst vs) ∧ Reps K G.lv G.H vs ds
  | .fz ds => a ∉ G.lv ∧ ∃ vs, G.H a = some (.lst vs) ∧ Reps K G.lv G.H vs ds
  | .dct kvs => a ∈ G.lv ∧ ∃ ks : List (Key × V), G.H a = some (.dK ks) ∧ Paired (fun (p : Key × V) (q : Str × W) => p.1 = Sum.inr q.1 ∧ RepW K G p.2 q.2) ks kvs
def okW (n : Nat) : W → Bool
  | .obj j => decide (j < n)
  | .fl _ => false
  | _ => true
def okO (n : Nat) : O → Bool
  | .dct kvs => kvs.all fun p => okW n p.2
  | _ => true
structure RelM (K : PySem.W.Frag) (G : Wd) (m : Mem) : Prop where
  dw : ∀ (i : Nat) (o : O), m[i]? = some o → okO i o = true
  len : G.io.length = m.length
  nd : G.io.Nodup
  lt : ∀ a ∈ G.lv, G.H a ≠ none
  it : ∀ a ∈ G.io, G.H a ≠ none
  ob : ∀ (i : Nat) (a : Addr) (o : O), G.io[i]? = some a → m[i]? = some o → ORep K G a o
structure Le (G G' : Wd) : Prop where
  lt : ∀ a ∈ G.lv, G.H a ≠ none
  io : ∃ κ : List Addr, G'.io = G.io ++ κ ∧ ∀ a ∈ κ, G.H a = none
  lv : ∀ a ∈ G'.lv, a ∈ G.lv ∨ G.H a = none
  stay : ∀ a ∈ G.lv, a ∉ G.io → a ∈ G'.lv
  keep : ∀ a o, G.H a = some o → ¬ (a ∈ G.io ∧ a ∈ G.lv) → G'.H a = some o
  tr : ∀ a, G'.H a = none → G.H a = none
theorem Le.refl {K : PySem.W.Frag} {G : Wd} {m : Mem} (R : RelM K G m) : Le G G := ⟨R.lt, ⟨[], by simp, fun _ h => nomatch h⟩, fun _ h => .inl h, fun _ h _ => h, fun _ _ h _ => h, fun _ h => h⟩
theorem Le.nio {G G' : Wd} (a : Le G G') {c : Addr} (h : G.H c ≠ none) (n : c ∉ G.io) : c ∉ G'.io := by
  obtain ⟨κ, e, nk⟩ := a.io
  rw [e]
  intro z
  rcases List.mem_append.mp z with z | z
  · exact n z
  · exact h (nk _ z)
theorem Le.nlv {G G' : Wd} (a : Le G G') {c : Addr} (h : G.H c ≠ none) (n : c ∉ G.lv) : c ∉ G'.lv := fun z => by
  rcases a.lv c z with z | z
  · exact n z
  · exact h z
theorem Le.trans {G G1 G2 : Wd} (a : Le G G1) (b : Le G1 G2) : Le G G2 := by
  obtain ⟨κ1, e1, n1⟩ := a.io
  obtain ⟨κ2, e2, n2⟩ := b.io
  refine ⟨a.lt, ⟨κ1 ++ κ2, by rw [e2, e1, List.append_assoc], fun c hc => ?_⟩, fun c hc => ?_, fun c hc n => b.stay c (a.stay c hc n) (a.nio (a.lt c hc) n), fun c o h n => ?_, fun c h => a.tr c (b.tr c h)⟩
  · rcases List.mem_append.mp hc with h | h
    · exact n1 c h
    · exact a.tr c (n2 c h)
  · rcases b.lv c hc with h | h
    · exact a.lv c h
    · exact .inr (a.tr c h)
  · have hn : G.H c ≠ none := by rw [h]; simp
    refine b.keep c o (a.keep c o h n) fun ⟨z1, z2⟩ => ?_
    by_cases z : c ∈ G.io
    · exact n ⟨z, Classical.byContradiction fun q => a.nlv hn q z2⟩
    · exact a.nio hn z z1
theorem Le.mo {G G' : Wd} (a : Le G G') : Mo G.lv G.H G'.lv G'.H := ⟨fun c o h n => a.keep c o h fun z => n z.2, fun c o h n => a.nlv (by rw [h]; simp) n⟩
theorem Le.iget {G G' : Wd} (a : Le G G') {i : Nat} {c : Addr} (h : G.io[i]? = some c) : G'.io[i]? = some c := by
  obtain ⟨κ, e, _⟩ := a.io
  rw [e, List.getElem?_append_left (List.getElem?_eq_some_iff.mp h).1]; exact h
section
variable {K : PySem.W.Frag} {G G' : Wd} {H0 H1 : Hp}
theorem RepW.mono {v : V} {w : W} (h : RepW K G v w) (le : Le G G') : RepW K G' v w := by
  cases w with
  | d x => exact Rep.mono le.mo h
  | obj i => obtain ⟨a, h1, h2⟩ := h; exact ⟨a, le.iget h1, h2⟩
  | fl _ => exact h
  | ro ds => obtain ⟨a, vs, h1, h2, h3⟩ := h; exact ⟨a, vs, h1, h2.mono le.mo, h3.mono le.mo⟩
theorem RepR.mono {v : V} {w : W} (h : RepR K H0 G v w) (le : Le G G') : RepR K H0 G' v w := by
  cases w with
  | d x => exact Rep.mono le.mo h
  | obj i => obtain ⟨a, h1, h2⟩ := h; exact ⟨a, le.iget h1, h2⟩
  | fl ds =>
    obtain ⟨p, vs, e, h0, h1, h2, h3, r⟩ := h
    have hp : G.H p ≠ none := by rw [h3]; simp
    exact ⟨p, vs, e, h0, le.nio hp h1, le.stay _ h2 h1, le.keep _ _ h3 (fun z => h1 z.1), Reps.mono le.mo r⟩
  | ro ds => obtain ⟨a, vs, h1, h2, h3⟩ := h; exact ⟨a, vs, h1, h2.mono le.mo, h3.mono le.mo⟩
theorem RepR.weak {v : V} {w : W} (h : RepR K H1 G v w) (t : ∀ a, H1 a = none → H0 a = none) : RepR K H0 G v w := by
  cases w with
  | d x => exact h
  | obj i => exact h
  | fl ds => obtain ⟨p, vs, e, h0, r⟩ := h; exact ⟨p, vs, e, t p h0, r⟩
  | ro ds => exact h
theorem RepW.r {v : V} {w : W} (h : RepW K G v w) : RepR K H0 G v w := by
  cases w with
  | d x => exact h
  | obj i => exact h
  | fl _ => exact False.elim h
  | ro ds => exact h
theorem ORep.mono {a : Addr} {ob : O} (h : ORep K G a ob) (le : Le G G') (hl : a ∈ G.lv → a ∈ G'.lv) (hl2 : a ∉ G.lv → a ∉ G'.lv) (e : G'.H a = G.H a) : ORep K G' a ob := by
  cases ob with
  | lst ds => obtain ⟨h1, vs, h2, r⟩ := h; exact ⟨hl h1, vs, by rw [e]; exact h2, Reps.mono le.mo r⟩
  | fz ds => obtain ⟨h1, vs, h2, r⟩ := h; exact ⟨hl2 h1, vs, by rw [e]; exact h2, Reps.mono le.mo r⟩
  | dct kvs =>
    obtain ⟨h1, ks, h2, r⟩ := h
    exact ⟨hl h1, ks, by rw [e]; exact h2, Paired.mono (fun _ _ z => ⟨z.1, z.2.mono le⟩) r⟩
end

/-! ### worlds that grow -/
section
variable {K : PySem.W.Frag} {G G0 : Wd} {m : Mem} {p : Addr} {o : HO}
theorem upd_none {H : Hp} {a : Addr} (e : upd H p o a = none) : H a = none := by
  unfold upd at e
  split at e
  · cases e
  · exact e
theorem RelM.ne (R : RelM K G m) (h : G.H p = none) : p ∉ G.io ∧ p ∉ G.lv := ⟨fun z => R.it p z h, fun z => R.lt p z h⟩
/-- a new thing that is held as data -/
theorem Le.new (R : RelM K G m) (h : G.H p = none) : Le G ⟨G.io, G.lv, upd G.H p o⟩ :=
  ⟨R.lt, ⟨[], by simp, fun _ z => nomatch z⟩, fun _ z => .inl z, fun _ z _ => z, fun a u e _ => by show upd G.H p o a = _; rw [upd_ne (ne_of_none e h)]; exact e, fun a e => upd_none e⟩
theorem RelM.new (R : RelM K G m) (h : G.H p = none) : RelM K ⟨G.io, G.lv, upd G.H p o⟩ m := by
  have ne : ∀ a, G.H a ≠ none → a ≠ p := fun a z e => z (e ▸ h)
  refine ⟨R.dw, R.len, R.nd, fun a z => ?_, fun a z => ?_, fun i a ob e1 e2 => (R.ob i a ob e1 e2).mono (Le.new R h) (fun z => z) (fun z => z) ?_⟩
  · show upd G.H p o a ≠ none
    rw [upd_ne (ne a (R.lt a z))]; exact R.lt a z
  · show upd G.H p o a ≠ none
    rw [upd_ne (ne a (R.it a z))]; exact R.it a z
  · exact upd_ne (ne a (R.it a (List.mem_of_getElem? e1)))
/-- a new thing that no data holds -/
theorem Le.newL (R : RelM K G m) (h : G.H p = none) : Le G ⟨G.io, p :: G.lv, upd G.H p o⟩ :=
  ⟨R.lt, ⟨[], by simp, fun _ z => nomatch z⟩, fun a z => by
    rcases List.mem_cons.mp z with z | z
    · exact .inr (z ▸ h)
    · exact .inl z, fun _ z _ => List.mem_cons_of_mem _ z, fun a u e _ => by show upd G.H p o a = _; rw [upd_ne (ne_of_none e h)]; exact e, fun a e => upd_none e⟩
theorem RelM.newL (R : RelM K G m) (h : G.H p = none) : RelM K ⟨G.io, p :: G.lv, upd G.H p o⟩ m := by
  have ne : ∀ a, G.H a ≠ none → a ≠ p := fun a z e => z (e ▸ h)
  refine ⟨R.dw, R.len, R.nd, fun a z => ?_, fun a z => ?_, fun i a ob e1 e2 => (R.ob i a ob e1 e2).mono (Le.newL R h) (fun z => List.mem_cons_of_mem _ z) (fun z q => ?_) ?_⟩
  · show upd G.H p o a ≠ none
    rcases List.mem_cons.mp z with z | z
    · rw [z, upd_same]; simp
    · rw [upd_ne (ne a (R.lt a z))]; exact R.lt a z
  · show upd G.H p o a ≠ none
    rw [upd_ne (ne a (R.it a z))]; exact R.it a z
  · rcases List.mem_cons.mp q with q | q
    · exact R.it a (List.mem_of_getElem? e1) (q ▸ h)
    · exact z q
  · exact upd_ne (ne a (R.it a (List.mem_of_getElem? e1)))
/-- a fresh list becomes data -/
def Wd.drop (G : Wd) (p : Addr) : Wd := ⟨G.io, G.lv.filter (fun a => decide (a ≠ p)), G.H⟩
theorem mem_drop {a : Addr} : a ∈ (G.drop p).lv ↔ a ∈ G.lv ∧ a ≠ p := by
  show a ∈ G.lv.filter _ ↔ _
  rw [List.mem_filter]; simp
theorem Mo.drop : Mo G.lv G.H (G.drop p).lv (G.drop p).H := ⟨fun _ _ h _ => h, fun _ _ _ n z => n (mem_drop.mp z).1⟩
theorem Le.drop (le : Le G0 G) (h0 : G0.H p = none) : Le G0 (G.drop p) :=
  ⟨le.lt, le.io, fun a z => le.lv a (mem_drop.mp z).1, fun a z n => mem_drop.mpr ⟨le.stay a z n, fun e => le.lt a z (e ▸ h0)⟩, le.keep, le.tr⟩
theorem RepW.drop {v : V} {w : W} (h : RepW K G v w) : RepW K (G.drop p) v w := by
  cases w with
  | d x => exact Rep.mono Mo.drop h
  | obj i => exact h
  | fl _ => exact h
  | ro ds => obtain ⟨a, vs, h1, h2, h3⟩ := h; exact ⟨a, vs, h1, h2.mono Mo.drop, h3.mono Mo.drop⟩
theorem RelM.drop (R : RelM K G m) (h : p ∉ G.io) : RelM K (G.drop p) m := by
  refine ⟨R.dw, R.len, R.nd, fun a z => R.lt a (mem_drop.mp z).1, R.it, fun i a ob e1 e2 => ?_⟩
  have q := R.ob i a ob e1 e2
  have ne : a ≠ p := fun e => h (e ▸ List.mem_of_getElem? e1)
  cases ob with
  | lst ds => obtain ⟨h1, vs, h2, r⟩ := q; exact ⟨mem_drop.mpr ⟨h1, ne⟩, vs, h2, Reps.mono Mo.drop r⟩
  | fz ds => obtain ⟨h1, vs, h2, r⟩ := q; exact ⟨fun z => h1 (mem_drop.mp z).1, vs, h2, Reps.mono Mo.drop r⟩
  | dct kvs => obtain ⟨h1, ks, h2, r⟩ := q; exact ⟨mem_drop.mpr ⟨h1, ne⟩, ks, h2, Paired.mono (fun _ _ z => ⟨z.1, z.2.drop⟩) r⟩
theorem RepR.drop {v : V} {ds : List D} {H0 : Hp} {p : Addr} {vs : List V} (h3 : G.H p = some (.lst vs)) (r : Reps K G.lv G.H vs ds) : Rep K (G.drop p).lv (G.drop p).H (.ref p) (.list ds) :=
  .lst ⟨fun z => (mem_drop.mp z).2 rfl, h3⟩ (Reps.mono Mo.drop r)
/-- a fresh list becomes an object -/
def Wd.own (G : Wd) (p : Addr) : Wd := ⟨G.io ++ [p], G.lv, G.H⟩
theorem Le.own (le : Le G0 G) (h0 : G0.H p = none) : Le G0 (G.own p) := by
  obtain ⟨κ, e, nk⟩ := le.io
  refine ⟨le.lt, ⟨κ ++ [p], by show G.io ++ [p] = _; rw [e, List.append_assoc], fun a z => ?_⟩, le.lv, le.stay, le.keep, le.tr⟩
  rcases List.mem_append.mp z with z | z
  · exact nk a z
  · rw [List.mem_singleton.mp z]; exact h0
theorem RepW.own {v : V} {w : W} (h : RepW K G v w) : RepW K (G.own p) v w := by
  cases w with
  | d x => exact h
  | obj i =>
    obtain ⟨a, h1, h2⟩ := h
    exact ⟨a, by show (G.io ++ [p])[i]? = _; rw [List.getElem?_append_left (List.getElem?_eq_some_iff.mp h1).1]; exact h1, h2⟩
  | fl _ => exact h
  | ro ds => exact h
theorem ORep.own {a : Addr} {ob : O} (q : ORep K G a ob) : ORep K (G.own p) a ob := by
  cases ob with
  | lst ds => exact q
  | fz ds => exact q
  | dct kvs => obtain ⟨h1, ks, h2, r⟩ := q; exact ⟨h1, ks, h2, Paired.mono (fun _ _ z => ⟨z.1, z.2.own⟩) r⟩
theorem RelM.own {ob : O} (R : RelM K G m) (h : p ∉ G.io) (ht : G.H p ≠ none) (ho : ORep K G p ob) (hd : okO m.length ob = true) : RelM K (G.own p) (m ++ [ob]) := by
  refine ⟨fun i o e => ?_, by show (G.io ++ [p]).length = _; rw [List.length_append, List.length_append, R.len]; rfl, ?_, R.lt, fun a z => ?_, fun i a o e1 e2 => ?_⟩
  · by_cases hi : i < m.length
    · rw [List.getElem?_append_left hi] at e
      exact R.dw i o e
    · have hl := (List.getElem?_eq_some_iff.mp e).1
      rw [List.length_append, List.length_singleton] at hl
      have ei : i = m.length := by omega
      subst ei
      rw [List.getElem?_append_right (Nat.le_refl _), Nat.sub_self] at e
      cases e
      exact hd
  · show (G.io ++ [p]).Nodup
    rw [List.nodup_append]
    exact ⟨R.nd, by simp, fun a ha b hb e => h (by rw [← List.mem_singleton.mp hb, ← e]; exact ha)⟩
  · rcases List.mem_append.mp z with z | z
    · exact R.it a z
    · rw [List.mem_singleton.mp z]; exact ht
  · have e1 : (G.io ++ [p])[i]? = some a := e1
    by_cases hi : i < G.io.length
    · rw [List.getElem?_append_left hi] at e1
      rw [List.getElem?_append_left (by rw [← R.len]; exact hi)] at e2
      exact (R.ob i a o e1 e2).own
    · rw [List.getElem?_append_right (by omega)] at e1
      rw [List.getElem?_append_right (by rw [← R.len]; omega)] at e2
      have hj : i - G.io.length = 0 := by
        have := (List.getElem?_eq_some_iff.mp e1).1
        simp at this; omega
      rw [hj] at e1
      rw [← R.len, hj] at e2
      have e1' : p = a := by simpa using e1
      have e2' : ob = o := by simpa using e2
      subst e1' e2'
      exact ho.own
/-- an object changes -/
theorem Le.mut {i : Nat} (R : RelM K G m) (h1 : G.io[i]? = some p) (h2 : p ∈ G.lv) : Le G ⟨G.io, G.lv, upd G.H p o⟩ :=
  ⟨R.lt, ⟨[], by simp, fun _ z => nomatch z⟩, fun _ z => .inl z, fun _ z _ => z, fun a u e n => by
    show upd G.H p o a = _
    rw [upd_ne (fun z => n (by rw [z]; exact ⟨List.mem_of_getElem? h1, h2⟩))]; exact e, fun a e => upd_none e⟩
theorem RelM.mut {i : Nat} {ob : O} (R : RelM K G m) (h1 : G.io[i]? = some p) (h2 : p ∈ G.lv) (ho : ORep K ⟨G.io, G.lv, upd G.H p o⟩ p ob) (hd : okO i ob = true) : RelM K ⟨G.io, G.lv, upd G.H p o⟩ (m.set i ob) := by
  have up : ∀ a, G.H a ≠ none → upd G.H p o a ≠ none := fun a z q => z (upd_none q)
  refine ⟨fun j u e => ?_, by rw [List.length_set]; exact R.len, R.nd, fun a z => up a (R.lt a z), fun a z => up a (R.it a z), fun j a u e1 e2 => ?_⟩
  · by_cases hj : i = j
    · subst hj
      have hl := (List.getElem?_eq_some_iff.mp e).1
      rw [List.length_set] at hl
      rw [List.getElem?_set_self hl] at e
      cases e
      exact hd
    · rw [List.getElem?_set_ne hj] at e
      exact R.dw j u e
  by_cases hj : j = i
  · subst hj
    rw [h1] at e1
    cases e1
    rw [List.getElem?_set_self (by rw [← R.len]; exact (List.getElem?_eq_some_iff.mp h1).1)] at e2
    cases e2
    exact ho
  · rw [List.getElem?_set_ne (fun z => hj z.symm)] at e2
    have na : a ≠ p := fun z => hj ((List.getElem?_inj (List.getElem?_eq_some_iff.mp e1).1 R.nd).mp (by rw [e1, h1, z]))
    exact (R.ob j a u e1 e2).mono (Le.mut R h1 h2) (fun z => z) (fun z => z) (upd_ne na)
/-- an object is frozen: data may hold it -/
theorem Rep.drop {v : V} {x : D} (h : Rep K G.lv G.H v x) : Rep K (G.drop p).lv (G.drop p).H v x := Rep.mono Mo.drop h
end

/-! ### slots -/
structure RelS (K : PySem.W.Frag) (G : Wd) (σ : St) (env : Env) : Prop where
  len : σ.length = env.length
  get : ∀ (i : Nat) (w : W), env[i]? = some (some w) → ∃ v, σ[i]? = some (some v) ∧ RepW K G v w
theorem RelS.mono {K : PySem.W.Frag} {G G' : Wd} {σ : St} {env : Env} (S : RelS K G σ env) (le : Le G G') : RelS K G' σ env :=
  ⟨S.len, fun i w e => let ⟨v, h1, h2⟩ := S.get i w e; ⟨v, h1, h2.mono le⟩⟩
theorem RelS.set {K : PySem.W.Frag} {G : Wd} {σ : St} {env : Env} {v : V} {w : W} {i : Nat} (S : RelS K G σ env) (h : RepW K G v w) : RelS K G (σ.set i (some v)) (env.set i (some w)) := by
  refine ⟨by rw [List.length_set, List.length_set]; exact S.len, fun j u e => ?_⟩
  by_cases hj : j = i
  · subst hj
    have hl : j < env.length := by
      have := (List.getElem?_eq_some_iff.mp e).1
      rwa [List.length_set] at this
    rw [List.getElem?_set_self hl] at e
    cases e
    exact ⟨v, by rw [List.getElem?_set_self (by rw [S.len]; exact hl)], h⟩
  · rw [List.getElem?_set_ne (fun z => hj z.symm)] at e
    obtain ⟨u', h1, h2⟩ := S.get j u e
    exact ⟨u', by rw [List.getElem?_set_ne (fun z => hj z.symm)]; exact h1, h2⟩

/-! ### ends -/
def ExRep (mg : Str → Option Value) (K : PySem.W.Frag) (G : Wd) (c : Value) (d : Option Addr) (e : Exn) : Prop :=
  mg e.cls = some c ∧ (e.fs = [] ∨ ∃ dd fs, d = some dd ∧ G.H dd = some (.xd fs) ∧ dd ∉ G.io ∧ Paired (fun (p : Str × V) (q : Str × D) => p.1 = q.1 ∧ Rep K G.lv G.H p.2 q.2) fs e.fs)
def GPost {α β : Type} (X : Cx) (Wx : WX) (σ : St) (G : Wd) (rel : Hp → Wd → β → α → Prop) (r : Res α) (Q : β → Hp → Prop) : Prop :=
  match r with
  | .ok a m => ∀ v G', Le G G' → RelM X.K G' m → rel G.H G' v a → Q v G'.H
  | .err e m => ∀ c d G', Le G G' → RelM X.K G' m → ExRep X.mg X.K G' c d e → Wx c d σ G'.H
  | .bad => False
/-- a relation that may start earlier -/
def Weak {α β : Type} (rel : Hp → Wd → β → α → Prop) : Prop := ∀ H H1 G v a, (∀ p, H1 p = none → H p = none) → rel H1 G v a → rel H G v a
section
variable {X : Cx} {Wx : WX} {σ : St} {G G1 : Wd}
theorem GPost.later {α β : Type} {rel : Hp → Wd → β → α → Prop} (hw : Weak rel) {r : Res α} {Q : β → Hp → Prop} (h : GPost X Wx σ G rel r Q) (le : Le G G1) : GPost X Wx σ G1 rel r Q := by
  cases r with
  | ok a m => exact fun v G' l R q => h v G' (le.trans l) R (hw _ _ _ _ _ le.tr q)
  | err e m => exact fun c d G' l R q => h c d G' (le.trans l) R q
  | bad => exact h
theorem GPost.bind {α β α' β' : Type} {rel : Hp → Wd → β → α → Prop} {rel' : Hp → Wd → β' → α' → Prop} (hw : Weak rel') {r : Res α} {k : α → Mem → Res α'} {Q : β → Hp → Prop} {Q' : β' → Hp → Prop}
    (h : GPost X Wx σ G rel' (r.bind k) Q')
    (hk : ∀ a m v G1, Le G G1 → RelM X.K G1 m → rel G.H G1 v a → GPost X Wx σ G1 rel' (k a m) Q' → Q v G1.H) : GPost X Wx σ G rel r Q := by
  cases r with
  | ok a m => exact fun v G1 le R q => hk a m v G1 le R q (GPost.later hw h le)
  | err e m => exact h
  | bad => exact h
theorem weakR {K : PySem.W.Frag} : Weak (RepR K) := fun _ _ _ _ _ t h => h.weak t
def relEq {α : Type} : Hp → Wd → α → α → Prop := fun _ _ v a => v = a
theorem weakEq {α : Type} : Weak (relEq (α := α)) := fun _ _ _ _ _ _ h => h
def RepRs (K : PySem.W.Frag) (H0 : Hp) (G : Wd) (vs : List V) (ws : List W) : Prop := Paired (RepR K H0 G) vs ws
theorem weakRs {K : PySem.W.Frag} : Weak (RepRs K) := fun _ _ _ _ _ t h => Paired.mono (fun _ _ z => z.weak t) h
theorem RepRs.mono {K : PySem.W.Frag} {H0 : Hp} {G G' : Wd} {vs : List V} {ws : List W} (h : RepRs K H0 G vs ws) (le : Le G G') : RepRs K H0 G' vs ws := Paired.mono (fun _ _ z => z.mono le) h
end

/-! ### judgements -/
def ME (X : Cx) (Wx : WX) (e : Expr) (f : Env → Mem → Res W) : Prop :=
  ∃ t, PE X e t ∧ ∀ env m σ G Q, RelS X.K G σ env → RelM X.K G m → GPost X Wx σ G (RepR X.K) (f env m) Q → t σ G.H Q
def MT (X : Cx) (Wx : WX) (e : Expr) (f : Env → Mem → Res Bool) : Prop :=
  ∃ t, PT X e t ∧ ∀ env m σ G Q, RelS X.K G σ env → RelM X.K G m → GPost X Wx σ G relEq (f env m) Q → t σ G.H Q
def MP (X : Cx) (Wx : WX) (e : Expr) (f : Env → Mem → Res Bool) : Prop :=
  ∃ t, PW X e t ∧ ∀ env m σ G Q, RelS X.K G σ env → RelM X.K G m → GPost X Wx σ G relEq (f env m) Q → t σ G.H Q
def MA (X : Cx) (Wx : WX) (es : List Expr) (f : Env → Mem → Res (List W)) : Prop :=
  ∃ t, PA X es t ∧ ∀ env m σ G Q, RelS X.K G σ env → RelM X.K G m → GPost X Wx σ G (RepRs X.K) (f env m) Q → t σ G.H Q
inductive SRes where
  | nx (env : Env) (m : Mem)
  | bk (env : Env) (m : Mem)
  | ct (env : Env) (m : Mem)
  | rt (w : W) (m : Mem)
  | err (e : Exn) (env : Env) (m : Mem)
  | bad
def SPost (X : Cx) (Wx : WX) (G : Wd) (r : SRes) (E : Ends) : Prop :=
  match r with
  | .nx env m => ∀ σ' G', Le G G' → RelM X.K G' m → RelS X.K G' σ' env → E.nx σ' G'.H
  | .bk env m => ∀ σ' G', Le G G' → RelM X.K G' m → RelS X.K G' σ' env → E.bk σ' G'.H
  | .ct env m => ∀ σ' G', Le G G' → RelM X.K G' m → RelS X.K G' σ' env → E.ct σ' G'.H
  | .rt w m => ∀ v G', Le G G' → RelM X.K G' m → RepR X.K G.H G' v w → E.rt v G'.H
  | .err e env m => ∀ c d σ' G', Le G G' → RelM X.K G' m → RelS X.K G' σ' env → ExRep X.mg X.K G' c d e → Wx c d σ' G'.H
  | .bad => False
def MS (X : Cx) (Wx : WX) (st : Stmt) (f : Env → Mem → SRes) : Prop :=
  ∃ t, PS X st t ∧ ∀ env m σ G E, RelS X.K G σ env → RelM X.K G m → SPost X Wx G (f env m) E → t E σ G.H
def MB (X : Cx) (Wx : WX) (st : List Stmt) (f : Env → Mem → SRes) : Prop :=
  ∃ t, PSs X st t ∧ ∀ env m σ G E, RelS X.K G σ env → RelM X.K G m → SPost X Wx G (f env m) E → t E σ G.H
theorem SPost.later {X : Cx} {Wx : WX} {G G1 : Wd} {r : SRes} {E : Ends} (h : SPost X Wx G r E) (le : Le G G1) : SPost X Wx G1 r E := by
  cases r with
  | nx env m => exact fun σ' G' l R S => h σ' G' (le.trans l) R S
  | bk env m => exact fun σ' G' l R S => h σ' G' (le.trans l) R S
  | ct env m => exact fun σ' G' l R S => h σ' G' (le.trans l) R S
  | rt w m => exact fun v G' l R q => h v G' (le.trans l) R (q.weak le.tr)
  | err e env m => exact fun c d σ' G' l R S q => h c d σ' G' (le.trans l) R S q
  | bad => exact h
end M

set_option Elab.async false
set_option linter.all false
set_option maxRecDepth 100000
namespace M
open PySem L2
abbrev EF := Env → Mem → Res W
abbrev TF := Env → Mem → Res Bool
abbrev AF := Env → Mem → Res (List W)
abbrev SF := Env → Mem → SRes

/-! ### values seen -/
def asL (w : W) (m : Mem) : Option (List D) :=
  match w with
  | .d (.list ds) => some ds
  | .fl ds => some ds
  | .ro ds => some ds
  | .obj i => match m[i]? with
    | some (.lst ds) => some ds
    | some (.fz ds) => some ds
    | _ => none
  | _ => none
/-- a list that is tracked (not the script) -/
def asT (w : W) (m : Mem) : Option (List D) :=
  match w with
  | .ro _ => none
  | w => asL w m
def asD (w : W) (m : Mem) : Option D :=
  match w with
  | .d x => some x
  | w => (asL w m).map PyData.list
section
variable {K : PySem.W.Frag} {G : Wd} {m : Mem} {H0 : Hp} {v : V} {w : W}
theorem asT_sq (R : RelM K G m) (h : RepR K H0 G v w) {ds : List D} (e : asT w m = some ds) : ∃ a vs, v = .ref a ∧ G.H a = some (.lst vs) ∧ Reps K G.lv G.H vs ds := by
  cases w with
  | d x =>
    cases x with
    | list xs =>
      have e : xs = ds := by simpa [asT, asL] using e
      subst e
      cases h with
      | lst h r => exact ⟨_, _, rfl, h.2, r⟩
    | _ => simp [asT, asL] at e
  | fl xs =>
    have e : xs = ds := by simpa [asT, asL] using e
    subst e
    obtain ⟨p, vs, e, _, _, _, h3, r⟩ := h
    exact ⟨p, vs, e, h3, r⟩
  | ro xs => simp [asT] at e
  | obj i =>
    obtain ⟨a, h1, h2⟩ := h
    simp only [asT, asL] at e
    cases q : m[i]? with
    | none => rw [q] at e; cases e
    | some o =>
      rw [q] at e
      have ob := R.ob i a o h1 q
      cases o with
      | lst xs => cases e; obtain ⟨_, vs, h3, r⟩ := ob; exact ⟨a, vs, h2, h3, r⟩
      | fz xs => cases e; obtain ⟨_, vs, h3, r⟩ := ob; exact ⟨a, vs, h2, h3, r⟩
      | dct kvs => cases e
theorem asL_sq (R : RelM K G m) (h : RepR K H0 G v w) {ds : List D} (e : asL w m = some ds) : ∃ a vs, v = .ref a ∧ SqL K G.H a vs ∧ Reps K G.lv G.H vs ds := by
  cases w with
  | ro xs =>
    have e : xs = ds := by simpa [asL] using e
    subst e
    obtain ⟨a, vs, h1, h2, h3⟩ := h
    exact ⟨a, vs, h1, h2.sq, h3⟩
  | d x => obtain ⟨a, vs, h1, h2, h3⟩ := asT_sq (w := .d x) R h e; exact ⟨a, vs, h1, .of h2, h3⟩
  | fl x => obtain ⟨a, vs, h1, h2, h3⟩ := asT_sq (w := .fl x) R h e; exact ⟨a, vs, h1, .of h2, h3⟩
  | obj x => obtain ⟨a, vs, h1, h2, h3⟩ := asT_sq (w := .obj x) R h e; exact ⟨a, vs, h1, .of h2, h3⟩
theorem asD_dp (R : RelM K G m) (h : RepR K H0 G v w) {x : D} (e : asD w m = some x) : Dp K G.H v x := by
  have lst : ∀ ds, asL w m = some ds → Dp K G.H v (.list ds) := fun ds e => by
    obtain ⟨a, vs, rfl, h2, h3⟩ := asL_sq R h e
    exact .lst h2 h3.dp
  have go : (asL w m).map PyData.list = some x → Dp K G.H v x := fun e => by
    cases q : asL w m with
    | none => rw [q] at e; cases e
    | some ds => rw [q] at e; cases e; exact lst ds q
  cases w with
  | d y => cases e; exact Rep.dp h
  | obj i => exact go e
  | fl i => exact go e
  | ro i => exact go e
end

section
variable {X : Cx} {Wx : WX}
/-- an end without a change -/
theorem fin {σ : St} {G : Wd} {m : Mem} {Q : VK} {w : W} {v : V} (R : RelM X.K G m) (h : GPost X Wx σ G (RepR X.K) (.ok w m) Q) (r : RepR X.K G.H G v w) : Q v G.H := h v G (Le.refl R) R r
theorem finD {σ : St} {G : Wd} {m : Mem} {Q : VK} {x : D} {v : V} (R : RelM X.K G m) (h : GPost X Wx σ G (RepR X.K) (.ok (.d x) m) Q) (r : Rep X.K G.lv G.H v x) : Q v G.H := h v G (Le.refl R) R r
/-- a new tuple -/
theorem finT {σ : St} {G : Wd} {m : Mem} {Q : VK} {ds : List D} {vs : List V} {p : Addr} (R : RelM X.K G m) (h : GPost X Wx σ G (RepR X.K) (.ok (.d (.tuple ds)) m) Q) (r : Reps X.K G.lv G.H vs ds) (hp : G.H p = none) : Q (.ref p) (upd G.H p (.tup vs)) := by
  have le : Le G ⟨G.io, G.lv, upd G.H p (.tup vs)⟩ := Le.new R hp
  exact h (.ref p) _ le (R.new hp) (Rep.tup (.inl ⟨(R.ne hp).2, upd_same⟩) (Reps.mono le.mo r))
/-- a new list -/
theorem finL {σ : St} {G : Wd} {m : Mem} {Q : VK} {ds : List D} {vs : List V} {p : Addr} (R : RelM X.K G m) (h : GPost X Wx σ G (RepR X.K) (.ok (.fl ds) m) Q) (r : Reps X.K G.lv G.H vs ds) (hp : G.H p = none) : Q (.ref p) (upd G.H p (.lst vs)) := by
  have le : Le G ⟨G.io, p :: G.lv, upd G.H p (.lst vs)⟩ := Le.newL R hp
  exact h (.ref p) _ le (R.newL hp) ⟨p, vs, rfl, hp, (R.ne hp).1, List.mem_cons_self, upd_same, Reps.mono le.mo r⟩

/-! ### names, constants -/
def eVar (i : Nat) (env : Env) (m : Mem) : Res W := match env[i]? with
  | some (some w) => .ok w m
  | _ => .bad
def eC (x : D) (_ : Env) (m : Mem) : Res W := .ok (.d x) m
theorem me_var (i : Nat) {x : Str} {pos : Pos} (hN : X.N[i]? = some x := by rfl) (hv : Vis X.env.scope x := by first | exact Or.inl rfl | exact Or.inr (Or.inl rfl) | exact Or.inr (Or.inr rfl)) (hd : (x == ("__debug__" : Str)) = false := by decide)
    (hcd : (x == ("__classdict__" : Str)) = false := by decide) : ME X Wx (.Name x pos) (eVar i) := by
  refine ⟨_, pe_var hN hv hd hcd, fun env m σ G Q S R h => ?_⟩
  unfold eVar at h
  cases e : env[i]? with
  | none => rw [e] at h; exact False.elim h
  | some o =>
    cases o with
    | none => rw [e] at h; exact False.elim h
    | some w =>
      rw [e] at h
      obtain ⟨v, h1, h2⟩ := S.get i w e
      exact ⟨v, h1, fin R h h2.r⟩
theorem me_int {i : Int} {j pos} : ME X Wx (.Constant (.int i) j pos) (eC (.int i)) := ⟨_, pe_int, fun env m σ G Q S R h => finD R h (.int i)⟩
theorem me_str {i : Str} {j pos} : ME X Wx (.Constant (.str i) j pos) (eC (.str i)) := ⟨_, pe_str, fun env m σ G Q S R h => finD R h (.str i)⟩
theorem me_bl {i : Bool} {j pos} : ME X Wx (.Constant (.bool i) j pos) (eC (.bool i)) := ⟨_, pe_bl, fun env m σ G Q S R h => finD R h (.bl i)⟩
theorem me_non {j pos} : ME X Wx (.Constant .none j pos) (eC .none) := ⟨_, pe_non, fun env m σ G Q S R h => finD R h .non⟩
/-- a constant of the module -/
def KRep (K : PySem.W.Frag) (mg : Str → Option Value) (x : Str) (d : D) : Prop := ∃ u v, mg x = some u ∧ RelV v u ∧ ∀ lv H, Rep K lv H v d
theorem me_glob {x : Str} {d : D} {pos : Pos} (hg : Gl X x) (hk : KRep X.K X.mg x d) (hd : (x == ("__debug__" : Str)) = false := by decide) : ME X Wx (.Name x pos) (eC d) := by
  obtain ⟨u, v, hm, hr, hp⟩ := hk
  exact ⟨_, pe_glob hg hm hr hd, fun env m σ G Q S R h => finD R h (hp _ _)⟩

/-! ### operators -/
def OpOk (X : Cx) (Wx : WX) (r : R2) (g : W → W → Mem → Res W) : Prop :=
  ∀ (σ : St) (G : Wd) (m : Mem) (v u : V) (x y : W) (H0 H1 : Hp) (Q : VK), RelM X.K G m → RepR X.K H0 G v x → RepR X.K H1 G u y → GPost X Wx σ G (RepR X.K) (g x y m) Q → r v u G.H Q
def eOp (g : W → W → Mem → Res W) (a b : EF) (env : Env) (m : Mem) : Res W := (a env m).bind fun x m1 => (b env m1).bind fun y m2 => g x y m2
theorem two {a b : Expr} {ta tb : TE} {fa fb : EF} {g : W → W → Mem → Res W} {r : R2} (hg : OpOk X Wx r g) (qa : ∀ env m σ G Q, RelS X.K G σ env → RelM X.K G m → GPost X Wx σ G (RepR X.K) (fa env m) Q → ta σ G.H Q)
    (qb : ∀ env m σ G Q, RelS X.K G σ env → RelM X.K G m → GPost X Wx σ G (RepR X.K) (fb env m) Q → tb σ G.H Q) (env : Env) (m : Mem) (σ : St) (G : Wd) (Q : VK) (S : RelS X.K G σ env) (R : RelM X.K G m)
    (h : GPost X Wx σ G (RepR X.K) (eOp g fa fb env m) Q) : tOp r ta tb σ G.H Q := by
  refine qa env m σ G _ S R (GPost.bind weakR h fun x m1 v G1 le1 R1 q1 h1 => ?_)
  refine qb env m1 σ G1 _ (S.mono le1) R1 (GPost.bind weakR h1 fun y m2 u G2 le2 R2 q2 h2 => ?_)
  exact hg σ G2 m2 v u x y _ _ Q R2 (q1.mono le2) q2 h2
theorem me_op {op : Operator} {r : R2} {g : W → W → Mem → Res W} {a b : Expr} {fa fb : EF} {pos : Pos} (ho : OpR X (binaryOp op) r) (hg : OpOk X Wx r g) (ha : ME X Wx a fa) (hb : ME X Wx b fb) : ME X Wx (.BinOp a op b pos) (eOp g fa fb) := by
  obtain ⟨ta, pa, qa⟩ := ha
  obtain ⟨tb, pb, qb⟩ := hb
  exact ⟨_, pe_op ho pa pb, fun env m σ G Q S R h => two (a := a) (b := b) hg qa qb env m σ G Q S R h⟩
theorem me_cmp {op : CmpOp} {r : R2} {g : W → W → Mem → Res W} {a b : Expr} {fa fb : EF} {pos : Pos} (ho : OpR X (compareOp op) r) (hg : OpOk X Wx r g) (ha : ME X Wx a fa) (hb : ME X Wx b fb) (hm : behindInMarks op b = false := by first | exact nomark _ | with_unfolding_all rfl) :
    ME X Wx (.Compare a [op] [b] pos) (eOp g fa fb) := by
  obtain ⟨ta, pa, qa⟩ := ha
  obtain ⟨tb, pb, qb⟩ := hb
  exact ⟨_, pe_cmpR ho pa pb hm, fun env m σ G Q S R h => two (a := a) (b := b) hg qa qb env m σ G Q S R h⟩
/-- a value as a bool -/
def tBool (f : EF) (env : Env) (m : Mem) : Res Bool := (f env m).bind fun w m1 => match w with
  | .d (.bool b) => .ok b m1
  | _ => .bad
theorem boolQ {σ : St} {G : Wd} {r : Res W} {Q : Bool → Hp → Prop} (h : GPost X Wx σ G relEq (r.bind fun w m1 => match w with | .d (.bool b) => .ok b m1 | _ => .bad) Q) : GPost X Wx σ G (RepR X.K) r (fun x H' => ∃ k, x = .bl k ∧ Q k H') := by
  refine GPost.bind weakEq h fun w m1 v G1 le1 R1 q1 h1 => ?_
  cases w with
  | d x =>
    cases x with
    | bool b => cases q1; exact ⟨b, rfl, h1 b G1 (Le.refl R1) R1 rfl⟩
    | _ => exact False.elim h1
  | _ => exact False.elim h1
theorem mt_cmp {op : CmpOp} {r : R2} {g : W → W → Mem → Res W} {a b : Expr} {fa fb : EF} {pos : Pos} (ho : OpR X (compareOp op) r) (hg : OpOk X Wx r g) (ha : ME X Wx a fa) (hb : ME X Wx b fb) (hm : behindInMarks op b = false := by first | exact nomark _ | with_unfolding_all rfl) :
    MT X Wx (.Compare a [op] [b] pos) (tBool (eOp g fa fb)) := by
  obtain ⟨ta, pa, qa⟩ := ha
  obtain ⟨tb, pb, qb⟩ := hb
  exact ⟨_, pt_cmpR ho pa pb hm, fun env m σ G Q S R h => two (a := a) (b := b) hg qa qb env m σ G _ S R (boolQ h)⟩
/-- a < b < c -/
def eChain (g g' : W → W → Mem → Res W) (a b c : EF) (env : Env) (m : Mem) : Res W := (a env m).bind fun x m1 => (b env m1).bind fun y m2 => (g x y m2).bind fun z m3 => match z with
  | .d (.bool true) => (c env m3).bind fun u m4 => g' y u m4
  | .d (.bool false) => .ok (.d (.bool false)) m3
  | _ => .bad
theorem chainQ {a b c : Expr} {ta tb tc : TE} {fa fb fc : EF} {g g' : W → W → Mem → Res W} {r r' : R2} (hg : OpOk X Wx r g) (hg' : OpOk X Wx r' g') (qa : ∀ env m σ G Q, RelS X.K G σ env → RelM X.K G m → GPost X Wx σ G (RepR X.K) (fa env m) Q → ta σ G.H Q)
    (qb : ∀ env m σ G Q, RelS X.K G σ env → RelM X.K G m → GPost X Wx σ G (RepR X.K) (fb env m) Q → tb σ G.H Q) (qc : ∀ env m σ G Q, RelS X.K G σ env → RelM X.K G m → GPost X Wx σ G (RepR X.K) (fc env m) Q → tc σ G.H Q)
    (env : Env) (m : Mem) (σ : St) (G : Wd) (Q : VK) (S : RelS X.K G σ env) (R : RelM X.K G m)
    (h : GPost X Wx σ G (RepR X.K) (eChain g g' fa fb fc env m) Q) : tChain r r' ta tb tc σ G.H Q := by
  refine qa env m σ G _ S R (GPost.bind weakR h fun x m1 v G1 le1 R1 q1 h1 => ?_)
  refine qb env m1 σ G1 _ (S.mono le1) R1 (GPost.bind weakR h1 fun y m2 u G2 le2 R2 q2 h2 => ?_)
  refine hg σ G2 m2 v u x y _ _ _ R2 (q1.mono le2) q2 (GPost.bind weakR h2 fun z m3 k G3 le3 R3 q3 h3 => ?_)
  cases z with
  | d x =>
    cases x with
    | bool b =>
      cases q3
      refine ⟨b, rfl, ?_⟩
      cases b with
      | false => exact iteF (finD R3 h3 (.bl false))
      | true =>
        refine iteT (qc env m3 σ G3 _ ((S.mono le1).mono (le2.trans le3)) R3 (GPost.bind weakR h3 fun t m4 k' G4 le4 R4 q4 h4 => ?_))
        exact hg' σ G4 m4 u k' y t _ _ Q R4 (q2.mono (le3.trans le4)) q4 h4
    | _ => exact False.elim h3
  | _ => exact False.elim h3
theorem me_chain {op op' : CmpOp} {r r' : R2} {g g' : W → W → Mem → Res W} {a b c : Expr} {fa fb fc : EF} {pos : Pos} (ho : OpR X (compareOp op) r) (ho' : OpR X (compareOp op') r') (hg : OpOk X Wx r g) (hg' : OpOk X Wx r' g')
    (ha : ME X Wx a fa) (hb : ME X Wx b fb) (hc : ME X Wx c fc) (hm : lastMarks [op, op'] [b, c] = false := by with_unfolding_all rfl) : ME X Wx (.Compare a [op, op'] [b, c] pos) (eChain g g' fa fb fc) := by
  obtain ⟨ta, pa, qa⟩ := ha
  obtain ⟨tb, pb, qb⟩ := hb
  obtain ⟨tc, pc, qc⟩ := hc
  exact ⟨_, pe_chain ho ho' pa pb pc hm, fun env m σ G Q S R h => chainQ (a := a) (b := b) (c := c) hg hg' qa qb qc env m σ G Q S R h⟩
theorem mt_chain {op op' : CmpOp} {r r' : R2} {g g' : W → W → Mem → Res W} {a b c : Expr} {fa fb fc : EF} {pos : Pos} (ho : OpR X (compareOp op) r) (ho' : OpR X (compareOp op') r') (hg : OpOk X Wx r g) (hg' : OpOk X Wx r' g')
    (ha : ME X Wx a fa) (hb : ME X Wx b fb) (hc : ME X Wx c fc) (hm : lastMarks [op, op'] [b, c] = false := by with_unfolding_all rfl) : MT X Wx (.Compare a [op, op'] [b, c] pos) (tBool (eChain g g' fa fb fc)) := by
  obtain ⟨ta, pa, qa⟩ := ha
  obtain ⟨tb, pb, qb⟩ := hb
  obtain ⟨tc, pc, qc⟩ := hc
  exact ⟨_, pt_chain ho ho' pa pb pc hm, fun env m σ G Q S R h => chainQ (a := a) (b := b) (c := c) hg hg' qa qb qc env m σ G _ S R (boolQ h)⟩

/-! ### tests -/
def truW (w : W) (m : Mem) : Option Bool :=
  match w with
  | .d .none => some false
  | .d (.bool b) => some b
  | .d (.int i) => some (i != 0)
  | .d (.str x) => if x.length ≤ sizeLine then some ((x.length : Int) != 0) else none
  | .d (.tuple ds) => some (!ds.isEmpty)
  | w => (asL w m).map fun ds => !ds.isEmpty
def tTru (f : EF) (env : Env) (m : Mem) : Res Bool := (f env m).bind fun w m1 => match truW w m1 with
  | some b => .ok b m1
  | none => .bad
theorem Reps.isEmpty {K : PySem.W.Frag} {lv : List Addr} {H : Hp} {vs : List V} {ds : List D} (r : Reps K lv H vs ds) : vs.isEmpty = ds.isEmpty := by cases r <;> rfl
theorem truW_ok {G : Wd} {m : Mem} {H0 : Hp} {v : V} {w : W} {b : Bool} (R : RelM X.K G m) (h : RepR X.K H0 G v w) (e : truW w m = some b) : TruV X.K v G.H b := by
  have lst : (asL w m).map (fun ds => !ds.isEmpty) = some b → TruV X.K v G.H b := fun e => by
    cases q : asL w m with
    | none => rw [q] at e; cases e
    | some ds =>
      rw [q] at e
      cases e
      obtain ⟨a, vs, rfl, h2, h3⟩ := asL_sq R h q
      exact .inl ⟨vs, h2, by rw [h3.isEmpty]⟩
  cases w with
  | d x =>
    cases x with
    | none => cases e; cases h; exact rfl
    | bool c => cases e; cases h; exact rfl
    | int i => cases e; cases h; exact rfl
    | str z =>
      cases h
      simp only [truW] at e
      split at e
      · rename_i hz
        cases e
        exact ⟨hz, rfl⟩
      · cases e
    | tuple ds =>
      cases e
      cases h with
      | tup h r => exact .inr (.inl ⟨_, h.sq, by rw [r.isEmpty]⟩)
    | list ds => exact lst e
    | dict kvs => exact lst e
  | obj i => exact lst e
  | fl i => exact lst e
  | ro i => exact lst e
theorem mt_tru {a : Expr} {f : EF} (ha : ME X Wx a f) (he : ∀ whole, isTrue a X.env whole = (do let v ← whole; standAt a.pos; holding [v] (truthy v)) := by intro _; rfl) : MT X Wx a (tTru f) := by
  obtain ⟨ta, pa, qa⟩ := ha
  refine ⟨_, pt_truth pa he, fun env m σ G Q S R h => qa env m σ G _ S R (GPost.bind weakEq h fun w m1 v G1 le1 R1 q1 h1 => ?_)⟩
  cases e : truW w m1 with
  | none => rw [e] at h1; exact False.elim h1
  | some b => rw [e] at h1; exact ⟨b, truW_ok R1 q1 e, h1 b G1 (Le.refl R1) R1 rfl⟩
def tAndF (a b : TF) (env : Env) (m : Mem) : Res Bool := (a env m).bind fun x m1 => if x = true then b env m1 else .ok false m1
def tOrF (a b : TF) (env : Env) (m : Mem) : Res Bool := (a env m).bind fun x m1 => if x = true then .ok true m1 else b env m1
def tNotF (a : TF) (env : Env) (m : Mem) : Res Bool := (a env m).bind fun x m1 => .ok (!x) m1
theorem MP.mt {e : Expr} {f : TF} (h : MP X Wx e f) : MT X Wx e f := let ⟨t, p, q⟩ := h; ⟨t, p.pt, q⟩
theorem mp_and1 {a : Expr} {f : TF} {pos : Pos} (h : MT X Wx a f) : MP X Wx (.BoolOp .And [a] pos) f := let ⟨t, p, q⟩ := h; ⟨t, pw_and1 p, q⟩
theorem mp_or1 {a : Expr} {f : TF} {pos : Pos} (h : MT X Wx a f) : MP X Wx (.BoolOp .Or [a] pos) f := let ⟨t, p, q⟩ := h; ⟨t, pw_or1 p, q⟩
theorem mp_and {a b : Expr} {rest : List Expr} {f g : TF} {pos : Pos} (h : MT X Wx a f) (h' : MP X Wx (.BoolOp .And (b :: rest) pos) g) : MP X Wx (.BoolOp .And (a :: b :: rest) pos) (tAndF f g) := by
  obtain ⟨ta, pa, qa⟩ := h
  obtain ⟨tb, pb, qb⟩ := h'
  refine ⟨_, pw_and pa pb, fun env m σ G Q S R h => qa env m σ G _ S R (GPost.bind weakEq h fun b m1 v G1 le1 R1 q1 h1 => ?_)⟩
  rw [show v = b from q1]
  cases b with
  | true => exact iteT (qb env m1 σ G1 Q (S.mono le1) R1 h1)
  | false => exact iteF (h1 false G1 (Le.refl R1) R1 rfl)
theorem mp_or {a b : Expr} {rest : List Expr} {f g : TF} {pos : Pos} (h : MT X Wx a f) (h' : MP X Wx (.BoolOp .Or (b :: rest) pos) g) : MP X Wx (.BoolOp .Or (a :: b :: rest) pos) (tOrF f g) := by
  obtain ⟨ta, pa, qa⟩ := h
  obtain ⟨tb, pb, qb⟩ := h'
  refine ⟨_, pw_or pa pb, fun env m σ G Q S R h => qa env m σ G _ S R (GPost.bind weakEq h fun b m1 v G1 le1 R1 q1 h1 => ?_)⟩
  rw [show v = b from q1]
  cases b with
  | true => exact iteT (h1 true G1 (Le.refl R1) R1 rfl)
  | false => exact iteF (qb env m1 σ G1 Q (S.mono le1) R1 h1)
theorem mt_not {a : Expr} {f : TF} {pos : Pos} (h : MT X Wx a f) : MT X Wx (.UnaryOp .Not a pos) (tNotF f) := by
  obtain ⟨ta, pa, qa⟩ := h
  refine ⟨_, pt_not pa, fun env m σ G Q S R h => qa env m σ G _ S R (GPost.bind weakEq h fun b m1 v G1 le1 R1 q1 h1 => ?_)⟩
  rw [show v = b from q1]
  exact h1 (!b) G1 (Le.refl R1) R1 rfl
/-! .. as values -/
def eAnd (a b : EF) (env : Env) (m : Mem) : Res W := (tBool a env m).bind fun x m1 => if x = true then b env m1 else .ok (.d (.bool false)) m1
def eOr (a b : EF) (env : Env) (m : Mem) : Res W := (tBool a env m).bind fun x m1 => if x = true then .ok (.d (.bool true)) m1 else b env m1
def eNot (a : EF) (env : Env) (m : Mem) : Res W := (tBool a env m).bind fun x m1 => .ok (.d (.bool (!x))) m1
def eIf (c : TF) (a b : EF) (env : Env) (m : Mem) : Res W := (c env m).bind fun x m1 => if x = true then a env m1 else b env m1
theorem me_one {op} {a : Expr} {f : EF} {pos : Pos} (h : ME X Wx a f) : ME X Wx (.BoolOp op [a] pos) f := let ⟨t, p, q⟩ := h; ⟨t, pe_one p, q⟩
theorem bind_bind {α β γ : Type} (r : Res α) (k : α → Mem → Res β) (k' : β → Mem → Res γ) : (r.bind k).bind k' = r.bind fun a m => (k a m).bind k' := by cases r <;> rfl
theorem me_and {a b : Expr} {rest : List Expr} {f g : EF} {pos : Pos} (h : ME X Wx a f) (h' : ME X Wx (.BoolOp .And (b :: rest) pos) g) : ME X Wx (.BoolOp .And (a :: b :: rest) pos) (eAnd f g) := by
  obtain ⟨ta, pa, qa⟩ := h
  obtain ⟨tb, pb, qb⟩ := h'
  refine ⟨_, pe_and pa pb, fun env m σ G Q S R h => ?_⟩
  unfold eAnd tBool at h
  rw [bind_bind] at h
  refine qa env m σ G _ S R (GPost.bind weakR h fun w m1 v G1 le1 R1 q1 h1 => ?_)
  cases w with
  | d x =>
    cases x with
    | bool c =>
      cases q1
      refine ⟨c, rfl, ?_⟩
      cases c with
      | true => exact iteT (qb env m1 σ G1 Q (S.mono le1) R1 h1)
      | false => exact iteF (finD R1 h1 (.bl false))
    | _ => exact False.elim h1
  | _ => exact False.elim h1
theorem me_or {a b : Expr} {rest : List Expr} {f g : EF} {pos : Pos} (h : ME X Wx a f) (h' : ME X Wx (.BoolOp .Or (b :: rest) pos) g) : ME X Wx (.BoolOp .Or (a :: b :: rest) pos) (eOr f g) := by
  obtain ⟨ta, pa, qa⟩ := h
  obtain ⟨tb, pb, qb⟩ := h'
  refine ⟨_, pe_or pa pb, fun env m σ G Q S R h => ?_⟩
  unfold eOr tBool at h
  rw [bind_bind] at h
  refine qa env m σ G _ S R (GPost.bind weakR h fun w m1 v G1 le1 R1 q1 h1 => ?_)
  cases w with
  | d x =>
    cases x with
    | bool c =>
      cases q1
      refine ⟨c, rfl, ?_⟩
      cases c with
      | true => exact iteT (finD R1 h1 (.bl true))
      | false => exact iteF (qb env m1 σ G1 Q (S.mono le1) R1 h1)
    | _ => exact False.elim h1
  | _ => exact False.elim h1
theorem me_not {a : Expr} {f : EF} {pos : Pos} (h : ME X Wx a f) : ME X Wx (.UnaryOp .Not a pos) (eNot f) := by
  obtain ⟨ta, pa, qa⟩ := h
  refine ⟨_, pe_not pa, fun env m σ G Q S R h => ?_⟩
  unfold eNot tBool at h
  rw [bind_bind] at h
  refine qa env m σ G _ S R (GPost.bind weakR h fun w m1 v G1 le1 R1 q1 h1 => ?_)
  cases w with
  | d x =>
    cases x with
    | bool c => cases q1; exact ⟨c, rfl, finD R1 h1 (.bl (!c))⟩
    | _ => exact False.elim h1
  | _ => exact False.elim h1
theorem me_if {c a b : Expr} {fc : TF} {f g : EF} {pos : Pos} (hc : MT X Wx c fc) (h : ME X Wx a f) (h' : ME X Wx b g) : ME X Wx (.IfExp c a b pos) (eIf fc f g) := by
  obtain ⟨tc, pc, qc⟩ := hc
  obtain ⟨ta, pa, qa⟩ := h
  obtain ⟨tb, pb, qb⟩ := h'
  refine ⟨_, pe_ifExp pc pa pb, fun env m σ G Q S R h => qc env m σ G _ S R (GPost.bind weakR h fun k m1 v G1 le1 R1 q1 h1 => ?_)⟩
  rw [show v = k from q1]
  cases k with
  | true => exact iteT (qa env m1 σ G1 Q (S.mono le1) R1 h1)
  | false => exact iteF (qb env m1 σ G1 Q (S.mono le1) R1 h1)

/-! ### fresh lists: as data, as objects -/
def eFrz (f : EF) (env : Env) (m : Mem) : Res W := (f env m).bind fun w m1 => match w with
  | .fl ds => .ok (.d (.list ds)) m1
  | w => .ok w m1
def eObj (f : EF) (env : Env) (m : Mem) : Res W := (f env m).bind fun w m1 => match w with
  | .fl ds => .ok (.obj m1.length) (m1 ++ [.lst ds])
  | w => .ok w m1
theorem GPost.bind0 {σ : St} {G : Wd} {α β α' β' : Type} {rel : Hp → Wd → β → α → Prop} {rel' : Hp → Wd → β' → α' → Prop} {r : Res α} {k : α → Mem → Res α'} {Q : β → Hp → Prop} {Q' : β' → Hp → Prop}
    (h : GPost X Wx σ G rel' (r.bind k) Q')
    (hk : ∀ a m v G1, Le G G1 → RelM X.K G1 m → rel G.H G1 v a → GPost X Wx σ G rel' (k a m) Q' → Q v G1.H) : GPost X Wx σ G rel r Q := by
  cases r with
  | ok a m => exact fun v G1 le R q => hk a m v G1 le R q h
  | err e m => exact h
  | bad => exact h
theorem GPost.bind1 {σ : St} {G G1 : Wd} {α β α' β' : Type} {rel : Hp → Wd → β → α → Prop} {rel' : Hp → Wd → β' → α' → Prop} {r : Res α} {k : α → Mem → Res α'} {Q : β → Hp → Prop} {Q' : β' → Hp → Prop}
    (h : GPost X Wx σ G rel' (r.bind k) Q') (le : Le G G1)
    (hk : ∀ a m v G2, Le G1 G2 → RelM X.K G2 m → rel G1.H G2 v a → GPost X Wx σ G rel' (k a m) Q' → Q v G2.H) : GPost X Wx σ G1 rel r Q := by
  cases r with
  | ok a m => exact fun v G2 l R q => hk a m v G2 l R q h
  | err e m => exact fun c d G' l R q => h c d G' (le.trans l) R q
  | bad => exact h
theorem frzQ {σ : St} {G : Wd} {Q : VK} {r : Res W} (h : GPost X Wx σ G (RepR X.K) (r.bind fun w m1 => match w with | .fl ds => .ok (.d (.list ds)) m1 | w => .ok w m1) Q) : GPost X Wx σ G (RepR X.K) r Q := by
  refine GPost.bind0 h fun w m1 v G1 le1 R1 q1 h1 => ?_
  cases w with
  | fl ds =>
    obtain ⟨p', vs, rfl, h0, n1, l1, e1, r1⟩ := q1
    exact h1 (.ref p') (G1.drop p') (le1.drop h0) (R1.drop n1) (RepR.drop (v := .ref p') (H0 := G.H) e1 r1)
  | d x => exact h1 v G1 le1 R1 q1
  | obj x => exact h1 v G1 le1 R1 q1
  | ro x => exact h1 v G1 le1 R1 q1
theorem objQ {σ : St} {G : Wd} {Q : VK} {r : Res W} (h : GPost X Wx σ G (RepR X.K) (r.bind fun w m1 => match w with | .fl ds => .ok (.obj m1.length) (m1 ++ [.lst ds]) | w => .ok w m1) Q) : GPost X Wx σ G (RepR X.K) r Q := by
  refine GPost.bind0 h fun w m1 v G1 le1 R1 q1 h1 => ?_
  cases w with
  | fl ds =>
    obtain ⟨p', vs, rfl, h0, n1, l1, e1, r1⟩ := q1
    refine h1 (.ref p') (G1.own p') (le1.own h0) (R1.own n1 (by rw [e1]; simp) ⟨l1, vs, e1, r1⟩ rfl) ⟨p', ?_, rfl⟩
    show (G1.io ++ [p'])[m1.length]? = some p'
    rw [← R1.len]; simp
  | d x => exact h1 v G1 le1 R1 q1
  | obj x => exact h1 v G1 le1 R1 q1
  | ro x => exact h1 v G1 le1 R1 q1
theorem me_frz {e : Expr} {f : EF} (h : ME X Wx e f) : ME X Wx e (eFrz f) := by
  obtain ⟨t, p, q⟩ := h
  exact ⟨t, p, fun env m σ G Q S R h => q env m σ G Q S R (frzQ h)⟩
theorem me_obj {e : Expr} {f : EF} (h : ME X Wx e f) : ME X Wx e (eObj f) := by
  obtain ⟨t, p, q⟩ := h
  exact ⟨t, p, fun env m σ G Q S R h => q env m σ G Q S R (objQ h)⟩

/-! ### argument lists, tuples, lists -/
def aNil (_ : Env) (m : Mem) : Res (List W) := .ok [] m
def aCons (a : EF) (r : AF) (env : Env) (m : Mem) : Res (List W) := (a env m).bind fun x m1 => (r env m1).bind fun xs m2 => .ok (x :: xs) m2
theorem ma_nil : MA X Wx [] aNil := ⟨_, pa_nil, fun env m σ G Q S R h => h [] G (Le.refl R) R .nil⟩
theorem ma_cons {e : Expr} {es : List Expr} {f : EF} {g : AF} (ha : ME X Wx e f) (hr : MA X Wx es g) (hs : starEach (e :: es) X.env = (false, eval e X.env) :: starEach es X.env := by rfl) : MA X Wx (e :: es) (aCons f g) := by
  obtain ⟨ta, pa, qa⟩ := ha
  obtain ⟨tr, pr, qr⟩ := hr
  refine ⟨_, pa_cons pa pr hs, fun env m σ G Q S R h => qa env m σ G _ S R (GPost.bind0 h fun x m1 v G1 le1 R1 q1 h1 => ?_)⟩
  refine qr env m1 σ G1 _ (S.mono le1) R1 (GPost.bind1 h1 le1 fun xs m2 vs G2 le2 R2 q2 h2 => ?_)
  exact h2 (v :: vs) G2 (le1.trans le2) R2 (.cons (q1.mono le2) (Paired.mono (fun _ _ z => z.weak le1.tr) q2))
/-- the data of a list of values -/
def asDs : List W → Option (List D)
  | [] => some []
  | .d x :: r => (asDs r).map (x :: ·)
  | _ :: _ => none
theorem asDs_reps {K : PySem.W.Frag} {H0 : Hp} {G : Wd} : ∀ {vs : List V} {ws : List W} {ds : List D}, RepRs K H0 G vs ws → asDs ws = some ds → Reps K G.lv G.H vs ds
  | _, [], ds, .nil, e => by cases e; exact .nil
  | _, .d x :: r, ds, .cons h t, e => by
    simp only [asDs] at e
    cases q : asDs r with
    | none => rw [q] at e; cases e
    | some es => rw [q] at e; cases e; exact .cons h (asDs_reps t q)
  | _, .obj _ :: _, _, .cons _ _, e => by cases e
  | _, .fl _ :: _, _, .cons _ _, e => by cases e
  | _, .ro _ :: _, _, .cons _ _, e => by cases e
def eTup (a : AF) (env : Env) (m : Mem) : Res W := (a env m).bind fun ws m1 => match asDs ws with
  | some ds => if ds.length ≤ sizeLine then .ok (.d (.tuple ds)) m1 else .bad
  | none => .bad
def eLst (a : AF) (env : Env) (m : Mem) : Res W := (a env m).bind fun ws m1 => match asDs ws with
  | some ds => if ds.length ≤ sizeLine then .ok (.fl ds) m1 else .bad
  | none => .bad
theorem me_tup {es : List Expr} {f : AF} {x1} {pos : Pos} (h : MA X Wx es f) : ME X Wx (.Tuple es x1 pos) (eTup f) := by
  obtain ⟨t, p, q⟩ := h
  refine ⟨_, pe_tup p, fun env m σ G Q S R h => q env m σ G _ S R (GPost.bind weakR h fun ws m1 vs G1 le1 R1 q1 h1 => ?_)⟩
  cases e : asDs ws with
  | none => rw [e] at h1; exact False.elim h1
  | some ds =>
    rw [e] at h1
    have r := asDs_reps q1 e
    by_cases hz : ds.length ≤ sizeLine
    · simp only [hz, if_true] at h1
      exact ⟨by rw [r.length]; exact hz, fun p hp => finT R1 h1 r hp⟩
    · simp only [hz, if_false] at h1
      exact False.elim h1
theorem me_lst {es : List Expr} {f : AF} {pos : Pos} (h : MA X Wx es f) : ME X Wx (.List es pos) (eLst f) := by
  obtain ⟨t, p, q⟩ := h
  refine ⟨_, pe_lst p, fun env m σ G Q S R h => q env m σ G _ S R (GPost.bind weakR h fun ws m1 vs G1 le1 R1 q1 h1 => ?_)⟩
  cases e : asDs ws with
  | none => rw [e] at h1; exact False.elim h1
  | some ds =>
    rw [e] at h1
    have r := asDs_reps q1 e
    by_cases hz : ds.length ≤ sizeLine
    · simp only [hz, if_true] at h1
      exact ⟨by rw [r.length]; exact hz, fun p hp => finL R1 h1 r hp⟩
    · simp only [hz, if_false] at h1
      exact False.elim h1

/-! ### calls of built-ins -/
def CallOk (X : Cx) (Wx : WX) (r : List V → Hp → VK → Prop) (g : List W → Mem → Res W) : Prop :=
  ∀ (σ : St) (G : Wd) (m : Mem) (vs : List V) (ws : List W) (H0 : Hp) (Q : VK), RelM X.K G m → RepRs X.K H0 G vs ws → GPost X Wx σ G (RepR X.K) (g ws m) Q → r vs G.H Q
def eCall (g : List W → Mem → Res W) (a : AF) (env : Env) (m : Mem) : Res W := (a env m).bind g
theorem me_callB {id : String} {x : Str} {p pos : Pos} {e : Expr} {es : List Expr} {r : List V → Hp → VK → Prop} {g : List W → Mem → Res W} {f : AF} (hc : CallR X (.builtin id) r) (hk : CallOk X Wx r g) (hg : Gl X x) (hm : X.mg x = none) (ha : MA X Wx (e :: es) f)
    (hv : bootBuiltins x = some (.builtin id) := by decide +kernel) (hn : x ≠ "__name__" := by decide) (hdb : (x == ("__debug__" : Str)) = false := by decide)
    (he : starEach (e :: es) X.env = (false, eval e X.env) :: starEach es X.env := by rfl) (hpl : (backTo pos (starEach es X.env)).any (·.1) = false := by rfl) : ME X Wx (.Call (.Name x p) (e :: es) [] pos) (eCall g f) := by
  obtain ⟨t, pa, qa⟩ := ha
  refine ⟨_, pe_callB hc hg hm hv pa hn hdb he hpl, fun env m σ G Q S R h => qa env m σ G _ S R (GPost.bind weakR h fun ws m1 vs G1 le1 R1 q1 h1 => ?_)⟩
  exact hk σ G1 m1 vs ws _ Q R1 q1 h1
theorem me_callTy {T : String} {x : Str} {p pos : Pos} {e : Expr} {es : List Expr} {r : List V → Hp → VK → Prop} {g : List W → Mem → Res W} {f : AF} (hc : CallR X (.type T) r) (hk : CallOk X Wx r g) (hg : Gl X x) (hm : X.mg x = none) (ha : MA X Wx (e :: es) f)
    (hv : bootBuiltins x = some (.type T) := by decide +kernel) (hn : x ≠ "__name__" := by decide) (hdb : (x == ("__debug__" : Str)) = false := by decide)
    (he : starEach (e :: es) X.env = (false, eval e X.env) :: starEach es X.env := by rfl) (hpl : (backTo pos (starEach es X.env)).any (·.1) = false := by rfl) : ME X Wx (.Call (.Name x p) (e :: es) [] pos) (eCall g f) := by
  obtain ⟨t, pa, qa⟩ := ha
  refine ⟨_, pe_callTy hc hg hm hv pa hn hdb he hpl, fun env m σ G Q S R h => qa env m σ G _ S R (GPost.bind weakR h fun ws m1 vs G1 le1 R1 q1 h1 => ?_)⟩
  exact hk σ G1 m1 vs ws _ Q R1 q1 h1
/-! ### subscripts -/
theorem me_ix {r : R2} {g : W → W → Mem → Res W} {a b : Expr} {fa fb : EF} {pos : Pos} (hr : IxR X r) (hg : OpOk X Wx r g) (ha : ME X Wx a fa) (hb : ME X Wx b fb) (hs : PlainIx b := by exact fun _ _ => rfl) : ME X Wx (.Subscript a b pos) (eOp g fa fb) := by
  obtain ⟨ta, pa, qa⟩ := ha
  obtain ⟨tb, pb, qb⟩ := hb
  exact ⟨_, pe_ix hr pa pb hs, fun env m σ G Q S R h => two (a := a) (b := b) hg qa qb env m σ G Q S R h⟩
/-! ### slices -/
abbrev OF := Env → Mem → Res (Option Int)
def MO (X : Cx) (Wx : WX) (e : Option Expr) (f : OF) : Prop :=
  ∃ t, PO X e t ∧ ∀ env m σ G Q, RelS X.K G σ env → RelM X.K G m → GPost X Wx σ G relEq (f env m) Q → t σ G.H Q
def oNone (_ : Env) (m : Mem) : Res (Option Int) := .ok none m
def oSome (f : EF) (env : Env) (m : Mem) : Res (Option Int) := (f env m).bind fun w m1 => match w with
  | .d (.int i) => .ok (some i) m1
  | _ => .bad
theorem mo_none : MO X Wx none oNone := ⟨_, po_none, fun env m σ G Q S R h => h none G (Le.refl R) R rfl⟩
theorem mo_some {e : Expr} {f : EF} (h : ME X Wx e f) : MO X Wx (some e) (oSome f) := by
  obtain ⟨t, p, q⟩ := h
  refine ⟨_, po_some p, fun env m σ G Q S R h => q env m σ G _ S R (GPost.bind weakEq h fun w m1 v G1 le1 R1 q1 h1 => ?_)⟩
  cases w with
  | d x =>
    cases x with
    | int i => cases q1; exact ⟨i, rfl, h1 (some i) G1 (Le.refl R1) R1 rfl⟩
    | _ => exact False.elim h1
  | _ => exact False.elim h1
def SlOk (X : Cx) (Wx : WX) (r : V → Option Int → Option Int → Hp → VK → Prop) (g : W → Option Int → Option Int → Mem → Res W) : Prop :=
  ∀ (σ : St) (G : Wd) (m : Mem) (v : V) (x : W) (lo hi : Option Int) (H0 : Hp) (Q : VK), RelM X.K G m → RepR X.K H0 G v x → GPost X Wx σ G (RepR X.K) (g x lo hi m) Q → r v lo hi G.H Q
def eSl (g : W → Option Int → Option Int → Mem → Res W) (a : EF) (lo hi : OF) (env : Env) (m : Mem) : Res W := (a env m).bind fun x m1 => (lo env m1).bind fun l m2 => (hi env m2).bind fun h m3 => g x l h m3
theorem me_slice {r : V → Option Int → Option Int → Hp → VK → Prop} {g : W → Option Int → Option Int → Mem → Res W} {e : Expr} {lo hi : Option Expr} {f : EF} {fl fh : OF} {p2 pos : Pos} (hr : SlR X r) (hg : SlOk X Wx r g) (he : ME X Wx e f) (hl : MO X Wx lo fl) (hh : MO X Wx hi fh) :
    ME X Wx (.Subscript e (.Slice lo hi none p2) pos) (eSl g f fl fh) := by
  obtain ⟨te, pe, qe⟩ := he
  obtain ⟨tl, pl, ql⟩ := hl
  obtain ⟨th, ph, qh⟩ := hh
  refine ⟨_, pe_slice hr pe pl ph, fun env m σ G Q S R h => qe env m σ G _ S R (GPost.bind weakR h fun x m1 v G1 le1 R1 q1 h1 => ?_)⟩
  refine ql env m1 σ G1 _ (S.mono le1) R1 (GPost.bind weakR h1 fun l m2 l' G2 le2 R2 q2 h2 => ?_)
  refine qh env m2 σ G2 _ ((S.mono le1).mono le2) R2 (GPost.bind weakR h2 fun k m3 k' G3 le3 R3 q3 h3 => ?_)
  have q2 : l' = l := q2
  have q3 : k' = k := q3
  rw [q2, q3]
  exact hg σ G3 m3 v x l k _ Q R3 (q1.mono (le2.trans le3)) h3
/-! ### methods of built-in types -/
def BmOk (X : Cx) (Wx : WX) (T : String) (r : V → List V → Hp → VK → Prop) (g : W → List W → Mem → Res W) : Prop :=
  (∀ (G : Wd) (m : Mem) (v : V) (x : W) (H0 : Hp) (ws : List W) (m' : Mem), RelM X.K G m → RepR X.K H0 G v x → (g x ws m' matches .ok _ _) → tyV X.K T v G.H) ∧
  ∀ (σ : St) (G : Wd) (m : Mem) (v : V) (x : W) (vs : List V) (ws : List W) (H0 H1 : Hp) (Q : VK), RelM X.K G m → RepR X.K H0 G v x → RepRs X.K H1 G vs ws → GPost X Wx σ G (RepR X.K) (g x ws m) Q → r v vs G.H Q
end
end M

set_option Elab.async false
set_option linter.all false
set_option maxRecDepth 100000
namespace M
open PySem L2
section
variable {X : Cx} {Wx : WX}
/-! ### + -/
def addW (x y : W) (m : Mem) : Res W :=
  match x, y with
  | .d (.int i), .d (.int j) => .ok (.d (.int (i + j))) m
  | .d (.str a), .d (.str b) => if a.length + b.length ≤ sizeLine then .ok (.d (.str (a ++ b))) m else .bad
  | .d (.tuple a), .d (.tuple b) => if a.length + b.length ≤ sizeLine then .ok (.d (.tuple (a ++ b))) m else .bad
  | x, y => match asT x m, asT y m with
    | some a, some b => if a.length + b.length ≤ sizeLine then .ok (.fl (a ++ b)) m else .bad
    | _, _ => .bad
def rAddA (K : PySem.W.Frag) : R2 := fun x y H Q => (rI0 (fun i j => .int (i + j)) x y H Q ∨ (∃ i j, x = .str i ∧ y = .str j ∧ i.length + j.length ≤ sizeLine ∧ Q (.str (i ++ j)) H)) ∨ (rCatA K x y H Q ∨ rCat x y H Q)
theorem op_addA : OpR X (binaryOp .Add) (rAddA X.K) := (op_add.or op_add_str).or (op_catA.or op_cat)
theorem Reps.nil_iff {K : PySem.W.Frag} {lv : List Addr} {H : Hp} {vs : List V} {ds : List D} (r : Reps K lv H vs ds) : vs = [] ↔ ds = [] := by
  cases r with
  | nil => simp
  | cons _ _ => simp
theorem addL_ok {σ : St} {G : Wd} {m : Mem} {v u : V} {x y : W} {H0 H1 : Hp} {Q : VK} (R : RelM X.K G m) (rx : RepR X.K H0 G v x) (ry : RepR X.K H1 G u y)
    (h : GPost X Wx σ G (RepR X.K) (match asT x m, asT y m with | some a, some b => if a.length + b.length ≤ sizeLine then .ok (.fl (a ++ b)) m else .bad | _, _ => .bad) Q) : rAddA X.K v u G.H Q := by
  cases ex : asT x m with
  | none => rw [ex] at h; exact False.elim h
  | some a =>
    cases ey : asT y m with
    | none => rw [ex, ey] at h; exact False.elim h
    | some b =>
      rw [ex, ey] at h
      obtain ⟨p, vs, rfl, h1, r1⟩ := asT_sq R rx ex
      obtain ⟨q, us, rfl, h2, r2⟩ := asT_sq R ry ey
      by_cases hz : a.length + b.length ≤ sizeLine
      · simp only [hz, if_true] at h
        exact .inr (.inr ⟨p, q, vs, us, rfl, rfl, h1, h2, by rw [r1.length, r2.length]; exact hz, fun l hl => finL R h (r1.append r2) hl⟩)
      · simp only [hz, if_false] at h
        exact False.elim h
theorem addW_ok : OpOk X Wx (rAddA X.K) addW := by
  intro σ G m v u x y H0 H1 Q R rx ry h
  cases x with
  | d x =>
    cases y with
    | d y =>
      cases x with
      | int i =>
        cases y with
        | int j => cases rx; cases ry; exact .inl (.inl ⟨i, j, rfl, rfl, finD R h (.int _)⟩)
        | _ => exact addL_ok R rx ry h
      | str a =>
        cases y with
        | str b =>
          cases rx; cases ry
          simp only [addW] at h
          by_cases hz : a.length + b.length ≤ sizeLine
          · simp only [hz, if_true] at h
            exact .inl (.inr ⟨a, b, rfl, rfl, hz, finD R h (.str _)⟩)
          · simp only [hz, if_false] at h
            exact False.elim h
        | _ => exact addL_ok R rx ry h
      | tuple a =>
        cases y with
        | tuple b =>
          simp only [addW] at h
          by_cases hz : a.length + b.length ≤ sizeLine
          · simp only [hz, if_true] at h
            cases rx with
            | @tup p vs _ t1 r1 =>
              cases ry with
              | @tup q us _ t2 r2 =>
                refine .inr (.inl ⟨p, q, vs, us, rfl, rfl, t1.sq, t2.sq, by rw [r1.length, r2.length]; exact hz, fun e => ?_, fun e1 e2 => ?_, fun e1 e2 l hl => finT R h (r1.append r2) hl⟩)
                · have ea := r1.nil_iff.mp e
                  subst ea
                  exact finD R h (.tup t2 r2)
                · have eb := r2.nil_iff.mp e2
                  subst eb
                  rw [List.append_nil] at h
                  exact finD R h (.tup t1 r1)
          · simp only [hz, if_false] at h
            exact False.elim h
        | _ => exact addL_ok R rx ry h
      | _ => exact addL_ok R rx ry h
    | obj j => cases x <;> exact addL_ok R rx ry h
    | fl j => cases x <;> exact addL_ok R rx ry h
    | ro j => cases x <;> exact addL_ok R rx ry h
  | obj i => exact addL_ok R rx ry h
  | fl i => exact addL_ok R rx ry h
  | ro i => exact addL_ok R rx ry h
/-! ### ints -/
/-- a condition that no reduction opens -/
noncomputable def grd (p : Prop) : Bool := @decide p (Classical.propDecidable p)
theorem grd_iff {p : Prop} : grd p = true ↔ p := by
  unfold grd
  exact ⟨fun h => @of_decide_eq_true p (Classical.propDecidable p) h, fun h => @decide_eq_true p (Classical.propDecidable p) h⟩
theorem grd_t {p : Prop} (h : p) : grd p = true := grd_iff.mpr h
def intW (C : Int → Int → Bool) (g : Int → Int → D) (x y : W) (m : Mem) : Res W :=
  match x, y with
  | .d (.int i), .d (.int j) => if C i j = true then .ok (.d (g i j)) m else .bad
  | _, _ => .bad
theorem intW_ok {C : Int → Int → Bool} {P : Int → Int → Prop} {g : Int → Int → V} {g' : Int → Int → D} (hC : ∀ i j, C i j = true → P i j) (hg : ∀ i j K lv H, Rep K lv H (g i j) (g' i j)) : OpOk X Wx (rI P g) (intW C g') := by
  intro σ G m v u x y H0 H1 Q R rx ry h
  cases x with
  | d x =>
    cases x with
    | int i =>
      cases y with
      | d y =>
        cases y with
        | int j =>
          cases rx; cases ry
          simp only [intW] at h
          by_cases hz : C i j = true
          · simp only [hz, if_true] at h
            exact ⟨i, j, rfl, rfl, hC i j hz, finD R h (hg i j _ _ _)⟩
          · simp only [hz] at h
            exact False.elim h
        | _ => exact False.elim h
      | _ => exact False.elim h
    | _ => exact False.elim h
  | _ => exact False.elim h
def int0W (g : Int → Int → D) (x y : W) (m : Mem) : Res W :=
  match x, y with
  | .d (.int i), .d (.int j) => .ok (.d (g i j)) m
  | _, _ => .bad
theorem int0W_ok {g : Int → Int → V} {g' : Int → Int → D} (hg : ∀ i j K lv H, Rep K lv H (g i j) (g' i j)) : OpOk X Wx (rI0 g) (int0W g') := by
  intro σ G m v u x y H0 H1 Q R rx ry h
  cases x with
  | d x =>
    cases x with
    | int i =>
      cases y with
      | d y =>
        cases y with
        | int j => cases rx; cases ry; exact ⟨i, j, rfl, rfl, finD R h (hg i j _ _ _)⟩
        | _ => exact False.elim h
      | _ => exact False.elim h
    | _ => exact False.elim h
  | _ => exact False.elim h
def subW := int0W fun i j => .int (i - j)
theorem subW_ok : OpOk X Wx (rI0 fun i j => .int (i - j)) subW := int0W_ok fun _ _ _ _ _ => .int _
noncomputable def mulOk (i j : Int) : Bool := grd (((-(2 ^ 64) < i ∧ i < 2 ^ 64) ∨ (-(2 ^ 64) < j ∧ j < 2 ^ 64)) ∨ i.natAbs.log2 + j.natAbs.log2 < 1000000)
noncomputable def mulW := intW mulOk fun i j => .int (i * j)
theorem op_mulA : OpR X (binaryOp .Mult) (rI (fun i j => CMul i j ∨ CMulW i j) fun i j => .int (i * j)) := by
  intro pins s σ H x y v u Q I rx ry h
  obtain ⟨i, j, e1, e2, hc | hc, q⟩ := h
  · exact op_mul pins s σ H x y v u Q I rx ry ⟨i, j, e1, e2, hc, q⟩
  · exact op_mulW pins s σ H x y v u Q I rx ry ⟨i, j, e1, e2, hc, q⟩
theorem mulW_ok : OpOk X Wx (rI (fun i j => CMul i j ∨ CMulW i j) fun i j => .int (i * j)) mulW := intW_ok (fun i j h => by
  have h := grd_iff.mp h
  rcases h with (h | h) | h
  · exact .inl (.inl h)
  · exact .inl (.inr h)
  · exact .inr h) fun _ _ _ _ _ => .int _
noncomputable def divOk (_ j : Int) : Bool := grd (0 < j ∧ j.natAbs.log2 < 9000)
noncomputable def divW := intW divOk fun i j => .int (i / j)
theorem divW_ok : OpOk X Wx (rI CDivW fun i j => .int (i / j)) divW := intW_ok (fun i j h => by
  have h := grd_iff.mp h
  exact ⟨h.1, h.2⟩) fun _ _ _ _ _ => .int _
noncomputable def modOk (_ j : Int) : Bool := grd (0 < j)
noncomputable def modW := intW modOk fun i j => .int (i % j)
theorem modW_ok : OpOk X Wx (rI (fun _ j => 0 < j) fun i j => .int (i % j)) modW := intW_ok (fun i j h => grd_iff.mp h) fun _ _ _ _ _ => .int _
noncomputable def powOk (i j : Int) : Bool := grd (0 ≤ j ∧ j ≤ 1000000 ∧ i.natAbs < 2 ^ 64)
noncomputable def powW := intW powOk fun i j => .int (i ^ j.toNat)
theorem powW_ok : OpOk X Wx (rI CPow fun i j => .int (i ^ j.toNat)) powW := intW_ok (fun i j h => by
  exact grd_iff.mp h) fun _ _ _ _ _ => .int _
def ltW := int0W fun i j => .bool (decide (i < j))
def leW := int0W fun i j => .bool (decide (i ≤ j))
def gtW := int0W fun i j => .bool (decide (j < i))
def geW := int0W fun i j => .bool (decide (j ≤ i))
theorem ltW_ok : OpOk X Wx (rI0 fun i j => .bl (decide (i < j))) ltW := int0W_ok fun _ _ _ _ _ => .bl _
theorem leW_ok : OpOk X Wx (rI0 fun i j => .bl (decide (i ≤ j))) leW := int0W_ok fun _ _ _ _ _ => .bl _
theorem gtW_ok : OpOk X Wx (rI0 fun i j => .bl (decide (j < i))) gtW := int0W_ok fun _ _ _ _ _ => .bl _
theorem geW_ok : OpOk X Wx (rI0 fun i j => .bl (decide (j ≤ i))) geW := int0W_ok fun _ _ _ _ _ => .bl _
/-! ### ==, !=, in -/
def eqW (neg : Bool) (x y : W) (m : Mem) : Res W :=
  match asD x m, asD y m with
  | some a, some b => if (SeqAt.shaped a && SeqAt.shaped b) = true then .ok (.d (.bool (if neg then !PyData.eqv a b else PyData.eqv a b))) m else .bad
  | _, _ => .bad
theorem eqW_ok : OpOk X Wx (rEqD X.K) (eqW false) := by
  intro σ G m v u x y H0 H1 Q R rx ry h
  unfold eqW at h
  cases ex : asD x m with
  | none => rw [ex] at h; exact False.elim h
  | some a =>
    cases ey : asD y m with
    | none => rw [ex, ey] at h; exact False.elim h
    | some b =>
      rw [ex, ey] at h
      by_cases hz : (SeqAt.shaped a && SeqAt.shaped b) = true
      · simp only [hz, if_true] at h
        have hz' := Bool.and_eq_true_iff.mp hz
        exact ⟨a, b, asD_dp R rx ex, asD_dp R ry ey, hz'.1, hz'.2, finD R h (.bl _)⟩
      · simp only [hz] at h
        exact False.elim h
theorem neW_ok : OpOk X Wx (rNeD X.K) (eqW true) := by
  intro σ G m v u x y H0 H1 Q R rx ry h
  unfold eqW at h
  cases ex : asD x m with
  | none => rw [ex] at h; exact False.elim h
  | some a =>
    cases ey : asD y m with
    | none => rw [ex, ey] at h; exact False.elim h
    | some b =>
      rw [ex, ey] at h
      by_cases hz : (SeqAt.shaped a && SeqAt.shaped b) = true
      · simp only [hz, if_true] at h
        have hz' := Bool.and_eq_true_iff.mp hz
        exact ⟨a, b, asD_dp R rx ex, asD_dp R ry ey, hz'.1, hz'.2, finD R h (.bl _)⟩
      · simp only [hz] at h
        exact False.elim h
/-! ### in -/
def flatD : D → Bool
  | .none => true
  | .bool _ => true
  | .int _ => true
  | .str _ => true
  | _ => false
theorem flat_rep {K : PySem.W.Frag} {lv : List Addr} {H : Hp} {v : V} {x : D} (r : Rep K lv H v x) (f : flatD x = true) : flatV v = true := by
  cases r <;> first | rfl | (exact absurd f (by simp [flatD]))
theorem eqV_eqv {K : PySem.W.Frag} {lv : List Addr} {H : Hp} {v u : V} {x y : D} (r : Rep K lv H v x) (q : Rep K lv H u y) (f : flatD x = true) (g : flatD y = true) : eqV v u = PyData.eqv x y := by
  cases r <;> cases q <;> first | rfl | (exact absurd f (by simp [flatD])) | (exact absurd g (by simp [flatD])) | simp [eqV, PyData.eqv]
theorem flats {K : PySem.W.Frag} {lv : List Addr} {H : Hp} : ∀ {vs : List V} {ds : List D}, Reps K lv H vs ds → ds.all flatD = true → vs.all flatV = true
  | _, _, .nil, _ => rfl
  | _, _, .cons h r, f => by
    rw [List.all_cons, Bool.and_eq_true] at f ⊢
    exact ⟨flat_rep h f.1, flats r f.2⟩
theorem inV_any {K : PySem.W.Frag} {lv : List Addr} {H : Hp} {v : V} {x : D} (q : Rep K lv H v x) (fx : flatD x = true) : ∀ {vs : List V} {ds : List D}, Reps K lv H vs ds → ds.all flatD = true → inV v vs = ds.any fun z => PyData.eqv z x
  | _, _, .nil, _ => rfl
  | _, _, .cons h r, f => by
    rw [List.all_cons, Bool.and_eq_true] at f
    have e1 := eqV_eqv h q f.1 fx
    have e2 := inV_any q fx r f.2
    unfold inV at e2 ⊢
    rw [List.any_cons, List.any_cons, e1, e2]
def inS (a b : Str) : Bool := match a.cps.toList with
  | [c] => decide (c ∈ b.cps.toList)
  | _ => !(Builtin.Str.occurrences b a 0 b.length 1).isEmpty
def ngB (neg b : Bool) : Bool := if neg then !b else b
def inW (neg : Bool) (x y : W) (m : Mem) : Res W :=
  match x, y with
  | .d (.str a), .d (.str b) => .ok (.d (.bool (ngB neg (inS a b)))) m
  | .d x, .d (.tuple ds) => if (flatD x && ds.all flatD) = true then .ok (.d (.bool (ngB neg (ds.any fun z => PyData.eqv z x)))) m else .bad
  | x, y => match asD x m, asL y m with
    | some a, some ds => if (SeqAt.shaped a && SeqAt.shaped (.list ds)) = true then .ok (.d (.bool (ngB neg (ds.any fun z => PyData.eqv z a)))) m else .bad
    | _, _ => .bad
def rInA (K : PySem.W.Frag) (neg : Bool) : R2 := fun x y H Q =>
  (∃ i j, x = .str i ∧ y = .str j ∧ Q (.bl (ngB neg (inS i j))) H) ∨
  (∃ p xs, y = .ref p ∧ SqT K H p xs ∧ flatV x = true ∧ xs.all flatV = true ∧ Q (.bl (ngB neg (inV x xs))) H) ∨
  (∃ d ds, Dp K H x d ∧ Dp K H y (.list ds) ∧ SeqAt.shaped d = true ∧ SeqAt.shaped (.list ds) = true ∧ Q (.bl (ngB neg (ds.any fun z => PyData.eqv z d))) H)
theorem one_sign {a : Str} {c : Nat} (h : a.cps.toList = [c]) : a = ⟨#[c]⟩ := by
  cases a with
  | mk cps =>
    have : cps = #[c] := by
      apply Array.ext'
      simpa using h
    rw [this]
theorem op_inA (hu : X.A.units + 65 < cLine) : OpR X (compareOp .In) (rInA X.K false) := by
  intro pins s σ H x y v u Q I rx ry h
  rcases h with ⟨i, j, e1, e2, q⟩ | ⟨p, xs, e1, h1, h2, h3, q⟩ | ⟨d, ds, h1, h2, h3, h4, q⟩
  · have q : Q (.bl (inS i j)) H := q
    unfold inS at q
    split at q
    · rename_i c hc
      exact op_in_sign pins s σ H x y v u Q I rx ry ⟨c, j, by rw [e1, one_sign hc], e2, q⟩
    · exact op_in_str pins s σ H x y v u Q I rx ry ⟨i, j, e1, e2, q⟩
  · exact op_in_seq pins s σ H x y v u Q I rx ry ⟨p, xs, e1, .inr h1, h2, h3, q⟩
  · exact op_inD hu pins s σ H x y v u Q I rx ry ⟨d, ds, h1, h2, h3, h4, q⟩
theorem op_notInA (hu : X.A.units + 65 < cLine) : OpR X (compareOp .NotIn) (rInA X.K true) := by
  intro pins s σ H x y v u Q I rx ry h
  rcases h with ⟨i, j, e1, e2, q⟩ | ⟨p, xs, e1, h1, h2, h3, q⟩ | ⟨d, ds, h1, h2, h3, h4, q⟩
  · have q : Q (.bl (!inS i j)) H := q
    unfold inS at q
    split at q
    · rename_i c hc
      exact op_notIn_sign pins s σ H x y v u Q I rx ry ⟨c, j, by rw [e1, one_sign hc], e2, q⟩
    · exact op_notin_str pins s σ H x y v u Q I rx ry ⟨i, j, e1, e2, q⟩
  · exact op_notIn_seq pins s σ H x y v u Q I rx ry ⟨p, xs, e1, .inr h1, h2, h3, q⟩
  · exact op_notInD hu pins s σ H x y v u Q I rx ry ⟨d, ds, h1, h2, h3, h4, q⟩
theorem inL_ok {neg : Bool} {σ : St} {G : Wd} {m : Mem} {v u : V} {x y : W} {H0 H1 : Hp} {Q : VK} (R : RelM X.K G m) (rx : RepR X.K H0 G v x) (ry : RepR X.K H1 G u y)
    (h : GPost X Wx σ G (RepR X.K) (match asD x m, asL y m with | some a, some ds => if (SeqAt.shaped a && SeqAt.shaped (.list ds)) = true then .ok (.d (.bool (ngB neg (ds.any fun z => PyData.eqv z a)))) m else .bad | _, _ => .bad) Q) : rInA X.K neg v u G.H Q := by
  cases ex : asD x m with
  | none => rw [ex] at h; exact False.elim h
  | some a =>
    cases ey : asL y m with
    | none => rw [ex, ey] at h; exact False.elim h
    | some ds =>
      rw [ex, ey] at h
      by_cases hz : (SeqAt.shaped a && SeqAt.shaped (.list ds)) = true
      · simp only [hz, if_true] at h
        have hz' := Bool.and_eq_true_iff.mp hz
        obtain ⟨p, vs, rfl, h1, r1⟩ := asL_sq R ry ey
        exact .inr (.inr ⟨a, ds, asD_dp R rx ex, .lst h1 r1.dp, hz'.1, hz'.2, finD R h (.bl _)⟩)
      · simp only [hz] at h
        exact False.elim h
theorem inT_ok {neg : Bool} {σ : St} {G : Wd} {m : Mem} {v u : V} {x : D} {ds : List D} {Q : VK} (R : RelM X.K G m) (rx : Rep X.K G.lv G.H v x) (ry : Rep X.K G.lv G.H u (.tuple ds))
    (h : GPost X Wx σ G (RepR X.K) (if (flatD x && ds.all flatD) = true then .ok (.d (.bool (ngB neg (ds.any fun z => PyData.eqv z x)))) m else .bad) Q) : rInA X.K neg v u G.H Q := by
  by_cases hz : (flatD x && ds.all flatD) = true
  · simp only [hz, if_true] at h
    have hz' := Bool.and_eq_true_iff.mp hz
    cases ry with
    | tup t r => exact .inr (.inl ⟨_, _, rfl, t.sq, flat_rep rx hz'.1, flats r hz'.2, by rw [inV_any rx hz'.1 r hz'.2]; exact finD R h (.bl _)⟩)
  · simp only [hz] at h
    exact False.elim h
theorem inW_ok {neg : Bool} : OpOk X Wx (rInA X.K neg) (inW neg) := by
  intro σ G m v u x y H0 H1 Q R rx ry h
  cases x with
  | d x =>
    cases y with
    | d y =>
      cases y with
      | str b =>
        cases x with
        | str a => cases rx; cases ry; exact .inl ⟨a, b, rfl, rfl, finD R h (.bl _)⟩
        | _ => exact inL_ok R rx ry h
      | tuple b => cases x <;> exact inT_ok R rx ry h
      | _ => cases x <;> exact inL_ok R rx ry h
    | _ => cases x <;> exact inL_ok R rx ry h
  | _ => cases y <;> exact inL_ok R rx ry h
/-! ### is None -/
def isNW (neg : Bool) (x y : W) (m : Mem) : Res W :=
  match y with
  | .d .none => match x with
    | .d .none => .ok (.d (.bool (ngB neg true))) m
    | _ => .ok (.d (.bool (ngB neg false))) m
  | _ => .bad
def rIsN (neg : Bool) : R2 := fun x y H Q => y = .non ∧ Q (.bl (ngB neg (decide (x = .non)))) H
theorem op_isA : OpR X (compareOp .Is) (rIsN false) := op_isN
theorem op_isNotA : OpR X (compareOp .IsNot) (rIsN true) := op_notN
theorem isNW_ok {neg : Bool} : OpOk X Wx (rIsN neg) (isNW neg) := by
  intro σ G m v u x y H0 H1 Q R rx ry h
  cases y with
  | d y =>
    cases y with
    | none =>
      cases ry
      refine ⟨rfl, ?_⟩
      have no : v ≠ .non → GPost X Wx σ G (RepR X.K) (.ok (.d (.bool (ngB neg false))) m) Q → Q (.bl (ngB neg (decide (v = .non)))) G.H := fun hv h => by
        rw [decide_eq_false hv]; exact finD R h (.bl _)
      cases x with
      | d x =>
        cases x with
        | none => cases rx; exact finD R h (.bl _)
        | _ => cases rx <;> exact no (by simp) h
      | obj i => obtain ⟨a, _, rfl⟩ := rx; exact no (by simp) h
      | fl i => obtain ⟨a, _, rfl, _⟩ := rx; exact no (by simp) h
      | ro i => obtain ⟨a, _, rfl, _⟩ := rx; exact no (by simp) h
    | _ => exact False.elim h
  | _ => exact False.elim h
/-! ### items, slices -/
def ixW (x y : W) (m : Mem) : Res W :=
  match x, y with
  | .d (.str z), .d (.int i) => if z.length ≤ sizeLine then (match atI z.cps.toList i with | some c => .ok (.d (.str ⟨#[c]⟩)) m | none => .bad) else .bad
  | .d (.tuple ds), .d (.int i) => (match atI ds i with | some c => .ok (.d c) m | none => .bad)
  | x, .d (.int i) => (match asL x m with | some ds => (match atI ds i with | some c => .ok (.d c) m | none => .bad) | none => .bad)
  | _, _ => .bad
theorem Reps.atI {K : PySem.W.Frag} {lv : List Addr} {H : Hp} {vs : List V} {ds : List D} {i : Int} {c : D} (r : Reps K lv H vs ds) (e : L2.atI ds i = some c) : ∃ v, L2.atI vs i = some v ∧ Rep K lv H v c := by
  unfold L2.atI at e ⊢
  rw [r.length]
  cases q : ixN ds.length i with
  | none => rw [q] at e; cases e
  | some j =>
    rw [q] at e
    exact r.get e
theorem ixL_ok {σ : St} {G : Wd} {m : Mem} {v : V} {x : W} {i : Int} {H0 : Hp} {Q : VK} (R : RelM X.K G m) (rx : RepR X.K H0 G v x)
    (h : GPost X Wx σ G (RepR X.K) (match asL x m with | some ds => (match L2.atI ds i with | some c => .ok (.d c) m | none => .bad) | none => .bad) Q) : rIx X.K v (.int i) G.H Q := by
  cases ex : asL x m with
  | none => rw [ex] at h; exact False.elim h
  | some ds =>
    rw [ex] at h
    obtain ⟨p, vs, rfl, h1, r1⟩ := asL_sq R rx ex
    cases ea : L2.atI ds i with
    | none => simp only [ea] at h; exact False.elim h
    | some c =>
      simp only [ea] at h
      obtain ⟨w, h2, h3⟩ := r1.atI ea
      exact .inl ⟨p, vs, i, w, rfl, rfl, h1, h2, finD R h h3⟩
theorem ixW_ok : OpOk X Wx (rIx X.K) ixW := by
  intro σ G m v u x y H0 H1 Q R rx ry h
  cases y with
  | d y =>
    cases y with
    | int i =>
      cases ry
      cases x with
      | d x =>
        cases x with
        | str z =>
          cases rx
          simp only [ixW] at h
          by_cases hz : z.length ≤ sizeLine
          · simp only [hz, if_true] at h
            cases ea : L2.atI z.cps.toList i with
            | none => simp only [ea] at h; exact False.elim h
            | some c => simp only [ea] at h; exact .inr (.inr ⟨z, i, c, rfl, rfl, hz, ea, finD R h (.str _)⟩)
          · simp only [hz, if_false] at h; exact False.elim h
        | tuple ds =>
          simp only [ixW] at h
          cases rx with
          | @tup p vs _ t r =>
            cases ea : L2.atI ds i with
            | none => simp only [ea] at h; exact False.elim h
            | some c =>
              simp only [ea] at h
              obtain ⟨w, h2, h3⟩ := r.atI ea
              exact .inr (.inl ⟨p, vs, i, w, rfl, rfl, t.sq, h2, finD R h h3⟩)
        | _ => exact ixL_ok R rx h
      | _ => exact ixL_ok R rx h
    | _ => cases x <;> first | exact False.elim h | (rename_i x; cases x <;> exact False.elim h)
  | _ => cases x <;> first | exact False.elim h | (rename_i x; cases x <;> exact False.elim h)
def cutD (xs : List D) (lo hi : Option Int) : List D := (xs.drop (HT.sIx xs.length 0 lo)).take (HT.sIx xs.length xs.length hi - HT.sIx xs.length 0 lo)
theorem Reps.cut {K : PySem.W.Frag} {lv : List Addr} {H : Hp} {vs : List V} {ds : List D} (r : Reps K lv H vs ds) (lo hi : Option Int) : Reps K lv H (cutV vs lo hi) (cutD ds lo hi) := by
  unfold cutV cutD
  rw [r.length]
  exact (r.drop _).take _
def slW (x : W) (lo hi : Option Int) (m : Mem) : Res W :=
  match x with
  | .d (.str z) => if z.length ≤ sizeLine then .ok (.d (.str (cutS z lo hi))) m else .bad
  | .d (.tuple ds) => .ok (.d (.tuple (cutD ds lo hi))) m
  | x => match asL x m with
    | some ds => .ok (.fl (cutD ds lo hi)) m
    | none => .bad
def rSlAll (K : PySem.W.Frag) : V → Option Int → Option Int → Hp → VK → Prop := fun x lo hi H Q => rSlS x lo hi H Q ∨ (rSlA K x lo hi H Q ∨ rSlL K x lo hi H Q)
theorem sl_all : SlR X (rSlAll X.K) := SlR.or sl_str (SlR.or sl_tupA sl_list)
theorem slL_ok {σ : St} {G : Wd} {m : Mem} {v : V} {x : W} {lo hi : Option Int} {H0 : Hp} {Q : VK} (R : RelM X.K G m) (rx : RepR X.K H0 G v x)
    (h : GPost X Wx σ G (RepR X.K) (match asL x m with | some ds => .ok (.fl (cutD ds lo hi)) m | none => .bad) Q) : rSlAll X.K v lo hi G.H Q := by
  cases ex : asL x m with
  | none => rw [ex] at h; exact False.elim h
  | some ds =>
    rw [ex] at h
    obtain ⟨p, vs, rfl, h1, r1⟩ := asL_sq R rx ex
    exact .inr (.inr ⟨p, vs, rfl, h1, fun l hl => finL R h (r1.cut lo hi) hl⟩)
theorem slW_ok : SlOk X Wx (rSlAll X.K) slW := by
  intro σ G m v x lo hi H0 Q R rx h
  cases x with
  | d x =>
    cases x with
    | str z =>
      cases rx
      simp only [slW] at h
      by_cases hz : z.length ≤ sizeLine
      · simp only [hz, if_true] at h
        exact .inl ⟨z, rfl, hz, finD R h (.str _)⟩
      · simp only [hz, if_false] at h; exact False.elim h
    | tuple ds =>
      cases rx with
      | @tup p vs _ t r =>
        refine .inr (.inl ⟨p, vs, rfl, t.sq, fun e => ?_, fun e l hl => finT R h (r.cut lo hi) hl⟩)
        refine finD R h ?_
        have ec : cutD ds lo hi = ds := by
          unfold cutD
          rw [← r.length, e.1, e.2, r.length, Nat.sub_zero, List.drop_zero, List.take_length]
        rw [ec]
        exact .tup t r
    | _ => exact slL_ok R rx h
  | _ => exact slL_ok R rx h
end
end M

set_option Elab.async false
set_option linter.all false
set_option maxRecDepth 100000
namespace M
open PySem L2
section
variable {X : Cx} {Wx : WX}
/-! ### from expressions to statements -/
def eS {α : Type} (r : Res α) (env : Env) (k : α → Mem → SRes) : SRes := match r with
  | .ok a m => k a m
  | .err e m => .err e env m
  | .bad => .bad
@[simp] theorem eS_ok {α : Type} (a : α) (m : Mem) (env : Env) (k : α → Mem → SRes) : eS (.ok a m) env k = k a m := rfl
@[simp] theorem eS_err {α : Type} (e : Exn) (m : Mem) (env : Env) (k : α → Mem → SRes) : eS (.err e m) env k = .err e env m := rfl
@[simp] theorem eS_bad {α : Type} (env : Env) (k : α → Mem → SRes) : eS (.bad : Res α) env k = .bad := rfl
theorem SPost.ofE0 {α β : Type} {rel : Hp → Wd → β → α → Prop} {σ : St} {G : Wd} {env : Env} {r : Res α} {k : α → Mem → SRes} {E : Ends} {Q : β → Hp → Prop} (h : SPost X Wx G (eS r env k) E) (S : RelS X.K G σ env)
    (hk : ∀ a m v G1, Le G G1 → RelM X.K G1 m → rel G.H G1 v a → SPost X Wx G (k a m) E → Q v G1.H) : GPost X Wx σ G rel r Q := by
  cases r with
  | ok a m => exact fun v G1 le R q => hk a m v G1 le R q h
  | err e m => exact fun c d G' le R q => h c d σ G' le R (S.mono le) q
  | bad => exact h
theorem SPost.ofE {α β : Type} {rel : Hp → Wd → β → α → Prop} {σ : St} {G : Wd} {env : Env} {r : Res α} {k : α → Mem → SRes} {E : Ends} {Q : β → Hp → Prop} (h : SPost X Wx G (eS r env k) E) (S : RelS X.K G σ env)
    (hk : ∀ a m v G1, Le G G1 → RelM X.K G1 m → rel G.H G1 v a → SPost X Wx G1 (k a m) E → Q v G1.H) : GPost X Wx σ G rel r Q :=
  SPost.ofE0 h S fun a m v G1 le R q hq => hk a m v G1 le R q (hq.later le)
/-! ### blocks -/
def sNx (env : Env) (m : Mem) : SRes := .nx env m
def sSeq (a b : SF) (env : Env) (m : Mem) : SRes := match a env m with
  | .nx e m1 => b e m1
  | r => r
theorem mb_nil : MB X Wx [] sNx := ⟨_, pss_nil, fun env m σ G E S R h => h σ G (Le.refl R) R S⟩
theorem mb_one {st : Stmt} {f : SF} (h : MS X Wx st f) : MB X Wx [st] f := let ⟨t, p, q⟩ := h; ⟨t, pss_one p, q⟩
theorem mb_cons {st : Stmt} {rest : List Stmt} {f g : SF} (h : MS X Wx st f) (h' : MB X Wx rest g) : MB X Wx (st :: rest) (sSeq f g) := by
  obtain ⟨ta, pa, qa⟩ := h
  obtain ⟨tb, pb, qb⟩ := h'
  refine ⟨_, pss_cons pa pb, fun env m σ G E S R h => qa env m σ G _ S R ?_⟩
  unfold sSeq at h
  cases e : f env m with
  | nx e1 m1 => rw [e] at h; exact fun σ' G' le R' S' => qb e1 m1 σ' G' E S' R' (SPost.later h le)
  | bk e1 m1 => rw [e] at h; exact h
  | ct e1 m1 => rw [e] at h; exact h
  | rt w m1 => rw [e] at h; exact h
  | err x e1 m1 => rw [e] at h; exact h
  | bad => rw [e] at h; exact h
def sBad (_ : Env) (_ : Mem) : SRes := .bad
theorem ms_never {st : Stmt} : MS X Wx st sBad := ⟨_, ps_never, fun env m σ G E S R h => h⟩
theorem mb_never {st : List Stmt} : MB X Wx st sBad := ⟨_, pss_never, fun env m σ G E S R h => h⟩
def sBk (env : Env) (m : Mem) : SRes := .bk env m
def sCt (env : Env) (m : Mem) : SRes := .ct env m
theorem ms_pass {pos : Pos} : MS X Wx (.Pass pos) sNx := ⟨_, ps_pass, fun env m σ G E S R h => h σ G (Le.refl R) R S⟩
theorem ms_break {pos : Pos} : MS X Wx (.Break pos) sBk := ⟨_, ps_break, fun env m σ G E S R h => h σ G (Le.refl R) R S⟩
theorem ms_continue {pos : Pos} : MS X Wx (.Continue pos) sCt := ⟨_, ps_continue, fun env m σ G E S R h => h σ G (Le.refl R) R S⟩
def sDrop (f : EF) (env : Env) (m : Mem) : SRes := eS (f env m) env fun _ m1 => .nx env m1
theorem ms_expr {e : Expr} {f : EF} {pos : Pos} (h : ME X Wx e f) (hs : swapsWith e none pos.line X.env = pure false := by rfl) : MS X Wx (.Expr e pos) (sDrop f) := by
  obtain ⟨t, p, q⟩ := h
  exact ⟨_, ps_expr p hs, fun env m σ G E S R h => q env m σ G _ S R (SPost.ofE h S fun a m v G1 le R1 q1 h1 => h1 σ G1 (Le.refl R1) R1 (S.mono le))⟩
def sRet (f : EF) (env : Env) (m : Mem) : SRes := eS (f env m) env fun w m1 => .rt w m1
theorem ms_ret {e : Expr} {f : EF} {pos : Pos} (h : ME X Wx e f) : MS X Wx (.Return (some e) pos) (sRet f) := by
  obtain ⟨t, p, q⟩ := h
  exact ⟨_, ps_ret p, fun env m σ G E S R h => q env m σ G _ S R (SPost.ofE0 h S fun a m v G1 le R1 q1 h1 => h1 v G1 le R1 q1)⟩
def sIf (c : TF) (a b : SF) (env : Env) (m : Mem) : SRes := eS (c env m) env fun t m1 => if t = true then a env m1 else b env m1
theorem ms_if {c : Expr} {a b : List Stmt} {fc : TF} {fa fb : SF} {pos : Pos} (hc : MT X Wx c fc) (ha : MB X Wx a fa) (hb : MB X Wx b fb) : MS X Wx (.If c a b pos) (sIf fc fa fb) := by
  obtain ⟨tc, pc, qc⟩ := hc
  obtain ⟨ta, pa, qa⟩ := ha
  obtain ⟨tb, pb, qb⟩ := hb
  refine ⟨_, ps_if pc pa pb, fun env m σ G E S R h => qc env m σ G _ S R (SPost.ofE h S fun k m1 v G1 le R1 q1 h1 => ?_)⟩
  rw [show v = k from q1]
  cases k with
  | true => exact iteT (qa env m1 σ G1 E (S.mono le) R1 h1)
  | false => exact iteF (qb env m1 σ G1 E (S.mono le) R1 h1)
/-! ### targets -/
abbrev GF := W → Env → Option Env
/-- but for the slots is, the slots stay -/
structure Off (is : List Nat) (σ σ' : St) : Prop where
  len : σ'.length = σ.length
  get : ∀ j, j ∉ is → σ'[j]? = σ[j]?
theorem Off.refl (is : List Nat) (σ : St) : Off is σ σ := ⟨rfl, fun _ _ => rfl⟩
theorem Off.trans {is js : List Nat} {σ σ1 σ2 : St} (a : Off is σ σ1) (b : Off js σ1 σ2) : Off (is ++ js) σ σ2 :=
  ⟨b.len.trans a.len, fun j h => (b.get j fun z => h (List.mem_append_right _ z)).trans (a.get j fun z => h (List.mem_append_left _ z))⟩
def MG (X : Cx) (tg : Expr) (g : GF) (is : List Nat) : Prop :=
  ∃ t, PG X tg t ∧ ∀ w env env' σ (G : Wd) v (Q : St → Hp → Prop), RelS X.K G σ env → RepW X.K G v w → g w env = some env' → (∀ σ', Off is σ σ' → RelS X.K G σ' env' → Q σ' G.H) → t v σ G.H Q
def gSet (i : Nat) (w : W) (env : Env) : Option Env := some (env.set i (some w))
theorem Off.set {σ : St} {v : V} (i : Nat) : Off [i] σ (σ.set i (some v)) := ⟨List.length_set, fun j h => List.getElem?_set_ne fun z => h (by rw [z]; exact List.mem_singleton.mpr rfl)⟩
theorem mg_name (i : Nat) {x : Str} {pos : Pos} (hN : X.N.Nodup) (hi : X.N[i]? = some x := by rfl) (hx : Loc X.env.scope x := by first | exact .inl rfl | exact .inr rfl) (hf : X.fn x = true ∨ X.env.scope.names.lookup x = some .local := by first | exact .inl rfl | exact .inr rfl) : MG X (.Name x pos) (gSet i) [i] :=
  ⟨_, pg_name hN hi hx hf, fun w env env' σ G v Q S r e h => by cases e; exact h _ (Off.set i) (S.set r)⟩
abbrev GsF := List D → Env → Option Env
def MGs (X : Cx) (tg : List Expr) (g : GsF) (is : List Nat) : Prop :=
  ∃ t, PGs X tg t ∧ ∀ ds env env' σ (G : Wd) vs (Q : St → Hp → Prop), RelS X.K G σ env → Reps X.K G.lv G.H vs ds → g ds env = some env' → (∀ σ', Off is σ σ' → RelS X.K G σ' env' → Q σ' G.H) → t vs σ G.H Q
def gsNil (ds : List D) (env : Env) : Option Env := match ds with
  | [] => some env
  | _ :: _ => none
def gsCons (g : GF) (r : GsF) (ds : List D) (env : Env) : Option Env := match ds with
  | [] => none
  | d :: ds => (g (.d d) env).bind fun e => r ds e
theorem mgs_nil : MGs X [] gsNil [] := ⟨_, pgs_nil, fun ds env env' σ G vs Q S r e h => by
  cases r with
  | nil => cases e; exact ⟨rfl, h _ (Off.refl _ _) S⟩
  | cons _ _ => cases e⟩
theorem mgs_cons {e : Expr} {es : List Expr} {g : GF} {r : GsF} {is js : List Nat} (h1 : MG X e g is) (h2 : MGs X es r js) (hs : (assignEach (e :: es) X.env).map (·.2) = assign e X.env :: (assignEach es X.env).map (·.2) := by rfl) : MGs X (e :: es) (gsCons g r) (is ++ js) := by
  obtain ⟨t, p, q⟩ := h1
  obtain ⟨u, p2, q2⟩ := h2
  refine ⟨_, pgs_cons p p2 hs, fun ds env env' σ G vs Q S rr e h => ?_⟩
  cases rr with
  | nil => cases e
  | cons h0 r0 =>
    rename_i d ds'
    simp only [gsCons] at e
    cases q0 : g (.d d) env with
    | none => rw [q0] at e; cases e
    | some e1 =>
      rw [q0] at e
      exact ⟨_, _, rfl, q (.d d) env e1 σ G _ _ S h0 q0 fun σ' o1 S' => q2 ds' e1 env' σ' G _ Q S' r0 e fun σ2 o2 S2 => h σ2 (o1.trans o2) S2⟩
def gTupF (n : Nat) (r : GsF) (w : W) (env : Env) : Option Env := match w with
  | .d (.tuple ds) => if ds.length = n then r ds env else none
  | _ => none
theorem mg_tup {es : List Expr} {k : Nat} {r : GsF} {n : Nat} {is : List Nat} {pos : Pos} (hc : X.calm = true) (h : MGs X es r is) (hn : (assignEach es X.env).length = n := by rfl) (hst : (assignEach es X.env).findIdx? (·.1) = none := by rfl) : MG X (.Tuple es k pos) (gTupF n r) is := by
  obtain ⟨t, p, q⟩ := h
  refine ⟨_, pg_tup hc p hn hst, fun w env env' σ G v Q S rr e h => ?_⟩
  cases w with
  | d x =>
    cases x with
    | tuple ds =>
      simp only [gTupF] at e
      by_cases hz : ds.length = n
      · rw [if_pos hz] at e
        cases rr with
        | tup t1 r1 => exact ⟨_, _, rfl, t1.sq, by rw [r1.length]; exact hz, q ds env env' σ G _ Q S r1 e h⟩
      · rw [if_neg hz] at e; cases e
    | _ => cases e
  | _ => cases e
/-- target = e -/
def asgK (g : GF) (env : Env) (w : W) (m1 : Mem) : SRes := match w with
  | .fl _ => .bad
  | w => match g w env with
    | some e => .nx e m1
    | none => .bad
def sAsg (f : EF) (g : GF) (env : Env) (m : Mem) : SRes := eS (f env m) env fun w m1 => asgK g env w m1
theorem asgQ {g : GF} {t : TG} {is : List Nat} (q : ∀ w env env' σ (G : Wd) v (Q : St → Hp → Prop), RelS X.K G σ env → RepW X.K G v w → g w env = some env' → (∀ σ', Off is σ σ' → RelS X.K G σ' env' → Q σ' G.H) → t v σ G.H Q)
    {env : Env} {σ : St} {G G1 : Wd} {m1 : Mem} {w : W} {v : V} {E : Ends} {H0 : Hp} (S : RelS X.K G1 σ env) (R1 : RelM X.K G1 m1) (r : RepR X.K H0 G1 v w)
    (h : SPost X Wx G1 (asgK g env w m1) E) : t v σ G1.H E.nx := by
  have go : RepW X.K G1 v w → SPost X Wx G1 (match g w env with | some e => .nx e m1 | none => .bad) E → t v σ G1.H E.nx := fun r h => by
    cases e : g w env with
    | none => rw [e] at h; exact False.elim h
    | some e1 => rw [e] at h; exact q w env e1 σ G1 v _ S r e fun σ' _ S' => h σ' G1 (Le.refl R1) R1 S'
  cases w with
  | fl _ => exact False.elim h
  | d x => exact go r h
  | obj x => exact go r h
  | ro x => exact go r h
theorem ms_asg {tg e : Expr} {f : EF} {g : GF} {is : List Nat} {pos : Pos} (he : ME X Wx e f) (hg : MG X tg g is) (hs : swapsWithSole [tg] e pos.line X.env = pure false := by rfl) (hw : swappedStores [tg] e X.env = pure none := by rfl)
    (h1 : (assignEach [tg] X.env).map (·.2) = [assign tg X.env] := by rfl) : MS X Wx (.Assign [tg] e pos) (sAsg f g) := by
  obtain ⟨t, p, q⟩ := he
  obtain ⟨u, p2, q2⟩ := hg
  exact ⟨_, ps_asg p p2 hs hw h1, fun env m σ G E S R h => q env m σ G _ S R (SPost.ofE h S fun w m1 v G1 le R1 q1 h1 => asgQ (G := G) q2 (S.mono le) R1 q1 h1)⟩
/-- name = e -/
theorem ms_set (i : Nat) {x : Str} {e : Expr} {f : EF} {pos pos' : Pos} (hN : X.N.Nodup) (he : ME X Wx e f) (hi : X.N[i]? = some x := by rfl) (hx : Loc X.env.scope x := by first | exact .inl rfl | exact .inr rfl) (hs : swapsWith e (some (.Name x pos')) pos.line X.env = pure false := by rfl)
    (hf : X.fn x = true ∨ X.env.scope.names.lookup x = some .local := by first | exact .inl rfl | exact .inr rfl) : MS X Wx (.Assign [.Name x pos'] e pos) (sAsg f (gSet i)) := by
  obtain ⟨t, p, q⟩ := he
  exact ⟨_, ps_set hN hi hx p hs hf, fun env m σ G E S R h => q env m σ G _ S R (SPost.ofE h S fun w m1 v G1 le R1 q1 h1 => asgQ (G := G) (g := gSet i) (t := gName i) (is := [i]) (fun w env env' σ G v Q S r e h => by cases e; exact h _ (Off.set i) (S.set r)) (S.mono le) R1 q1 h1)⟩
/-- name op= e -/
def IpOk (X : Cx) (Wx : WX) (t : TIp) (g : W → W → Mem → Res W) : Prop := OpOk X Wx t g
def sAug (i : Nat) (g : W → W → Mem → Res W) (f : EF) (env : Env) (m : Mem) : SRes := match env[i]? with
  | some (some x) => eS ((f env m).bind fun y m1 => g x y m1) env fun w m1 => match w with
    | .fl _ => .bad
    | w => .nx (env.set i (some w)) m1
  | _ => .bad
theorem ms_aug (i : Nat) {x : Str} {e : Expr} {f : EF} {g : W → W → Mem → Res W} {op : Operator} {ti : TIp} {pos pos' : Pos} (hN : X.N.Nodup) (ho : PIp X op ti) (hg : IpOk X Wx ti g) (he : ME X Wx e f) (hi : X.N[i]? = some x := by rfl) (hx : Loc X.env.scope x := by first | exact .inl rfl | exact .inr rfl)
    (hf : X.fn x = true ∨ X.env.scope.names.lookup x = some .local := by first | exact .inl rfl | exact .inr rfl) : MS X Wx (.AugAssign (.Name x pos') op e pos) (sAug i g f) := by
  obtain ⟨t, p, q⟩ := he
  refine ⟨_, ps_aug hN hi hx p ho hf, fun env m σ G E S R h => ?_⟩
  unfold sAug at h
  cases e1 : env[i]? with
  | none => rw [e1] at h; exact False.elim h
  | some o =>
    cases o with
    | none => rw [e1] at h; exact False.elim h
    | some w0 =>
      rw [e1] at h
      obtain ⟨v0, h1, h2⟩ := S.get i w0 e1
      refine ⟨v0, h1, ?_⟩
      have h' : GPost X Wx σ G (RepR X.K) ((f env m).bind fun y m1 => g w0 y m1) (fun z H2 => E.nx (σ.set i (some z)) H2) := SPost.ofE h S fun w m1 v G1 le R1 q1 hq => by
        have go : RepW X.K G1 v w → SPost X Wx G1 (.nx (env.set i (some w)) m1) E → E.nx (σ.set i (some v)) G1.H := fun r hh => hh _ G1 (Le.refl R1) R1 ((S.mono le).set r)
        cases w with
        | fl _ => exact False.elim hq
        | d x => exact go q1 hq
        | obj x => exact go q1 hq
        | ro x => exact go q1 hq
      refine q env m σ G _ S R (GPost.bind weakR h' fun y m1 u G1 le1 R1 q1 hq => ?_)
      exact hg σ G1 m1 v0 u w0 y G.H _ _ R1 (h2.r.mono le1) q1 hq
theorem ip_addI : PIp X .Add (ipI fun i j => i + j) := ip_add
theorem ip_subI : PIp X .Sub (ipI fun i j => i - j) := ip_sub
def addIW := int0W fun i j => .int (i + j)
theorem addIW_ok : OpOk X Wx (ipI fun i j => i + j) addIW := int0W_ok (g := fun i j => .int (i + j)) fun _ _ _ _ _ => .int _
theorem subIW_ok : OpOk X Wx (ipI fun i j => i - j) subW := int0W_ok (g := fun i j => .int (i - j)) fun _ _ _ _ _ => .int _
/-! ### while -/
def whileM (c : TF) (b : SF) : Nat → Env → Mem → SRes
  | 0, _, _ => .bad
  | n + 1, env, m => eS (c env m) env fun t m1 => if t = true then (match b env m1 with
    | .nx e m2 => whileM c b n e m2
    | .ct e m2 => whileM c b n e m2
    | .bk e m2 => .nx e m2
    | r => r) else .nx env m1
theorem ms_while (n : Nat) {c : Expr} {body : List Stmt} {fc : TF} {fb : SF} {pos : Pos} (hp : PassesOwn (model X.prog X.w) X.A X.env X.xe) (hc : MT X Wx c fc) (hb : MB X Wx body fb) : MS X Wx (.While c body [] pos) (whileM fc fb n) := by
  obtain ⟨tc, pc, qc⟩ := hc
  obtain ⟨tb, pb, qb⟩ := hb
  refine ⟨_, ps_while hp pc pb, fun env m σ G E S R h => ?_⟩
  refine ⟨fun k σ' H' => ∃ env' m' G', G'.H = H' ∧ RelM X.K G' m' ∧ RelS X.K G' σ' env' ∧ SPost X Wx G' (whileM fc fb k env' m') E, ⟨n, env, m, G, rfl, R, S, h⟩, ?_⟩
  rintro k σ' H' ⟨env', m', G', rfl, R', S', h'⟩
  cases k with
  | zero => exact False.elim h'
  | succ k =>
    refine qc env' m' σ' G' _ S' R' (SPost.ofE h' S' fun b m1 v G1 le R1 q1 h1 => ?_)
    rw [show v = b from q1]
    cases b with
    | false => exact iteF (h1 σ' G1 (Le.refl R1) R1 (S'.mono le))
    | true =>
      refine iteT ⟨fun σ2 H2 => ∃ env' m' G', G'.H = H2 ∧ RelM X.K G' m' ∧ RelS X.K G' σ2 env' ∧ SPost X Wx G' (whileM fc fb k env' m') E, fun σ2 H2 z => ⟨k, Nat.lt_succ_self k, z⟩, ?_⟩
      refine qb env' m1 σ' G1 _ (S'.mono le) R1 ?_
      simp only [if_true] at h1
      cases e : fb env' m1 with
      | nx e1 m2 => rw [e] at h1; exact fun σ2 G2 le2 R2 S2 => ⟨e1, m2, G2, rfl, R2, S2, SPost.later h1 le2⟩
      | ct e1 m2 => rw [e] at h1; exact fun σ2 G2 le2 R2 S2 => ⟨e1, m2, G2, rfl, R2, S2, SPost.later h1 le2⟩
      | bk e1 m2 => rw [e] at h1; exact h1
      | rt w m2 => rw [e] at h1; exact h1
      | err x e1 m2 => rw [e] at h1; exact h1
      | bad => rw [e] at h1; exact h1
/-! ### what is walked -/
structure Its where
  xs : List W
  chk : Mem → Bool
def ItOk (K : PySem.W.Frag) (J : It) (I : Its) (G1 : Wd) : Prop := ∀ G2 m2, Le G1 G2 → RelM K G2 m2 → I.chk m2 = true → ∀ i, 
  (∀ w, I.xs[i]? = some w → J.go i G2.H ∧ ∀ x H', J.yld i G2.H x H' → ∃ G3, G3.H = H' ∧ Le G2 G3 ∧ RelM K G3 m2 ∧ RepW K G3 x w) ∧ (I.xs.length ≤ i → J.stop i G2.H)
def relI (K : PySem.W.Frag) : Hp → Wd → It → Its → Prop := fun _ G J I => ItOk K J I G
abbrev IF := Env → Mem → Res Its
def MI (X : Cx) (Wx : WX) (tg iter : Expr) (f : IF) : Prop :=
  ∃ wi, PI X tg iter wi ∧ ∀ env m σ G Q, RelS X.K G σ env → RelM X.K G m → GPost X Wx σ G (relI X.K) (f env m) Q → wi σ G.H Q
theorem weakI {K : PySem.W.Frag} : Weak (relI K) := fun _ _ _ _ _ _ h => h
def forM (chk : Mem → Bool) (b : W → SF) : List W → Env → Mem → SRes
  | [], env, m => if chk m = true then .nx env m else .bad
  | x :: r, env, m => if chk m = true then (match b x env m with
    | .nx e m1 => forM chk b r e m1
    | .ct e m1 => forM chk b r e m1
    | .bk e m1 => .nx e m1
    | r => r) else .bad
/-- the body behind the target -/
def sTg (g : GF) (b : SF) (w : W) (env : Env) (m : Mem) : SRes := match g w env with
  | some e => b e m
  | none => .bad
def sFor (it : IF) (g : GF) (b : SF) (env : Env) (m : Mem) : SRes := eS (it env m) env fun I m1 => forM I.chk (sTg g b) I.xs env m1
theorem ms_for {tg iter : Expr} {body : List Stmt} {fi : IF} {g : GF} {is : List Nat} {fb : SF} {pos : Pos} (hp : PassesOwn (model X.prog X.w) X.A X.env X.xe) (hc : X.calm = true) (hi : MI X Wx tg iter fi) (hg : MG X tg g is) (hb : MB X Wx body fb)
    (hs : ∀ x, foldedSetIterable iter X.env x = pure x := by intro _; rfl) : MS X Wx (.For tg iter body [] pos) (sFor fi g fb) := by
  obtain ⟨ti, pi, qi⟩ := hi
  obtain ⟨tg', pg, qg⟩ := hg
  obtain ⟨tb, pb, qb⟩ := hb
  refine ⟨_, ps_for hp hc pi pg pb hs, fun env m σ G E S R h => ?_⟩
  refine qi env m σ G _ S R (SPost.ofE h S fun I m1 J G1 le R1 hJ h1 => ?_)
  refine ⟨fun i k σ' H' => ∃ env' m' G', G'.H = H' ∧ k + i = I.xs.length ∧ Le G1 G' ∧ RelM X.K G' m' ∧ RelS X.K G' σ' env' ∧ SPost X Wx G' (forM I.chk (sTg g fb) (I.xs.drop i) env' m') E,
    ⟨I.xs.length, env, m1, G1, rfl, Nat.add_zero _, Le.refl R1, R1, S.mono le, h1⟩, ?_⟩
  rintro i k σ' H' ⟨env', m', G', rfl, hk, le', R', S', h'⟩
  cases ex : I.xs.drop i with
  | nil =>
    rw [ex] at h'
    have hl : I.xs.length ≤ i := List.drop_eq_nil_iff.mp ex
    by_cases hz : I.chk m' = true
    · simp only [forM, hz, if_true] at h'
      exact .inl ⟨(hJ G' m' le' R' hz i).2 hl, h' σ' G' (Le.refl R') R' S'⟩
    · simp only [forM, hz] at h'
      exact False.elim h'
  | cons w r =>
    rw [ex] at h'
    have hi : I.xs[i]? = some w := by
      have := congrArg (·[0]?) ex
      simpa using this
    have hr : I.xs.drop (i + 1) = r := by
      have := congrArg List.tail ex
      simpa using this
    by_cases hz : I.chk m' = true
    · simp only [forM, hz, if_true] at h'
      obtain ⟨go, yl⟩ := (hJ G' m' le' R' hz i).1 w hi
      have hlt : i < I.xs.length := (List.getElem?_eq_some_iff.mp hi).1
      refine .inr ⟨go, fun σ2 H2 => ∃ env' m' G', G'.H = H2 ∧ Le G1 G' ∧ RelM X.K G' m' ∧ RelS X.K G' σ2 env' ∧ SPost X Wx G' (forM I.chk (sTg g fb) r env' m') E, fun σ2 H2 ⟨e2, m2, G2, z1, z2, z3, z4, z5⟩ => ⟨k - 1, by omega, e2, m2, G2, z1, by omega, z2, z3, z4, by rw [hr]; exact z5⟩, fun x H3 hy => ?_⟩
      obtain ⟨G3, rfl, le3, R3, rw3⟩ := yl x H3 hy
      cases eg : g w env' with
      | none =>
        have hst : sTg g fb w env' m' = .bad := by simp only [sTg, eg]
        rw [hst] at h'
        exact False.elim h'
      | some e1 =>
        have hst : sTg g fb w env' m' = fb e1 m' := by simp only [sTg, eg]
        rw [hst] at h'
        refine qg w env' e1 σ' G3 x _ (S'.mono le3) rw3 eg fun σ4 _ S4 => ?_
        refine qb e1 m' σ4 G3 _ S4 R3 ?_
        have l4 : Le G1 G3 := le'.trans le3
        cases e : fb e1 m' with
        | nx e1 m2 => rw [e] at h'; exact fun σ2 G2 le2 R2 S2 => ⟨e1, m2, G2, rfl, l4.trans le2, R2, S2, SPost.later h' (le3.trans le2)⟩
        | ct e1 m2 => rw [e] at h'; exact fun σ2 G2 le2 R2 S2 => ⟨e1, m2, G2, rfl, l4.trans le2, R2, S2, SPost.later h' (le3.trans le2)⟩
        | bk e1 m2 => rw [e] at h'; exact SPost.later (r := .nx e1 m2) h' le3
        | rt w m2 => rw [e] at h'; exact SPost.later h' le3
        | err x e1 m2 => rw [e] at h'; exact SPost.later h' le3
        | bad => rw [e] at h'; exact h'
    · simp only [forM, hz] at h'
      exact False.elim h'
end
end M

set_option Elab.async false
set_option linter.all false
set_option maxRecDepth 100000
namespace M
open PySem L2
/-! ### data alike -/
mutual
def beqD : D → D → Bool
  | .none, .none => true
  | .bool a, .bool b => a == b
  | .int a, .int b => a == b
  | .str a, .str b => decide (a = b)
  | .list a, .list b => beqDs a b
  | .tuple a, .tuple b => beqDs a b
  | _, _ => false
def beqDs : List D → List D → Bool
  | [], [] => true
  | a :: r, b :: s => beqD a b && beqDs r s
  | _, _ => false
end
mutual
theorem beqD_eq : ∀ (a b : D), beqD a b = true → a = b
  | .none, b, h => by cases b <;> first | rfl | (simp [beqD] at h)
  | .bool a, b, h => by cases b <;> first | (simp [beqD] at h; rw [h]) | (simp [beqD] at h)
  | .int a, b, h => by cases b <;> first | (simp [beqD] at h; rw [h]) | (simp [beqD] at h)
  | .str a, b, h => by cases b <;> first | (simp [beqD] at h; rw [h]) | (simp [beqD] at h)
  | .list a, b, h => by cases b <;> first | (simp only [beqD] at h; rw [beqDs_eq a _ h]) | (simp [beqD] at h)
  | .tuple a, b, h => by cases b <;> first | (simp only [beqD] at h; rw [beqDs_eq a _ h]) | (simp [beqD] at h)
  | .dict a, b, h => by cases b <;> simp [beqD] at h
theorem beqDs_eq : ∀ (a b : List D), beqDs a b = true → a = b
  | [], b, h => by cases b <;> first | rfl | (simp [beqDs] at h)
  | a :: r, b, h => by
    cases b with
    | nil => simp [beqDs] at h
    | cons c s =>
      simp only [beqDs, Bool.and_eq_true] at h
      rw [beqD_eq a c h.1, beqDs_eq r s h.2]
end
section
variable {X : Cx} {Wx : WX}
/-! ### walking a list, a tuple, a text -/
def rWalk (K : PySem.W.Frag) (x : V) (H1 : Hp) (R : It → Hp → Prop) : Prop :=
  (∃ a, x = .ref a ∧ (∃ xs, SqL K H1 a xs) ∧ R (Itl K a) H1) ∨ (∃ a, x = .ref a ∧ (∃ xs, SqT K H1 a xs) ∧ R (Itt K a) H1) ∨ (∃ z, x = .str z ∧ R (L2.Its z) H1)
def iWalk (K : PySem.W.Frag) (tl : TE) : TI := fun σ H R => tl σ H fun x H1 => rWalk K x H1 R
theorem walk_it {pins : List (Addr × Obj)} {σ : St} {tg : Expr} {H1 : Hp} {s1 : Shared} {x : V} {v : Value} {R : It → Hp → Prop} (I1 : Inv X pins σ H1 s1) (r1 : RelV x v) (q1 : rWalk X.K x H1 R) : wpAny (model X.prog X.w) X.A (pyIter v) (PIE X pins σ tg R) X.xe s1 := by
  have hf : ∀ (b : Addr), b ∈ [s1.heap.objs.size] → FpOk X pins H1 b := fun b hb => by
    rw [List.mem_singleton.mp hb]
    exact I1.fpOk (Nat.le_refl _) (I1.hok.fresh (Nat.le_refl _))
  rcases q1 with ⟨a, rfl, ⟨xs, hq⟩, q⟩ | ⟨a, rfl, ⟨xs, hq⟩, q⟩ | ⟨z, rfl, q⟩
  · cases r1
    obtain ⟨its, rv, pl, hz⟩ := I1.list hq
    exact wpAny_pyIter_list pl.isList ⟨s1.heap.objs.size, [s1.heap.objs.size], _, _, H1, rfl, I1.kept (t' := s1.toks) (fun b o e => Heap.get?_push_of_some _ e), turn_list a _, ⟨_, Heap.get?_push_size _ rfl, rfl, rfl⟩, hf, q⟩
  · cases r1
    obtain ⟨its, rv, pl, hz⟩ := I1.tuple hq
    exact wpAny_pyIter_tuple (show s1.heap.IsTuple a its.toArray from pl) ⟨s1.heap.objs.size, [s1.heap.objs.size], _, _, H1, rfl, I1.kept (t' := s1.toks) (fun b o e => Heap.get?_push_of_some _ e), turn_tuple a _, ⟨_, Heap.get?_push_size _ rfl, rfl, rfl⟩, hf, q⟩
  · obtain ⟨t, rfl⟩ := r1
    cases ha : z.cps.all (· < 128) with
    | false => exact PySem.wpAny_pyIter_wide ha (pi_one (tk := s1.toks) I1 _ (turn_str _ z t "str_iterator" (.inr rfl)) ⟨_, Heap.get?_push_size _ rfl, rfl, rfl⟩ q)
    | true => exact PySem.wpAny_pyIter_ascii ha (pi_one (tk := s1.toks) I1 _ (turn_str _ z t "str_ascii_iterator" (.inl rfl)) ⟨_, Heap.get?_push_size _ rfl, rfl, rfl⟩ q)
theorem pi_walk {tg l : Expr} {tl : TE} (hl : PE X l tl) : PI X tg l (iWalk X.K tl) :=
  ⟨fun pins s σ H R I h => thn (hl.run pins s σ H _ I h) fun _ _ ⟨_, _, I1, r1, q1⟩ => walk_it I1 r1 q1⟩
def yesM (_ : Mem) : Bool := true
def sameM (i : Nat) (ds : List D) (m : Mem) : Bool := match asL (.obj i) m with
  | some es => beqDs ds es
  | none => false
def itsL (ds : List D) : Its := ⟨ds.map .d, yesM⟩
def walkW (w : W) (m1 : Mem) : Res Its := match w with
  | .d (.tuple ds) => .ok (itsL ds) m1
  | .d (.str z) => .ok ⟨z.cps.toList.map fun c => .d (.str ⟨#[c]⟩), yesM⟩ m1
  | .d (.list ds) => .ok (itsL ds) m1
  | .fl ds => .ok (itsL ds) m1
  | .ro ds => .ok (itsL ds) m1
  | .obj i => match asL (.obj i) m1 with
    | some ds => .ok ⟨ds.map .d, sameM i ds⟩ m1
    | none => .bad
  | _ => .bad
def iSeq (f : EF) (env : Env) (m : Mem) : Res Its := (f env m).bind walkW
theorem itL {K : PySem.W.Frag} {G1 : Wd} {a : Addr} {ds : List D} {chk : Mem → Bool} (h : ∀ G2 m2, Le G1 G2 → RelM K G2 m2 → chk m2 = true → ∃ vs, SqL K G2.H a vs ∧ Reps K G2.lv G2.H vs ds) : ItOk K (Itl K a) ⟨ds.map .d, chk⟩ G1 := by
  intro G2 m2 le R hz i
  obtain ⟨vs, hs, r⟩ := h G2 m2 le R hz
  refine ⟨fun w hw => ?_, fun hi => ⟨vs, hs, by rw [r.length]; simpa using hi⟩⟩
  have hw : (ds.map W.d)[i]? = some w := hw
  rw [List.getElem?_map] at hw
  cases e : ds[i]? with
  | none => rw [e] at hw; cases hw
  | some d =>
    rw [e] at hw
    cases hw
    obtain ⟨v, h1, h2⟩ := r.get e
    refine ⟨⟨vs, v, hs, h1⟩, fun x H' ⟨e1, e2⟩ => ⟨G2, e1.symm, Le.refl R, R, ?_⟩⟩
    have := e2 vs hs
    rw [h1] at this
    cases this
    exact h2
theorem itT {K : PySem.W.Frag} {G1 : Wd} {a : Addr} {ds : List D} {chk : Mem → Bool} (h : ∀ G2 m2, Le G1 G2 → RelM K G2 m2 → chk m2 = true → ∃ vs, SqT K G2.H a vs ∧ Reps K G2.lv G2.H vs ds) : ItOk K (Itt K a) ⟨ds.map .d, chk⟩ G1 := by
  intro G2 m2 le R hz i
  obtain ⟨vs, hs, r⟩ := h G2 m2 le R hz
  refine ⟨fun w hw => ?_, fun hi => ⟨vs, hs, by rw [r.length]; simpa using hi⟩⟩
  have hw : (ds.map W.d)[i]? = some w := hw
  rw [List.getElem?_map] at hw
  cases e : ds[i]? with
  | none => rw [e] at hw; cases hw
  | some d =>
    rw [e] at hw
    cases hw
    obtain ⟨v, h1, h2⟩ := r.get e
    refine ⟨⟨vs, v, hs, h1⟩, fun x H' ⟨e1, e2⟩ => ⟨G2, e1.symm, Le.refl R, R, ?_⟩⟩
    have := e2 vs hs
    rw [h1] at this
    cases this
    exact h2
theorem itStr {K : PySem.W.Frag} {G1 : Wd} {z : Str} : ItOk K (L2.Its z) ⟨z.cps.toList.map fun c => .d (.str ⟨#[c]⟩), yesM⟩ G1 := by
  intro G2 m2 le R hz i
  have ez : (z.cps.toList.map fun c => (W.d (.str ⟨#[c]⟩) : W)).length = z.cps.size := by simp
  refine ⟨fun w hw => ?_, fun hi => by
    have hi : (z.cps.toList.map fun c => (W.d (.str ⟨#[c]⟩) : W)).length ≤ i := hi
    rw [ez] at hi
    exact hi⟩
  have hw : (z.cps.toList.map fun c => (W.d (.str ⟨#[c]⟩) : W))[i]? = some w := hw
  rw [List.getElem?_map] at hw
  cases e : z.cps.toList[i]? with
  | none => rw [e] at hw; cases hw
  | some c =>
    rw [e] at hw
    cases hw
    refine ⟨by have := (List.getElem?_eq_some_iff.mp e).1; show i < z.cps.size; simpa using this, fun x H' ⟨e1, c', e2, e3⟩ => ⟨G2, e1.symm, Le.refl R, R, ?_⟩⟩
    rw [Array.getElem?_toList] at e
    rw [e] at e2
    cases e2
    rw [e3]
    exact .str _
theorem walkW_ok {σ : St} {G : Wd} {m : Mem} {v : V} {w : W} {H0 : Hp} {Q : It → Hp → Prop} (R : RelM X.K G m) (r : RepR X.K H0 G v w) (h : GPost X Wx σ G (relI X.K) (walkW w m) Q) : rWalk X.K v G.H Q := by
  cases w with
  | d x =>
    cases x with
    | tuple ds =>
      cases r with
      | tup t r => exact .inr (.inl ⟨_, rfl, ⟨_, t.sq⟩, h _ G (Le.refl R) R (itT fun G2 m2 le R2 _ => ⟨_, (t.mono le.mo).sq, r.mono le.mo⟩)⟩)
    | str z => cases r; exact .inr (.inr ⟨z, rfl, h _ G (Le.refl R) R itStr⟩)
    | list ds =>
      cases r with
      | lst t r => exact .inl ⟨_, rfl, ⟨_, t.sq⟩, h _ G (Le.refl R) R (itL fun G2 m2 le R2 _ => ⟨_, (t.mono le.mo).sq, r.mono le.mo⟩)⟩
    | _ => exact False.elim h
  | fl ds =>
    obtain ⟨p, vs, rfl, h0, h1, h2, h3, r⟩ := r
    exact .inl ⟨p, rfl, ⟨vs, .of h3⟩, h _ G (Le.refl R) R (itL fun G2 m2 le R2 _ => ⟨vs, .of (le.keep _ _ h3 fun z => h1 z.1), r.mono le.mo⟩)⟩
  | ro ds =>
    obtain ⟨p, vs, rfl, h1, r⟩ := r
    exact .inl ⟨p, rfl, ⟨vs, h1.sq⟩, h _ G (Le.refl R) R (itL fun G2 m2 le R2 _ => ⟨vs, (h1.mono le.mo).sq, r.mono le.mo⟩)⟩
  | obj i =>
    simp only [walkW] at h
    cases e : asL (.obj i) m with
    | none => rw [e] at h; exact False.elim h
    | some ds =>
      rw [e] at h
      obtain ⟨a, ha, rfl⟩ := id r
      obtain ⟨a', vs, e1, h1, _⟩ := asL_sq (w := .obj i) R r e
      cases e1
      refine .inl ⟨a, rfl, ⟨vs, h1⟩, h _ G (Le.refl R) R (itL fun G2 m2 le R2 hz => ?_)⟩
      unfold sameM at hz
      cases e2 : asL (.obj i) m2 with
      | none => rw [e2] at hz; cases hz
      | some es =>
        rw [e2] at hz
        have ee := beqDs_eq _ _ hz
        subst ee
        obtain ⟨a2, vs2, e3, h3, r3⟩ := asL_sq (v := .ref a) (H0 := H0) (w := .obj i) R2 ⟨a, le.iget ha, rfl⟩ e2
        cases e3
        exact ⟨vs2, h3, r3⟩
theorem mi_seq {tg e : Expr} {f : EF} (h : ME X Wx e f) : MI X Wx tg e (iSeq f) := by
  obtain ⟨t, p, q⟩ := h
  exact ⟨_, pi_walk p, fun env m σ G Q S R h => q env m σ G _ S R (GPost.bind weakI h fun w m1 v G1 le1 R1 q1 h1 => walkW_ok R1 q1 h1)⟩
/-! ### range -/
def rngI (lo : Int) (n : Nat) : Its := ⟨(List.range n).map fun (k : Nat) => .d (.int (lo + (k : Int))), yesM⟩
theorem itR {K : PySem.W.Frag} {G1 : Wd} {lo : Int} {n : Nat} : ItOk K (Itr lo n) (rngI lo n) G1 := by
  intro G2 m2 le R hz i
  have ez : (rngI lo n).xs.length = n := by simp [rngI]
  refine ⟨fun w hw => ?_, fun hi => by rw [ez] at hi; exact hi⟩
  have hi : i < n := by
    have := (List.getElem?_eq_some_iff.mp hw).1
    rwa [ez] at this
  have hw : ((List.range n).map fun (k : Nat) => (W.d (.int (lo + (k : Int))) : W))[i]? = some w := hw
  rw [List.getElem?_map, List.getElem?_range hi] at hw
  cases hw
  refine ⟨hi, fun x H' ⟨e1, e2⟩ => ⟨G2, e1.symm, Le.refl R, R, ?_⟩⟩
  rw [e2]
  exact .int _
noncomputable def smallI (i : Int) : Bool := grd (-(2 ^ 62) ≤ i ∧ i < 2 ^ 62)
noncomputable def rng1 (ws : List W) (m : Mem) : Res Its := match ws with
  | [.d (.int j)] => if smallI j = true then .ok (rngI 0 j.toNat) m else .bad
  | _ => .bad
noncomputable def rng2 (ws : List W) (m : Mem) : Res Its := match ws with
  | [.d (.int i), .d (.int j)] => if (smallI i && smallI j) = true then .ok (rngI i (j - i).toNat) m else .bad
  | _ => .bad
noncomputable def iRange1 (a : AF) (env : Env) (m : Mem) : Res Its := (a env m).bind rng1
noncomputable def iRange2 (a : AF) (env : Env) (m : Mem) : Res Its := (a env m).bind rng2
theorem paired1 {α β : Type} {F : α → β → Prop} {vs : List α} {b : β} (h : Paired F vs [b]) : ∃ a, vs = [a] ∧ F a b := by
  cases h with
  | cons h t => cases t; exact ⟨_, rfl, h⟩
theorem paired2 {α β : Type} {F : α → β → Prop} {vs : List α} {b c : β} (h : Paired F vs [b, c]) : ∃ a d, vs = [a, d] ∧ F a b ∧ F d c := by
  cases h with
  | cons h t =>
    obtain ⟨d, rfl, q⟩ := paired1 t
    exact ⟨_, d, rfl, h, q⟩
theorem mi_range1 {tg a : Expr} {f : AF} {p pos : Pos} (hg : Gl X "range") (hm : X.mg "range" = none) (ha : MA X Wx [a] f) (hs : starEach [a] X.env = [(false, eval a X.env)] := by rfl) : MI X Wx tg (.Call (.Name "range" p) [a] [] pos) (iRange1 f) := by
  obtain ⟨t, pa, q⟩ := ha
  refine ⟨_, pi_range1 hg hm pa hs, fun env m σ G Q S R h => q env m σ G _ S R (GPost.bind weakI h fun ws m1 vs G1 le1 R1 q1 h1 => ?_)⟩
  unfold rng1 at h1
  split at h1
  · rename_i j
    obtain ⟨v, rfl, r⟩ := paired1 q1
    cases r
    by_cases hz : smallI j = true
    · simp only [hz, if_true] at h1
      have hz := grd_iff.mp hz
      exact ⟨j, rfl, hz.1, hz.2, h1 _ G1 (Le.refl R1) R1 itR⟩
    · simp only [hz] at h1
      exact False.elim h1
  · exact False.elim h1
theorem mi_range2 {tg a b : Expr} {f : AF} {p pos : Pos} (hg : Gl X "range") (hm : X.mg "range" = none) (ha : MA X Wx [a, b] f) (hs : starEach [a, b] X.env = [(false, eval a X.env), (false, eval b X.env)] := by rfl) (hs2 : starEach [b] X.env = [(false, eval b X.env)] := by rfl) :
    MI X Wx tg (.Call (.Name "range" p) [a, b] [] pos) (iRange2 f) := by
  obtain ⟨t, pa, q⟩ := ha
  refine ⟨_, pi_range2 hg hm pa hs hs2, fun env m σ G Q S R h => q env m σ G _ S R (GPost.bind weakI h fun ws m1 vs G1 le1 R1 q1 h1 => ?_)⟩
  unfold rng2 at h1
  split at h1
  · rename_i i j
    obtain ⟨v, u, rfl, r, r'⟩ := paired2 q1
    cases r
    cases r'
    by_cases hz : (smallI i && smallI j) = true
    · simp only [hz, if_true] at h1
      rw [Bool.and_eq_true] at hz
      have h1' := grd_iff.mp hz.1
      have h2' := grd_iff.mp hz.2
      exact ⟨i, j, rfl, ⟨h1'.1, h1'.2, h2'.1, h2'.2⟩, h1 _ G1 (Le.refl R1) R1 itR⟩
    · simp only [hz] at h1
      exact False.elim h1
  · exact False.elim h1
/-! ### enumerate, zip -/
theorem itPair {K : PySem.W.Frag} {G2 : Wd} {m2 : Mem} {T : Addr} {vs : List V} {ds : List D} (R : RelM K G2 m2) (hT : G2.H T = none) (r : Reps K G2.lv G2.H vs ds) :
    ∃ G3, G3.H = upd G2.H T (.tup vs) ∧ Le G2 G3 ∧ RelM K G3 m2 ∧ RepW K G3 (.ref T) (.d (.tuple ds)) := by
  have le : Le G2 ⟨G2.io, G2.lv, upd G2.H T (.tup vs)⟩ := Le.new R hT
  exact ⟨_, rfl, le, R.new hT, Rep.tup (.inl ⟨(R.ne hT).2, upd_same⟩) (Reps.mono le.mo r)⟩
/-- a list that stays: not an object -/
def asS (w : W) : Option (List D) := match w with
  | .d (.list ds) => some ds
  | .fl ds => some ds
  | .ro ds => some ds
  | _ => none
theorem asS_sq {G : Wd} {m : Mem} {v : V} {w : W} {H0 : Hp} {ds : List D} (R : RelM X.K G m) (r : RepR X.K H0 G v w) (e : asS w = some ds) : ∃ a vs, v = .ref a ∧ ∀ G2, Le G G2 → SqL X.K G2.H a vs ∧ Reps X.K G2.lv G2.H vs ds := by
  cases w with
  | d x =>
    cases x with
    | list es =>
      cases e
      cases r with
      | lst t r => exact ⟨_, _, rfl, fun G2 le => ⟨(t.mono le.mo).sq, r.mono le.mo⟩⟩
    | _ => cases e
  | fl es => cases e; obtain ⟨p, vs, rfl, h0, h1, h2, h3, r⟩ := r; exact ⟨p, vs, rfl, fun G2 le => ⟨.of (le.keep _ _ h3 fun z => h1 z.1), r.mono le.mo⟩⟩
  | ro es => cases e; obtain ⟨p, vs, rfl, h1, r⟩ := r; exact ⟨p, vs, rfl, fun G2 le => ⟨(h1.mono le.mo).sq, r.mono le.mo⟩⟩
  | obj i => cases e
def enumD (ds : List D) : List D := ds.zipIdx.map fun p => .tuple [.int (p.2 : Int), p.1]
def enumW (ws : List W) (m : Mem) : Res Its := match ws with
  | [w] => match asS w with
    | some ds => .ok (itsL (enumD ds)) m
    | none => .bad
  | _ => .bad
def iEnumF (a : AF) (env : Env) (m : Mem) : Res Its := (a env m).bind enumW
theorem mi_enum {e : Expr} {f : AF} {p pos tpos : Pos} {elts : List Expr} {kk : Nat} (hg : Gl X "enumerate") (hm : X.mg "enumerate" = none) (ha : MA X Wx [e] f) (hs : starEach [e] X.env = [(false, eval e X.env)] := by rfl) :
    MI X Wx (.Tuple elts kk tpos) (.Call (.Name "enumerate" p) [e] [] pos) (iEnumF f) := by
  obtain ⟨t, pa, q⟩ := ha
  refine ⟨_, pi_enum hg hm pa hs, fun env m σ G Q S R h => q env m σ G _ S R (GPost.bind weakI h fun ws m1 vs G1 le1 R1 q1 h1 => ?_)⟩
  unfold enumW at h1
  split at h1
  · rename_i w
    obtain ⟨v, rfl, r⟩ := paired1 q1
    cases e : asS w with
    | none => simp only [e] at h1; exact False.elim h1
    | some ds =>
      simp only [e] at h1
      obtain ⟨a, vs, rfl, hst⟩ := asS_sq R1 r e
      refine ⟨a, vs, rfl, (hst G1 (Le.refl R1)).1, h1 _ G1 (Le.refl R1) R1 ?_⟩
      intro G2 m2 le R2 hz i
      obtain ⟨hq, hr⟩ := hst G2 le
      refine ⟨fun w' hw => ?_, fun hi => ⟨vs, hq, by rw [hr.length]; simpa [itsL, enumD] using hi⟩⟩
      have hw : ((enumD ds).map W.d)[i]? = some w' := hw
      rw [List.getElem?_map] at hw
      unfold enumD at hw
      rw [List.getElem?_map, List.getElem?_zipIdx] at hw
      cases e2 : ds[i]? with
      | none => rw [e2] at hw; cases hw
      | some d =>
        rw [e2] at hw
        cases hw
        obtain ⟨v, g1, g2⟩ := hr.get e2
        refine ⟨⟨vs, v, hq, g1⟩, fun x H' ⟨T, y, ex, hT, eH, hy⟩ => ?_⟩
        have := hy vs hq
        rw [g1] at this
        cases this
        rw [ex, eH]
        have ei : ((0 + i : Nat) : Int) = ((i : Nat) : Int) := by rw [Nat.zero_add]
        show ∃ G3, G3.H = _ ∧ _ ∧ _ ∧ RepW X.K G3 (.ref T) (.d (.tuple [.int ((0 + i : Nat) : Int), d]))
        rw [ei]
        exact itPair R2 hT (.cons (.int _) (.cons g2 .nil))
  · exact False.elim h1
def zipD (ds es : List D) : List D := (ds.zip es).map fun p => .tuple [p.1, p.2]
def zipW (ws : List W) (m : Mem) : Res Its := match ws with
  | [w, u] => match asS w, asS u with
    | some ds, some es => .ok (itsL (zipD ds es)) m
    | _, _ => .bad
  | _ => .bad
def iZipF (a : AF) (env : Env) (m : Mem) : Res Its := (a env m).bind zipW
theorem mi_zip {e e2 : Expr} {f : AF} {p pos tpos : Pos} {elts : List Expr} {kk : Nat} (hg : Gl X "zip") (hm : X.mg "zip" = none) (ha : MA X Wx [e, e2] f)
    (hs : starEach [e, e2] X.env = (false, eval e X.env) :: starEach [e2] X.env := by rfl) (hpl : (backTo pos (starEach [e2] X.env)).any (·.1) = false := by rfl) :
    MI X Wx (.Tuple elts kk tpos) (.Call (.Name "zip" p) [e, e2] [] pos) (iZipF f) := by
  obtain ⟨t, pa, q⟩ := ha
  refine ⟨_, pi_zip hg hm pa hs hpl, fun env m σ G Q S R h => q env m σ G _ S R (GPost.bind weakI h fun ws m1 vs G1 le1 R1 q1 h1 => ?_)⟩
  unfold zipW at h1
  split at h1
  · rename_i w u
    obtain ⟨v, v', rfl, r, r'⟩ := paired2 q1
    cases e : asS w with
    | none => simp only [e] at h1; exact False.elim h1
    | some ds =>
      cases e' : asS u with
      | none => simp only [e, e'] at h1; exact False.elim h1
      | some es =>
        simp only [e, e'] at h1
        obtain ⟨a, vs, rfl, hst⟩ := asS_sq R1 r e
        obtain ⟨b, us, rfl, hst'⟩ := asS_sq R1 r' e'
        refine ⟨a, b, vs, us, rfl, (hst G1 (Le.refl R1)).1, (hst' G1 (Le.refl R1)).1, h1 _ G1 (Le.refl R1) R1 ?_⟩
        intro G2 m2 le R2 hz i
        obtain ⟨hq, hr⟩ := hst G2 le
        obtain ⟨hq', hr'⟩ := hst' G2 le
        refine ⟨fun w' hw => ?_, fun hi => ⟨vs, us, hq, hq', by
          rw [hr.length, hr'.length]
          have hi : ((zipD ds es).map W.d).length ≤ i := hi
          simp [zipD] at hi
          omega⟩⟩
        have hw : ((zipD ds es).map W.d)[i]? = some w' := hw
        rw [List.getElem?_map] at hw
        unfold zipD at hw
        rw [List.getElem?_map] at hw
        cases e2 : (ds.zip es)[i]? with
        | none => rw [e2] at hw; cases hw
        | some d =>
          rw [e2] at hw
          cases hw
          obtain ⟨x1, x2⟩ := List.getElem?_zip_eq_some.mp e2
          obtain ⟨v, g1, g2⟩ := hr.get x1
          obtain ⟨v', g1', g2'⟩ := hr'.get x2
          refine ⟨⟨vs, us, v, v', hq, hq', g1, g1'⟩, fun x H' ⟨T, y, y', ex, hT, eH, hy, hy'⟩ => ?_⟩
          have t1 := hy vs hq
          have t2 := hy' us hq'
          rw [g1] at t1
          rw [g1'] at t2
          cases t1
          cases t2
          rw [ex, eH]
          exact itPair R2 hT (.cons g2 (.cons g2' .nil))
  · exact False.elim h1
end
end M

set_option Elab.async false
set_option linter.all false
set_option maxRecDepth 100000
namespace M
open PySem L2
/-! ### a list that grows aside -/
section
variable {K : PySem.W.Frag} {G G0 : Wd} {m : Mem} {p : Addr} {o : HO}
theorem Mo.updL {lv : List Addr} {H : Hp} (h : p ∈ lv) : Mo lv H lv (upd H p o) := ⟨fun a u e n => by rw [upd_ne (fun z => n (by rw [z]; exact h))]; exact e, fun _ _ _ n => n⟩
theorem RepW.updL {v : V} {w : W} (h : RepW K G v w) (h1 : p ∈ G.lv) : RepW K ⟨G.io, G.lv, upd G.H p o⟩ v w := by
  cases w with
  | d x => exact Rep.mono (Mo.updL h1) h
  | obj i => exact h
  | fl _ => exact h
  | ro ds => obtain ⟨a, vs, e1, e2, e3⟩ := h; exact ⟨a, vs, e1, e2.mono (Mo.updL h1), e3.mono (Mo.updL h1)⟩
theorem RelS.updL {σ : St} {env : Env} (S : RelS K G σ env) (h1 : p ∈ G.lv) : RelS K ⟨G.io, G.lv, upd G.H p o⟩ σ env :=
  ⟨S.len, fun i w e => let ⟨v, a, b⟩ := S.get i w e; ⟨v, a, b.updL h1⟩⟩
theorem RelM.updL (R : RelM K G m) (h1 : p ∈ G.lv) (h2 : p ∉ G.io) : RelM K ⟨G.io, G.lv, upd G.H p o⟩ m := by
  have up : ∀ a, G.H a ≠ none → upd G.H p o a ≠ none := fun a z q => z (upd_none q)
  refine ⟨R.dw, R.len, R.nd, fun a z => up a (R.lt a z), fun a z => up a (R.it a z), fun i a ob e1 e2 => ?_⟩
  have q := R.ob i a ob e1 e2
  have ne : a ≠ p := fun e => h2 (e ▸ List.mem_of_getElem? e1)
  have ea : upd G.H p o a = G.H a := upd_ne ne
  cases ob with
  | lst ds => obtain ⟨z1, vs, z2, r⟩ := q; exact ⟨z1, vs, ea.trans z2, r.mono (Mo.updL h1)⟩
  | fz ds => obtain ⟨z1, vs, z2, r⟩ := q; exact ⟨z1, vs, ea.trans z2, r.mono (Mo.updL h1)⟩
  | dct kvs => obtain ⟨z1, ks, z2, r⟩ := q; exact ⟨z1, ks, ea.trans z2, Paired.mono (fun _ _ z => ⟨z.1, z.2.updL h1⟩) r⟩
theorem Le.updF (le : Le G0 G) (h0 : G0.H p = none) : Le G0 ⟨G.io, G.lv, upd G.H p o⟩ :=
  ⟨le.lt, le.io, le.lv, le.stay, fun a u e n => by
    show upd G.H p o a = _
    rw [upd_ne (ne_of_none e h0)]; exact le.keep a u e n, fun a e => le.tr a (upd_none e)⟩
end
/-! ### readings that do not hang on the place -/
section
variable {X : Cx} {Wx : WX}
def cE (X : Cx) (Wx : WX) (f : EF) : TE := fun σ H Q => ∃ env m G, G.H = H ∧ RelS X.K G σ env ∧ RelM X.K G m ∧ GPost X Wx σ G (RepR X.K) (f env m) Q
def cT (X : Cx) (Wx : WX) (f : TF) : TT := fun σ H Q => ∃ env m G, G.H = H ∧ RelS X.K G σ env ∧ RelM X.K G m ∧ GPost X Wx σ G relEq (f env m) Q
def cG (X : Cx) (g : GF) (is : List Nat) : TG := fun v σ H Q => ∃ w env env' G, G.H = H ∧ RelS X.K G σ env ∧ RepW X.K G v w ∧ g w env = some env' ∧ ∀ σ', Off is σ σ' → RelS X.K G σ' env' → Q σ' G.H
theorem ME.pe {e : Expr} {f : EF} (h : ME X Wx e f) : PE X e (cE X Wx f) := by
  obtain ⟨t, p, q⟩ := h
  refine ⟨fun pins s σ H Q I ⟨env, m, G, eH, S, R, hq⟩ => ?_⟩
  subst eH
  exact p.run pins s σ G.H Q I (q env m σ G Q S R hq)
theorem MG.pg {e : Expr} {g : GF} {is : List Nat} (h : MG X e g is) : PG X e (cG X g is) := by
  obtain ⟨t, p, q⟩ := h
  refine ⟨fun pins s σ H v u Q I r ⟨w, env, env', G, eH, S, rr, eg, hq⟩ => ?_⟩
  subst eH
  exact p.run pins s σ G.H v u Q I r (q w env env' σ G v Q S rr eg hq)
def MTs (X : Cx) (Wx : WX) (es : List Expr) (f : TF) : Prop :=
  ∃ t, PTs X es t ∧ ∀ env m σ G Q, RelS X.K G σ env → RelM X.K G m → GPost X Wx σ G relEq (f env m) Q → t σ G.H Q
theorem MTs.pts {e : List Expr} {f : TF} (h : MTs X Wx e f) : PTs X e (cT X Wx f) := by
  obtain ⟨t, p, q⟩ := h
  refine ⟨fun pins s σ H Q I ⟨env, m, G, eH, S, R, hq⟩ => ?_⟩
  subst eH
  exact p.run pins s σ G.H Q I (q env m σ G Q S R hq)
def tYesF (_ : Env) (m : Mem) : Res Bool := .ok true m
theorem mts_nil : MTs X Wx [] tYesF := ⟨_, pts_nil, fun env m σ G Q S R h => h true G (Le.refl R) R rfl⟩
theorem mts_one {c : Expr} {f : TF} (h : MT X Wx c f) : MTs X Wx [c] f := let ⟨t, p, q⟩ := h; ⟨t, pts_one p, q⟩
/-! ### comprehensions -/
abbrev WF : WX := fun _ _ _ _ => False
def noErr {α : Type} (r : Res α) : Res α := match r with
  | .err _ _ => .bad
  | r => r
def wipeE (env : Env) : List Nat → Env
  | [] => env
  | v :: vs => (wipeE env vs).set v none
theorem wipe_get (σ : St) : ∀ (vs : List Nat) (j : Nat), (wipe σ vs)[j]? = if j ∈ vs then (σ[j]?).map (fun _ => none) else σ[j]?
  | [], j => by simp [wipe]
  | v :: vs, j => by
    unfold wipe
    by_cases hj : v = j
    · subst hj
      rw [List.getElem?_set]
      simp only [if_true, wipe_length, List.mem_cons, true_or, if_true]
      by_cases hv : v < σ.length
      · rw [if_pos hv, List.getElem?_eq_getElem hv]; rfl
      · rw [if_neg hv, List.getElem?_eq_none (by omega)]; rfl
    · rw [List.getElem?_set_ne hj, wipe_get σ vs j]
      have : (j ∈ v :: vs) ↔ j ∈ vs := by simp [List.mem_cons, Ne.symm hj]
      simp only [this]
theorem wipe_off {σ σ' : St} {is vs : List Nat} (h : Off is (wipe σ vs) σ') (hs : ∀ i ∈ is, i ∈ vs) : wipe σ' vs = wipe σ vs := by
  apply List.ext_getElem?
  intro j
  rw [wipe_get, wipe_get]
  by_cases hj : j ∈ vs
  · simp only [hj, if_true]
    have hl : σ'.length = σ.length := by rw [h.len, wipe_length]
    by_cases hz : j < σ.length
    · rw [List.getElem?_eq_getElem hz, List.getElem?_eq_getElem (by omega)]; rfl
    · rw [List.getElem?_eq_none (by omega), List.getElem?_eq_none (by omega)]
  · simp only [hj, if_false]
    rw [h.get j fun z => hj (hs j z), wipe_get]
    simp only [hj, if_false]
theorem wipeE_length (env : Env) : ∀ vs : List Nat, (wipeE env vs).length = env.length
  | [] => rfl
  | v :: vs => by unfold wipeE; rw [List.length_set, wipeE_length env vs]
theorem RelS.wipe {K : PySem.W.Frag} {G : Wd} {σ : St} {env : Env} (S : RelS K G σ env) : ∀ vs : List Nat, RelS K G (wipe σ vs) (wipeE env vs)
  | [] => S
  | v :: vs => by
    have S' := RelS.wipe S vs
    refine ⟨by unfold L2.wipe wipeE; rw [List.length_set, List.length_set]; exact S'.len, fun i w e => ?_⟩
    unfold wipeE at e
    unfold L2.wipe
    by_cases hj : v = i
    · subst hj
      rw [List.getElem?_set] at e
      simp only [if_true] at e
      split at e <;> cases e
    · rw [List.getElem?_set_ne hj] at e ⊢
      exact S'.get i w e
def lcM (chk : Mem → Bool) (b : W → Mem → Res (Option D)) : List W → List D → Mem → Res W
  | [], acc, m => if chk m = true then .ok (.fl acc) m else .bad
  | x :: r, acc, m => if chk m = true then (b x m).bind fun o m1 => match o with
    | none => lcM chk b r acc m1
    | some d => if acc.length < sizeLine then lcM chk b r (acc ++ [d]) m1 else .bad
    else .bad
def lcB (g : GF) (ft : TF) (fe : EF) (env : Env) (x : W) (m : Mem) : Res (Option D) := match g x env with
  | none => .bad
  | some e => (noErr (ft e m)).bind fun t m1 => if t = true then (noErr (fe e m1)).bind fun w m2 => match w with
      | .d x => .ok (some x) m2
      | _ => .bad
    else .ok none m1
def eLc (fi : IF) (g : GF) (ft : TF) (fe : EF) (vs : List Nat) (env : Env) (m : Mem) : Res W := (fi env m).bind fun I m1 => lcM I.chk (lcB g ft fe (wipeE env vs)) I.xs [] m1
theorem lcQ {fi : IF} {g : GF} {is : List Nat} {ft : TF} {fe : EF} {vs : List Nat} {wi : TI} (hsub : ∀ i ∈ is, i ∈ vs) (qi : ∀ env m σ G Q, RelS X.K G σ env → RelM X.K G m → GPost X Wx σ G (relI X.K) (fi env m) Q → wi σ G.H Q)
    (env : Env) (m : Mem) (σ : St) (G : Wd) (Q : VK) (S : RelS X.K G σ env) (R : RelM X.K G m) (h : GPost X Wx σ G (RepR X.K) (eLc fi g ft fe vs env m) Q) : tLc wi (cG X g is) (cT X WF ft) (cE X WF fe) vs σ G.H Q := by
  refine qi env m σ G _ S R (GPost.bind0 h fun I m1 J G1 le1 R1 hJ h1 => ?_)
  intro A hA
  refine ⟨fun i k H' => ∃ m' G' acc av, G'.H = H' ∧ k + i = I.xs.length ∧ Le G1 G' ∧ RelM X.K G' m' ∧ A ∈ G'.lv ∧ A ∉ G'.io ∧ G'.H A = some (.lst av) ∧ Reps X.K G'.lv G'.H av acc ∧ GPost X Wx σ G (RepR X.K) (lcM I.chk (lcB g ft fe (wipeE env vs)) (I.xs.drop i) acc m') Q,
    ⟨I.xs.length, m1, ⟨G1.io, A :: G1.lv, upd G1.H A (.lst [])⟩, [], [], rfl, Nat.add_zero _, Le.newL R1 hA, R1.newL hA, List.mem_cons_self, (R1.ne hA).1, upd_same, .nil, h1⟩, ?_⟩
  rintro i k H' ⟨m', G', acc, av, rfl, hk, le', R', l1, l2, l3, l4, h'⟩
  cases ex : I.xs.drop i with
  | nil =>
    rw [ex] at h'
    have hl : I.xs.length ≤ i := List.drop_eq_nil_iff.mp ex
    by_cases hz : I.chk m' = true
    · simp only [lcM, hz, if_true] at h'
      exact .inl ⟨(hJ G' m' le' R' hz i).2 hl, h' (.ref A) G' (le1.trans le') R' ⟨A, av, rfl, le1.tr A hA, l2, l1, l3, l4⟩⟩
    · simp only [lcM, hz] at h'
      exact False.elim h'
  | cons w r =>
    rw [ex] at h'
    have hi : I.xs[i]? = some w := by
      have := congrArg (·[0]?) ex
      simpa using this
    have hr : I.xs.drop (i + 1) = r := by
      have := congrArg List.tail ex
      simpa using this
    by_cases hz : I.chk m' = true
    · simp only [lcM, hz, if_true] at h'
      obtain ⟨go, yl⟩ := (hJ G' m' le' R' hz i).1 w hi
      have hlt : i < I.xs.length := (List.getElem?_eq_some_iff.mp hi).1
      refine .inr ⟨go, fun H2 => ∃ m' G' acc av, G'.H = H2 ∧ Le G1 G' ∧ RelM X.K G' m' ∧ A ∈ G'.lv ∧ A ∉ G'.io ∧ G'.H A = some (.lst av) ∧ Reps X.K G'.lv G'.H av acc ∧ GPost X Wx σ G (RepR X.K) (lcM I.chk (lcB g ft fe (wipeE env vs)) r acc m') Q,
        fun H2 ⟨m2, G2, ac, a2, z1, z2, z3, z4, z5, z6, z7, z8⟩ => ⟨k - 1, by omega, m2, G2, ac, a2, z1, by omega, z2, z3, z4, z5, z6, z7, by rw [hr]; exact z8⟩, fun x H3 hy => ?_⟩
      obtain ⟨G3, rfl, le3, R3, rw3⟩ := yl x H3 hy
      have S3 : RelS X.K G3 (L2.wipe σ vs) (wipeE env vs) := ((S.mono le1).mono (le'.trans le3)).wipe vs
      cases eg : g w (wipeE env vs) with
      | none => simp only [lcB, eg] at h'; exact False.elim h'
      | some e1 =>
        simp only [lcB, eg] at h'
        refine ⟨w, _, e1, G3, rfl, S3, rw3, eg, fun σ4 o4 S4 => ⟨wipe_off o4 hsub, e1, m', G3, rfl, S4, R3, ?_⟩⟩
        cases et : ft e1 m' with
        | bad => rw [et] at h'; exact False.elim h'
        | err _ _ => rw [et] at h'; exact False.elim h'
        | ok t m4 =>
          rw [et] at h'
          intro t' G4 le4 R4 q4
          rw [show t' = t from q4]
          have le34 := le3.trans le4
          have k1 : A ∈ G4.lv := le34.stay _ l1 l2
          have k2 : A ∉ G4.io := le34.nio (by rw [l3]; simp) l2
          have k3 : G4.H A = some (.lst av) := le34.keep _ _ l3 fun z => l2 z.1
          have k4 : Reps X.K G4.lv G4.H av acc := l4.mono le34.mo
          cases t with
          | false => exact iteF ⟨m4, G4, acc, av, rfl, le'.trans le34, R4, k1, k2, k3, k4, h'⟩
          | true =>
            refine iteT ⟨e1, m4, G4, rfl, S4.mono le4, R4, ?_⟩
            simp only [noErr, Res.bind_ok, if_true] at h'
            cases ee : fe e1 m4 with
            | bad => rw [ee] at h'; exact False.elim h'
            | err _ _ => rw [ee] at h'; exact False.elim h'
            | ok w5 m5 =>
              rw [ee] at h'
              intro v5 G5 le5 R5 q5
              cases w5 with
              | d x5 =>
                simp only [Res.bind_ok] at h'
                have c1 : A ∈ G5.lv := le5.stay _ k1 k2
                have c2 : A ∉ G5.io := le5.nio (by rw [k3]; simp) k2
                have c3 : G5.H A = some (.lst av) := le5.keep _ _ k3 fun z => k2 z.1
                have c4 : Reps X.K G5.lv G5.H av acc := k4.mono le5.mo
                by_cases hs : acc.length < sizeLine
                · simp only [hs, if_true] at h'
                  refine ⟨av, c3, by rw [c4.length]; exact hs, m5, ⟨G5.io, G5.lv, upd G5.H A (.lst (av ++ [v5]))⟩, acc ++ [x5], av ++ [v5], rfl, (le'.trans (le34.trans le5)).updF hA, R5.updL c1 c2, c1, c2, upd_same, ?_, h'⟩
                  exact (c4.append (.one q5)).mono (Mo.updL c1)
                · simp only [hs, if_false] at h'
                  exact False.elim h'
              | _ => exact False.elim h'
    · simp only [lcM, hz] at h'
      exact False.elim h'
theorem me_lc {elt tg iter : Expr} {ifs : List Expr} {scope : Scope} {own : List (Str × Nat)} {pos : Pos} {fi : IF} {g : GF} {is : List Nat} {ft : TF} {fe : EF} (hc : X.calm = true) (hN : X.N.Nodup) (hi : MI X Wx tg iter fi) (ok : BlkOk X.N X.env.scope scope own)
    (hg : ∀ (s : Shared) (H : Hp) (C : Addr) (cl : List (Str × Addr)) (fp : List Addr), MG (X.blk s H scope (compEnvC scope cl C X.env) fp) tg g is) (ht : ∀ (s : Shared) (H : Hp) (C : Addr) (cl : List (Str × Addr)) (fp : List Addr), MTs (X.blk s H scope (compEnvC scope cl C X.env) fp) WF ifs ft)
    (he : ∀ (s : Shared) (H : Hp) (C : Addr) (cl : List (Str × Addr)) (fp : List Addr), ME (X.blk s H scope (compEnvC scope cl C X.env) fp) WF elt fe) (hsub : ∀ i ∈ is, i ∈ own.map (·.2) := by decide) (hs : ∀ x, foldedSetIterable iter X.env x = pure x := by intro _; rfl) :
    ME X Wx (.ListComp elt [⟨tg, iter, ifs, 0⟩] scope pos) (eLc fi g ft fe (own.map (·.2))) := by
  obtain ⟨wi, pi, qi⟩ := hi
  exact ⟨_, pe_lc (g := cG X g is) (tt := cT X WF ft) (te := cE X WF fe) hc hN pi ok (fun s H C cl fp => (hg s H C cl fp).pg) (fun s H C cl fp => (ht s H C cl fp).pts) (fun s H C cl fp => (he s H C cl fp).pe) hs, fun env m σ G Q S R h => lcQ hsub qi env m σ G Q S R h⟩
/-- name = [..] on one line -/
theorem ms_setLc (i : Nat) {y : Str} {py : Pos} {elt tg iter : Expr} {ifs : List Expr} {scope : Scope} {own : List (Str × Nat)} {pos spos : Pos} {fi : IF} {g : GF} {is : List Nat} {ft : TF} {fe : EF} {cv : EF → EF} (hcv : ∀ {t : TE} {f : EF}, (∀ env m σ G Q, RelS X.K G σ env → RelM X.K G m → GPost X Wx σ G (RepR X.K) (f env m) Q → t σ G.H Q) → ∀ env m σ G Q, RelS X.K G σ env → RelM X.K G m → GPost X Wx σ G (RepR X.K) (cv f env m) Q → t σ G.H Q)
    (hc : X.calm = true) (hN : X.N.Nodup) (hi : MI X Wx tg iter fi) (ok : BlkOk X.N X.env.scope scope own)
    (hg : ∀ (s : Shared) (H : Hp) (C : Addr) (cl : List (Str × Addr)) (fp : List Addr), MG (X.blk s H scope (compEnvC scope cl C X.env) fp) tg g is) (ht : ∀ (s : Shared) (H : Hp) (C : Addr) (cl : List (Str × Addr)) (fp : List Addr), MTs (X.blk s H scope (compEnvC scope cl C X.env) fp) WF ifs ft)
    (he : ∀ (s : Shared) (H : Hp) (C : Addr) (cl : List (Str × Addr)) (fp : List Addr), ME (X.blk s H scope (compEnvC scope cl C X.env) fp) WF elt fe)
    (hsw : swapsWith (.ListComp elt [⟨tg, iter, ifs, 0⟩] scope pos) (some (.Name y py)) spos.line X.env = pure true) (hy : X.N[i]? = some y := by rfl) (hyl : X.env.scope.names.lookup y = some .local := by rfl)
    (hsub : ∀ i ∈ is, i ∈ own.map (·.2) := by decide) (hs : ∀ x, foldedSetIterable iter X.env x = pure x := by intro _; rfl) :
    MS X Wx (.Assign [.Name y py] (.ListComp elt [⟨tg, iter, ifs, 0⟩] scope pos) spos) (sAsg (cv (eLc fi g ft fe (own.map (·.2)))) (gSet i)) := by
  obtain ⟨wi, pi, qi⟩ := hi
  refine ⟨_, ps_setLc (g := cG X g is) (tt := cT X WF ft) (te := cE X WF fe) hc hN hy hyl hsw pi ok (fun s H C cl fp => (hg s H C cl fp).pg) (fun s H C cl fp => (ht s H C cl fp).pts) (fun s H C cl fp => (he s H C cl fp).pe) hs, fun env m σ G E S R h => ?_⟩
  exact hcv (lcQ hsub qi) env m σ G _ S R (SPost.ofE h S fun w m1 v G1 le R1 q1 h1 => asgQ (G := G) (g := gSet i) (t := gName i) (is := [i]) (fun w env env' σ G v Q S r e h => by cases e; exact h _ (Off.set i) (S.set r)) (S.mono le) R1 q1 h1)
theorem cvFrz {t : TE} {f : EF} (h : ∀ env m σ G Q, RelS X.K G σ env → RelM X.K G m → GPost X Wx σ G (RepR X.K) (f env m) Q → t σ G.H Q) : ∀ env m σ G Q, RelS X.K G σ env → RelM X.K G m → GPost X Wx σ G (RepR X.K) (eFrz f env m) Q → t σ G.H Q :=
  fun env m σ G Q S R q => h env m σ G Q S R (frzQ q)
theorem cvObj {t : TE} {f : EF} (h : ∀ env m σ G Q, RelS X.K G σ env → RelM X.K G m → GPost X Wx σ G (RepR X.K) (f env m) Q → t σ G.H Q) : ∀ env m σ G Q, RelS X.K G σ env → RelM X.K G m → GPost X Wx σ G (RepR X.K) (eObj f env m) Q → t σ G.H Q :=
  fun env m σ G Q S R q => h env m σ G Q S R (objQ q)
end
end M

set_option Elab.async false
set_option linter.all false
set_option maxRecDepth 100000
namespace M
open PySem L2
/-! ### what a def promises -/
def CPost (K : PySem.W.Frag) (mg : Str → Option Value) (G : Wd) (r : Res W) (Q : VK) (E : XK) : Prop :=
  match r with
  | .ok w m => ∀ v G', Le G G' → RelM K G' m → RepR K G.H G' v w → Q v G'.H
  | .err e m => ∀ c d G', Le G G' → RelM K G' m → ExRep mg K G' c d e → E c d G'.H
  | .bad => False
abbrev FF := List W → Mem → Res W
def SpM (K : PySem.W.Frag) (mg : Str → Option Value) (n : Nat) (F : FF) : Sp := fun vs H Q E => ∃ G ws m, G.H = H ∧ RelM K G m ∧ Paired (RepW K G) vs ws ∧ ws.length = n ∧ CPost K mg G (F ws m) Q E
/-! ### leaving a def: what it made goes -/
def finM (n : Nat) (w : W) (m : Mem) : Res W := match w with
  | .obj j => if j < n then .ok (.obj j) (m.take n) else match m[j]? with
    | some (.lst ds) => .ok (.fl ds) (m.take n)
    | some (.fz ds) => .ok (.d (.list ds)) (m.take n)
    | _ => .bad
  | w => .ok w (m.take n)
def Wd.cut (G' G : Wd) (kp : Option Addr) : Wd := ⟨G.io, G'.lv.filter (fun a => decide (a ∈ G.lv ∨ some a = kp)), G'.H⟩
section
variable {K : PySem.W.Frag} {mg : Str → Option Value} {G G' : Wd} {m m' : Mem} {kp : Option Addr}
theorem mem_cut {a : Addr} : a ∈ (G'.cut G kp).lv ↔ a ∈ G'.lv ∧ (a ∈ G.lv ∨ some a = kp) := by
  show a ∈ G'.lv.filter _ ↔ _
  rw [List.mem_filter]
  simp
theorem Mo.cut : Mo G'.lv G'.H (G'.cut G kp).lv (G'.cut G kp).H := ⟨fun _ _ h _ => h, fun _ _ _ n z => n (mem_cut.mp z).1⟩
theorem Le.cut (le : Le G G') : Le G (G'.cut G kp) :=
  ⟨le.lt, ⟨[], by simp [Wd.cut], fun _ z => nomatch z⟩, fun a z => le.lv a (mem_cut.mp z).1, fun a z n => mem_cut.mpr ⟨le.stay a z n, .inl z⟩, le.keep, le.tr⟩
theorem Le.ioTake (le : Le G G') {i : Nat} (h : i < G.io.length) : G'.io[i]? = G.io[i]? := by
  obtain ⟨κ, e, _⟩ := le.io
  rw [e, List.getElem?_append_left h]
theorem RepW.cut {v : V} {w : W} (h : RepW K G' v w) (le : Le G G') (ok : okW G.io.length w = true) : RepW K (G'.cut G kp) v w := by
  cases w with
  | d x => exact Rep.mono Mo.cut h
  | obj j =>
    obtain ⟨a, h1, h2⟩ := h
    have hj : j < G.io.length := by simpa [okW] using ok
    exact ⟨a, by show G.io[j]? = _; rw [← le.ioTake hj]; exact h1, h2⟩
  | fl _ => cases ok
  | ro ds => obtain ⟨a, vs, e1, e2, e3⟩ := h; exact ⟨a, vs, e1, e2.mono Mo.cut, e3.mono Mo.cut⟩
theorem paired_all {α β : Type} {F F' : α → β → Prop} {p : β → Bool} (hm : ∀ a b, p b = true → F a b → F' a b) : ∀ {l₁ : List α} {l₂ : List β}, Paired F l₁ l₂ → l₂.all p = true → Paired F' l₁ l₂
  | _, _, .nil, _ => .nil
  | _, _, .cons h t, e => by
    rw [List.all_cons, Bool.and_eq_true] at e
    exact .cons (hm _ _ e.1 h) (paired_all hm t e.2)
theorem okW.le {i n : Nat} {w : W} (h : okW i w = true) (hi : i ≤ n) : okW n w = true := by
  cases w with
  | obj j => have h : j < i := by simpa [okW] using h
             show decide (j < n) = true
             exact decide_eq_true (by omega)
  | d _ => rfl
  | ro _ => rfl
  | fl _ => cases h
theorem RelM.cut (R : RelM K G m) (R' : RelM K G' m') (le : Le G G') : RelM K (G'.cut G kp) (m'.take m.length) := by
  have hn : G.io.length = m.length := R.len
  have hl : m.length ≤ m'.length := by
    obtain ⟨κ, e, _⟩ := le.io
    rw [← R'.len, e, List.length_append, hn]; omega
  refine ⟨fun i o e => R'.dw i o (by
      have hl := (List.getElem?_eq_some_iff.mp e).1
      rw [List.length_take] at hl
      rw [List.getElem?_take_of_lt (by omega)] at e
      exact e), by show G.io.length = _; rw [List.length_take, hn]; omega, R.nd, fun a z => R'.lt a (mem_cut.mp z).1, fun a z => fun e => R.it a z (le.tr a e), fun i a ob e1 e2 => ?_⟩
  have e1 : G.io[i]? = some a := e1
  have hi : i < G.io.length := (List.getElem?_eq_some_iff.mp e1).1
  rw [List.getElem?_take_of_lt (by omega)] at e2
  have q := R'.ob i a ob (by rw [le.ioTake hi]; exact e1) e2
  have lv' : a ∈ G'.lv → a ∈ (G'.cut G kp).lv := fun z => mem_cut.mpr ⟨z, .inl (by
    rcases le.lv a z with y | y
    · exact y
    · exact absurd y (R.it a (List.mem_of_getElem? e1)))⟩
  have hok : okO i ob = true := R'.dw i ob e2
  cases ob with
  | lst ds => obtain ⟨z1, vs, z2, r⟩ := q; exact ⟨lv' z1, vs, z2, r.mono Mo.cut⟩
  | fz ds => obtain ⟨z1, vs, z2, r⟩ := q; exact ⟨fun z => z1 (mem_cut.mp z).1, vs, z2, r.mono Mo.cut⟩
  | dct kvs =>
    obtain ⟨z1, ks, z2, r⟩ := q
    exact ⟨lv' z1, ks, z2, paired_all (fun a b hb z => ⟨z.1, z.2.cut le (okW.le hb (Nat.le_of_lt hi))⟩) r hok⟩
theorem finM_ok {Q : VK} {E : XK} {w : W} {v : V} (R : RelM K G m) (R' : RelM K G' m') (le : Le G G') (r : RepR K G.H G' v w) (h : CPost K mg G (finM m.length w m') Q E) : Q v G'.H := by
  unfold finM at h
  · have hn : G.io.length = m.length := R.len
    cases w with
    | d x => exact h v (G'.cut G none) le.cut (R.cut R' le) (Rep.mono Mo.cut r)
    | ro ds => exact h v (G'.cut G none) le.cut (R.cut R' le) (by obtain ⟨a, vs, e1, e2, e3⟩ := r; exact ⟨a, vs, e1, e2.mono Mo.cut, e3.mono Mo.cut⟩)
    | fl ds =>
      obtain ⟨p, vs, rfl, h0, h1, h2, h3, r⟩ := r
      refine h (.ref p) (G'.cut G (some p)) le.cut (R.cut R' le) ⟨p, vs, rfl, h0, fun z => R.it p z h0, mem_cut.mpr ⟨h2, .inr rfl⟩, h3, r.mono Mo.cut⟩
    | obj j =>
      obtain ⟨a, h1, rfl⟩ := r
      simp only at h
      by_cases hj : j < m.length
      · rw [if_pos hj] at h
        exact h (.ref a) (G'.cut G none) le.cut (R.cut R' le) ⟨a, by show G.io[j]? = _; rw [← le.ioTake (by omega)]; exact h1, rfl⟩
      · rw [if_neg hj] at h
        obtain ⟨κ, ek, nk⟩ := le.io
        have ha : a ∈ κ := by
          rw [ek, List.getElem?_append_right (by omega)] at h1
          exact List.mem_of_getElem? h1
        have h0 : G.H a = none := nk a ha
        cases eo : m'[j]? with
        | none => rw [eo] at h; exact False.elim h
        | some ob =>
          rw [eo] at h
          have q := R'.ob j a ob h1 eo
          cases ob with
          | lst ds =>
            obtain ⟨z1, vs, z2, r⟩ := q
            exact h (.ref a) (G'.cut G (some a)) le.cut (R.cut R' le) ⟨a, vs, rfl, h0, fun z => R.it a z h0, mem_cut.mpr ⟨z1, .inr rfl⟩, z2, r.mono Mo.cut⟩
          | fz ds =>
            obtain ⟨z1, vs, z2, r⟩ := q
            exact h (.ref a) (G'.cut G none) le.cut (R.cut R' le) (Rep.lst ⟨fun z => z1 (mem_cut.mp z).1, z2⟩ (r.mono Mo.cut))
          | dct kvs => exact False.elim h
end
/-! ### a def by its body -/
def env0 (N : Nat) (ws : List W) : Env := ws.map some ++ List.replicate (N - ws.length) none
def runF (N : Nat) (g : SF) (ws : List W) (m : Mem) : Res W := match g (env0 N ws) m with
  | .rt w m' => finM m.length w m'
  | .nx _ m' => finM m.length (.d .none) m'
  | .err e _ m' => .err e (m'.take m.length)
  | _ => .bad
/-- what it made stays -/
def runA (N : Nat) (g : SF) (ws : List W) (m : Mem) : Res W := match g (env0 N ws) m with
  | .rt w m' => .ok w m'
  | .nx _ m' => .ok (.d .none) m'
  | .err e _ m' => .err e m'
  | _ => .bad
theorem Paired.get {α β : Type} {F : α → β → Prop} : ∀ {l₁ : List α} {l₂ : List β} {i : Nat} {b : β}, Paired F l₁ l₂ → l₂[i]? = some b → ∃ a, l₁[i]? = some a ∧ F a b
  | _, _, _, _, .nil, e => by simp at e
  | _, _, 0, _, .cons h t, e => by simp at e; subst e; exact ⟨_, rfl, h⟩
  | _, _, i + 1, b, .cons h t, e => by
    obtain ⟨a, h1, h2⟩ := Paired.get (i := i) (b := b) t (by simpa using e)
    exact ⟨a, by simpa using h1, h2⟩
theorem RelS.start {K : PySem.W.Frag} {G : Wd} {N : List Str} {vs : List V} {ws : List W} (h : Paired (RepW K G) vs ws) : RelS K G (L2.start N vs) (env0 N.length ws) := by
  have hl := Paired.length h
  refine ⟨by unfold L2.start env0; simp [hl], fun i w e => ?_⟩
  unfold env0 at e
  by_cases hi : i < ws.length
  · rw [List.getElem?_append_left (by simpa using hi), List.getElem?_map] at e
    cases q : ws[i]? with
    | none => rw [q] at e; cases e
    | some u =>
      rw [q] at e
      cases e
      obtain ⟨v, h1, h2⟩ := Paired.get h q
      exact ⟨v, by unfold L2.start; rw [List.getElem?_append_left (by simp [hl]; exact hi), List.getElem?_map, h1]; rfl, h2⟩
  · rw [List.getElem?_append_right (by simpa using hi), List.getElem?_replicate] at e
    split at e <;> cases e
section
variable {P : Program} {w : World} {K : PySem.W.Frag} {mg : Str → Option Value} {base : Heap}
abbrev cxM (P : Program) (w : World) (K : PySem.W.Frag) (mg : Str → Option Value) (base : Heap) (N : List Str) (qual : Str) (scope : Scope) (f : Addr) (cd : Value) (A : Around) (outer : List PySem.Env) (s : Shared) (H : Hp) (E : XK) : Cx :=
  cxOf (L2.CX P w) P w K mg base N qual scope f cd A outer s H E
theorem okF {x qual : Str} {st : Stmt} {f : Addr} {fd : FuncData} {N ps : List Str} {k : Nat} {g : SF} (F : Fun K x qual st f fd) (S : FnScope N ps (defScope st))
    (hbody : ∀ (cdv : Value) (A : Around) (outer : List PySem.Env) (s : Shared) (H : Hp) (E : XK), Room k (A.deeper (PyProof.Rows.envOfC qual (defScope st) s.heap.objs.size f cdv)) →
      MB (cxM P w K mg base N qual (defScope st) f cdv A outer s H E) (fun c d _ H' => E c d H') (defBody st) g) : FnOk P w K mg base (L2.CX P w) (k + 1) f fd ps (SpM K mg ps.length (runF N.length g)) := by
  refine F.okX S (fun vs H Q E ⟨G, ws, m, _, _, h, hl, _⟩ => (Paired.length h).trans hl) fun cdv A outer s H vs Q E hr ⟨G, ws, m, eH, R, hp, hl, hq⟩ => ?_
  subst eH
  obtain ⟨t, p, q⟩ := hbody cdv A outer s G.H E hr
  refine ⟨t, p, q (env0 N.length ws) m (L2.start N vs) G _ (RelS.start hp) R ?_⟩
  unfold runF at hq
  cases e : g (env0 N.length ws) m with
  | rt w' m' => rw [e] at hq; exact fun v G' le R' r => finM_ok R R' le r hq
  | nx e1 m' => rw [e] at hq; exact fun σ' G' le R' S' => finM_ok (w := .d .none) (v := .non) R R' le Rep.non hq
  | bk e1 m' => rw [e] at hq; exact False.elim hq
  | ct e1 m' => rw [e] at hq; exact False.elim hq
  | err x e1 m' =>
    rw [e] at hq
    intro c d σ' G' le R' S' hx
    refine hq c d (G'.cut G none) le.cut (R.cut R' le) ⟨hx.1, ?_⟩
    rcases hx.2 with z | ⟨dd, fs, z1, z2, z3, z4⟩
    · exact .inl z
    · refine .inr ⟨dd, fs, z1, z2, fun z => z3 ?_, Paired.mono (fun _ _ z => ⟨z.1, Rep.mono Mo.cut z.2⟩) z4⟩
      obtain ⟨κ, ek, _⟩ := le.io
      rw [ek]
      exact List.mem_append_left _ z
  | bad => rw [e] at hq; exact False.elim hq
theorem okA {x qual : Str} {st : Stmt} {f : Addr} {fd : FuncData} {N ps : List Str} {k : Nat} {g : SF} (F : Fun K x qual st f fd) (S : FnScope N ps (defScope st))
    (hbody : ∀ (cdv : Value) (A : Around) (outer : List PySem.Env) (s : Shared) (H : Hp) (E : XK), Room k (A.deeper (PyProof.Rows.envOfC qual (defScope st) s.heap.objs.size f cdv)) →
      MB (cxM P w K mg base N qual (defScope st) f cdv A outer s H E) (fun c d _ H' => E c d H') (defBody st) g) : FnOk P w K mg base (L2.CX P w) (k + 1) f fd ps (SpM K mg ps.length (runA N.length g)) := by
  refine F.okX S (fun vs H Q E ⟨G, ws, m, _, _, h, hl, _⟩ => (Paired.length h).trans hl) fun cdv A outer s H vs Q E hr ⟨G, ws, m, eH, R, hp, hl, hq⟩ => ?_
  subst eH
  obtain ⟨t, p, q⟩ := hbody cdv A outer s G.H E hr
  refine ⟨t, p, q (env0 N.length ws) m (L2.start N vs) G _ (RelS.start hp) R ?_⟩
  unfold runA at hq
  cases e : g (env0 N.length ws) m with
  | rt w' m' => rw [e] at hq; exact hq
  | nx e1 m' => rw [e] at hq; exact fun σ' G' le R' S' => hq .non G' le R' Rep.non
  | bk e1 m' => rw [e] at hq; exact False.elim hq
  | ct e1 m' => rw [e] at hq; exact False.elim hq
  | err x e1 m' => rw [e] at hq; exact fun c d σ' G' le R' S' hx => hq c d G' le R' hx
  | bad => rw [e] at hq; exact False.elim hq
/-- nothing is asked of it -/
def badF (_ : List W) (_ : Mem) : Res W := .bad
theorem okBad {f : Addr} {fd : FuncData} {ps : List Str} {k n : Nat} : FnOk P w K mg base (L2.CX P w) k f fd ps (SpM K mg n badF) := by
  have no : ∀ vs H Q E, ¬ SpM K mg n badF vs H Q E := fun vs H Q E ⟨_, _, _, _, _, _, _, h⟩ => h
  exact ⟨fun vs H Q E h => absurd h (no vs H Q E), fun A outer s H args us vs Q E _ _ _ _ h => absurd h (no vs H Q E)⟩
end
/-! ### calls of defs -/
section
variable {X : Cx} {Wx : WX}
def noFl : List W → Bool
  | [] => true
  | .fl _ :: _ => false
  | _ :: r => noFl r
theorem noFl_rep {K : PySem.W.Frag} {H0 : Hp} {G : Wd} : ∀ {vs : List V} {ws : List W}, RepRs K H0 G vs ws → noFl ws = true → Paired (RepW K G) vs ws
  | _, _, .nil, _ => .nil
  | _, .d x :: _, .cons h t, e => .cons h (noFl_rep t e)
  | _, .obj x :: _, .cons h t, e => .cons h (noFl_rep t e)
  | _, .ro x :: _, .cons h t, e => .cons h (noFl_rep t e)
  | _, .fl x :: _, .cons h t, e => by cases e
def callM (F : FF) (ws : List W) (m : Mem) : Res W := if noFl ws = true then F ws m else .bad
def eCallF (F : FF) (a : AF) (env : Env) (m : Mem) : Res W := (a env m).bind fun ws m1 => callM F ws m1
theorem callM_ok {F : FF} {σ : St} {G : Wd} {m : Mem} {vs : List V} {ws : List W} {H0 : Hp} {Q : VK} {n : Nat} (R : RelM X.K G m) (r : RepRs X.K H0 G vs ws) (hn : ws.length = n) (h : GPost X Wx σ G (RepR X.K) (callM F ws m) Q) : SpM X.K X.mg n F vs G.H Q (WE Wx σ) := by
  unfold callM at h
  by_cases hz : noFl ws = true
  · rw [if_pos hz] at h
    refine ⟨G, ws, m, rfl, R, noFl_rep r hz, hn, ?_⟩
    cases e : F ws m with
    | ok w m' => rw [e] at h; exact h
    | err x m' => rw [e] at h; exact h
    | bad => rw [e] at h; exact h
  · rw [if_neg hz] at h
    exact False.elim h
theorem me_call {k n : Nat} {f : Addr} {fd : FuncData} {ps : List Str} {x : Str} {p pos : Pos} {e : Expr} {es : List Expr} {F : FF} {g : AF} (tk : Takes X Wx) (hF : FnOk X.prog X.w X.K X.mg X.base (L2.CX X.prog X.w) k f fd ps (SpM X.K X.mg n F)) (hr : Room k X.A) (hm : X.mg x = some (.ref f)) (hk : PySem.W.keepIn X.K (.ref f) = true)
    (hb : Binds X.K fd ps []) (hg : Gl X x) (ha : MA X Wx (e :: es) g) (hn : ∀ env m ws m', g env m = .ok ws m' → ws.length = n) (hdb : (x == ("__debug__" : Str)) = false := by decide) (he : starEach (e :: es) X.env = (false, eval e X.env) :: starEach es X.env := by rfl) (hpl : (backTo pos (starEach es X.env)).any (·.1) = false := by rfl) :
    ME X Wx (.Call (.Name x p) (e :: es) [] pos) (eCallF F g) := by
  obtain ⟨t, pa, qa⟩ := ha
  refine ⟨_, pe_callS hF hr hg hm hk hb (fun σ => passAt tk σ) pa hdb he hpl, fun env m σ G Q S R h => ?_⟩
  unfold eCallF at h
  cases ew : g env m with
  | ok ws m1 =>
    have hl := hn env m ws m1 ew
    rw [ew] at h
    refine qa env m σ G _ S R ?_
    rw [ew]
    exact fun vs G1 le1 R1 q1 => callM_ok R1 q1 hl (GPost.later weakR h le1)
  | err x m1 => rw [ew] at h; refine qa env m σ G _ S R ?_; rw [ew]; exact h
  | bad => rw [ew] at h; exact False.elim h
theorem aNil_len : ∀ env m ws m', aNil env m = .ok ws m' → ws.length = 0 := fun env m ws m' h => by cases h; rfl
theorem aCons_len {f : EF} {g : AF} {n : Nat} (h : ∀ env m ws m', g env m = .ok ws m' → ws.length = n) : ∀ env m ws m', aCons f g env m = .ok ws m' → ws.length = n + 1 := fun env m ws m' e => by
  unfold aCons at e
  cases e1 : f env m with
  | ok x m1 =>
    rw [e1] at e
    simp only [Res.bind_ok] at e
    cases e2 : g env m1 with
    | ok xs m2 =>
      rw [e2] at e
      cases e
      rw [List.length_cons, h env m1 xs _ e2]
    | err _ _ => rw [e2] at e; cases e
    | bad => rw [e2] at e; cases e
  | err _ _ => rw [e1] at e; cases e
  | bad => rw [e1] at e; cases e
/-! ### methods of built-in types -/
def isTyW (T : String) (w : W) (m : Mem) : Bool :=
  match w with
  | .d (.str _) => T == "str"
  | .obj i => match m[i]? with
    | some (.dct _) => T == "dict"
    | some _ => T == "list"
    | none => false
  | w => (asL w m).isSome && T == "list"
theorem isTyW_ok {T : String} {G : Wd} {m : Mem} {v : V} {w : W} {H0 : Hp} (R : RelM X.K G m) (r : RepR X.K H0 G v w) (h : isTyW T w m = true) : tyV X.K T v G.H := by
  have lst : (asL w m).isSome = true → T = "list" → tyV X.K T v G.H := fun e eT => by
    obtain ⟨ds, e⟩ := Option.isSome_iff_exists.mp e
    obtain ⟨a, vs, rfl, h1, _⟩ := asL_sq R r e
    exact .inl ⟨eT, vs, h1⟩
  have go : ((asL w m).isSome && T == "list") = true → tyV X.K T v G.H := fun z => by
    rw [Bool.and_eq_true] at z
    exact lst z.1 (by simpa using z.2)
  cases w with
  | d x =>
    cases x with
    | str z => cases r; show T = "str"; simpa [isTyW] using h
    | _ => exact go h
  | obj i =>
    obtain ⟨a, h1, rfl⟩ := id r
    simp only [isTyW] at h
    cases e : m[i]? with
    | none => rw [e] at h; cases h
    | some o =>
      rw [e] at h
      cases o with
      | lst ds => exact lst (by simp [asL, e]) (by simpa using h)
      | fz ds => exact lst (by simp [asL, e]) (by simpa using h)
      | dct kvs =>
        obtain ⟨_, ks, h2, _⟩ := R.ob i a _ h1 e
        exact .inr (.inr (.inl ⟨by simpa using h, .inl ⟨ks, h2⟩⟩))
  | fl _ => exact go h
  | ro _ => exact go h
def MtOk (X : Cx) (Wx : WX) (r : V → List V → Hp → VK → Prop) (g : W → List W → Mem → Res W) : Prop :=
  ∀ (σ : St) (G : Wd) (m : Mem) (v : V) (x : W) (vs : List V) (ws : List W) (H0 H1 : Hp) (Q : VK), RelM X.K G m → RepR X.K H0 G v x → RepRs X.K H1 G vs ws → GPost X Wx σ G (RepR X.K) (g x ws m) Q → r v vs G.H Q
def eMt (T : String) (g : W → List W → Mem → Res W) (a : EF) (b : AF) (env : Env) (m : Mem) : Res W := (a env m).bind fun x m1 => if isTyW T x m1 = true then (b env m1).bind fun ws m2 => g x ws m2 else .bad
theorem me_bm {T id : String} {o e : Expr} {es : List Expr} {name : Str} {apos cpos : Pos} {r : V → List V → Hp → VK → Prop} {g : W → List W → Mem → Res W} {fa : EF} {fb : AF} (pa : PlainAttrs T) (slot : Slot T name id) (hty : typeOf (.builtin id) = pure (.type "method_descriptor")) (hm : MtR X id r) (hk : MtOk X Wx r g) (ho : ME X Wx o fa) (ha : MA X Wx (e :: es) fb)
    (hbase : attributeBase o name X.env (eval o X.env) = eval o X.env := by rfl)
    (hfew : ((backTo cpos (starEach (e :: es) X.env)).all (fun x => !x.1) && (backToKw cpos (keywordEach [] X.env)).all (fun x => x.1.isSome) && decide ((e :: es).length + ([] : List Keyword).length + (if ([] : List Keyword).isEmpty then 0 else 1) < 30)) = true := by rfl)
    (hline : (apos.endLine == cpos.line) = true := by rfl) (hs : starEach (e :: es) X.env = (false, eval e X.env) :: starEach es X.env := by rfl) (hplain : (backTo cpos (starEach es X.env)).any (·.1) = false := by rfl) :
    ME X Wx (.Call (.Attribute o name apos) (e :: es) [] cpos) (eMt T g fa fb) := by
  obtain ⟨ta, po, qo⟩ := ho
  obtain ⟨tb, pb, qb⟩ := ha
  refine ⟨_, pe_bm pa slot hty hm po pb hbase hfew hline hs hplain, fun env m σ G Q S R h => qo env m σ G _ S R (GPost.bind weakR h fun x m1 v G1 le1 R1 q1 h1 => ?_)⟩
  by_cases hz : isTyW T x m1 = true
  · simp only [hz, if_true] at h1
    exact ⟨isTyW_ok R1 q1 hz, qb env m1 σ G1 _ (S.mono le1) R1 (GPost.bind weakR h1 fun ws m2 vs G2 le2 R2 q2 h2 => hk σ G2 m2 v x vs ws _ _ Q R2 (q1.mono le2) q2 h2)⟩
  · simp only [hz] at h1
    exact False.elim h1
def eMt0 (T : String) (g : W → List W → Mem → Res W) (a : EF) (env : Env) (m : Mem) : Res W := (a env m).bind fun x m1 => if isTyW T x m1 = true then g x [] m1 else .bad
theorem me_bm0 {T id : String} {o : Expr} {name : Str} {apos cpos : Pos} {r : V → List V → Hp → VK → Prop} {g : W → List W → Mem → Res W} {fa : EF} (pa : PlainAttrs T) (slot : Slot T name id) (hty : typeOf (.builtin id) = pure (.type "method_descriptor")) (hm : MtR X id r) (hk : MtOk X Wx r g) (ho : ME X Wx o fa)
    (hbase : attributeBase o name X.env (eval o X.env) = eval o X.env := by rfl) (hline : (apos.endLine == cpos.line) = true := by rfl) : ME X Wx (.Call (.Attribute o name apos) [] [] cpos) (eMt0 T g fa) := by
  obtain ⟨ta, po, qo⟩ := ho
  refine ⟨_, pe_bm0 pa slot hty hm po hbase hline, fun env m σ G Q S R h => qo env m σ G _ S R (GPost.bind weakR h fun x m1 v G1 le1 R1 q1 h1 => ?_)⟩
  by_cases hz : isTyW T x m1 = true
  · simp only [hz, if_true] at h1
    exact ⟨isTyW_ok R1 q1 hz, hk σ G1 m1 v x [] [] _ G1.H Q R1 q1 .nil h1⟩
  · simp only [hz] at h1
    exact False.elim h1
end
end M

set_option Elab.async false
set_option linter.all false
set_option maxRecDepth 100000
namespace M
open PySem L2
section
variable {X : Cx} {Wx : WX}
/-! ### built-in functions -/
def lenW (ws : List W) (m : Mem) : Res W := match ws with
  | [.d (.str z)] => if z.length ≤ sizeLine then .ok (.d (.int (z.length : Int))) m else .bad
  | [.d (.tuple ds)] => .ok (.d (.int (ds.length : Int))) m
  | [w] => match asL w m with
    | some ds => .ok (.d (.int (ds.length : Int))) m
    | none => .bad
  | _ => .bad
theorem lenW_ok : CallOk X Wx (fun xs H Q => ∃ x n, xs = [x] ∧ LenV X.K x H n ∧ Q (.int n) H) lenW := by
  intro σ G m vs ws H0 Q R r h
  unfold lenW at h
  split at h
  · rename_i z
    obtain ⟨v, rfl, r0⟩ := paired1 r
    cases r0
    split at h
    · rename_i hz
      exact ⟨_, z.length, rfl, (show _ ∧ _ from ⟨hz, rfl⟩), finD R h (.int _)⟩
    · exact False.elim h
  · rename_i ds
    obtain ⟨v, rfl, r0⟩ := paired1 r
    cases r0 with
    | tup t r => exact ⟨_, _, rfl, .inr ⟨_, t.sq, r.length.symm⟩, finD R h (.int _)⟩
  · rename_i w _ _
    obtain ⟨v, rfl, r0⟩ := paired1 r
    cases e : asL w m with
    | none => simp only [e] at h; exact False.elim h
    | some ds =>
      simp only [e] at h
      obtain ⟨a, us, rfl, h1, r1⟩ := asL_sq R r0 e
      exact ⟨_, _, rfl, .inl ⟨us, h1, r1.length.symm⟩, finD R h (.int _)⟩
  · exact False.elim h
def intW1 (ws : List W) (m : Mem) : Res W := match ws with
  | [.d (.int i)] => .ok (.d (.int i)) m
  | [.d (.bool b)] => .ok (.d (.int (if b then 1 else 0))) m
  | _ => .bad
theorem intW1_ok : CallOk X Wx (fun xs H Q => (∃ i, xs = [.int i] ∧ Q (.int i) H) ∨ ∃ k, xs = [.bl k] ∧ Q (.int (if k then 1 else 0)) H) intW1 := by
  intro σ G m vs ws H0 Q R r h
  unfold intW1 at h
  split at h
  · obtain ⟨v, rfl, r0⟩ := paired1 r
    cases r0
    exact .inl ⟨_, rfl, finD R h (.int _)⟩
  · obtain ⟨v, rfl, r0⟩ := paired1 r
    cases r0
    exact .inr ⟨_, rfl, finD R h (.int _)⟩
  · exact False.elim h
def strW1 (ws : List W) (m : Mem) : Res W := match ws with
  | [.d (.int i)] => if i.natAbs.log2 < 1920 then .ok (.d (.str (Str.ofString (toString i)))) m else .bad
  | _ => .bad
theorem strW1_ok : CallOk X Wx (fun xs H Q => ∃ i, xs = [.int i] ∧ i.natAbs.log2 < 1920 ∧ Q (.str (toString i)) H) strW1 := by
  intro σ G m vs ws H0 Q R r h
  unfold strW1 at h
  split at h
  · obtain ⟨v, rfl, r0⟩ := paired1 r
    cases r0
    split at h
    · rename_i hz
      exact ⟨_, rfl, hz, finD R h (.str _)⟩
    · exact False.elim h
  · exact False.elim h
def dInts : List D → Option (List Int)
  | [] => some []
  | .int i :: r => (dInts r).map (i :: ·)
  | _ :: _ => none
theorem dInts_map : ∀ {ds : List D} {ns : List Int}, dInts ds = some ns → ds = ns.map PyData.int
  | [], ns, e => by cases e; rfl
  | .int i :: r, ns, e => by
    simp only [dInts] at e
    cases q : dInts r with
    | none => rw [q] at e; cases e
    | some es => rw [q] at e; cases e; rw [dInts_map q]; rfl
  | .none :: _, _, e => by cases e
  | .bool _ :: _, _, e => by cases e
  | .str _ :: _, _, e => by cases e
  | .list _ :: _, _, e => by cases e
  | .tuple _ :: _, _, e => by cases e
  | .dict _ :: _, _, e => by cases e
@[simp] theorem dInts_ints : ∀ ns : List Int, dInts (ns.map PyData.int) = some ns
  | [] => rfl
  | n :: ns => by simp only [List.map_cons, dInts, dInts_ints ns]; rfl
def dBools : List D → Option (List Bool)
  | [] => some []
  | .bool i :: r => (dBools r).map (i :: ·)
  | _ :: _ => none
theorem dBools_map : ∀ {ds : List D} {ns : List Bool}, dBools ds = some ns → ds = ns.map PyData.bool
  | [], ns, e => by cases e; rfl
  | .bool i :: r, ns, e => by
    simp only [dBools] at e
    cases q : dBools r with
    | none => rw [q] at e; cases e
    | some es => rw [q] at e; cases e; rw [dBools_map q]; rfl
  | .none :: _, _, e => by cases e
  | .int _ :: _, _, e => by cases e
  | .str _ :: _, _, e => by cases e
  | .list _ :: _, _, e => by cases e
  | .tuple _ :: _, _, e => by cases e
  | .dict _ :: _, _, e => by cases e
@[simp] theorem dBools_bools : ∀ ns : List Bool, dBools (ns.map PyData.bool) = some ns
  | [] => rfl
  | n :: ns => by simp only [List.map_cons, dBools, dBools_bools ns]; rfl
def dStrs : List D → Option (List Str)
  | [] => some []
  | .str i :: r => (dStrs r).map (i :: ·)
  | _ :: _ => none
theorem dStrs_map : ∀ {ds : List D} {ns : List Str}, dStrs ds = some ns → ds = ns.map PyData.str
  | [], ns, e => by cases e; rfl
  | .str i :: r, ns, e => by
    simp only [dStrs] at e
    cases q : dStrs r with
    | none => rw [q] at e; cases e
    | some es => rw [q] at e; cases e; rw [dStrs_map q]; rfl
  | .none :: _, _, e => by cases e
  | .int _ :: _, _, e => by cases e
  | .bool _ :: _, _, e => by cases e
  | .list _ :: _, _, e => by cases e
  | .tuple _ :: _, _, e => by cases e
  | .dict _ :: _, _, e => by cases e
@[simp] theorem dStrs_strs : ∀ ns : List Str, dStrs (ns.map PyData.str) = some ns
  | [] => rfl
  | n :: ns => by simp only [List.map_cons, dStrs, dStrs_strs ns]; rfl
def lst1 {α : Type} (g : List D → Option α) (k : α → D) (ws : List W) (m : Mem) : Res W := match ws with
  | [w] => match (asL w m).bind g with
    | some ns => .ok (.d (k ns)) m
    | none => .bad
  | _ => .bad
theorem lst1_get {α : Type} {g : List D → Option α} {k : α → D} {σ : St} {G : Wd} {m : Mem} {vs : List V} {ws : List W} {H0 : Hp} {Q : VK} (R : RelM X.K G m) (r : RepRs X.K H0 G vs ws) (h : GPost X Wx σ G (RepR X.K) (lst1 g k ws m) Q) :
    ∃ a us ds ns, vs = [.ref a] ∧ SqL X.K G.H a us ∧ Reps X.K G.lv G.H us ds ∧ g ds = some ns ∧ GPost X Wx σ G (RepR X.K) (.ok (.d (k ns)) m) Q := by
  unfold lst1 at h
  split at h
  · rename_i w
    obtain ⟨v, rfl, r0⟩ := paired1 r
    cases e : asL w m with
    | none => simp only [e, Option.bind_none] at h; exact False.elim h
    | some ds =>
      simp only [e, Option.bind_some] at h
      obtain ⟨a, us, rfl, h1, r1⟩ := asL_sq R r0 e
      cases eg : g ds with
      | none => simp only [eg] at h; exact False.elim h
      | some ns => simp only [eg] at h; exact ⟨a, us, ds, ns, rfl, h1, r1, eg, h⟩
  · exact False.elim h
def sumW := lst1 dInts fun ns => .int ns.sum
theorem sumW_ok : CallOk X Wx (rSum X.K) sumW := by
  intro σ G m vs ws H0 Q R r h
  obtain ⟨a, us, ds, ns, rfl, h1, r1, eg, h⟩ := lst1_get R r h
  rw [dInts_map eg] at r1
  rw [r1.vints] at h1
  exact ⟨a, ns, rfl, h1, finD R h (.int _)⟩
def allW := lst1 dBools fun ns => .bool (ns.all id)
theorem allW_ok : CallOk X Wx (rAll X.K) allW := by
  intro σ G m vs ws H0 Q R r h
  obtain ⟨a, us, ds, ns, rfl, h1, r1, eg, h⟩ := lst1_get R r h
  rw [dBools_map eg] at r1
  rw [r1.vbls] at h1
  exact ⟨a, ns, rfl, h1, finD R h (.bl _)⟩
def anyW := lst1 dBools fun ns => .bool (ns.any id)
theorem anyW_ok : CallOk X Wx (rAny X.K) anyW := by
  intro σ G m vs ws H0 Q R r h
  obtain ⟨a, us, ds, ns, rfl, h1, r1, eg, h⟩ := lst1_get R r h
  rw [dBools_map eg] at r1
  rw [r1.vbls] at h1
  exact ⟨a, ns, rfl, h1, finD R h (.bl _)⟩
def listW (ws : List W) (m : Mem) : Res W := match ws with
  | [.d (.tuple ds)] => .ok (.fl ds) m
  | [w] => match asL w m with
    | some ds => .ok (.fl ds) m
    | none => .bad
  | _ => .bad
theorem listW_ok : CallOk X Wx (fun xs H Q => ∃ p ys, xs = [.ref p] ∧ (SqL X.K H p ys ∨ SqT X.K H p ys) ∧ ∀ l, H l = none → Q (.ref l) (upd H l (.lst ys))) listW := by
  intro σ G m vs ws H0 Q R r h
  unfold listW at h
  split at h
  · obtain ⟨v, rfl, r0⟩ := paired1 r
    cases r0 with
    | tup t r => exact ⟨_, _, rfl, .inr t.sq, fun l hl => finL R h r hl⟩
  · rename_i w _
    obtain ⟨v, rfl, r0⟩ := paired1 r
    cases e : asL w m with
    | none => simp only [e] at h; exact False.elim h
    | some ds =>
      simp only [e] at h
      obtain ⟨a, us, rfl, h1, r1⟩ := asL_sq R r0 e
      exact ⟨a, us, rfl, .inl h1, fun l hl => finL R h r1 hl⟩
  · exact False.elim h
def tupleW (ws : List W) (m : Mem) : Res W := match ws with
  | [.d (.tuple ds)] => .ok (.d (.tuple ds)) m
  | [w] => match asL w m with
    | some ds => .ok (.d (.tuple ds)) m
    | none => .bad
  | _ => .bad
theorem tupleW_ok : CallOk X Wx (fun xs H Q => ∃ p ys, xs = [.ref p] ∧ ((SqL X.K H p ys ∧ ∀ l, H l = none → Q (.ref l) (upd H l (.tup ys))) ∨ (SqT X.K H p ys ∧ Q (.ref p) H))) tupleW := by
  intro σ G m vs ws H0 Q R r h
  unfold tupleW at h
  split at h
  · obtain ⟨v, rfl, r0⟩ := paired1 r
    cases r0 with
    | tup t r => exact ⟨_, _, rfl, .inr ⟨t.sq, finD R h (.tup t r)⟩⟩
  · rename_i w _
    obtain ⟨v, rfl, r0⟩ := paired1 r
    cases e : asL w m with
    | none => simp only [e] at h; exact False.elim h
    | some ds =>
      simp only [e] at h
      obtain ⟨a, us, rfl, h1, r1⟩ := asL_sq R r0 e
      exact ⟨a, us, rfl, .inl ⟨h1, fun l hl => finT R h r1 hl⟩⟩
  · exact False.elim h
/-! ### isinstance -/
inductive Tk where
  | non | bl | int | str | lst | tup | dct
def Tk.name : Tk → String
  | .non => "NoneType"
  | .bl => "bool"
  | .int => "int"
  | .str => "str"
  | .lst => "list"
  | .tup => "tuple"
  | .dct => "dict"
def Tk.sub : Tk → Tk → Bool
  | .non, .non => true
  | .bl, .bl => true
  | .bl, .int => true
  | .int, .int => true
  | .str, .str => true
  | .lst, .lst => true
  | .tup, .tup => true
  | .dct, .dct => true
  | _, _ => false
theorem Tk.kit : ∀ a b : Tk, kitB a.name b.name = some (a.sub b) := by
  intro a b
  cases a <;> cases b <;> decide +kernel
def tyW (w : W) (m : Mem) : Option Tk := match w with
  | .d .none => some .non
  | .d (.bool _) => some .bl
  | .d (.int _) => some .int
  | .d (.str _) => some .str
  | .d (.list _) => some .lst
  | .d (.tuple _) => some .tup
  | .fl _ => some .lst
  | .ro _ => some .lst
  | .obj i => match m[i]? with
    | some (.lst _) => some .lst
    | some (.fz _) => some .lst
    | some (.dct _) => some .dct
    | none => none
  | _ => none
theorem SqL.tyx {K : PySem.W.Frag} {H : Hp} {a : Addr} {vs : List V} (h : SqL K H a vs) : TyX K H (.ref a) (.type "list") := by
  rcases h with (h | ⟨o, h⟩) | ⟨o, its, n, h1, h2, _⟩
  · exact .base (.lst h)
  · exact .base (.frz h)
  · exact .kList h1 h2
theorem tyW_ok {G : Wd} {m : Mem} {v : V} {w : W} {H0 : Hp} {t : Tk} (R : RelM X.K G m) (r : RepR X.K H0 G v w) (e : tyW w m = some t) : TyX X.K G.H v (.type t.name) := by
  cases w with
  | d x =>
    cases x with
    | none => cases r; cases e; exact .base .non
    | bool b => cases r; cases e; exact .base (.bl _)
    | int b => cases r; cases e; exact .base (.int _)
    | str b => cases r; cases e; exact .base (.str _)
    | list ds =>
      cases e
      cases r with
      | lst t r => exact .base (.lst t.2)
    | tuple ds =>
      cases e
      cases r with
      | tup t r =>
        rcases t with t | ⟨o, its, n, h1, h2, _⟩
        · exact .base (.tup t.2)
        · exact .kTuple h1 h2
    | dict _ => cases e
  | fl ds => cases e; obtain ⟨p, vs, rfl, _, _, _, h3, _⟩ := r; exact .base (.lst h3)
  | ro ds => cases e; obtain ⟨p, vs, rfl, h1, _⟩ := r; exact SqL.tyx h1.sq
  | obj i =>
    obtain ⟨a, h1, rfl⟩ := r
    simp only [tyW] at e
    cases eo : m[i]? with
    | none => rw [eo] at e; cases e
    | some o =>
      rw [eo] at e
      have q := R.ob i a o h1 eo
      cases o with
      | lst ds => cases e; obtain ⟨_, vs, h3, _⟩ := q; exact .base (.lst h3)
      | fz ds => cases e; obtain ⟨_, vs, h3, _⟩ := q; exact .base (.lst h3)
      | dct ds => cases e; obtain ⟨_, vs, h3, _⟩ := q; exact .base (.dK h3)
def eIsi (ts : List Tk) (f : EF) (env : Env) (m : Mem) : Res W := (f env m).bind fun w m1 => match tyW w m1 with
  | some t => .ok (.d (.bool (ts.any fun u => t.sub u))) m1
  | none => .bad
theorem me_isi (t : Tk) {e : Expr} {f : EF} {x : Str} {p p' pos : Pos} (hg : Gl X "isinstance") (hm : X.mg "isinstance" = none) (hgT : Gl X x) (hmT : X.mg x = none) (he : ME X Wx e f) (hx : bootBuiltins x = some (.type t.name) := by decide +kernel)
    (hn : x ≠ "__name__" := by decide) (hd : (x == ("__debug__" : Str)) = false := by decide)
    (h1 : starEach [e, .Name x p'] X.env = (false, eval e X.env) :: starEach [.Name x p'] X.env := by rfl) (hpl : (backTo pos (starEach [.Name x p'] X.env)).any (·.1) = false := by rfl) (h2 : starEach [.Name x p'] X.env = (false, eval (.Name x p') X.env) :: starEach [] X.env := by rfl) :
    ME X Wx (.Call (.Name "isinstance" p) [e, .Name x p'] [] pos) (eIsi [t] f) := by
  obtain ⟨te, pe, qe⟩ := he
  refine ⟨_, pe_callB call_isi hg hm (by decide +kernel) (pa_cons pe (pa_cons (pe_bltn (v := .ty t.name) hgT hmT hx rfl hn hd) pa_nil h2) h1) (by decide) (by decide) h1 hpl, fun env m σ G Q S R h => qe env m σ G _ S R (GPost.bind weakR h fun w m1 v G1 le1 R1 q1 h1 => ?_)⟩
  cases e : tyW w m1 with
  | none => simp only [e] at h1; exact False.elim h1
  | some t' =>
    simp only [e] at h1
    refine ⟨v, .ty t.name, .type t'.name, .type t.name, t'.sub t, rfl, .ty _, tyW_ok R1 q1 e, kit_ty (Tk.kit _ _), ?_⟩
    have h1 : GPost X Wx σ G1 (RepR X.K) (.ok (.d (.bool (t'.sub t || false))) m1) Q := h1
    rw [Bool.or_false] at h1
    exact finD R1 h1 (.bl _)
/-- isinstance(x, (A, B)) -/
theorem me_isi2 (t u : Tk) {e : Expr} {f : EF} {x y : Str} {p p1 p2 p3 pos : Pos} {x1} (hg : Gl X "isinstance") (hm : X.mg "isinstance" = none) (hgT : Gl X x) (hmT : X.mg x = none) (hgU : Gl X y) (hmU : X.mg y = none) (he : ME X Wx e f) (hx : bootBuiltins x = some (.type t.name) := by decide +kernel)
    (hy : bootBuiltins y = some (.type u.name) := by decide +kernel) (hn : x ≠ "__name__" := by decide) (hd : (x == ("__debug__" : Str)) = false := by decide) (hn' : y ≠ "__name__" := by decide) (hd' : (y == ("__debug__" : Str)) = false := by decide)
    (h1 : starEach [e, .Tuple [.Name x p1, .Name y p2] x1 p3] X.env = (false, eval e X.env) :: starEach [.Tuple [.Name x p1, .Name y p2] x1 p3] X.env := by rfl) (hpl : (backTo pos (starEach [.Tuple [.Name x p1, .Name y p2] x1 p3] X.env)).any (·.1) = false := by rfl)
    (h2 : starEach [.Tuple [.Name x p1, .Name y p2] x1 p3] X.env = (false, eval (.Tuple [.Name x p1, .Name y p2] x1 p3) X.env) :: starEach [] X.env := by rfl)
    (h3 : starEach [.Name x p1, .Name y p2] X.env = (false, eval (.Name x p1) X.env) :: starEach [.Name y p2] X.env := by rfl) (h4 : starEach [.Name y p2] X.env = (false, eval (.Name y p2) X.env) :: starEach [] X.env := by rfl) :
    ME X Wx (.Call (.Name "isinstance" p) [e, .Tuple [.Name x p1, .Name y p2] x1 p3] [] pos) (eIsi [t, u] f) := by
  obtain ⟨te, pe, qe⟩ := he
  refine ⟨_, pe_callB call_isiT hg hm (by decide +kernel) (pa_cons pe (pa_cons (pe_tup (pa_cons (pe_bltn (v := .ty t.name) hgT hmT hx rfl hn hd) (pa_cons (pe_bltn (v := .ty u.name) hgU hmU hy rfl hn' hd') pa_nil h4) h3)) pa_nil h2) h1) (by decide) (by decide) h1 hpl, fun env m σ G Q S R h => qe env m σ G _ S R (GPost.bind weakR h fun w m1 v G1 le1 R1 q1 h1 => ?_)⟩
  refine ⟨by show 2 ≤ sizeLine; decide, fun l hl => ?_⟩
  cases e : tyW w m1 with
  | none => simp only [e] at h1; exact False.elim h1
  | some t' =>
    simp only [e] at h1
    have le2 : Le G1 ⟨G1.io, G1.lv, upd G1.H l (.tup [.ty t.name, .ty u.name])⟩ := Le.new R1 hl
    have R2 := R1.new (o := .tup [.ty t.name, .ty u.name]) hl
    have h2 := GPost.later weakR h1 le2
    refine ⟨v, l, [.ty t.name, .ty u.name], .type t'.name, [.type t.name, .type u.name], t'.sub t || t'.sub u, rfl, upd_same, .cons (.ty _) (.cons (.ty _) .nil), tyW_ok R2 (q1.mono le2) e, ?_, ?_⟩
    · refine kitAny_cons (b := t'.sub t) (kit_ty (Tk.kit _ _)) (fun hb => kitAny_cons (b := t'.sub u) (kit_ty (Tk.kit _ _)) (fun hb' => ?_) (fun hb' => ?_)) (fun hb => ?_)
      · rw [hb, hb']; exact kitAny_nil
      · rw [hb']; simp
      · rw [hb]; simp
    · have h2 : GPost X Wx σ ⟨G1.io, G1.lv, upd G1.H l (.tup [.ty t.name, .ty u.name])⟩ (RepR X.K) (.ok (.d (.bool (t'.sub t || (t'.sub u || false)))) m1) Q := h2
      rw [Bool.or_false] at h2
      exact finD R2 h2 (.bl _)
/-! ### methods of lists -/
theorem obj_mut {i : Nat} {ds es : List D} {σ : St} {G : Wd} {m : Mem} {Q : VK} {v : V} {vs us : List V} {x : D} (R : RelM X.K G m) (h1 : G.io[i]? = some a) (hl : a ∈ G.lv) (r : Reps X.K G.lv G.H us es) (rx : Rep X.K G.lv G.H v x) (h : GPost X Wx σ G (RepR X.K) (.ok (.d x) (m.set i (.lst es))) Q) : Q v (upd G.H a (.lst us)) := by
  have le : Le G ⟨G.io, G.lv, upd G.H a (.lst us)⟩ := Le.mut R h1 hl
  exact h v _ le (R.mut h1 hl ⟨hl, us, upd_same, r.mono le.mo⟩ rfl) (Rep.mono le.mo rx)
/-- an object that is a list -/
def asO (w : W) (m : Mem) : Option (Nat × List D) := match w with
  | .obj i => match m[i]? with
    | some (.lst ds) => some (i, ds)
    | _ => none
  | _ => none
theorem asO_get {G : Wd} {m : Mem} {v : V} {w : W} {H0 : Hp} {i : Nat} {ds : List D} (R : RelM X.K G m) (r : RepR X.K H0 G v w) (e : asO w m = some (i, ds)) : ∃ a vs, v = .ref a ∧ G.io[i]? = some a ∧ a ∈ G.lv ∧ G.H a = some (.lst vs) ∧ Reps X.K G.lv G.H vs ds := by
  cases w with
  | obj j =>
    obtain ⟨a, h1, rfl⟩ := r
    simp only [asO] at e
    cases eo : m[j]? with
    | none => rw [eo] at e; cases e
    | some o =>
      rw [eo] at e
      cases o with
      | lst es => cases e; obtain ⟨h2, vs, h3, h4⟩ := R.ob _ a _ h1 eo; exact ⟨a, vs, rfl, h1, h2, h3, h4⟩
      | fz es => cases e
      | dct es => cases e
  | _ => cases e
def appendW (x : W) (ws : List W) (m : Mem) : Res W := match asO x m, ws with
  | some (i, ds), [.d y] => if ds.length < sizeLine then .ok (.d .none) (m.set i (.lst (ds ++ [y]))) else .bad
  | _, _ => .bad
theorem appendW_ok : MtOk X Wx rAppend appendW := by
  intro σ G m v x vs ws H0 H1 Q R rx rs h
  unfold appendW at h
  split at h
  · rename_i i ds y e
    obtain ⟨a, us, rfl, h1, h2, h3, h4⟩ := asO_get R rx e
    obtain ⟨u, rfl, ru⟩ := paired1 rs
    split at h
    · rename_i hz
      exact ⟨a, us, u, rfl, rfl, h3, by rw [h4.length]; exact hz, obj_mut (a := a) (ds := ds) (vs := us) R h1 h2 (h4.append (.one ru)) .non h⟩
    · exact False.elim h
  · exact False.elim h
def popW (x : W) (ws : List W) (m : Mem) : Res W := match asO x m, ws with
  | some (i, ds), [] => match ds[ds.length - 1]? with
    | some y => .ok (.d y) (m.set i (.lst ds.dropLast))
    | none => .bad
  | _, _ => .bad
theorem popW_ok : MtOk X Wx rPop popW := by
  intro σ G m v x vs ws H0 H1 Q R rx rs h
  unfold popW at h
  split at h
  · rename_i i ds e
    obtain ⟨a, us, rfl, h1, h2, h3, h4⟩ := asO_get R rx e
    cases rs
    cases ey : ds[ds.length - 1]? with
    | none => simp only [ey] at h; exact False.elim h
    | some y =>
      simp only [ey] at h
      obtain ⟨u, g1, g2⟩ := h4.get ey
      exact ⟨a, us, u, rfl, rfl, h3, by rw [h4.length]; exact g1, obj_mut (a := a) (ds := ds) (vs := us) R h1 h2 h4.dropLast g2 h⟩
  · exact False.elim h
noncomputable def popAtW (x : W) (ws : List W) (m : Mem) : Res W := match asO x m, ws with
  | some (i, ds), [.d (.int k)] => if grd (-(2 ^ 63) ≤ k ∧ k < 2 ^ 63) = true then (match seqIndex? k ds.length with
    | some j => match ds[j]? with
      | some y => .ok (.d y) (m.set i (.lst (ds.eraseIdx j)))
      | none => .bad
    | none => .bad) else .bad
  | _, _ => .bad
theorem popAtW_ok : MtOk X Wx rPopAt popAtW := by
  intro σ G m v x vs ws H0 H1 Q R rx rs h
  unfold popAtW at h
  split at h
  · rename_i i ds k e
    obtain ⟨a, us, rfl, h1, h2, h3, h4⟩ := asO_get R rx e
    obtain ⟨u, rfl, ru⟩ := paired1 rs
    cases ru
    split at h
    · rename_i hz
      have hz := grd_iff.mp hz
      cases ej : seqIndex? k ds.length with
      | none => simp only [ej] at h; exact False.elim h
      | some j =>
        simp only [ej] at h
        cases ey : ds[j]? with
        | none => simp only [ey] at h; exact False.elim h
        | some y =>
          simp only [ey] at h
          obtain ⟨u, g1, g2⟩ := h4.get ey
          exact ⟨a, us, k, j, u, rfl, rfl, h3, hz.1, hz.2, by rw [h4.length]; exact ej, g1, obj_mut (a := a) (ds := ds) (vs := us) R h1 h2 (h4.eraseIdx j) g2 h⟩
    · exact False.elim h
  · exact False.elim h
def clearW (x : W) (ws : List W) (m : Mem) : Res W := match asO x m, ws with
  | some (i, _), [] => .ok (.d .none) (m.set i (.lst []))
  | _, _ => .bad
theorem clearW_ok : MtOk X Wx rClear clearW := by
  intro σ G m v x vs ws H0 H1 Q R rx rs h
  unfold clearW at h
  split at h
  · rename_i i ds e
    obtain ⟨a, us, rfl, h1, h2, h3, h4⟩ := asO_get R rx e
    cases rs
    exact ⟨a, us, rfl, rfl, h3, obj_mut (a := a) (ds := ds) (vs := us) R h1 h2 .nil .non h⟩
  · exact False.elim h
def extendW (x : W) (ws : List W) (m : Mem) : Res W := match asO x m, ws with
  | some (i, ds), [w] => match asT w m with
    | some es => if ds.length + es.length ≤ sizeLine then .ok (.d .none) (m.set i (.lst (ds ++ es))) else .bad
    | none => .bad
  | _, _ => .bad
theorem extendW_ok : MtOk X Wx rExtend extendW := by
  intro σ G m v x vs ws H0 H1 Q R rx rs h
  unfold extendW at h
  split at h
  · rename_i i ds w e
    obtain ⟨a, us, rfl, h1, h2, h3, h4⟩ := asO_get R rx e
    obtain ⟨u, rfl, ru⟩ := paired1 rs
    cases ew : asT w m with
    | none => simp only [ew] at h; exact False.elim h
    | some es =>
      simp only [ew] at h
      obtain ⟨b, ws, rfl, g1, g2⟩ := asT_sq R ru ew
      split at h
      · rename_i hz
        exact ⟨a, b, us, ws, rfl, rfl, h3, g1, by rw [h4.length, g2.length]; exact hz, obj_mut (a := a) (ds := ds) (vs := us) R h1 h2 (h4.append g2) .non h⟩
      · exact False.elim h
  · exact False.elim h
/-! ### methods of texts -/
def joinW (x : W) (ws : List W) (m : Mem) : Res W := match x, ws with
  | .d (.str a), [w] => match (match w with | .d (.tuple ds) => some ds | w => asL w m).bind dStrs with
    | some ys => if (ys.map (·.length)).sum + ys.length * a.length ≤ 16777216 then .ok (.d (.str (Txt.join a ys))) m else .bad
    | none => .bad
  | _, _ => .bad
theorem joinW_ok : MtOk X Wx (fun x xs H Q => ∃ a p, ∃ ys : List Str, x = .str a ∧ xs = [.ref p] ∧ (SqL X.K H p (ys.map V.str) ∨ SqT X.K H p (ys.map V.str)) ∧ (ys.map (·.length)).sum + ys.length * a.length ≤ 16777216 ∧ Q (.str (Txt.join a ys)) H) joinW := by
  intro σ G m v x vs ws H0 H1 Q R rx rs h
  unfold joinW at h
  split at h
  · rename_i a w
    cases rx
    obtain ⟨u, rfl, ru⟩ := paired1 rs
    have go : ∀ (ds : List D) (p : Addr) (us : List V), (SqL X.K G.H p us ∨ SqT X.K G.H p us) → Reps X.K G.lv G.H us ds → u = .ref p → GPost X Wx σ G (RepR X.K) (match dStrs ds with | some ys => if (ys.map (·.length)).sum + ys.length * a.length ≤ 16777216 then .ok (.d (.str (Txt.join a ys))) m else .bad | none => .bad) Q →
        ∃ a' p, ∃ ys : List Str, V.str a = .str a' ∧ [u] = [.ref p] ∧ (SqL X.K G.H p (ys.map V.str) ∨ SqT X.K G.H p (ys.map V.str)) ∧ (ys.map (·.length)).sum + ys.length * a'.length ≤ 16777216 ∧ Q (.str (Txt.join a' ys)) G.H := fun ds p us h1 r1 e h => by
      cases es : dStrs ds with
      | none => rw [es] at h; exact False.elim h
      | some ys =>
        simp only [es] at h
        rw [dStrs_map es] at r1
        rw [r1.vstrs] at h1
        split at h
        · rename_i hz
          exact ⟨a, p, ys, rfl, by rw [e], h1, hz, finD R h (.str _)⟩
        · exact False.elim h
    have lst : GPost X Wx σ G (RepR X.K) (match (asL w m).bind dStrs with | some ys => if (ys.map (·.length)).sum + ys.length * a.length ≤ 16777216 then .ok (.d (.str (Txt.join a ys))) m else .bad | none => .bad) Q →
        ∃ a' p, ∃ ys : List Str, V.str a = .str a' ∧ [u] = [.ref p] ∧ (SqL X.K G.H p (ys.map V.str) ∨ SqT X.K G.H p (ys.map V.str)) ∧ (ys.map (·.length)).sum + ys.length * a'.length ≤ 16777216 ∧ Q (.str (Txt.join a' ys)) G.H := fun h => by
      cases e : asL w m with
      | none => rw [e] at h; exact False.elim h
      | some ds =>
        rw [e] at h
        obtain ⟨p, us, e1, h1, r1⟩ := asL_sq R ru e
        exact go ds p us (.inl h1) r1 e1 h
    cases w with
    | d x =>
      cases x with
      | tuple ds =>
        cases ru with
        | tup t r => exact go ds _ _ (.inr t.sq) r rfl h
      | _ => exact lst h
    | _ => exact lst h
  · exact False.elim h
def sindexW (x : W) (ws : List W) (m : Mem) : Res W := match x, ws with
  | .d (.str a), [.d (.str b)] => match Builtin.Str.occurrences a b 0 a.length 1 with
    | i :: _ => .ok (.d (.int (i : Int))) m
    | [] => .bad
  | _, _ => .bad
theorem sindexW_ok : MtOk X Wx (fun x xs H Q => ∃ a b i rest, x = .str a ∧ xs = [.str b] ∧ Builtin.Str.occurrences a b 0 a.length 1 = i :: rest ∧ Q (.int (i : Nat)) H) sindexW := by
  intro σ G m v x vs ws H0 H1 Q R rx rs h
  unfold sindexW at h
  split at h
  · rename_i a b
    cases rx
    obtain ⟨u, rfl, ru⟩ := paired1 rs
    cases ru
    split at h
    · rename_i i r e
      exact ⟨a, b, i, r, rfl, rfl, e, finD R h (.int _)⟩
    · exact False.elim h
  · exact False.elim h
def splitW (x : W) (ws : List W) (m : Mem) : Res W := match x, ws with
  | .d (.str a), [.d (.str b)] => if ((b.length == 0) = false ∧ a.length + 2 ≤ sizeLine) then .ok (.fl ((Txt.split a b).map .str)) m else .bad
  | _, _ => .bad
theorem Reps.strs {K : PySem.W.Frag} {lv : List Addr} {H : Hp} : ∀ (ns : List Str), Reps K lv H (ns.map V.str) (ns.map PyData.str)
  | [] => .nil
  | n :: ns => .cons (.str n) (Reps.strs ns)
theorem splitW_ok : MtOk X Wx (fun x xs H Q => ∃ a b, x = .str a ∧ xs = [.str b] ∧ (b.length == 0) = false ∧ a.length + 2 ≤ sizeLine ∧ rNewStrs (Txt.split a b) H Q) splitW := by
  intro σ G m v x vs ws H0 H1 Q R rx rs h
  unfold splitW at h
  split at h
  · rename_i a b
    cases rx
    obtain ⟨u, rfl, ru⟩ := paired1 rs
    cases ru
    split at h
    · rename_i hz
      exact ⟨a, b, rfl, rfl, hz.1, hz.2, fun p hp => finL R h (Reps.strs _) hp⟩
    · exact False.elim h
  · exact False.elim h
def upperW (x : W) (ws : List W) (m : Mem) : Res W := match x, ws with
  | .d (.str a), [] => if a.length ≤ 5592405 then .ok (.d (.str (Txt.upper a))) m else .bad
  | _, _ => .bad
theorem upperW_ok : MtOk X Wx (fun x xs H Q => ∃ a, x = .str a ∧ xs = [] ∧ a.length ≤ 5592405 ∧ Q (.str (Txt.upper a)) H) upperW := by
  intro σ G m v x vs ws H0 H1 Q R rx rs h
  unfold upperW at h
  split at h
  · rename_i a
    cases rx
    cases rs
    split at h
    · rename_i hz
      exact ⟨a, rfl, rfl, hz, finD R h (.str _)⟩
    · exact False.elim h
  · exact False.elim h
/-! ### xs[i] = v -/
def sSetI (o i : EF) (f : EF) (env : Env) (m : Mem) : SRes := eS ((f env m).bind fun v m1 => (o env m1).bind fun x m2 => (i env m2).bind fun k m3 => match asO x m3, k, v with
  | some (j, ds), .d (.int k), .d y => (match ixN ds.length k with
    | some n => .ok () (m3.set j (.lst (ds.set n y)))
    | none => .bad)
  | _, _, _ => .bad) env fun _ m1 => .nx env m1
theorem ms_setI {o i e : Expr} {fo fi f : EF} {tpos pos : Pos} (ho : ME X Wx o fo) (hi : ME X Wx i fi) (he : ME X Wx e f)
    (ha : ∀ v, assign (.Subscript o i tpos) X.env v = (do
      let ov ← holding [v] (eval o X.env)
      let iv ← holding [v, ov] (eval i X.env)
      standAt tpos
      holding [v, ov, iv] (setItem ov iv v)
      release [v, ov, iv] []) := by intro _; rfl)
    (hs : swapsWithSole [.Subscript o i tpos] e pos.line X.env = pure false := by rfl) (hw : swappedStores [.Subscript o i tpos] e X.env = pure none := by rfl)
    (h1 : (assignEach [.Subscript o i tpos] X.env).map (·.2) = [assign (.Subscript o i tpos) X.env] := by rfl) : MS X Wx (.Assign [.Subscript o i tpos] e pos) (sSetI fo fi f) := by
  obtain ⟨to, po, qo⟩ := ho
  obtain ⟨ti, pi, qi⟩ := hi
  obtain ⟨t, p, q⟩ := he
  refine ⟨_, ps_asg p (pg_sub po pi set_list ha) hs hw h1, fun env m σ G E S R h => ?_⟩
  have h' : GPost X Wx σ G (fun _ _ (_ : Unit) (_ : Unit) => True) ((f env m).bind fun v m1 => (fo env m1).bind fun x m2 => (fi env m2).bind fun k m3 => match asO x m3, k, v with
      | some (j, ds), .d (.int k), .d y => (match ixN ds.length k with
        | some n => .ok () (m3.set j (.lst (ds.set n y)))
        | none => .bad)
      | _, _, _ => .bad) (fun _ H' => E.nx σ H') := SPost.ofE h S fun a m1 v G1 le R1 _ h1 => h1 σ G1 (Le.refl R1) R1 (S.mono le)
  have wk : Weak (fun (_ : Hp) (_ : Wd) (_ : Unit) (_ : Unit) => True) := fun _ _ _ _ _ _ _ => trivial
  refine q env m σ G _ S R (GPost.bind wk h' fun w m1 v G1 le1 R1 q1 h1 => ?_)
  refine qo env m1 σ G1 _ (S.mono le1) R1 (GPost.bind wk h1 fun x m2 u G2 le2 R2 q2 h2 => ?_)
  refine qi env m2 σ G2 _ ((S.mono le1).mono le2) R2 (GPost.bind wk h2 fun k m3 z G3 le3 R3 q3 h3 => ?_)
  split at h3
  · rename_i j ds kk y e
    obtain ⟨a, vs, e1, g1, g2, g3, g4⟩ := asO_get R3 (q2.mono le3) e
    cases q3
    cases en : ixN ds.length kk with
    | none => simp only [en] at h3; exact False.elim h3
    | some n =>
      simp only [en] at h3
      have rv : Rep X.K G3.lv G3.H v y := Rep.mono (le2.trans le3).mo q1
      have le : Le G3 ⟨G3.io, G3.lv, upd G3.H a (.lst (vs.set n v))⟩ := Le.mut R3 g1 g2
      refine ⟨a, vs, kk, n, e1, rfl, g3, by rw [g4.length]; exact en, ?_⟩
      exact h3 () _ le (R3.mut g1 g2 ⟨g2, _, upd_same, (g4.set rv n).mono le.mo⟩ rfl) trivial
  · exact False.elim h3
end
end M

set_option Elab.async false
set_option linter.all false
set_option maxRecDepth 100000
namespace M
open PySem L2
section
variable {X : Cx} {Wx : WX}
/-- a list, and whether it still stands -/
def asC (w : W) (m : Mem) : Option (List D × (Mem → Bool)) := match w with
  | .obj i => (asL (.obj i) m).map fun ds => (ds, sameM i ds)
  | w => (asS w).map fun ds => (ds, yesM)
theorem asC_sq {G : Wd} {m : Mem} {v : V} {w : W} {H0 : Hp} {ds : List D} {chk : Mem → Bool} (R : RelM X.K G m) (r : RepR X.K H0 G v w) (e : asC w m = some (ds, chk)) : ∃ a, v = .ref a ∧ (∃ vs, SqL X.K G.H a vs) ∧ ∀ G2 m2, Le G G2 → RelM X.K G2 m2 → chk m2 = true → ∃ vs, SqL X.K G2.H a vs ∧ Reps X.K G2.lv G2.H vs ds := by
  have st : (asS w).map (fun ds => (ds, yesM)) = some (ds, chk) → ∃ a, v = .ref a ∧ (∃ vs, SqL X.K G.H a vs) ∧ ∀ G2 m2, Le G G2 → RelM X.K G2 m2 → chk m2 = true → ∃ vs, SqL X.K G2.H a vs ∧ Reps X.K G2.lv G2.H vs ds := fun e => by
    cases es : asS w with
    | none => rw [es] at e; cases e
    | some es' =>
      rw [es] at e
      cases e
      obtain ⟨a, vs, e1, h⟩ := asS_sq R r es
      exact ⟨a, e1, ⟨vs, (h G (Le.refl R)).1⟩, fun G2 m2 le _ _ => ⟨vs, h G2 le⟩⟩
  cases w with
  | obj i =>
    simp only [asC] at e
    cases el : asL (.obj i) m with
    | none => rw [el] at e; cases e
    | some es =>
      rw [el] at e
      cases e
      obtain ⟨a, ha, rfl⟩ := id r
      obtain ⟨a', vs, e1, h1, _⟩ := asL_sq (w := .obj i) R r el
      cases e1
      refine ⟨a, rfl, ⟨vs, h1⟩, fun G2 m2 le R2 hz => ?_⟩
      unfold sameM at hz
      cases e2 : asL (.obj i) m2 with
      | none => rw [e2] at hz; cases hz
      | some es =>
        rw [e2] at hz
        have ee := beqDs_eq _ _ hz
        subst ee
        obtain ⟨a2, vs2, e3, h3, r3⟩ := asL_sq (v := .ref a) (H0 := H0) (w := .obj i) R2 ⟨a, le.iget ha, rfl⟩ e2
        cases e3
        exact ⟨vs2, h3, r3⟩
  | d x => exact st e
  | fl x => exact st e
  | ro x => exact st e
def zipA (ws : List W) (m : Mem) : Res Its := match ws with
  | [.d (.tuple ds), .d (.tuple es)] => .ok (itsL (zipD ds es)) m
  | [w, u] => match asC w m, asC u m with
    | some (ds, c1), some (es, c2) => .ok ⟨(zipD ds es).map .d, fun m => c1 m && c2 m⟩ m
    | _, _ => .bad
  | _ => .bad
def iZipA (a : AF) (env : Env) (m : Mem) : Res Its := (a env m).bind zipA
theorem zip_get {ds es : List D} {i : Nat} {w' : W} (hw : ((zipD ds es).map W.d)[i]? = some w') : ∃ d e, ds[i]? = some d ∧ es[i]? = some e ∧ w' = .d (.tuple [d, e]) := by
  rw [List.getElem?_map] at hw
  unfold zipD at hw
  rw [List.getElem?_map] at hw
  cases e2 : (ds.zip es)[i]? with
  | none => rw [e2] at hw; cases hw
  | some d =>
    rw [e2] at hw
    cases hw
    obtain ⟨x1, x2⟩ := List.getElem?_zip_eq_some.mp e2
    exact ⟨d.1, d.2, x1, x2, rfl⟩
theorem mi_zipA {e e2 : Expr} {f : AF} {p pos tpos : Pos} {elts : List Expr} {kk : Nat} (hg : Gl X "zip") (hm : X.mg "zip" = none) (ha : MA X Wx [e, e2] f)
    (hs : starEach [e, e2] X.env = (false, eval e X.env) :: starEach [e2] X.env := by rfl) (hpl : (backTo pos (starEach [e2] X.env)).any (·.1) = false := by rfl) :
    MI X Wx (.Tuple elts kk tpos) (.Call (.Name "zip" p) [e, e2] [] pos) (iZipA f) := by
  obtain ⟨t, pa, q⟩ := ha
  refine ⟨_, RZ.pi_zipA hg hm pa hs hpl, fun env m σ G Q S R h => q env m σ G _ S R (GPost.bind weakI h fun ws m1 vs G1 le1 R1 q1 h1 => ?_)⟩
  unfold zipA at h1
  split at h1
  · rename_i ds es
    obtain ⟨v, v', rfl, r, r'⟩ := paired2 q1
    cases r with
    | @tup a vs _ t1 r1 =>
      cases r' with
      | @tup b us _ t2 r2 =>
        refine ⟨a, b, vs, us, rfl, .inr ⟨t1.sq, t2.sq, h1 _ G1 (Le.refl R1) R1 ?_⟩⟩
        intro G2 m2 le R2 hz i
        have hq := (t1.mono le.mo).sq
        have hq' := (t2.mono le.mo).sq
        have hr := r1.mono le.mo
        have hr' := r2.mono le.mo
        refine ⟨fun w' hw => ?_, fun hi => ⟨vs, us, hq, hq', by
          rw [hr.length, hr'.length]
          have hi : ((zipD ds es).map W.d).length ≤ i := hi
          simp [zipD] at hi
          omega⟩⟩
        obtain ⟨d, e, x1, x2, rfl⟩ := zip_get hw
        obtain ⟨v, g1, g2⟩ := hr.get x1
        obtain ⟨v', g1', g2'⟩ := hr'.get x2
        refine ⟨⟨vs, us, v, v', hq, hq', g1, g1'⟩, fun x H' ⟨T, y, y', ex, hT, eH, hy, hy'⟩ => ?_⟩
        have t1 := hy vs hq
        have t2 := hy' us hq'
        rw [g1] at t1
        rw [g1'] at t2
        cases t1
        cases t2
        rw [ex, eH]
        exact itPair R2 hT (.cons g2 (.cons g2' .nil))
  · rename_i w u _
    obtain ⟨v, v', rfl, r, r'⟩ := paired2 q1
    split at h1
    · rename_i ds c1 es c2 e1 e2
      obtain ⟨a, rfl, ⟨vs0, hs0⟩, hst⟩ := asC_sq R1 r e1
      obtain ⟨b, rfl, ⟨us0, hs1⟩, hst'⟩ := asC_sq R1 r' e2
      refine ⟨a, b, vs0, us0, rfl, .inl ⟨hs0, hs1, h1 _ G1 (Le.refl R1) R1 ?_⟩⟩
      intro G2 m2 le R2 hz i
      have hz : (c1 m2 && c2 m2) = true := hz
      rw [Bool.and_eq_true] at hz
      obtain ⟨vs, hq, hr⟩ := hst G2 m2 le R2 hz.1
      obtain ⟨us, hq', hr'⟩ := hst' G2 m2 le R2 hz.2
      refine ⟨fun w' hw => ?_, fun hi => ⟨vs, us, hq, hq', by
        rw [hr.length, hr'.length]
        have hi : ((zipD ds es).map W.d).length ≤ i := hi
        simp [zipD] at hi
        omega⟩⟩
      obtain ⟨d, e, x1, x2, rfl⟩ := zip_get hw
      obtain ⟨v, g1, g2⟩ := hr.get x1
      obtain ⟨v', g1', g2'⟩ := hr'.get x2
      refine ⟨⟨vs, us, v, v', hq, hq', g1, g1'⟩, fun x H' ⟨T, y, y', ex, hT, eH, hy, hy'⟩ => ?_⟩
      have t1 := hy vs hq
      have t2 := hy' us hq'
      rw [g1] at t1
      rw [g1'] at t2
      cases t1
      cases t2
      rw [ex, eH]
      exact itPair R2 hT (.cons g2 (.cons g2' .nil))
    · exact False.elim h1
  · exact False.elim h1
/-! ### - n -/
def negW (w : W) (m : Mem) : Res W := match w with
  | .d (.int i) => .ok (.d (.int (-i))) m
  | _ => .bad
def eNeg (f : EF) (env : Env) (m : Mem) : Res W := (f env m).bind negW
theorem me_neg {e : Expr} {f : EF} {pos : Pos} (h : ME X Wx e f) : ME X Wx (.UnaryOp .USub e pos) (eNeg f) := by
  obtain ⟨t, p, q⟩ := h
  refine ⟨_, pe_un un_neg p, fun env m σ G Q S R h => q env m σ G _ S R (GPost.bind weakR h fun w m1 v G1 le1 R1 q1 h1 => ?_)⟩
  cases w with
  | d x =>
    cases x with
    | int i => cases q1; exact ⟨i, rfl, finD R1 h1 (.int _)⟩
    | _ => exact False.elim h1
  | _ => exact False.elim h1
theorem hu65 {A : Around} {k : Nat} (hr : Room k A) : A.units + 65 < cLine := by have := hr.un; omega
theorem takesF : Takes X WF := takes0
/-! ### the law -/
def spLaw (K : PySem.W.Frag) : Sp := fun vs H Q _ => ∃ (a : Addr) (ns : List Int), vs = [.ref a] ∧ SqL K H a (ns.map V.int) ∧ ns.length ≤ 63 ∧ ∀ H', Q (.bl true) H'
theorem law_imp {P : Program} {w : World} {K : PySem.W.Frag} {mg : Str → Option Value} {base : Heap} {k : Nat} {f : Addr} {fd : FuncData} {x : Str} {F : FF} (h : FnOk P w K mg base (L2.CX P w) k f fd [x] (SpM K mg 1 F))
    (ht : ∀ ns : List Int, ns.length ≤ 63 → ∃ m, F [.ro (ns.map .int)] [] = .ok (.d (.bool true)) m) : FnOk P w K mg base (L2.CX P w) k f fd [x] (spLaw K) := by
  refine h.imp fun vs H Q E ⟨a, ns, e, hs, hl, hq⟩ => ?_
  subst e
  obtain ⟨m, hm⟩ := ht ns hl
  refine ⟨⟨[], [], H⟩, [.ro (ns.map .int)], [], rfl, ⟨fun i o e => by simp at e, rfl, List.nodup_nil, fun _ z => (nomatch z), fun _ z => (nomatch z), fun i a o e1 e2 => by simp at e2⟩, .cons ⟨a, _, rfl, ?_, Reps.ints ns⟩ .nil, rfl, ?_⟩
  · rcases hs with h | h
    · exact .inl ⟨fun z => (nomatch z), h⟩
    · exact .inr h
  · rw [hm]
    intro v G' le R r
    cases r
    exact hq _
theorem cx_no {P : Program} {w : World} {H : Hp} {s : Shared} {e : Value} {s' : Shared} (h : L2.CX P w [] H s (fun _ _ _ => False) e s') : False := by
  obtain ⟨_, _, _, _, _, _, _, _, _, _, _, _, z⟩ := h
  exact z
end
end M

set_option Elab.async false
set_option linter.all false
set_option maxRecDepth 100000
set_option maxHeartbeats 4000000
namespace M
open PySem PySem.Spec PyProof.Rows L2
/-! ### list.extend of a tuple, whichever the tuple's object is -/
theorem ext_tup (l b : Addr) (xs ys : Array Value) (n k : Nat) (dd : Option Addr) (sl : Array (Option Value)) (h0 : ¬(!xs.isEmpty && Builtin.List.listTooLong (xs.size + ys.size)) = true) (h1 : xs.size ≤ sizeLine) (h2 : xs.size + ys.size ≤ sizeLine + 1) :
    Meets (Builtin.«list.extend» ⟨[.ref l, .ref b], []⟩) (fun _ R s => s.heap.get? l = some { cls := .type "list", data := .seq xs n } ∧ s.heap.get? b = some { cls := .type "tuple", dict := dd, data := .seq ys k, slots := sl } ∧
      R (.ok (.ret Value.none)) { s with heap := s.heap.update l (Obj.mapSeq fun x => x ++ ys) }) :=
  .of_wp fun prog w A R s h => by
    obtain ⟨hp, g, d, tk, os⟩ := s
    obtain ⟨hl, hb, h⟩ := h
    have f1 := AutoSeq1.idx_int
    have f2 := AutoSeq1.sub_tuple_tuple
    have f3 := AutoSeq1.sub_list_list
    have f4 := AutoSeq1.sub_tuple_list
    have f5 := AutoSeq1.sub_list_tuple
    have hz : (xs ++ ys).size ≤ sizeLine + 1 := by rw [Array.size_append]; exact h2
    wp_walk using (wpAny_updateSeq hl rfl (hz := h1) (_hz' := hz)), wpAny_loadPart' hl, wpAny_loadPart' hb
    exact ⟨_, rfl, h⟩
section
variable {X : Cx} {Wx : WX}
/-! ### is True, is False -/
def isBW (neg : Bool) (x y : W) (m : Mem) : Res W := match x, y with
  | .d (.bool a), .d (.bool b) => .ok (.d (.bool (ngB neg (decide (a = b))))) m
  | _, _ => .bad
def rIsBA (neg : Bool) : R2 := fun x y H Q => ∃ a b : Bool, x = .bl a ∧ y = .bl b ∧ Q (.bl (ngB neg (decide (a = b)))) H
theorem op_isB : OpR X (compareOp .Is) (rIsBA false) := op_isBl
theorem op_isBN : OpR X (compareOp .IsNot) (rIsBA true) := op_notBl
theorem isBW_ok {neg : Bool} : OpOk X Wx (rIsBA neg) (isBW neg) := by
  intro σ G m v u x y H0 H1 Q R rx ry h
  unfold isBW at h
  split at h
  · cases rx; cases ry
    exact ⟨_, _, rfl, rfl, finD R h (.bl _)⟩
  · exact False.elim h
/-! ### extend by a list or a tuple -/
def rExtA (K : PySem.W.Frag) : V → List V → Hp → VK → Prop := fun x vs H Q => rExtend x vs H Q ∨ ∃ l b xs zs, x = .ref l ∧ vs = [.ref b] ∧ H l = some (.lst xs) ∧ SqT K H b zs ∧ xs.length + zs.length ≤ sizeLine ∧ Q .non (upd H l (.lst (xs ++ zs)))
theorem mt_extendA : MtM X "list.extend" (rExtA X.K) := by
  intro pins s σ H x vs v us Q I rx rv h
  rcases h with h | ⟨l, b, xs, zs, rfl, rfl, hH, hB, hz, q⟩
  · exact mt_extend pins s σ H x vs v us Q I rx rv h
  cases rx
  obtain ⟨u, rfl, ru⟩ := rv.one
  cases ru
  obtain ⟨z, its, n, r, hl, e⟩ := I.lstM hH
  obtain ⟨ts, r2, ⟨o, e2, hc, k, hd⟩, _⟩ := I.tuple hB
  obtain ⟨oc, od, oda, osl⟩ := o
  cases hc
  cases hd
  have e3 := r2.length
  have hsz : its.toArray.size + ts.toArray.size ≤ sizeLine := by rw [List.size_toArray, List.size_toArray]; omega
  have hlong : ¬ (!its.toArray.isEmpty && Builtin.List.listTooLong (its.toArray.size + ts.toArray.size)) = true := by
    rw [notLongL hsz, Bool.and_false]
    exact Bool.false_ne_true
  refine call_meets F.slot_list_extend ⟨_, e, rfl⟩ F.entry_list_extend (F.args_list_extend_2 _ _) (ext_tup l b its.toArray ts.toArray n k od osl hlong (by rw [List.size_toArray]; omega) (by omega)) ⟨e, e2, ?_⟩
  refine ⟨.non, _, I.lset (its' := its ++ ts) hH e (by simp) (r.append r2) ?_, rfl, q⟩
  rw [List.length_append]
  omega
def extendAW (x : W) (ws : List W) (m : Mem) : Res W := match ws with
  | [.d (.tuple es)] => match asO x m with
    | some (i, ds) => if ds.length + es.length ≤ sizeLine then .ok (.d .none) (m.set i (.lst (ds ++ es))) else .bad
    | none => .bad
  | ws => extendW x ws m
theorem extendAW_ok : MtOk X Wx (rExtA X.K) extendAW := by
  intro σ G m v x vs ws H0 H1 Q R rx rs h
  unfold extendAW at h
  split at h
  · rename_i es
    cases e : asO x m with
    | none => simp only [e] at h; exact False.elim h
    | some p =>
      obtain ⟨i, ds⟩ := p
      simp only [e] at h
      obtain ⟨a, us, rfl, h1, h2, h3, h4⟩ := asO_get R rx e
      obtain ⟨u, rfl, ru⟩ := paired1 rs
      cases ru with
      | tup hq hr =>
        split at h
        · rename_i hz
          exact .inr ⟨a, _, us, _, rfl, rfl, h3, hq.sq, by rw [h4.length, hr.length]; exact hz, obj_mut (a := a) (ds := ds) (vs := us) R h1 h2 (h4.append hr) .non h⟩
        · exact False.elim h
  · exact .inl (extendW_ok σ G m v x vs ws H0 H1 Q R rx rs h)
end
end M

set_option Elab.async false
set_option linter.all false
set_option maxRecDepth 100000
/-! plain laws of the mirrors' operations -/
namespace M
open PySem L2
abbrev En := M.Env
/-! ### texts as lists of codes -/
def S (l : List Nat) : Str := ⟨l.toArray⟩
@[simp] theorem S_cps (l : List Nat) : (S l).cps.toList = l := rfl
@[simp] theorem S_len (l : List Nat) : (S l).length = l.length := rfl
@[simp] theorem S_app (a b : List Nat) : S a ++ S b = S (a ++ b) := by
  show Str.mk (a.toArray ++ b.toArray) = Str.mk (a ++ b).toArray
  rw [List.append_toArray]
theorem S_eta (x : Str) : x = S x.cps.toList := rfl
theorem S_inj {a b : List Nat} : S a = S b ↔ a = b := ⟨fun h => by have := congrArg (fun x : Str => x.cps.toList) h; exact this, fun h => by rw [h]⟩
@[simp] theorem S_beq (a b : List Nat) : (S a == S b) = decide (a = b) := by
  by_cases h : a = b
  · subst h; simp
  · rw [decide_eq_false h]
    exact beq_eq_false_iff_ne.mpr fun z => h (S_inj.mp z)
theorem S_one (c : Nat) : (⟨#[c]⟩ : Str) = S [c] := rfl
def okC (l : List Nat) : Bool := l.all (· < 0x110000)
theorem strOk_S (l : List Nat) : PyData.strOk (S l) = okC l := by
  unfold PyData.strOk S okC
  simp
@[simp] theorem shaped_str (l : List Nat) : SeqAt.shaped (.str (S l)) = okC l := by
  show ((PyData.str (S l)).canLay0 && decide ((PyData.str (S l)).depth ≤ 64)) = _
  simp [PyData.canLay0, PyData.depth, strOk_S]
@[simp] theorem shaped_int (i : Int) : SeqAt.shaped (.int i) = true := by
  show ((PyData.int i).canLay0 && decide ((PyData.int i).depth ≤ 64)) = _
  simp [PyData.canLay0, PyData.depth]
@[simp] theorem shaped_bool (i : Bool) : SeqAt.shaped (.bool i) = true := by
  show ((PyData.bool i).canLay0 && decide ((PyData.bool i).depth ≤ 64)) = _
  simp [PyData.canLay0, PyData.depth]
@[simp] theorem shaped_none : SeqAt.shaped .none = true := by
  show (PyData.none.canLay0 && decide (PyData.none.depth ≤ 64)) = _
  simp [PyData.canLay0, PyData.depth]
@[simp] theorem shaped_nil : SeqAt.shaped (.list []) = true := by
  show ((PyData.list []).canLay0 && decide ((PyData.list []).depth ≤ 64)) = _
  simp [PyData.canLay0, PyData.canLayAll0, PyData.depth, PyData.depthAll]
@[simp] theorem eqv_str (a b : Str) : PyData.eqv (.str a) (.str b) = (a == b) := by simp [PyData.eqv]
@[simp] theorem eqv_int (a b : Int) : PyData.eqv (.int a) (.int b) = (a == b) := by simp [PyData.eqv]
@[simp] theorem eqv_bool (a b : Bool) : PyData.eqv (.bool a) (.bool b) = (a == b) := by simp [PyData.eqv]
theorem canLayAll0_ints : ∀ ns : List Int, PyData.canLayAll0 (ns.map PyData.int) = true
  | [] => by simp [PyData.canLayAll0]
  | n :: ns => by simp [PyData.canLayAll0, PyData.canLay0, canLayAll0_ints ns]
theorem depthAll_ints : ∀ ns : List Int, PyData.depthAll (ns.map PyData.int) = 0
  | [] => by simp [PyData.depthAll]
  | n :: ns => by simp [PyData.depthAll, PyData.depth, depthAll_ints ns]
@[simp] theorem shaped_ints (ns : List Int) : SeqAt.shaped (.list (ns.map PyData.int)) = true := by
  show ((PyData.list (ns.map PyData.int)).canLay0 && decide ((PyData.list (ns.map PyData.int)).depth ≤ 64)) = _
  simp [PyData.canLay0, PyData.depth, canLayAll0_ints, depthAll_ints]
/-! ### operations -/
section
variable {m : Mem}
@[simp] theorem addW_int (i j : Int) : addW (.d (.int i)) (.d (.int j)) m = .ok (.d (.int (i + j))) m := rfl
@[simp] theorem subW_int (i j : Int) : subW (.d (.int i)) (.d (.int j)) m = .ok (.d (.int (i - j))) m := rfl
theorem mulW_r {i j : Int} (h : -(2 ^ 64) < j) (h' : j < 2 ^ 64) : mulW (.d (.int i)) (.d (.int j)) m = .ok (.d (.int (i * j))) m := by
  have e : mulOk i j = true := grd_t (.inl (.inr ⟨h, h'⟩))
  show (if mulOk i j = true then _ else _) = _
  rw [if_pos e]
theorem divW_lit {i j : Int} (h : divOk 0 j = true) : divW (.d (.int i)) (.d (.int j)) m = .ok (.d (.int (i / j))) m := by
  show (if divOk i j = true then _ else _) = _
  rw [if_pos (show divOk i j = true from h)]
theorem modW_pos {i j : Int} (h : 0 < j) : modW (.d (.int i)) (.d (.int j)) m = .ok (.d (.int (i % j))) m := by
  show (if modOk i j = true then _ else _) = _
  rw [if_pos (show modOk i j = true from grd_t h)]
@[simp] theorem ltW_int (i j : Int) : ltW (.d (.int i)) (.d (.int j)) m = .ok (.d (.bool (decide (i < j)))) m := rfl
@[simp] theorem leW_int (i j : Int) : leW (.d (.int i)) (.d (.int j)) m = .ok (.d (.bool (decide (i ≤ j)))) m := rfl
@[simp] theorem gtW_int (i j : Int) : gtW (.d (.int i)) (.d (.int j)) m = .ok (.d (.bool (decide (j < i)))) m := rfl
@[simp] theorem geW_int (i j : Int) : geW (.d (.int i)) (.d (.int j)) m = .ok (.d (.bool (decide (j ≤ i)))) m := rfl
@[simp] theorem addIW_int (i j : Int) : addIW (.d (.int i)) (.d (.int j)) m = .ok (.d (.int (i + j))) m := rfl
@[simp] theorem eqW_int (n : Bool) (i j : Int) : eqW n (.d (.int i)) (.d (.int j)) m = .ok (.d (.bool (ngB n (decide (i = j))))) m := by
  unfold eqW asD
  simp only [shaped_int, Bool.and_self, if_true, eqv_int]
  rfl
theorem eqW_str {n : Bool} {a b : List Nat} (ha : okC a = true) (hb : okC b = true) : eqW n (.d (.str (S a))) (.d (.str (S b))) m = .ok (.d (.bool (ngB n (decide (a = b))))) m := by
  unfold eqW asD
  simp only [shaped_str, ha, hb, Bool.and_self, if_true, eqv_str, S_beq]
  rfl
theorem addW_str {a b : List Nat} (h : a.length + b.length ≤ sizeLine) : addW (.d (.str (S a))) (.d (.str (S b))) m = .ok (.d (.str (S (a ++ b)))) m := by
  show (if (S a).length + (S b).length ≤ sizeLine then _ else _) = _
  rw [if_pos (show (S a).length + (S b).length ≤ sizeLine from h), S_app]
theorem atI_of {α : Type} {xs : List α} {i : Int} (h0 : 0 ≤ i) : L2.atI xs i = xs[i.toNat]? := by
  unfold L2.atI ixN
  rw [if_pos h0]
  by_cases h : i < xs.length
  · rw [if_pos h]; rfl
  · rw [if_neg h, List.getElem?_eq_none (by omega)]; rfl
@[simp] theorem atI_cast {α : Type} (xs : List α) (k : Nat) : L2.atI xs (k : Int) = xs[k]? := by rw [atI_of (by omega)]; simp
@[simp] theorem atI_zero {α : Type} (xs : List α) : L2.atI xs 0 = xs[0]? := atI_cast xs 0
@[simp] theorem atI_one {α : Type} (xs : List α) : L2.atI xs 1 = xs[1]? := atI_cast xs 1
@[simp] theorem atI_two {α : Type} (xs : List α) : L2.atI xs 2 = xs[2]? := atI_cast xs 2
theorem ixW_str {l : List Nat} {i : Int} {c : Nat} (hl : l.length ≤ sizeLine) (h : L2.atI l i = some c) : ixW (.d (.str (S l))) (.d (.int i)) m = .ok (.d (.str (S [c]))) m := by
  show (if (S l).length ≤ sizeLine then (match L2.atI (S l).cps.toList i with | some c => Res.ok (W.d (.str ⟨#[c]⟩)) m | none => .bad) else .bad) = _
  rw [if_pos (show (S l).length ≤ sizeLine from hl), S_cps, h]
  rfl
theorem ixW_tup {ds : List D} {i : Int} {c : D} (h : L2.atI ds i = some c) : ixW (.d (.tuple ds)) (.d (.int i)) m = .ok (.d c) m := by
  show (match L2.atI ds i with | some c => Res.ok (W.d c) m | none => .bad) = _
  rw [h]
end
section
variable {m : Mem}
@[simp] theorem divW_s {i j : Int} (h : 0 < j) (h' : j < 18446744073709551616) : divW (.d (.int i)) (.d (.int j)) m = .ok (.d (.int (i / j))) m := by
  refine divW_lit ?_
  refine grd_t ⟨h, ?_⟩
  have h2 : j.natAbs < 2 ^ 64 := by omega
  have := PySem.Flt.log2_lt_of (show 0 < 64 by decide) h2
  omega
@[simp] theorem modW_s {i j : Int} (h : 0 < j) : modW (.d (.int i)) (.d (.int j)) m = .ok (.d (.int (i % j))) m := modW_pos h
@[simp] theorem mulW_s {i j : Int} (h : -18446744073709551616 < j) (h' : j < 18446744073709551616) : mulW (.d (.int i)) (.d (.int j)) m = .ok (.d (.int (i * j))) m := mulW_r (by omega) (by omega)
theorem mulW_l {i j : Int} (h : -18446744073709551616 < i) (h' : i < 18446744073709551616) : mulW (.d (.int i)) (.d (.int j)) m = .ok (.d (.int (i * j))) m := by
  have e : mulOk i j = true := grd_t (.inl (.inl ⟨by omega, by omega⟩))
  show (if mulOk i j = true then _ else _) = _
  rw [if_pos e]
end
section
variable {m : Mem}
@[simp] theorem powW_s {i j : Int} (h : 0 ≤ j) (h' : j ≤ 1000000) (h2 : i.natAbs < 18446744073709551616) : powW (.d (.int i)) (.d (.int j)) m = .ok (.d (.int (i ^ j.toNat))) m := by
  have e : powOk i j = true := grd_t ⟨h, h', by omega⟩
  show (if powOk i j = true then _ else _) = _
  rw [if_pos e]
theorem popAt0 {i : Nat} {d : D} {ds : List D} (h : m[i]? = some (.lst (d :: ds))) : popAtW (.obj i) [.d (.int 0)] m = .ok (.d d) (m.set i (.lst ds)) := by
  have e : grd (-(2 ^ 63) ≤ (0 : Int) ∧ (0 : Int) < 2 ^ 63) = true := grd_t ⟨by decide, by decide⟩
  have e2 : asO (.obj i) m = some (i, d :: ds) := by simp [asO, h]
  have e3 : seqIndex? 0 (d :: ds).length = some 0 := by
    have := (ixN_seq (n := (d :: ds).length) (i := 0) (j := 0) (by unfold ixN; simp)).1
    exact this
  simp only [popAtW, e2]
  rw [if_pos e, e3]
  rfl
@[simp] theorem isTy_d_list (ds : List D) : isTyW "list" (.d (.list ds)) m = true := rfl
end
/-! ### cuts -/
@[simp] theorem sIx_none' (n d : Nat) : HT.sIx n d none = d := rfl
@[simp] theorem sIx_cast (n d k : Nat) : HT.sIx n d (some (k : Int)) = min k n := HT.sIx_nat n d k
theorem sIx_of {n d : Nat} {i : Int} (h : 0 ≤ i) : HT.sIx n d (some i) = min i.toNat n := by
  unfold HT.sIx
  dsimp only
  rw [if_neg (by omega)]
theorem cutD_take {xs : List D} {i : Int} (h : 0 ≤ i) : cutD xs none (some i) = xs.take i.toNat := by
  unfold cutD
  rw [sIx_none', sIx_of h, List.drop_zero, Nat.sub_zero, Nat.min_def]
  split
  · rfl
  · rw [List.take_length, List.take_of_length_le (by omega)]
theorem cutD_drop {xs : List D} {i : Int} (h : 0 ≤ i) : cutD xs (some i) none = xs.drop i.toNat := by
  unfold cutD
  rw [sIx_none', sIx_of h, Nat.min_def]
  split
  · exact List.take_of_length_le (by rw [List.length_drop]; omega)
  · rw [List.drop_eq_nil_of_le (by omega), List.drop_eq_nil_of_le (by omega)]
    simp
theorem cutD_mid {xs : List D} {i j : Int} (h : 0 ≤ i) (h' : 0 ≤ j) : cutD xs (some i) (some j) = (xs.take j.toNat).drop i.toNat := by
  unfold cutD
  rw [sIx_of h, sIx_of h']
  rw [List.drop_take]
  by_cases h1 : i.toNat ≤ xs.length
  · rw [Nat.min_eq_left h1]
    by_cases h2 : j.toNat ≤ xs.length
    · rw [Nat.min_eq_left h2]
    · rw [Nat.min_eq_right (by omega), List.take_of_length_le (by rw [List.length_drop]; omega), List.take_of_length_le (by rw [List.length_drop]; omega)]
  · rw [List.drop_eq_nil_of_le (by omega), List.drop_eq_nil_of_le (by omega)]
    simp
theorem cutS_S (l : List Nat) (lo hi : Option Int) : cutS (S l) lo hi = S ((l.drop (HT.sIx l.length 0 lo)).take (HT.sIx l.length l.length hi - HT.sIx l.length 0 lo)) := rfl
theorem cutS_take {l : List Nat} {i : Int} (h : 0 ≤ i) : cutS (S l) none (some i) = S (l.take i.toNat) := by
  rw [cutS_S, sIx_none', sIx_of h, List.drop_zero, Nat.sub_zero, Nat.min_def]
  split
  · rfl
  · rw [List.take_length, List.take_of_length_le (by omega)]
theorem cutS_drop {l : List Nat} {i : Int} (h : 0 ≤ i) : cutS (S l) (some i) none = S (l.drop i.toNat) := by
  rw [cutS_S, sIx_none', sIx_of h, Nat.min_def]
  split
  · rw [List.take_of_length_le (by rw [List.length_drop]; omega)]
  · rw [List.drop_eq_nil_of_le (by omega), List.drop_eq_nil_of_le (by omega)]
    simp
theorem cutS_mid {l : List Nat} {i j : Int} (h : 0 ≤ i) (h' : 0 ≤ j) : cutS (S l) (some i) (some j) = S ((l.take j.toNat).drop i.toNat) := by
  rw [cutS_S, sIx_of h, sIx_of h', List.drop_take]
  congr 1
  by_cases h1 : i.toNat ≤ l.length
  · rw [Nat.min_eq_left h1]
    by_cases h2 : j.toNat ≤ l.length
    · rw [Nat.min_eq_left h2]
    · rw [Nat.min_eq_right (by omega), List.take_of_length_le (by rw [List.length_drop]; omega), List.take_of_length_le (by rw [List.length_drop]; omega)]
  · rw [List.drop_eq_nil_of_le (by omega), List.drop_eq_nil_of_le (by omega)]
    simp
theorem cutS_last {l : List Nat} : cutS (S l) none (some (-1)) = S l.dropLast := by
  rw [cutS_S, sIx_none', List.drop_zero, Nat.sub_zero, List.dropLast_eq_take]
  congr 2
  unfold HT.sIx
  dsimp only
  rw [if_pos (by decide)]
  omega
theorem atI_neg1 {α : Type} {xs : List α} {x : α} : L2.atI (xs ++ [x]) (-1) = some x := atI_last xs x
/-! ### join, index -/
theorem join_nil : ∀ ls : List (List Nat), Txt.join (S []) (ls.map S) = S ls.flatten := by
  have : ∀ ls : List (List Nat), Str.join (S []) (ls.map S) = S ls.flatten := by
    intro ls
    induction ls with
    | nil => rfl
    | cons a r ih =>
      cases r with
      | nil => show S a = S (List.flatten [a]); simp
      | cons b r => show S a ++ S [] ++ Str.join (S []) ((b :: r).map S) = _; rw [ih, S_app, S_app]; simp
  intro ls
  show Builtin.Str.glued (S []) (ls.map S) = _
  rw [StrLaws.glued_eq_join]
  exact this ls
theorem joinW_nil {m : Mem} {w : W} {ls : List (List Nat)} (h : asL w m = some (ls.map fun l => .str (S l))) (ht : ∀ ds, w ≠ .d (.tuple ds)) (hl : ls.flatten.length ≤ 16777216) : joinW (.d (.str (S []))) [w] m = .ok (.d (.str (S ls.flatten))) m := by
  have e : dStrs (ls.map fun l => .str (S l)) = some (ls.map S) := by
    have := dStrs_strs (ls.map S)
    rwa [List.map_map] at this
  have hz : ((ls.map S).map (·.length)).sum + (ls.map S).length * (S []).length ≤ 16777216 := by
    have e2 : ((ls.map S).map (·.length)).sum = ls.flatten.length := by
      rw [List.map_map, List.length_flatten]
      rfl
    rw [e2]
    simpa using hl
  have go : ∀ w : W, asL w m = some (ls.map fun l => .str (S l)) → (∀ ds, w ≠ .d (.tuple ds)) → joinW (.d (.str (S []))) [w] m = match (asL w m).bind dStrs with
      | some ys => if (ys.map (·.length)).sum + ys.length * (S []).length ≤ 16777216 then .ok (.d (.str (Txt.join (S []) ys))) m else .bad
      | none => .bad := fun w _ ht => by
    cases w with
    | d x =>
      cases x with
      | tuple ds => exact absurd rfl (ht ds)
      | _ => rfl
    | _ => rfl
  rw [go w h ht, h, Option.bind_some, e]
  show (if _ then _ else _) = _
  rw [if_pos hz, join_nil]
theorem sindexW_one {m : Mem} {l : List Nat} {c i : Nat} (h : l[i]? = some c) (hu : ∀ k, k < i → l[k]? ≠ some c) : sindexW (.d (.str (S l))) [.d (.str (S [c]))] m = .ok (.d (.int (i : Int))) m := by
  have key : ∃ r, Builtin.Str.occurrences (S l) (S [c]) 0 (S l).length 1 = i :: r := by
    rcases StrLaws.occ_head (S l) (S [c]) 1 (Nat.le_refl _) with ⟨_, hn⟩ | ⟨j, r, e, ha, hn⟩
    · exact absurd ((StrLaws.subAt_one (S l) c i).mpr h) (hn i)
    · have hj : l[j]? = some c := (StrLaws.subAt_one (S l) c j).mp ha
      have hji : ¬ j < i := fun z => hu j z hj
      have hij : ¬ i < j := fun z => hn i z ((StrLaws.subAt_one (S l) c i).mpr h)
      have : j = i := by omega
      subst this
      exact ⟨r, e⟩
  obtain ⟨r, e⟩ := key
  show (match Builtin.Str.occurrences (S l) (S [c]) 0 (S l).length 1 with | i :: _ => Res.ok (W.d (.int (i : Int))) m | [] => .bad) = _
  rw [e]
/-! ### memory: a list of objects -/
@[simp] theorem mem_last (m : Mem) (o : O) : (m ++ [o])[m.length]? = some o := by simp
@[simp] theorem mem_set_last (m : Mem) (o p : O) : (m ++ [o]).set m.length p = m ++ [p] := by simp
@[simp] theorem mem_take (m : Mem) (l : List O) : (m ++ l).take m.length = m := by simp
/-! ### loops -/
theorem forM_inv {chk : Mem → Bool} {b : W → SF} (P : Nat → Env → Mem → Prop) : ∀ {xs : List W} {env : Env} {m : Mem} (k : Nat),
    (∀ i w env m, xs[i]? = some w → P (k + i) env m → chk m = true ∧ ∃ env' m', (b w env m = .nx env' m' ∨ b w env m = .ct env' m') ∧ P (k + i + 1) env' m') →
    (∀ env m, P (k + xs.length) env m → chk m = true) → P k env m → ∃ env' m', forM chk b xs env m = .nx env' m' ∧ P (k + xs.length) env' m'
  | [], env, m, k, _, he, h => ⟨env, m, by
      have := he env m h
      simp only [forM, this, if_true], h⟩
  | x :: xs, env, m, k, hs, he, h => by
    obtain ⟨hc, env', m', hb, h'⟩ := hs 0 x env m rfl h
    have ih := forM_inv P (xs := xs) (env := env') (m := m') (k + 1) (fun i w e1 m1 hi hp => by
      have := hs (i + 1) w e1 m1 hi (by rw [← Nat.add_assoc, Nat.add_right_comm]; exact hp)
      rw [← Nat.add_assoc, Nat.add_right_comm k i 1] at this
      exact this) (fun e1 m1 hp => he e1 m1 (by rw [List.length_cons, Nat.add_comm xs.length 1, ← Nat.add_assoc]; exact hp)) h'
    obtain ⟨e2, m2, h1, h2⟩ := ih
    refine ⟨e2, m2, ?_, by rw [List.length_cons, Nat.add_comm xs.length 1, ← Nat.add_assoc]; exact h2⟩
    rcases hb with hb | hb
    · simp only [forM, hc, if_true, hb]; exact h1
    · simp only [forM, hc, if_true, hb]; exact h1
/-- a loop over a list that stays: what holds between the turns -/
theorem for_inv {b : W → SF} {xs : List W} {env : Env} {m : Mem} (P : Nat → Env → Mem → Prop) (h0 : P 0 env m)
    (hs : ∀ i w env m, xs[i]? = some w → P i env m → ∃ env' m', (b w env m = .nx env' m' ∨ b w env m = .ct env' m') ∧ P (i + 1) env' m') : ∃ env' m', forM yesM b xs env m = .nx env' m' ∧ P xs.length env' m' := by
  have := forM_inv (chk := yesM) (b := b) P (xs := xs) (env := env) (m := m) 0 (fun i w e m hi hp => ⟨rfl, by rw [Nat.zero_add] at hp ⊢; exact hs i w e m hi hp⟩) (fun _ _ _ => rfl) h0
  rwa [Nat.zero_add] at this
theorem rng_get {lo : Int} {n i : Nat} {w : W} (h : (rngI lo n).xs[i]? = some w) : i < n ∧ w = .d (.int (lo + (i : Int))) := by
  have hi : i < n := by
    have := (List.getElem?_eq_some_iff.mp h).1
    simpa [rngI] using this
  have h : ((List.range n).map fun (k : Nat) => (W.d (.int (lo + (k : Int))) : W))[i]? = some w := h
  rw [List.getElem?_map, List.getElem?_range hi] at h
  cases h
  exact ⟨hi, rfl⟩
@[simp] theorem rng_len (lo : Int) (n : Nat) : (rngI lo n).xs.length = n := by simp [rngI]
/-- for k in range(..) -/
theorem forR_inv {b : W → SF} {lo : Int} {n : Nat} {env : Env} {m : Mem} (P : Nat → Env → Mem → Prop) (h0 : P 0 env m)
    (hs : ∀ (i : Nat) env m, i < n → P i env m → ∃ env' m', (b (.d (.int (lo + (i : Int)))) env m = .nx env' m' ∨ b (.d (.int (lo + (i : Int)))) env m = .ct env' m') ∧ P (i + 1) env' m') : ∃ env' m', forM (rngI lo n).chk b (rngI lo n).xs env m = .nx env' m' ∧ P n env' m' := by
  have := for_inv (b := b) (xs := (rngI lo n).xs) P h0 fun i w e m hi hp => by
    obtain ⟨h1, rfl⟩ := rng_get hi
    exact hs i e m h1 hp
  rwa [rng_len] at this
theorem while_inv {c : TF} {b : SF} (P : Nat → Env → Mem → Prop) (Z : Env → Mem → Prop)
    (hs : ∀ k env m, P k env m → (∃ m1, c env m = .ok false m1 ∧ Z env m1) ∨ (∃ m1 env' m' k', c env m = .ok true m1 ∧ (b env m1 = .nx env' m' ∨ b env m1 = .ct env' m') ∧ k' < k ∧ P k' env' m')) :
    ∀ (n k : Nat) (env : Env) (m : Mem), k < n → P k env m → ∃ env' m', whileM c b n env m = .nx env' m' ∧ Z env' m'
  | 0, k, env, m, hk, _ => absurd hk (Nat.not_lt_zero _)
  | n + 1, k, env, m, hk, h => by
    rcases hs k env m h with ⟨m1, h1, h2⟩ | ⟨m1, env', m', k', h1, h2, h3, h4⟩
    · exact ⟨env, m1, by simp only [whileM, h1, eS_ok]; rfl, h2⟩
    · obtain ⟨e2, m2, h5, h6⟩ := while_inv P Z hs n k' env' m' (by omega) h4
      refine ⟨e2, m2, ?_, h6⟩
      rcases h2 with h2 | h2
      · simp only [whileM, h1, eS_ok, if_true, h2]; exact h5
      · simp only [whileM, h1, eS_ok, if_true, h2]; exact h5
def stepOk (r : SRes) (Q : Env → Mem → Prop) : Prop := match r with
  | .nx e m => Q e m
  | .ct e m => Q e m
  | _ => False
@[simp] theorem stepOk_nx (e : Env) (m : Mem) (Q : Env → Mem → Prop) : stepOk (.nx e m) Q = Q e m := rfl
@[simp] theorem stepOk_ct (e : Env) (m : Mem) (Q : Env → Mem → Prop) : stepOk (.ct e m) Q = Q e m := rfl
theorem stepOk_ex {r : SRes} {Q : Env → Mem → Prop} (h : stepOk r Q) : ∃ env' m', (r = .nx env' m' ∨ r = .ct env' m') ∧ Q env' m' := by
  cases r with
  | nx e m => exact ⟨e, m, .inl rfl, h⟩
  | ct e m => exact ⟨e, m, .inr rfl, h⟩
  | _ => exact False.elim h
def Res.wp {α : Type} (r : Res α) (Q : α → Mem → Prop) : Prop := match r with
  | .ok a m => Q a m
  | _ => False
@[simp] theorem Res.wp_ok {α : Type} (a : α) (m : Mem) (Q : α → Mem → Prop) : (Res.ok a m).wp Q = Q a m := rfl
theorem Res.wp_ex {α : Type} {r : Res α} {Q : α → Mem → Prop} (h : r.wp Q) : ∃ a m, r = .ok a m ∧ Q a m := by
  cases r with
  | ok a m => exact ⟨a, m, rfl, h⟩
  | _ => exact False.elim h
theorem for_ex {b : W → SF} {xs : List W} {env : Env} {m : Mem} {res : SRes} (hx : forM yesM b xs env m = res) (P : Nat → Env → Mem → Prop) (h0 : P 0 env m)
    (hs : ∀ i w env m, xs[i]? = some w → P i env m → stepOk (b w env m) (P (i + 1))) : ∃ env' m', res = .nx env' m' ∧ P xs.length env' m' := by
  obtain ⟨e, m', h1, h2⟩ := for_inv P h0 fun i w e m hi hp => stepOk_ex (hs i w e m hi hp)
  exact ⟨e, m', hx.symm.trans h1, h2⟩
theorem forR_ex {b : W → SF} {lo : Int} {n : Nat} {env : Env} {m : Mem} {res : SRes} (hx : forM (rngI lo n).chk b (rngI lo n).xs env m = res) (P : Nat → Env → Mem → Prop) (h0 : P 0 env m)
    (hs : ∀ (i : Nat) env m, i < n → P i env m → stepOk (b (.d (.int (lo + (i : Int)))) env m) (P (i + 1))) : ∃ env' m', res = .nx env' m' ∧ P n env' m' := by
  obtain ⟨e, m', h1, h2⟩ := forR_inv P h0 fun i e m hi hp => stepOk_ex (hs i e m hi hp)
  exact ⟨e, m', hx.symm.trans h1, h2⟩
theorem while_ex {c : TF} {b : SF} {n k : Nat} {env : Env} {m : Mem} {res : SRes} (hx : whileM c b n env m = res) (P : Nat → Env → Mem → Prop) (Z : Env → Mem → Prop) (h0 : P k env m) (hk : k < n)
    (hs : ∀ k env m, P k env m → (c env m).wp fun t m1 => if t = true then stepOk (b env m1) (fun e m' => ∃ k', k' < k ∧ P k' e m') else Z env m1) : ∃ env' m', res = .nx env' m' ∧ Z env' m' := by
  obtain ⟨e, m', h1, h2⟩ := while_inv (c := c) (b := b) P Z (fun k env m hp => by
    obtain ⟨t, m1, e1, h1⟩ := Res.wp_ex (hs k env m hp)
    cases t with
    | false => exact .inl ⟨m1, e1, by simpa using h1⟩
    | true =>
      simp only [if_true] at h1
      obtain ⟨e2, m2, h2, k', h3, h4⟩ := stepOk_ex h1
      exact .inr ⟨m1, e2, m2, k', e1, h2, h3, h4⟩) n k env m hk h0
  exact ⟨e, m', hx.symm.trans h1, h2⟩
theorem rng1_ok {j : Int} {m : Mem} (h : -1000000 ≤ j) (h' : j ≤ 1000000) : rng1 [.d (.int j)] m = .ok (rngI 0 j.toNat) m := by
  have e : smallI j = true := grd_t ⟨by omega, by omega⟩
  simp only [rng1, e, if_true]
theorem rng2_ok {i j : Int} {m : Mem} (h : -1000000 ≤ i) (h' : i ≤ 1000000) (h1 : -1000000 ≤ j) (h2 : j ≤ 1000000) : rng2 [.d (.int i), .d (.int j)] m = .ok (rngI i (j - i).toNat) m := by
  have e : (smallI i && smallI j) = true := by
    rw [Bool.and_eq_true]
    exact ⟨grd_t ⟨by omega, by omega⟩, grd_t ⟨by omega, by omega⟩⟩
  simp only [rng2, e, if_true]
/-! ### statement by statement -/
def WP (Z : SRes → Prop) (r : SRes) : Prop := Z r
def thenZ (b : SF) (Z : SRes → Prop) (r : SRes) : Prop := match r with
  | .nx e m => WP Z (b e m)
  | r => Z r
section
variable {Z : SRes → Prop} {a b : SF} {env e : En} {m m1 : Mem}
theorem wp_seq (h : WP (thenZ b Z) (a env m)) : WP Z (sSeq a b env m) := by
  have h : thenZ b Z (a env m) := h
  unfold WP sSeq
  cases q : a env m with
  | nx e m1 => rw [q] at h; exact h
  | bk e m1 => rw [q] at h; exact h
  | ct e m1 => rw [q] at h; exact h
  | rt w m1 => rw [q] at h; exact h
  | err x e m1 => rw [q] at h; exact h
  | bad => rw [q] at h; exact h
/-- a statement that goes on -/
theorem wp_go (h : a env m = .nx e m1) (k : WP Z (b e m1)) : WP Z (sSeq a b env m) := by
  unfold WP sSeq
  rw [h]
  exact k
theorem wp_nx (k : WP Z (b env m)) : WP (thenZ b Z) (sNx env m) := k
theorem wp_then (h : a env m = .nx e m1) (k : WP Z (b e m1)) : WP (thenZ b Z) (a env m) := by
  unfold WP
  rw [h]
  exact k
theorem wp_eq (h : a env m = r) (k : Z r) : WP Z (a env m) := by
  unfold WP
  rw [h]
  exact k
theorem wp_ret {f : EF} {w : W} (h : f env m = .ok w m1) (k : Z (.rt w m1)) : WP Z (sRet f env m) := by
  unfold WP sRet
  rw [h]
  exact k
theorem wp_ifT {c : TF} (h : c env m = .ok true m1) (k : WP Z (a env m1)) : WP Z (sIf c a b env m) := by
  unfold WP sIf
  rw [h]
  exact k
theorem wp_ifF {c : TF} (h : c env m = .ok false m1) (k : WP Z (b env m1)) : WP Z (sIf c a b env m) := by
  unfold WP sIf
  rw [h]
  exact k
theorem wp_if {c : TF} {t : Bool} (h : c env m = .ok t m1) (k : t = true → WP Z (a env m1)) (k' : t = false → WP Z (b env m1)) : WP Z (sIf c a b env m) := by
  cases t with
  | true => exact wp_ifT h (k rfl)
  | false => exact wp_ifF h (k' rfl)
theorem wp_forR {it : IF} {g : GF} {lo : Int} {n : Nat} (hi : it env m = .ok (rngI lo n) m1) (P : Nat → En → Mem → Prop) (h0 : P 0 env m1) (hs : ∀ (i : Nat) env m, i < n → P i env m → stepOk (sTg g b (.d (.int (lo + (i : Int)))) env m) (P (i + 1)))
    (k : ∀ e m', P n e m' → Z (.nx e m')) : WP Z (sFor it g b env m) := by
  unfold WP sFor
  rw [hi, eS_ok]
  obtain ⟨e, m', h1, h2⟩ := forR_ex rfl P h0 hs
  rw [h1]
  exact k e m' h2
theorem wp_forL {it : IF} {g : GF} {ds : List D} (hi : it env m = .ok (itsL ds) m1) (P : Nat → En → Mem → Prop) (h0 : P 0 env m1) (hs : ∀ (i : Nat) d env m, ds[i]? = some d → P i env m → stepOk (sTg g b (.d d) env m) (P (i + 1)))
    (k : ∀ e m', P ds.length e m' → Z (.nx e m')) : WP Z (sFor it g b env m) := by
  unfold WP sFor
  rw [hi, eS_ok]
  obtain ⟨e, m', h1, h2⟩ := for_ex (b := sTg g b) (xs := (itsL ds).xs) rfl P h0 fun i w env m hw hp => by
    have hw : (ds.map W.d)[i]? = some w := hw
    rw [List.getElem?_map] at hw
    cases q : ds[i]? with
    | none => rw [q] at hw; cases hw
    | some d => rw [q] at hw; cases hw; exact hs i d env m q hp
  have h1 : M.forM (itsL ds).chk (sTg g b) (itsL ds).xs env m1 = .nx e m' := h1
  rw [h1]
  refine k e m' ?_
  have hl : (itsL ds).xs.length = ds.length := by simp [itsL]
  rw [hl] at h2
  exact h2
theorem wp_while {c : TF} {n k0 : Nat} (P : Nat → En → Mem → Prop) (Y : En → Mem → Prop) (h0 : P k0 env m) (hk : k0 < n)
    (hs : ∀ k env m, P k env m → (c env m).wp fun t m1 => if t = true then stepOk (b env m1) (fun e m' => ∃ k', k' < k ∧ P k' e m') else Y env m1)
    (k : ∀ e m', Y e m' → Z (.nx e m')) : WP Z (whileM c b n env m) := by
  obtain ⟨e, m', h1, h2⟩ := while_ex rfl P Y h0 hk hs
  unfold WP
  rw [h1]
  exact k e m' h2
theorem wp_sForR {c : SF} {it : IF} {g : GF} {lo : Int} {n : Nat} (hi : it env m = .ok (rngI lo n) m1) (P : Nat → En → Mem → Prop) (h0 : P 0 env m1) (hs : ∀ (i : Nat) env m, i < n → P i env m → stepOk (sTg g b (.d (.int (lo + (i : Int)))) env m) (P (i + 1)))
    (k : ∀ e m', P n e m' → WP Z (c e m')) : WP Z (sSeq (sFor it g b) c env m) := wp_seq (wp_forR hi P h0 hs k)
theorem wp_sForL {c : SF} {it : IF} {g : GF} {ds : List D} (hi : it env m = .ok (itsL ds) m1) (P : Nat → En → Mem → Prop) (h0 : P 0 env m1) (hs : ∀ (i : Nat) d env m, ds[i]? = some d → P i env m → stepOk (sTg g b (.d d) env m) (P (i + 1)))
    (k : ∀ e m', P ds.length e m' → WP Z (c e m')) : WP Z (sSeq (sFor it g b) c env m) := wp_seq (wp_forL hi P h0 hs k)
theorem wp_sWhile {d : SF} {c : TF} {n k0 : Nat} (P : Nat → En → Mem → Prop) (Y : En → Mem → Prop) (h0 : P k0 env m) (hk : k0 < n)
    (hs : ∀ k env m, P k env m → (c env m).wp fun t m1 => if t = true then stepOk (b env m1) (fun e m' => ∃ k', k' < k ∧ P k' e m') else Y env m1)
    (k : ∀ e m', Y e m' → WP Z (d e m')) : WP Z (sSeq (whileM c b n) d env m) := wp_seq (wp_while P Y h0 hk hs k)
theorem wp_sIfT {c : TF} {d : SF} (h : c env m = .ok true m1) (k : WP (thenZ d Z) (a env m1)) : WP Z (sSeq (sIf c a b) d env m) := wp_seq (wp_ifT h k)
theorem wp_sIfF {c : TF} {d : SF} (h : c env m = .ok false m1) (k : WP (thenZ d Z) (b env m1)) : WP Z (sSeq (sIf c a b) d env m) := wp_seq (wp_ifF h k)
/-- if c: return .. -/
theorem wp_sIfN {c : TF} {d : SF} (h : c env m = .ok false m1) (k : WP Z (d env m1)) : WP Z (sSeq (sIf c a sNx) d env m) := wp_seq (wp_ifF h (wp_nx k))
theorem wp_sIfR {c : TF} {d : SF} {f : EF} {w : W} {m2 : Mem} (h : c env m = .ok true m1) (hf : f env m1 = .ok w m2) (k : Z (.rt w m2)) : WP Z (sSeq (sIf c (sRet f) b) d env m) := wp_seq (wp_ifT h (wp_ret hf k))
mutual
theorem beqD_refl : ∀ (d : D), d.canLay0 = true → beqD d d = true
  | .none, _ => by simp [beqD]
  | .bool a, _ => by simp [beqD]
  | .int a, _ => by simp [beqD]
  | .str a, _ => by simp [beqD]
  | .list a, h => by
    simp only [beqD]
    exact beqDs_refl a (by simpa [PyData.canLay0] using h)
  | .tuple a, h => by
    simp only [beqD]
    exact beqDs_refl a (by simpa [PyData.canLay0] using h)
  | .dict a, h => by simp [PyData.canLay0] at h
theorem beqDs_refl : ∀ (ds : List D), PyData.canLayAll0 ds = true → beqDs ds ds = true
  | [], _ => by simp [beqDs]
  | d :: ds, h => by
    simp only [PyData.canLayAll0, Bool.and_eq_true] at h
    simp only [beqDs, Bool.and_eq_true]
    exact ⟨beqD_refl d h.1, beqDs_refl ds h.2⟩
end
theorem sameM_of {i : Nat} {ds : List D} {m : Mem} (h : asL (.obj i) m = some ds) (hc : PyData.canLayAll0 ds = true) : sameM i ds m = true := by
  unfold sameM
  rw [h]
  exact beqDs_refl ds hc
/-- a loop over an object that stays as it is -/
theorem wp_sForO {c : SF} {it : IF} {g : GF} {o : Nat} {ds : List D} (hi : it env m = .ok ⟨ds.map .d, sameM o ds⟩ m1) (hc : PyData.canLayAll0 ds = true) (P : Nat → En → Mem → Prop) (h0 : P 0 env m1) (ho : ∀ i env m, P i env m → asL (.obj o) m = some ds)
    (hs : ∀ (i : Nat) d env m, ds[i]? = some d → P i env m → stepOk (sTg g b (.d d) env m) (P (i + 1)))
    (k : ∀ e m', P ds.length e m' → WP Z (c e m')) : WP Z (sSeq (sFor it g b) c env m) := by
  refine wp_seq ?_
  unfold WP sFor
  rw [hi, eS_ok]
  obtain ⟨e, m', h1, h2⟩ := forM_inv (chk := sameM o ds) (b := sTg g b) P (xs := ds.map .d) (env := env) (m := m1) 0 (fun i w env m hw hp => by
    rw [Nat.zero_add] at hp ⊢
    refine ⟨sameM_of (ho i env m hp) hc, ?_⟩
    rw [List.getElem?_map] at hw
    cases q : ds[i]? with
    | none => rw [q] at hw; cases hw
    | some d => rw [q] at hw; cases hw; exact stepOk_ex (hs i d env m q hp)) (fun env m hp => sameM_of (ho _ env m hp) hc) h0
  have h1 : M.forM (sameM o ds) (sTg g b) (ds.map .d) env m1 = .nx e m' := h1
  show thenZ c Z (M.forM (sameM o ds) (sTg g b) (ds.map .d) env m1)
  rw [h1]
  refine k e m' ?_
  rw [Nat.zero_add, List.length_map] at h2
  exact h2
def outF (n : Nat) (r : SRes) : Res W := match r with
  | .rt w m' => finM n w m'
  | .nx _ m' => finM n (.d .none) m'
  | .err e _ m' => .err e (m'.take n)
  | _ => .bad
theorem run_wp {Q : Res W → Prop} {N : Nat} {g : SF} {ws : List W} (h : WP (fun r => Q (outF m.length r)) (g (env0 N ws) m)) : Q (runF N g ws m) := by
  have h : Q (outF m.length (g (env0 N ws) m)) := h
  unfold outF at h
  unfold runF
  exact h
/-- a value handed back, nothing kept -/
@[simp] theorem outF_d (x : D) (l : List O) : outF m.length (.rt (.d x) (m ++ l)) = .ok (.d x) m := by simp [outF, finM]
@[simp] theorem outF_d0 (x : D) : outF m.length (.rt (.d x) m) = .ok (.d x) m := by simp [outF, finM]
@[simp] theorem outF_fl (x : List D) (l : List O) : outF m.length (.rt (.fl x) (m ++ l)) = .ok (.fl x) m := by simp [outF, finM]
@[simp] theorem outF_fl0 (x : List D) : outF m.length (.rt (.fl x) m) = .ok (.fl x) m := by simp [outF, finM]
theorem outF_obj {i : Nat} {l : List O} {ds : List D} (h : l[i]? = some (.lst ds)) : outF m.length (.rt (.obj (m.length + i)) (m ++ l)) = .ok (.fl ds) m := by
  have e : (m ++ l)[m.length + i]? = some (.lst ds) := by rw [List.getElem?_append_right (by omega), Nat.add_sub_cancel_left]; exact h
  simp only [outF, finM]
  rw [if_neg (by omega), e]
  simp
end
/-! ### comprehensions -/
theorem lcM_pure {b : W → Mem → Res (Option D)} {f : W → Option D} {m : Mem} : ∀ {xs : List W} {acc : List D}, (∀ w ∈ xs, b w m = .ok (f w) m) → acc.length + xs.length ≤ sizeLine → lcM yesM b xs acc m = .ok (.fl (acc ++ xs.filterMap f)) m
  | [], acc, _, _ => by simp [lcM, yesM]
  | x :: xs, acc, h, hl => by
    have hx := h x List.mem_cons_self
    simp only [List.length_cons] at hl
    simp only [lcM, yesM, if_true, hx, Res.bind_ok]
    cases e : f x with
    | none =>
      simp only [List.filterMap_cons, e]
      exact lcM_pure (fun w hw => h w (List.mem_cons_of_mem _ hw)) (by omega)
    | some d =>
      simp only [List.filterMap_cons, e]
      rw [if_pos (by omega)]
      have := lcM_pure (b := b) (f := f) (m := m) (xs := xs) (acc := acc ++ [d]) (fun w hw => h w (List.mem_cons_of_mem _ hw)) (by rw [List.length_append, List.length_singleton]; omega)
      rw [show acc ++ d :: xs.filterMap f = (acc ++ [d]) ++ xs.filterMap f by simp]
      exact this
theorem lc_map {b : W → Mem → Res (Option D)} {m : Mem} {ds : List D} {f : D → D} (h : ∀ d ∈ ds, b (.d d) m = .ok (some (f d)) m) (hl : ds.length ≤ sizeLine) : lcM yesM b (ds.map .d) [] m = .ok (.fl (ds.map f)) m := by
  have := lcM_pure (b := b) (f := fun w => match w with | .d d => some (f d) | _ => none) (m := m) (xs := ds.map .d) (acc := []) (fun w hw => by
    obtain ⟨d, hd, rfl⟩ := List.mem_map.mp hw
    exact h d hd) (by simpa using hl)
  rw [this, List.nil_append, List.filterMap_map]
  congr 2
  clear this h hl
  induction ds with
  | nil => rfl
  | cons d ds ih => simp [List.filterMap_cons, ih]
end M

set_option Elab.async false
set_option linter.all false
set_option maxRecDepth 100000
namespace K03
open PySem L2 M
def c_LETTERS : D := (.str (Str.ofString "abcdefghijklmnopqrstuvwxyz"))
def c_LONGEST : D := (.int 8)
def c_SLASHES : D := (.tuple [(.str (Str.ofString "/")), (.str (Str.ofString "\\"))])
def c_MOST_BASICS : D := (.int 12)
noncomputable def m_is_word : SF :=
    (sSeq (sIf (tOrF (tNotF (tTru (eIsi [.str] (eVar 0)))) (tNotF (tBool (eChain leW leW (eC (.int 1)) (eCall lenW (aCons (eVar 0) aNil)) (eC c_LONGEST))))) (sRet (eC (.bool false))) sNx)
    (sRet (eCall allW (aCons (eLc (iSeq (eVar 0)) (gSet 1) tYesF (eOp (inW false) (eVar 1) (eC c_LETTERS)) [1]) aNil))))
noncomputable def F_is_word : FF := runF 2 m_is_word
noncomputable def m_form_size (r_form_size : FF) : SF :=
    (sSeq (sIf (tOrF (tNotF (tTru (eIsi [.tup] (eVar 0)))) (tOrF (tBool (eOp ltW (eVar 1) (eC (.int 1)))) (tOrF (tBool (eOp (eqW false) (eCall lenW (aCons (eVar 0) aNil)) (eC (.int 0)))) (tNotF (tTru (eIsi [.str] (eOp ixW (eVar 0) (eC (.int 0))))))))) (sRet (eC (.int 0))) sNx)
    (sSeq (sIf (tBool (eOp (eqW false) (eOp ixW (eVar 0) (eC (.int 0))) (eC (.str (Str.ofString "basic"))))) (sRet (eCall intW1 (aCons (eAnd (eOp (eqW false) (eCall lenW (aCons (eVar 0) aNil)) (eC (.int 2))) (eCallF F_is_word (aCons (eOp ixW (eVar 0) (eC (.int 1))) aNil))) aNil))) sNx)
    (sSeq (sIf (tOrF (tBool (eOp (eqW true) (eCall lenW (aCons (eVar 0) aNil)) (eC (.int 3)))) (tBool (eOp (inW true) (eOp ixW (eVar 0) (eC (.int 0))) (eC c_SLASHES)))) (sRet (eC (.int 0))) sNx)
    (sSeq (sAsg (eFrz (eCallF r_form_size (aCons (eOp ixW (eVar 0) (eC (.int 1))) (aCons (eOp subW (eVar 1) (eC (.int 1))) aNil)))) (gSet 2))
    (sSeq (sIf (tBool (eOp (eqW false) (eVar 2) (eC (.int 0)))) (sRet (eC (.int 0))) sNx)
    (sSeq (sAsg (eFrz (eCallF r_form_size (aCons (eOp ixW (eVar 0) (eC (.int 2))) (aCons (eOp subW (eVar 1) (eVar 2)) aNil)))) (gSet 3))
    (sSeq (sIf (tBool (eOp (eqW false) (eVar 3) (eC (.int 0)))) (sRet (eC (.int 0))) sNx)
    (sRet (eOp addW (eVar 2) (eVar 3))))))))))
noncomputable def F_form_size : Nat → FF
  | 0 => badF
  | n + 1 => runF 4 (m_form_size (F_form_size n))
noncomputable def m_is_form : SF :=
    (sRet (eOp gtW (eCallF (F_form_size 40) (aCons (eVar 0) (aCons (eC c_MOST_BASICS) aNil))) (eC (.int 0))))
noncomputable def F_is_form : FF := runF 1 m_is_form
noncomputable def m__law_cell_at : SF :=
    (sSeq (sIf (tBool (eOp ltW (eVar 1) (eCall lenW (aCons (eVar 0) aNil)))) (sRet (eOp ixW (eVar 0) (eVar 1))) sNx)
    (sRet (eC (.int 0))))
noncomputable def F__law_cell_at : FF := runF 2 m__law_cell_at
noncomputable def m__law_take : SF :=
    (sSeq (sAsg (eMt "list" popAtW (eVar 0) (aCons (eC (.int 0)) aNil)) (gSet 1))
    (sSeq (sIf (tBool (eOp (eqW false) (eVar 0) (eLst aNil))) (sDrop (eMt "list" appendW (eVar 0) (aCons (eOp modW (eOp addW (eOp mulW (eVar 1) (eC (.int 48271))) (eC (.int 11))) (eC (.int 2147483647))) aNil))) sNx)
    (sRet (eVar 1))))
noncomputable def F__law_take : FF := runF 2 m__law_take
noncomputable def b1__law_words : SF :=
    (sSeq (sAsg (eOp modW (eOp mulW (eVar 5) (eC (.int 48271))) (eC (.int 2147483647))) (gSet 5))
    (sDrop (eMt "list" appendW (eVar 6) (aCons (eOp modW (eOp divW (eVar 5) (eC (.int 1000))) (eC (.int 26))) aNil))))
noncomputable def b2__law_words : SF :=
    (sSeq (sAsg (eFrz (eOp addW (eOp addW (eSl slW (eVar 6) oNone (oSome (eVar 4))) (eLst (aCons (eOp modW (eOp addW (eOp ixW (eVar 6) (eVar 4)) (eVar 7)) (eC (.int 26))) aNil))) (eSl slW (eVar 6) (oSome (eOp addW (eVar 4) (eC (.int 1)))) oNone))) (gSet 9))
    (sDrop (eMt "list" appendW (eVar 8) (aCons (eMt "str" joinW (eC (.str (Str.ofString ""))) (aCons (eLc (iSeq (eVar 9)) (gSet 5) tYesF (eOp ixW (eVar 2) (eVar 5)) [5]) aNil)) aNil))))
noncomputable def m__law_words : SF :=
    (sSeq (sAsg (eC (.str (Str.ofString "abcdefghijklmnopqrstuvwxyz"))) (gSet 2))
    (sSeq (sAsg (eOp addW (eC (.int 1)) (eOp modW (eVar 0) (eC (.int 8)))) (gSet 3))
    (sSeq (sAsg (eOp modW (eOp divW (eVar 0) (eC (.int 8))) (eVar 3)) (gSet 4))
    (sSeq (sAsg (eOp addW (eOp modW (eOp divW (eVar 0) (eC (.int 64))) (eC (.int 2147483646))) (eC (.int 1))) (gSet 5))
    (sSeq (sAsg (eObj (eLst aNil)) (gSet 6))
    (sSeq (sFor (iRange1 (aCons (eVar 3) aNil)) (gSet 7) b1__law_words)
    (sSeq (sAsg (eObj (eLst aNil)) (gSet 8))
    (sSeq (sFor (iRange1 (aCons (eVar 1) aNil)) (gSet 7) b2__law_words)
    (sRet (eVar 8))))))))))
noncomputable def F__law_words : FF := runF 10 m__law_words
noncomputable def b1__law_word : SF :=
    (sSeq (sAsg (eOp addW (eVar 2) (eOp ixW (eVar 1) (eOp modW (eVar 3) (eC (.int 26))))) (gSet 2))
    (sAsg (eOp divW (eVar 3) (eC (.int 26))) (gSet 3)))
noncomputable def m__law_word : SF :=
    (sSeq (sAsg (eC (.str (Str.ofString "abcdefghijklmnopqrstuvwxyz"))) (gSet 1))
    (sSeq (sAsg (eC (.str (Str.ofString ""))) (gSet 2))
    (sSeq (sAsg (eOp divW (eVar 0) (eC (.int 8))) (gSet 3))
    (sSeq (sFor (iRange1 (aCons (eOp addW (eC (.int 1)) (eOp modW (eVar 0) (eC (.int 8)))) aNil)) (gSet 4) b1__law_word)
    (sRet (eVar 2))))))
noncomputable def F__law_word : FF := runF 5 m__law_word
noncomputable def b1__law_unlike : SF :=
    (sAsg (eFrz (eOp addW (eSl slW (eVar 3) oNone (oSome (eNeg (eC (.int 1))))) (eOp ixW (eVar 1) (eOp modW (eOp addW (eMt "str" sindexW (eVar 1) (aCons (eOp ixW (eVar 3) (eNeg (eC (.int 1)))) aNil)) (eC (.int 1))) (eC (.int 26)))))) (gSet 3))
noncomputable def b2__law_unlike : SF :=
    (sSeq (whileM (tBool (eOp (inW false) (eVar 3) (eVar 2))) b1__law_unlike 1000)
    (sDrop (eMt "list" appendW (eVar 2) (aCons (eVar 3) aNil))))
noncomputable def m__law_unlike : SF :=
    (sSeq (sAsg (eC (.str (Str.ofString "abcdefghijklmnopqrstuvwxyz"))) (gSet 1))
    (sSeq (sAsg (eObj (eLst aNil)) (gSet 2))
    (sSeq (sFor (iSeq (eVar 0)) (gSet 3) b2__law_unlike)
    (sRet (eVar 2)))))
noncomputable def F__law_unlike : FF := runF 4 m__law_unlike
noncomputable def b1__law_names : SF :=
    (sSeq (sDrop (eMt "list" appendW (eVar 2) (aCons (eFrz (eCallF F__law_word (aCons (eOp modW (eVar 0) (eOp mulW (eC (.int 8)) (eOp powW (eC (.int 26)) (eC (.int 8))))) aNil))) aNil)))
    (sAsg (eOp divW (eVar 0) (eOp mulW (eC (.int 8)) (eOp powW (eC (.int 26)) (eC (.int 8))))) (gSet 0)))
noncomputable def m__law_names : SF :=
    (sSeq (sIf (tBool (eOp (eqW false) (eOp modW (eVar 0) (eC (.int 2))) (eC (.int 1)))) (sRet (eCallF F__law_words (aCons (eOp divW (eVar 0) (eC (.int 2))) (aCons (eVar 1) aNil)))) sNx)
    (sSeq (sAsg (eOp divW (eVar 0) (eC (.int 2))) (gSet 0))
    (sSeq (sAsg (eObj (eLst aNil)) (gSet 2))
    (sSeq (sFor (iRange1 (aCons (eVar 1) aNil)) (gSet 3) b1__law_names)
    (sRet (eCallF F__law_unlike (aCons (eVar 2) aNil)))))))
noncomputable def F__law_names : FF := runF 4 m__law_names
noncomputable def m__law_form (r__law_form : FF) : SF :=
    (sSeq (sAsg (eFrz (eCallF F__law_take (aCons (eObj (eVar 0)) aNil))) (gSet 3))
    (sSeq (sIf (tOrF (tBool (eOp (eqW false) (eVar 2) (eC (.int 1)))) (tBool (eOp (eqW false) (eOp modW (eVar 3) (eC (.int 4))) (eC (.int 0))))) (sRet (eTup (aCons (eC (.str (Str.ofString "basic"))) (aCons (eOp ixW (eVar 1) (eOp modW (eOp divW (eVar 3) (eC (.int 4))) (eCall lenW (aCons (eVar 1) aNil)))) aNil)))) sNx)
    (sSeq (sAsg (eOp addW (eC (.int 1)) (eOp modW (eOp divW (eVar 3) (eC (.int 8))) (eOp subW (eVar 2) (eC (.int 1))))) (gSet 4))
    (sSeq (sAsg (eFrz (eCallF r__law_form (aCons (eObj (eVar 0)) (aCons (eVar 1) (aCons (eVar 4) aNil))))) (gSet 5))
    (sRet (eTup (aCons (eOp ixW (eC (.str (Str.ofString "/\\"))) (eOp modW (eOp divW (eVar 3) (eC (.int 4))) (eC (.int 2)))) (aCons (eVar 5) (aCons (eFrz (eCallF r__law_form (aCons (eObj (eVar 0)) (aCons (eVar 1) (aCons (eOp subW (eVar 2) (eVar 4)) aNil))))) aNil)))))))))
noncomputable def F__law_form : Nat → FF
  | 0 => badF
  | n + 1 => runF 6 (m__law_form (F__law_form n))
noncomputable def m__law_is_word : SF :=
    (sSeq (sIf (tNotF (tBool (eChain leW leW (eC (.int 1)) (eCall lenW (aCons (eVar 0) aNil)) (eC (.int 8))))) (sRet (eC (.bool false))) sNx)
    (sRet (eCall allW (aCons (eLc (iSeq (eVar 0)) (gSet 1) tYesF (eOp (inW false) (eVar 1) (eC (.str (Str.ofString "abcdefghijklmnopqrstuvwxyz")))) [1]) aNil))))
noncomputable def F__law_is_word : FF := runF 2 m__law_is_word
noncomputable def m__law_odd : SF :=
    (sSeq (sAsg (eTup (aCons (eC (.str (Str.ofString "basic"))) (aCons (eVar 1) aNil))) (gSet 2))
    (sSeq (sAsg (eFrz (eLst (aCons (eC .none) (aCons (eC (.int 3)) (aCons (eC (.bool true)) (aCons (eC (.str (Str.ofString ""))) (aCons (eVar 1) (aCons (eMt0 "str" upperW (eVar 1)) (aCons (eTup aNil) (aCons (eTup (aCons (eC (.str (Str.ofString "basic"))) aNil)) (aCons (eTup (aCons (eC (.str (Str.ofString "basic"))) (aCons (eVar 1) (aCons (eVar 1) aNil)))) (aCons (eTup (aCons (eC (.str (Str.ofString "basic"))) (aCons (eC (.int 3)) aNil))) (aCons (eTup (aCons (eC (.str (Str.ofString "basic"))) (aCons (eC (.str (Str.ofString ""))) aNil))) aNil))))))))))))) (gSet 3))
    (sSeq (sAsg (eFrz (eOp addW (eVar 3) (eLst (aCons (eTup (aCons (eC (.str (Str.ofString "basic"))) (aCons (eC (.str (Str.ofString "ninesigns"))) aNil))) (aCons (eTup (aCons (eC (.str (Str.ofString "basic"))) (aCons (eC (.str (Str.ofString "a-b"))) aNil))) (aCons (eTup (aCons (eC (.str (Str.ofString "basic"))) (aCons (eC (.str (Str.ofString "Ab"))) aNil))) (aCons (eTup (aCons (eC (.str (Str.ofString "basic"))) (aCons (eVar 2) aNil))) (aCons (eFrz (eLst (aCons (eC (.str (Str.ofString "basic"))) (aCons (eVar 1) aNil)))) (aCons (eTup (aCons (eC (.str (Str.ofString "/"))) (aCons (eVar 2) aNil))) aNil))))))))) (gSet 3))
    (sSeq (sAsg (eFrz (eOp addW (eVar 3) (eLst (aCons (eTup (aCons (eC (.str (Str.ofString "/"))) (aCons (eVar 2) (aCons (eVar 2) (aCons (eVar 2) aNil))))) (aCons (eTup (aCons (eC (.str (Str.ofString "+"))) (aCons (eVar 2) (aCons (eVar 2) aNil)))) (aCons (eTup (aCons (eC (.str (Str.ofString "//"))) (aCons (eVar 2) (aCons (eVar 2) aNil)))) (aCons (eFrz (eLst (aCons (eC (.str (Str.ofString "/"))) (aCons (eVar 2) (aCons (eVar 2) aNil))))) (aCons (eTup (aCons (eVar 2) (aCons (eC (.str (Str.ofString "/"))) (aCons (eVar 2) aNil)))) (aCons (eTup (aCons (eC (.str (Str.ofString "/"))) (aCons (eVar 2) (aCons (eVar 2) aNil)))) (aCons (eTup (aCons (eC (.str (Str.ofString "\\"))) (aCons (eVar 2) (aCons (eVar 2) aNil)))) aNil)))))))))) (gSet 3))
    (sRet (eOp ixW (eVar 3) (eOp modW (eVar 0) (eC (.int 24)))))))))
noncomputable def F__law_odd : FF := runF 4 m__law_odd
noncomputable def m__law_exchanged (r__law_exchanged : FF) : SF :=
    (sSeq (sIf (tOrF (tNotF (tTru (eIsi [.tup] (eVar 0)))) (tOrF (tBool (eOp ltW (eCall lenW (aCons (eVar 0) aNil)) (eC (.int 2)))) (tBool (eOp (eqW false) (eOp modW (eVar 1) (eC (.int 5))) (eC (.int 0)))))) (sRet (eVar 2)) sNx)
    (sSeq (sAsg (eOp modW (eOp divW (eVar 1) (eC (.int 5))) (eCall lenW (aCons (eVar 0) aNil))) (gSet 3))
    (sRet (eOp addW (eOp addW (eSl slW (eVar 0) oNone (oSome (eVar 3))) (eTup (aCons (eFrz (eCallF r__law_exchanged (aCons (eOp ixW (eVar 0) (eVar 3)) (aCons (eOp divW (eVar 1) (eC (.int 15))) (aCons (eVar 2) aNil))))) aNil))) (eSl slW (eVar 0) (oSome (eOp addW (eVar 3) (eC (.int 1)))) oNone)))))
noncomputable def F__law_exchanged : Nat → FF
  | 0 => badF
  | n + 1 => runF 4 (m__law_exchanged (F__law_exchanged n))
noncomputable def b1__law_grown : SF :=
    (sSeq (sAsg (eTup (aCons (eC (.str (Str.ofString "basic"))) (aCons (eVar 3) aNil))) (gSet 5))
    (sIf (tOrF (tBool (eOp (eqW false) (eOp modW (eVar 2) (eC (.int 3))) (eC (.int 0)))) (tAndF (tBool (eOp (eqW false) (eOp modW (eVar 2) (eC (.int 3))) (eC (.int 2)))) (tBool (eOp (eqW false) (eOp modW (eVar 4) (eC (.int 2))) (eC (.int 0)))))) (sAsg (eTup (aCons (eOp ixW (eC (.str (Str.ofString "/\\"))) (eOp modW (eVar 4) (eC (.int 2)))) (aCons (eVar 0) (aCons (eVar 5) aNil)))) (gSet 0)) (sAsg (eTup (aCons (eOp ixW (eC (.str (Str.ofString "/\\"))) (eOp modW (eVar 4) (eC (.int 2)))) (aCons (eVar 5) (aCons (eVar 0) aNil)))) (gSet 0))))
noncomputable def m__law_grown : SF :=
    (sSeq (sFor (iRange1 (aCons (eVar 1) aNil)) (gSet 4) b1__law_grown)
    (sRet (eVar 0)))
noncomputable def F__law_grown : FF := runF 6 m__law_grown
noncomputable def b1__law_due : SF :=
    (sSeq (sAsg (eMt0 "list" popW (eVar 1)) (gSet 3))
    (sSeq (sIf (tOrF (tNotF (tTru (eIsi [.tup] (eVar 3)))) (tOrF (tBool (eOp (inW true) (eCall lenW (aCons (eVar 3) aNil)) (eTup (aCons (eC (.int 2)) (aCons (eC (.int 3)) aNil))))) (tNotF (tTru (eIsi [.str] (eOp ixW (eVar 3) (eC (.int 0)))))))) (sRet (eC (.bool false))) sNx)
    (sIf (tBool (eOp (eqW false) (eCall lenW (aCons (eVar 3) aNil)) (eC (.int 3)))) (sSeq (sIf (tAndF (tBool (eOp (eqW true) (eOp ixW (eVar 3) (eC (.int 0))) (eC (.str (Str.ofString "/"))))) (tBool (eOp (eqW true) (eOp ixW (eVar 3) (eC (.int 0))) (eC (.str (Str.ofString "\\")))))) (sRet (eC (.bool false))) sNx)
    (sDrop (eMt "list" extendAW (eVar 1) (aCons (eSl slW (eVar 3) (oSome (eC (.int 1))) oNone) aNil)))) (sSeq (sIf (tOrF (tBool (eOp (eqW true) (eOp ixW (eVar 3) (eC (.int 0))) (eC (.str (Str.ofString "basic"))))) (tOrF (tNotF (tTru (eIsi [.str] (eOp ixW (eVar 3) (eC (.int 1)))))) (tNotF (tTru (eCallF F__law_is_word (aCons (eOp ixW (eVar 3) (eC (.int 1))) aNil)))))) (sRet (eC (.bool false))) sNx)
    (sAsg (eOp addW (eVar 2) (eC (.int 1))) (gSet 2))))))
noncomputable def m__law_due : SF :=
    (sSeq (sAsg (eObj (eLst (aCons (eVar 0) aNil))) (gSet 1))
    (sSeq (sAsg (eC (.int 0)) (gSet 2))
    (sSeq (whileM (tBool (eOp gtW (eCall lenW (aCons (eVar 1) aNil)) (eC (.int 0)))) b1__law_due 1000)
    (sRet (eOp leW (eVar 2) (eC (.int 12)))))))
noncomputable def F__law_due : FF := runF 4 m__law_due
noncomputable def b1_law : SF :=
    (sSeq (sAsg (eFrz (eCallF F_is_form (aCons (eVar 7) aNil))) (gSet 8))
    (sIf (tOrF (tNotF (tTru (eIsi [.bl] (eVar 8)))) (tBool (eOp (eqW true) (eVar 8) (eCallF F__law_due (aCons (eVar 7) aNil))))) (sRet (eC (.bool false))) sNx))
noncomputable def m_law : SF :=
    (sSeq (sAsg (eFrz (eCallF F__law_cell_at (aCons (eVar 0) (aCons (eC (.int 0)) aNil)))) (gSet 1))
    (sSeq (sAsg (eFrz (eCallF F__law_cell_at (aCons (eVar 0) (aCons (eC (.int 1)) aNil)))) (gSet 2))
    (sSeq (sAsg (eFrz (eCallF F__law_names (aCons (eOp divW (eVar 1) (eC (.int 36))) (aCons (eC (.int 5)) aNil)))) (gSet 3))
    (sSeq (sAsg (eFrz (eCallF (F__law_form 40) (aCons (eObj (eOp addW (eSl slW (eVar 0) (oSome (eC (.int 3))) (oSome (eC (.int 64)))) (eLst (aCons (eOp modW (eCall sumW (aCons (eVar 0) aNil)) (eC (.int 2147483647))) aNil)))) (aCons (eVar 3) (aCons (eOp addW (eC (.int 1)) (eOp modW (eVar 1) (eC (.int 12)))) aNil))))) (gSet 4))
    (sSeq (sAsg (eObj (eLst (aCons (eVar 4) (aCons (eFrz (eCallF (F__law_exchanged 40) (aCons (eVar 4) (aCons (eOp divW (eVar 2) (eC (.int 24))) (aCons (eFrz (eCallF F__law_odd (aCons (eVar 2) (aCons (eOp ixW (eVar 3) (eC (.int 1))) aNil)))) aNil))))) aNil)))) (gSet 5))
    (sSeq (sAsg (eFrz (eCallF F__law_cell_at (aCons (eVar 0) (aCons (eC (.int 2)) aNil)))) (gSet 6))
    (sSeq (sDrop (eMt "list" appendW (eVar 5) (aCons (eFrz (eCallF F__law_grown (aCons (eVar 4) (aCons (eOp modW (eVar 6) (eC (.int 5))) (aCons (eOp divW (eVar 6) (eC (.int 5))) (aCons (eOp ixW (eVar 3) (eC (.int 2))) aNil)))))) aNil)))
    (sSeq (sDrop (eMt "list" appendW (eVar 5) (aCons (eFrz (eCallF F__law_grown (aCons (eTup (aCons (eC (.str (Str.ofString "basic"))) (aCons (eOp ixW (eVar 3) (eC (.int 0))) aNil))) (aCons (eOp addW (eC (.int 10)) (eOp modW (eOp divW (eVar 6) (eC (.int 15))) (eC (.int 4)))) (aCons (eOp divW (eVar 6) (eC (.int 5))) (aCons (eOp ixW (eVar 3) (eC (.int 2))) aNil)))))) aNil)))
    (sSeq (sIf (tBool (eOp (eqW false) (eOp modW (eOp divW (eVar 1) (eC (.int 12))) (eC (.int 3))) (eC (.int 1)))) (sDrop (eMt "list" appendW (eVar 5) (aCons (eFrz (eCallF F__law_grown (aCons (eVar 4) (aCons (eC (.int 300)) (aCons (eOp divW (eVar 6) (eC (.int 5))) (aCons (eOp ixW (eVar 3) (eC (.int 2))) aNil)))))) aNil))) sNx)
    (sSeq (sFor (iSeq (eVar 5)) (gSet 7) b1_law)
    (sRet (eC (.bool true)))))))))))))
noncomputable def F_law : FF := runF 9 m_law
end K03

set_option Elab.async false
set_option linter.all false
set_option maxRecDepth 100000
set_option maxHeartbeats 1000000
namespace K03
open PySem L2 M
/-! ### words and names -/
def isC (c : Nat) : Bool := decide (97 ≤ c) && decide (c ≤ 122)
structure isW (w : List Nat) : Prop where
  lo : 1 ≤ w.length
  hi : w.length ≤ 8
  ab : ∀ c ∈ w, 97 ≤ c ∧ c ≤ 122
def abc : List Nat := (List.range 26).map (· + 97)
theorem abc_eq : Str.ofString "abcdefghijklmnopqrstuvwxyz" = S abc := by decide +kernel
theorem abc_len : abc.length = 26 := rfl
theorem abc_get {k : Nat} (h : k < 26) : abc[k]? = some (k + 97) := by
  unfold abc
  rw [List.getElem?_map, List.getElem?_range h]
  rfl
theorem ab_at {i : Int} (h0 : 0 ≤ i) (h1 : i < 26) : L2.atI abc i = some (i.toNat + 97) := by
  rw [atI_of h0]
  exact abc_get (by omega)
theorem okC_ab {w : List Nat} (h : ∀ c ∈ w, 97 ≤ c ∧ c ≤ 122) : okC w = true := by
  unfold okC
  rw [List.all_eq_true]
  intro c hc
  have := h c hc
  exact decide_eq_true (by omega)
theorem cell_at (xs : List Int) (k : Nat) (m : Mem) : F__law_cell_at [.ro (xs.map .int), .d (.int (k : Int))] m = .ok (.d (.int (xs.getD k 0))) m := by
  unfold F__law_cell_at m__law_cell_at
  by_cases h : k < xs.length
  · have h' : ((k : Int) < (xs.length : Int)) := by omega
    simp [runF, env0, finM, sSeq, sNx, sIf, sRet, sAsg, asgK, gSet, sDrop, sAug, eS_ok, tBool, tTru, truW, eOp, eChain, eVar, eC, eFrz, eObj, aNil, aCons, eTup, eLst, asDs, eCall, eCallF, callM, noFl, tAndF, tOrF, tNotF, eAnd, eOr, eNot, eIsi, tyW, Tk.sub, eSl, oNone, oSome, eMt, eMt0, isTyW, eNeg, negW, Res.bind_ok, List.length_cons, List.length_nil, List.map_cons, List.map_nil, List.cons_append, List.nil_append, List.replicate, List.getElem?_cons_zero, List.getElem?_cons_succ, List.set_cons_zero, List.set_cons_succ, if_true, if_false, Nat.sub_self, Nat.reduceSub, Nat.reduceAdd, sizeLine_eq, lenW, asL, ixW, h, h']
  · have h' : ¬ ((k : Int) < (xs.length : Int)) := by omega
    simp [runF, env0, finM, sSeq, sNx, sIf, sRet, sAsg, asgK, gSet, sDrop, sAug, eS_ok, tBool, tTru, truW, eOp, eChain, eVar, eC, eFrz, eObj, aNil, aCons, eTup, eLst, asDs, eCall, eCallF, callM, noFl, tAndF, tOrF, tNotF, eAnd, eOr, eNot, eIsi, tyW, Tk.sub, eSl, oNone, oSome, eMt, eMt0, isTyW, eNeg, negW, Res.bind_ok, List.length_cons, List.length_nil, List.map_cons, List.map_nil, List.cons_append, List.nil_append, List.replicate, List.getElem?_cons_zero, List.getElem?_cons_succ, List.set_cons_zero, List.set_cons_succ, if_true, if_false, Nat.sub_self, Nat.reduceSub, Nat.reduceAdd, sizeLine_eq, lenW, asL, ixW, h, h']
theorem nil_eq : Str.ofString "" = S [] := by decide +kernel
def wordI (c : Int) (m : Mem) (i : Nat) (env : En) (m' : Mem) : Prop := ∃ w r x, env = [some (.d (.int c)), some (.d (.str (S abc))), some (.d (.str (S w))), some (.d (.int r)), x] ∧ m' = m ∧ w.length = i ∧ ∀ c ∈ w, 97 ≤ c ∧ c ≤ 122
theorem wordI_step {c : Int} {m : Mem} {i : Nat} {env : En} {m' : Mem} {v : W} (hi : i < 1000) : wordI c m i env m' → stepOk (sTg (gSet 4) b1__law_word v env m') (wordI c m (i + 1)) := by
  rintro ⟨w, r, x, rfl, rfl, hl, ha⟩
  have h26 : 0 ≤ r % 26 := by omega
  have h26' : r % 26 < 26 := by omega
  have hix := ixW_str (m := m') (l := abc) (i := r % 26) (by decide) (ab_at h26 h26')
  have hadd := addW_str (m := m') (a := w) (b := [(r % 26).toNat + 97]) (by rw [sizeLine_eq]; simp; omega)
  simp only [b1__law_word]
  simp [runF, env0, finM, sSeq, sNx, sIf, sRet, sAsg, asgK, gSet, sDrop, sAug, eS_ok, tBool, tTru, truW, eOp, eChain, eVar, eC, eFrz, eObj, aNil, aCons, eTup, eLst, asDs, eCall, eCallF, callM, noFl, tAndF, tOrF, tNotF, eAnd, eOr, eNot, eIsi, tyW, Tk.sub, eSl, oNone, oSome, eMt, eMt0, isTyW, eNeg, negW, Res.bind_ok, List.length_cons, List.length_nil, List.map_cons, List.map_nil, List.cons_append, List.nil_append, List.replicate, List.getElem?_cons_zero, List.getElem?_cons_succ, List.set_cons_zero, List.set_cons_succ, if_true, if_false, Nat.sub_self, Nat.reduceSub, Nat.reduceAdd, sizeLine_eq, sTg, hix, hadd]
  refine ⟨w ++ [(r % 26).toNat + 97], r / 26, _, rfl, rfl, by simp [hl], fun d hd => ?_⟩
  rcases List.mem_append.mp hd with hd | hd
  · exact ha d hd
  · rw [List.mem_singleton.mp hd]; omega
theorem law_word (c : Int) (m : Mem) : ∃ w, isW w ∧ F__law_word [.d (.int c)] m = .ok (.d (.str (S w))) m := by
  have h8 : 0 ≤ c % 8 := by omega
  have h8' : c % 8 < 8 := by omega
  have hr (m : Mem) : rng1 [.d (.int (1 + c % 8))] m = .ok (rngI 0 (1 + c % 8).toNat) m := rng1_ok (by omega) (by omega)
  refine run_wp (Q := fun r => ∃ w, isW w ∧ r = .ok (.d (.str (S w))) m) ?_
  unfold m__law_word
  refine wp_go (by simp [runF, env0, finM, sSeq, sNx, sIf, sRet, sAsg, asgK, gSet, sDrop, sAug, eS_ok, tBool, tTru, truW, eOp, eChain, eVar, eC, eFrz, eObj, aNil, aCons, eTup, eLst, asDs, eCall, eCallF, callM, noFl, tAndF, tOrF, tNotF, eAnd, eOr, eNot, eIsi, tyW, Tk.sub, eSl, oNone, oSome, eMt, eMt0, isTyW, eNeg, negW, Res.bind_ok, List.length_cons, List.length_nil, List.map_cons, List.map_nil, List.cons_append, List.nil_append, List.replicate, List.getElem?_cons_zero, List.getElem?_cons_succ, List.set_cons_zero, List.set_cons_succ, if_true, if_false, Nat.sub_self, Nat.reduceSub, Nat.reduceAdd, sizeLine_eq, abc_eq] <;> (try first | rfl | exact ⟨rfl, rfl⟩)) ?_
  refine wp_go (by simp [runF, env0, finM, sSeq, sNx, sIf, sRet, sAsg, asgK, gSet, sDrop, sAug, eS_ok, tBool, tTru, truW, eOp, eChain, eVar, eC, eFrz, eObj, aNil, aCons, eTup, eLst, asDs, eCall, eCallF, callM, noFl, tAndF, tOrF, tNotF, eAnd, eOr, eNot, eIsi, tyW, Tk.sub, eSl, oNone, oSome, eMt, eMt0, isTyW, eNeg, negW, Res.bind_ok, List.length_cons, List.length_nil, List.map_cons, List.map_nil, List.cons_append, List.nil_append, List.replicate, List.getElem?_cons_zero, List.getElem?_cons_succ, List.set_cons_zero, List.set_cons_succ, if_true, if_false, Nat.sub_self, Nat.reduceSub, Nat.reduceAdd, sizeLine_eq, nil_eq] <;> (try first | rfl | exact ⟨rfl, rfl⟩)) ?_
  refine wp_go (by simp [runF, env0, finM, sSeq, sNx, sIf, sRet, sAsg, asgK, gSet, sDrop, sAug, eS_ok, tBool, tTru, truW, eOp, eChain, eVar, eC, eFrz, eObj, aNil, aCons, eTup, eLst, asDs, eCall, eCallF, callM, noFl, tAndF, tOrF, tNotF, eAnd, eOr, eNot, eIsi, tyW, Tk.sub, eSl, oNone, oSome, eMt, eMt0, isTyW, eNeg, negW, Res.bind_ok, List.length_cons, List.length_nil, List.map_cons, List.map_nil, List.cons_append, List.nil_append, List.replicate, List.getElem?_cons_zero, List.getElem?_cons_succ, List.set_cons_zero, List.set_cons_succ, if_true, if_false, Nat.sub_self, Nat.reduceSub, Nat.reduceAdd, sizeLine_eq] <;> (try first | rfl | exact ⟨rfl, rfl⟩)) ?_
  refine wp_sForR (by simp [runF, env0, finM, sSeq, sNx, sIf, sRet, sAsg, asgK, gSet, sDrop, sAug, eS_ok, tBool, tTru, truW, eOp, eChain, eVar, eC, eFrz, eObj, aNil, aCons, eTup, eLst, asDs, eCall, eCallF, callM, noFl, tAndF, tOrF, tNotF, eAnd, eOr, eNot, eIsi, tyW, Tk.sub, eSl, oNone, oSome, eMt, eMt0, isTyW, eNeg, negW, Res.bind_ok, List.length_cons, List.length_nil, List.map_cons, List.map_nil, List.cons_append, List.nil_append, List.replicate, List.getElem?_cons_zero, List.getElem?_cons_succ, List.set_cons_zero, List.set_cons_succ, if_true, if_false, Nat.sub_self, Nat.reduceSub, Nat.reduceAdd, sizeLine_eq, iRange1, hr] <;> (try first | rfl | exact ⟨rfl, rfl⟩)) (wordI c m) ⟨[], c / 8, none, rfl, rfl, rfl, fun _ h => nomatch h⟩ (fun i env m' hi hp => wordI_step (by omega) hp) ?_
  rintro _ _ ⟨w, r, x, rfl, rfl, hl, ha⟩
  refine wp_ret (by simp [runF, env0, finM, sSeq, sNx, sIf, sRet, sAsg, asgK, gSet, sDrop, sAug, eS_ok, tBool, tTru, truW, eOp, eChain, eVar, eC, eFrz, eObj, aNil, aCons, eTup, eLst, asDs, eCall, eCallF, callM, noFl, tAndF, tOrF, tNotF, eAnd, eOr, eNot, eIsi, tyW, Tk.sub, eSl, oNone, oSome, eMt, eMt0, isTyW, eNeg, negW, Res.bind_ok, List.length_cons, List.length_nil, List.map_cons, List.map_nil, List.cons_append, List.nil_append, List.replicate, List.getElem?_cons_zero, List.getElem?_cons_succ, List.set_cons_zero, List.set_cons_succ, if_true, if_false, Nat.sub_self, Nat.reduceSub, Nat.reduceAdd, sizeLine_eq] <;> (try first | rfl | exact ⟨rfl, rfl⟩)) ?_
  exact ⟨w, ⟨by omega, by omega, ha⟩, by simp⟩
def sts (ws : List (List Nat)) : List D := ws.map fun w => .str (S w)
@[simp] theorem sts_len (ws : List (List Nat)) : (sts ws).length = ws.length := List.length_map _
def baseI (c n sz at' : Int) (m : Mem) (i : Nat) (env : En) (m' : Mem) : Prop := ∃ (bs : List Int) (num : Int) (x : Option W), env = [some (.d (.int c)), some (.d (.int n)), some (.d (.str (S abc))), some (.d (.int sz)), some (.d (.int at')), some (.d (.int num)), some (.obj m.length), x, none, none]
  ∧ m' = m ++ [.lst (bs.map .int)] ∧ bs.length = i ∧ ∀ b ∈ bs, 0 ≤ b ∧ b < 26
theorem baseI_step {c n sz a : Int} {m : Mem} {i : Nat} {env : En} {m' : Mem} {v : W} (hv : v = .d (.int (0 + (i : Int)))) (hi : i < 100) : baseI c n sz a m i env m' → stepOk (sTg (gSet 7) b1__law_words v env m') (baseI c n sz a m (i + 1)) := by
  rintro ⟨bs, num, x, rfl, rfl, hl, hb⟩
  subst hv
  generalize hq : num * 48271 % 2147483647 = q
  have ho : appendW (.obj m.length) [.d (.int (q / 1000 % 26))] (m ++ [O.lst (bs.map .int)]) = .ok (.d .none) (m ++ [.lst ((bs ++ [q / 1000 % 26]).map .int)]) := by
    simp [appendW, asO, sizeLine_eq]
    omega
  simp only [b1__law_words]
  simp [runF, env0, finM, sSeq, sNx, sIf, sRet, sAsg, asgK, gSet, sDrop, sAug, eS_ok, tBool, tTru, truW, eOp, eChain, eVar, eC, eFrz, eObj, aNil, aCons, eTup, eLst, asDs, eCall, eCallF, callM, noFl, tAndF, tOrF, tNotF, eAnd, eOr, eNot, eIsi, tyW, Tk.sub, eSl, oNone, oSome, eMt, eMt0, isTyW, eNeg, negW, Res.bind_ok, List.length_cons, List.length_nil, List.map_cons, List.map_nil, List.cons_append, List.nil_append, List.replicate, List.getElem?_cons_zero, List.getElem?_cons_succ, List.set_cons_zero, List.set_cons_succ, if_true, if_false, Nat.sub_self, Nat.reduceSub, Nat.reduceAdd, sizeLine_eq, sTg, hq, ho]
  refine ⟨bs ++ [q / 1000 % 26], _, _, rfl, by simp, by simp [hl], fun d hd => ?_⟩
  rcases List.mem_append.mp hd with hd | hd
  · exact hb d hd
  · rw [List.mem_singleton.mp hd]; omega
def wordsI (c n sz at' : Int) (bs : List Int) (m : Mem) (i : Nat) (env : En) (m' : Mem) : Prop := ∃ (ws : List (List Nat)) (num : Int) (x y : Option W), env = [some (.d (.int c)), some (.d (.int n)), some (.d (.str (S abc))), some (.d (.int sz)), some (.d (.int at')), some (.d (.int num)), some (.obj m.length), x, some (.obj (m.length + 1)), y]
  ∧ m' = m ++ [.lst (bs.map .int), .lst (sts ws)] ∧ ws.length = i ∧ ∀ w ∈ ws, isW w
theorem letters_row {bs : List Int} (hb : ∀ b ∈ bs, 0 ≤ b ∧ b < 26) {m : Mem} {env : En} (hl : bs.length ≤ 100) (h2 : env[2]? = some (some (.d (.str (S abc))))) (h5 : 5 < env.length) :
    lcM yesM (lcB (gSet 5) tYesF (eOp ixW (eVar 2) (eVar 5)) env) (bs.map (W.d ∘ PyData.int)) [] m = .ok (.fl (bs.map fun b => .str (S [b.toNat + 97]))) m := by
  have := lc_map (b := lcB (gSet 5) tYesF (eOp ixW (eVar 2) (eVar 5)) env) (m := m) (ds := bs.map PyData.int) (f := fun d => match d with | .int b => .str (S [b.toNat + 97]) | d => d) (fun d hd => by
    obtain ⟨b, hb', rfl⟩ := List.mem_map.mp hd
    have hix := ixW_str (m := m) (l := abc) (i := b) (by decide) (ab_at (hb b hb').1 (hb b hb').2)
    have e2 : (env.set 5 (some (.d (.int b))))[2]? = some (some (.d (.str (S abc)))) := by rw [List.getElem?_set_ne (by decide)]; exact h2
    have e5 : (env.set 5 (some (.d (.int b))))[5]? = some (some (.d (.int b))) := by rw [List.getElem?_set_self h5]
    simp [lcB, gSet, tYesF, noErr, eOp, eVar, e2, e5, hix]) (by rw [List.length_map, sizeLine_eq]; omega)
  rw [List.map_map] at this
  rw [this, List.map_map]
  rfl
theorem flat_row : ∀ bs : List Int, (bs.map fun b => [b.toNat + 97]).flatten = bs.map fun b => b.toNat + 97
  | [] => rfl
  | b :: bs => by simp [flat_row bs]
theorem wordsI_step {c n sz a : Int} {bs : List Int} {m : Mem} {i : Nat} {env : En} {m' : Mem} {v : W} (hv : v = .d (.int (0 + (i : Int)))) (hi : i < 1000) (ha0 : 0 ≤ a) (ha1 : a.toNat < bs.length) (hl8 : bs.length ≤ 8) (hb : ∀ b ∈ bs, 0 ≤ b ∧ b < 26) :
    wordsI c n sz a bs m i env m' → stepOk (sTg (gSet 7) b2__law_words v env m') (wordsI c n sz a bs m (i + 1)) := by
  rintro ⟨ws, num, x, y, rfl, rfl, hl', hw⟩
  have hv : v = .d (.int (i : Int)) := by rw [hv, Int.zero_add]
  subst hv
  generalize hM : m ++ [O.lst (bs.map .int), O.lst (sts ws)] = M'
  have hasl : asL (.obj m.length) M' = some (bs.map .int) := by rw [← hM]; simp [asL]
  obtain ⟨b, hb1, hb2⟩ : ∃ b, bs[a.toNat]? = some b ∧ b ∈ bs := ⟨bs[a.toNat], List.getElem?_eq_getElem ha1, List.getElem_mem ha1⟩
  have hat' : L2.atI (bs.map PyData.int) a = some (.int b) := by rw [atI_of ha0, List.getElem?_map, hb1]; rfl
  generalize hrow : bs.take a.toNat ++ ((b + (i : Int)) % 26) :: bs.drop (a.toNat + 1) = row
  have hrl : row.length = bs.length := by
    rw [← hrow]; simp; omega
  have hrb : ∀ d ∈ row, 0 ≤ d ∧ d < 26 := fun d hd => by
    rw [← hrow] at hd
    rcases List.mem_append.mp hd with hd | hd
    · exact hb d (List.mem_of_mem_take hd)
    · rcases List.mem_cons.mp hd with hd | hd
      · rw [hd]; omega
      · exact hb d (List.mem_of_mem_drop hd)
  have e1 : slW (.obj m.length) none (some a) M' = .ok (.fl ((bs.map .int).take a.toNat)) M' := by simp only [slW, hasl, cutD_take ha0]
  have e2 : slW (.obj m.length) (some (a + 1)) none M' = .ok (.fl ((bs.map .int).drop (a + 1).toNat)) M' := by simp only [slW, hasl, cutD_drop (show 0 ≤ a + 1 by omega)]
  have e3 : ixW (.obj m.length) (.d (.int a)) M' = .ok (.d (.int b)) M' := by simp only [ixW, hasl, hat']
  have hlc := letters_row hrb (m := M') (env := [some (.d (.int c)), some (.d (.int n)), some (.d (.str (S abc))), some (.d (.int sz)), some (.d (.int a)), none, some (.obj m.length), some (.d (.int (i : Int))), some (.obj (m.length + 1)), some (.d (.list (row.map .int)))]) (by omega) rfl (by simp)
  have hjn := joinW_nil (m := M') (w := .fl (row.map fun b => .str (S [b.toNat + 97]))) (ls := row.map fun b => [b.toNat + 97]) (by simp [asL]) (fun _ h => nomatch h) (by rw [flat_row]; simp; omega)
  rw [flat_row] at hjn
  have ho : appendW (.obj (m.length + 1)) [.d (.str (S (row.map fun b => b.toNat + 97)))] M' = .ok (.d .none) (m ++ [.lst (bs.map .int), .lst (sts (ws ++ [row.map fun b => b.toNat + 97]))]) := by
    rw [← hM]
    simp [appendW, asO, sts, hl', sizeLine_eq]
    omega
  have hadd : addW (.fl (List.take a.toNat (bs.map .int))) (.fl [.int ((b + (i : Int)) % 26)]) M' = .ok (.fl (List.take a.toNat (bs.map .int) ++ [.int ((b + (i : Int)) % 26)])) M' := by
    simp [addW, asT, asL, sizeLine_eq]
    omega
  have hadd2 : addW (.fl (List.take a.toNat (bs.map .int) ++ [.int ((b + (i : Int)) % 26)])) (.fl (List.drop (a + 1).toNat (bs.map .int))) M' = .ok (.fl (row.map .int)) M' := by
    have e : (a + 1).toNat = a.toNat + 1 := by omega
    simp [addW, asT, asL, sizeLine_eq, e, ← hrow, List.map_take, List.map_drop]
    omega
  have hty : M'[m.length + 1]? = some (.lst (sts ws)) := by rw [← hM]; simp
  simp only [b2__law_words]
  simp [runF, env0, finM, sSeq, sNx, sIf, sRet, sAsg, asgK, gSet, sDrop, sAug, eS_ok, tBool, tTru, truW, eOp, eChain, eVar, eC, eFrz, eObj, aNil, aCons, eTup, eLst, asDs, eCall, eCallF, callM, noFl, tAndF, tOrF, tNotF, eAnd, eOr, eNot, eIsi, tyW, Tk.sub, eSl, oNone, oSome, eMt, eMt0, isTyW, eNeg, negW, Res.bind_ok, List.length_cons, List.length_nil, List.map_cons, List.map_nil, List.cons_append, List.nil_append, List.replicate, List.getElem?_cons_zero, List.getElem?_cons_succ, List.set_cons_zero, List.set_cons_succ, if_true, if_false, Nat.sub_self, Nat.reduceSub, Nat.reduceAdd, sizeLine_eq, sTg, e1, e2, e3, hadd, hadd2, nil_eq, eLc, iSeq, walkW, itsL, wipeE, hlc, hjn, ho, hty, sizeLine_eq]
  refine ⟨ws ++ [row.map fun b => b.toNat + 97], _, _, _, rfl, rfl, by simp [hl'], fun w hw' => ?_⟩
  rcases List.mem_append.mp hw' with h | h
  · exact hw w h
  · rw [List.mem_singleton.mp h]
    refine ⟨by simp; omega, by simp; omega, fun d hd => ?_⟩
    obtain ⟨b', hb', rfl⟩ := List.mem_map.mp hd
    have := hrb b' hb'
    omega
theorem law_words (c : Int) (n : Nat) (hn : n ≤ 1000) (m : Mem) : ∃ ws, ws.length = n ∧ (∀ w ∈ ws, isW w) ∧ F__law_words [.d (.int c), .d (.int (n : Int))] m = .ok (.fl (sts ws)) m := by
  have h8 : 0 ≤ c % 8 := by omega
  have h8' : c % 8 < 8 := by omega
  obtain ⟨sz, hsz⟩ : ∃ sz, sz = 1 + c % 8 := ⟨_, rfl⟩
  have hs : 0 < sz := by omega
  obtain ⟨a, hat⟩ : ∃ a, a = c / 8 % sz := ⟨_, rfl⟩
  have ha0 : 0 ≤ a := by rw [hat]; exact Int.emod_nonneg _ (by omega)
  have ha1 : a < sz := by rw [hat]; exact Int.emod_lt_of_pos _ hs
  have hr (m : Mem) : rng1 [.d (.int sz)] m = .ok (rngI 0 sz.toNat) m := rng1_ok (by omega) (by omega)
  have hr2 (m : Mem) : rng1 [.d (.int (n : Int))] m = .ok (rngI 0 n) m := by rw [rng1_ok (by omega) (by omega)]; simp
  refine run_wp (Q := fun r => ∃ ws, ws.length = n ∧ (∀ w ∈ ws, isW w) ∧ r = .ok (.fl (sts ws)) m) ?_
  unfold m__law_words
  refine wp_go (by simp [runF, env0, finM, sSeq, sNx, sIf, sRet, sAsg, asgK, gSet, sDrop, sAug, eS_ok, tBool, tTru, truW, eOp, eChain, eVar, eC, eFrz, eObj, aNil, aCons, eTup, eLst, asDs, eCall, eCallF, callM, noFl, tAndF, tOrF, tNotF, eAnd, eOr, eNot, eIsi, tyW, Tk.sub, eSl, oNone, oSome, eMt, eMt0, isTyW, eNeg, negW, Res.bind_ok, List.length_cons, List.length_nil, List.map_cons, List.map_nil, List.cons_append, List.nil_append, List.replicate, List.getElem?_cons_zero, List.getElem?_cons_succ, List.set_cons_zero, List.set_cons_succ, if_true, if_false, Nat.sub_self, Nat.reduceSub, Nat.reduceAdd, sizeLine_eq, abc_eq] <;> (try first | rfl | exact ⟨rfl, rfl⟩)) ?_
  refine wp_go (by simp [runF, env0, finM, sSeq, sNx, sIf, sRet, sAsg, asgK, gSet, sDrop, sAug, eS_ok, tBool, tTru, truW, eOp, eChain, eVar, eC, eFrz, eObj, aNil, aCons, eTup, eLst, asDs, eCall, eCallF, callM, noFl, tAndF, tOrF, tNotF, eAnd, eOr, eNot, eIsi, tyW, Tk.sub, eSl, oNone, oSome, eMt, eMt0, isTyW, eNeg, negW, Res.bind_ok, List.length_cons, List.length_nil, List.map_cons, List.map_nil, List.cons_append, List.nil_append, List.replicate, List.getElem?_cons_zero, List.getElem?_cons_succ, List.set_cons_zero, List.set_cons_succ, if_true, if_false, Nat.sub_self, Nat.reduceSub, Nat.reduceAdd, sizeLine_eq, ← hsz] <;> (try first | rfl | exact ⟨rfl, rfl⟩)) ?_
  refine wp_go (by simp [runF, env0, finM, sSeq, sNx, sIf, sRet, sAsg, asgK, gSet, sDrop, sAug, eS_ok, tBool, tTru, truW, eOp, eChain, eVar, eC, eFrz, eObj, aNil, aCons, eTup, eLst, asDs, eCall, eCallF, callM, noFl, tAndF, tOrF, tNotF, eAnd, eOr, eNot, eIsi, tyW, Tk.sub, eSl, oNone, oSome, eMt, eMt0, isTyW, eNeg, negW, Res.bind_ok, List.length_cons, List.length_nil, List.map_cons, List.map_nil, List.cons_append, List.nil_append, List.replicate, List.getElem?_cons_zero, List.getElem?_cons_succ, List.set_cons_zero, List.set_cons_succ, if_true, if_false, Nat.sub_self, Nat.reduceSub, Nat.reduceAdd, sizeLine_eq, hs, ← hat] <;> (try first | rfl | exact ⟨rfl, rfl⟩)) ?_
  refine wp_go (by simp [runF, env0, finM, sSeq, sNx, sIf, sRet, sAsg, asgK, gSet, sDrop, sAug, eS_ok, tBool, tTru, truW, eOp, eChain, eVar, eC, eFrz, eObj, aNil, aCons, eTup, eLst, asDs, eCall, eCallF, callM, noFl, tAndF, tOrF, tNotF, eAnd, eOr, eNot, eIsi, tyW, Tk.sub, eSl, oNone, oSome, eMt, eMt0, isTyW, eNeg, negW, Res.bind_ok, List.length_cons, List.length_nil, List.map_cons, List.map_nil, List.cons_append, List.nil_append, List.replicate, List.getElem?_cons_zero, List.getElem?_cons_succ, List.set_cons_zero, List.set_cons_succ, if_true, if_false, Nat.sub_self, Nat.reduceSub, Nat.reduceAdd, sizeLine_eq] <;> (try first | rfl | exact ⟨rfl, rfl⟩)) ?_
  refine wp_go (by simp [runF, env0, finM, sSeq, sNx, sIf, sRet, sAsg, asgK, gSet, sDrop, sAug, eS_ok, tBool, tTru, truW, eOp, eChain, eVar, eC, eFrz, eObj, aNil, aCons, eTup, eLst, asDs, eCall, eCallF, callM, noFl, tAndF, tOrF, tNotF, eAnd, eOr, eNot, eIsi, tyW, Tk.sub, eSl, oNone, oSome, eMt, eMt0, isTyW, eNeg, negW, Res.bind_ok, List.length_cons, List.length_nil, List.map_cons, List.map_nil, List.cons_append, List.nil_append, List.replicate, List.getElem?_cons_zero, List.getElem?_cons_succ, List.set_cons_zero, List.set_cons_succ, if_true, if_false, Nat.sub_self, Nat.reduceSub, Nat.reduceAdd, sizeLine_eq] <;> (try first | rfl | exact ⟨rfl, rfl⟩)) ?_
  refine wp_sForR (by simp [runF, env0, finM, sSeq, sNx, sIf, sRet, sAsg, asgK, gSet, sDrop, sAug, eS_ok, tBool, tTru, truW, eOp, eChain, eVar, eC, eFrz, eObj, aNil, aCons, eTup, eLst, asDs, eCall, eCallF, callM, noFl, tAndF, tOrF, tNotF, eAnd, eOr, eNot, eIsi, tyW, Tk.sub, eSl, oNone, oSome, eMt, eMt0, isTyW, eNeg, negW, Res.bind_ok, List.length_cons, List.length_nil, List.map_cons, List.map_nil, List.cons_append, List.nil_append, List.replicate, List.getElem?_cons_zero, List.getElem?_cons_succ, List.set_cons_zero, List.set_cons_succ, if_true, if_false, Nat.sub_self, Nat.reduceSub, Nat.reduceAdd, sizeLine_eq, iRange1, hr] <;> (try first | rfl | exact ⟨rfl, rfl⟩)) (baseI c n sz a m) ⟨[], _, _, rfl, rfl, rfl, fun _ h => nomatch h⟩ (fun i env m' hi hp => baseI_step rfl (by omega) hp) ?_
  rintro _ _ ⟨bs, num, x, rfl, rfl, hl, hb⟩
  refine wp_go (by simp [runF, env0, finM, sSeq, sNx, sIf, sRet, sAsg, asgK, gSet, sDrop, sAug, eS_ok, tBool, tTru, truW, eOp, eChain, eVar, eC, eFrz, eObj, aNil, aCons, eTup, eLst, asDs, eCall, eCallF, callM, noFl, tAndF, tOrF, tNotF, eAnd, eOr, eNot, eIsi, tyW, Tk.sub, eSl, oNone, oSome, eMt, eMt0, isTyW, eNeg, negW, Res.bind_ok, List.length_cons, List.length_nil, List.map_cons, List.map_nil, List.cons_append, List.nil_append, List.replicate, List.getElem?_cons_zero, List.getElem?_cons_succ, List.set_cons_zero, List.set_cons_succ, if_true, if_false, Nat.sub_self, Nat.reduceSub, Nat.reduceAdd, sizeLine_eq] <;> (try first | rfl | exact ⟨rfl, rfl⟩)) ?_
  refine wp_sForR (by simp [runF, env0, finM, sSeq, sNx, sIf, sRet, sAsg, asgK, gSet, sDrop, sAug, eS_ok, tBool, tTru, truW, eOp, eChain, eVar, eC, eFrz, eObj, aNil, aCons, eTup, eLst, asDs, eCall, eCallF, callM, noFl, tAndF, tOrF, tNotF, eAnd, eOr, eNot, eIsi, tyW, Tk.sub, eSl, oNone, oSome, eMt, eMt0, isTyW, eNeg, negW, Res.bind_ok, List.length_cons, List.length_nil, List.map_cons, List.map_nil, List.cons_append, List.nil_append, List.replicate, List.getElem?_cons_zero, List.getElem?_cons_succ, List.set_cons_zero, List.set_cons_succ, if_true, if_false, Nat.sub_self, Nat.reduceSub, Nat.reduceAdd, sizeLine_eq, iRange1, hr2] <;> (try first | rfl | exact ⟨rfl, rfl⟩)) (wordsI c n sz a bs m) ⟨[], _, _, _, rfl, rfl, rfl, fun _ h => nomatch h⟩ (fun i env m' hi hp => wordsI_step rfl (by omega) ha0 (by omega) (by omega) hb hp) ?_
  rintro _ _ ⟨ws, num', x', y', rfl, rfl, hl', hw⟩
  refine wp_ret (by simp [runF, env0, finM, sSeq, sNx, sIf, sRet, sAsg, asgK, gSet, sDrop, sAug, eS_ok, tBool, tTru, truW, eOp, eChain, eVar, eC, eFrz, eObj, aNil, aCons, eTup, eLst, asDs, eCall, eCallF, callM, noFl, tAndF, tOrF, tNotF, eAnd, eOr, eNot, eIsi, tyW, Tk.sub, eSl, oNone, oSome, eMt, eMt0, isTyW, eNeg, negW, Res.bind_ok, List.length_cons, List.length_nil, List.map_cons, List.map_nil, List.cons_append, List.nil_append, List.replicate, List.getElem?_cons_zero, List.getElem?_cons_succ, List.set_cons_zero, List.set_cons_succ, if_true, if_false, Nat.sub_self, Nat.reduceSub, Nat.reduceAdd, sizeLine_eq] <;> (try first | rfl | exact ⟨rfl, rfl⟩)) ?_
  exact ⟨ws, hl', hw, outF_obj rfl⟩
/-! ### a word that is not among few others, by its last letter -/
theorem pigeon {α : Type} [DecidableEq α] (f : Nat → α) : ∀ (l : List α) (s : List Nat), s.Nodup → (∀ i ∈ s, ∀ j ∈ s, f i = f j → i = j) → l.length < s.length → ∃ j ∈ s, f j ∉ l
  | [], s, _, _, h => by
    cases s with
    | nil => simp at h
    | cons a r => exact ⟨a, List.mem_cons_self, by simp⟩
  | a :: t, s, nd, inj, h => by
    by_cases ha : ∃ j ∈ s, f j = a
    · obtain ⟨j, hj, e⟩ := ha
      obtain ⟨k, hk, hn⟩ := pigeon f t (s.erase j) (nd.erase j) (fun x hx y hy => inj x (List.mem_of_mem_erase hx) y (List.mem_of_mem_erase hy)) (by
        rw [List.length_erase_of_mem hj]
        simp at h
        omega)
      have hks := List.mem_of_mem_erase hk
      refine ⟨k, hks, fun z => ?_⟩
      rcases List.mem_cons.mp z with z | z
      · have : k = j := inj k hks j hj (z.trans e.symm)
        subst this
        exact (List.Nodup.not_mem_erase nd) hk
      · exact hn z
    · obtain ⟨k, hk, hn⟩ := pigeon f t s nd inj (by simp at h; omega)
      refine ⟨k, hk, fun z => ?_⟩
      rcases List.mem_cons.mp z with z | z
      · exact ha ⟨k, hk, z⟩
      · exact hn z
/-- the last letter, j further -/
def nth (p : List Nat) (c j : Nat) : List Nat := p ++ [97 + (c - 97 + j) % 26]
theorem nth_inj {p : List Nat} {c i j : Nat} (hi : i < 26) (hj : j < 26) (h : nth p c i = nth p c j) : i = j := by
  have h := List.append_cancel_left h
  simp at h
  omega
theorem nth_free (p : List Nat) (c : Nat) (found : List (List Nat)) (h : found.length < 26) : ∃ j, j < 26 ∧ nth p c j ∉ found := by
  obtain ⟨j, hj, hn⟩ := pigeon (nth p c) found (List.range 26) List.nodup_range (fun i hi j hj e => nth_inj (List.mem_range.mp hi) (List.mem_range.mp hj) e) (by simpa using h)
  exact ⟨j, List.mem_range.mp hj, hn⟩
theorem canLayAll0_sts : ∀ {ws : List (List Nat)}, (∀ w ∈ ws, okC w = true) → PyData.canLayAll0 (sts ws) = true
  | [], _ => by simp [sts, PyData.canLayAll0]
  | w :: ws, h => by
    have := canLayAll0_sts (ws := ws) fun u hu => h u (List.mem_cons_of_mem _ hu)
    unfold sts at this
    simp [sts, PyData.canLayAll0, PyData.canLay0, strOk_S, h w List.mem_cons_self, this]
theorem depthAll_sts : ∀ ws : List (List Nat), PyData.depthAll (sts ws) = 0
  | [] => by simp [sts, PyData.depthAll]
  | w :: ws => by
    have := depthAll_sts ws
    unfold sts at this
    simp [sts, PyData.depthAll, PyData.depth, this]
theorem shaped_sts {ws : List (List Nat)} (h : ∀ w ∈ ws, okC w = true) : SeqAt.shaped (.list (sts ws)) = true := by
  show ((PyData.list (sts ws)).canLay0 && decide ((PyData.list (sts ws)).depth ≤ 64)) = _
  simp [PyData.canLay0, PyData.depth, canLayAll0_sts h, depthAll_sts]
theorem any_sts (w : List Nat) (ws : List (List Nat)) : ((sts ws).any fun z => PyData.eqv z (.str (S w))) = decide (w ∈ ws) := by
  rw [Bool.eq_iff_iff, List.any_eq_true]
  unfold sts
  constructor
  · rintro ⟨x, hx, e⟩
    obtain ⟨u, hu, rfl⟩ := List.mem_map.mp hx
    have e : u = w := by simpa using e
    rw [← e]
    exact decide_eq_true hu
  · intro h
    exact ⟨_, List.mem_map.mpr ⟨w, of_decide_eq_true h, rfl⟩, by simp⟩
theorem inW_sts {m : Mem} {x : W} {w : List Nat} {ws : List (List Nat)} {neg : Bool} (h : asL x m = some (sts ws)) (hx : ∀ y, x ≠ .d y) (hw : okC w = true) (hs : ∀ w ∈ ws, okC w = true) : inW neg (.d (.str (S w))) x m = .ok (.d (.bool (ngB neg (decide (w ∈ ws))))) m := by
  have go : ∀ x : W, (∀ y, x ≠ .d y) → inW neg (.d (.str (S w))) x m = match asD (.d (.str (S w))) m, asL x m with
      | some a, some ds => if (SeqAt.shaped a && SeqAt.shaped (.list ds)) = true then .ok (.d (.bool (ngB neg (ds.any fun z => PyData.eqv z a)))) m else .bad
      | _, _ => .bad := fun x hx => by
    cases x with
    | d y => exact absurd rfl (hx y)
    | _ => rfl
  rw [go x hx, h]
  simp only [asD, shaped_str, hw, shaped_sts hs, Bool.and_self, if_true, any_sts]
theorem isW.okC {w : List Nat} (h : isW w) : okC w = true := okC_ab h.ab
theorem isW.last {w : List Nat} (h : isW w) : ∃ p c, w = p ++ [c] := by
  have : w ≠ [] := fun e => by have := h.lo; rw [e] at this; simp at this
  exact ⟨w.dropLast, w.getLast this, (List.dropLast_concat_getLast this).symm⟩
theorem isW_nth {p : List Nat} {c : Nat} (h : isW (p ++ [c])) (j : Nat) : isW (nth p c j) := by
  have h1 := h.lo
  have h2 := h.hi
  simp at h1 h2
  refine ⟨by simp [nth], by simp [nth]; omega, fun d hd => ?_⟩
  rcases List.mem_append.mp hd with hd | hd
  · exact h.ab d (List.mem_append_left _ hd)
  · rw [List.mem_singleton.mp hd]; omega
def turnI (x0 : Option W) (p : List Nat) (c J : Nat) (found : List (List Nat)) (m : Mem) (k : Nat) (env : En) (m' : Mem) : Prop := ∃ j, j + k = J ∧ env = [x0, some (.d (.str (S abc))), some (.obj m.length), some (.d (.str (S (nth p c j))))] ∧ m' = m ++ [.lst (sts found)]
def turnZ (x0 : Option W) (p : List Nat) (c : Nat) (found : List (List Nat)) (m : Mem) (env : En) (m' : Mem) : Prop := ∃ j, nth p c j ∉ found ∧ env = [x0, some (.d (.str (S abc))), some (.obj m.length), some (.d (.str (S (nth p c j))))] ∧ m' = m ++ [.lst (sts found)]
theorem turn_step {x0 : Option W} {p : List Nat} {c J : Nat} {found : List (List Nat)} {m : Mem} (hp : isW (p ++ [c])) (hJ : nth p c J ∉ found) (hf : ∀ w ∈ found, okC w = true) (k : Nat) (env : En) (m' : Mem) : turnI x0 p c J found m k env m' →
    (tBool (eOp (inW false) (eVar 3) (eVar 2)) env m').wp fun t m1 => if t = true then stepOk (b1__law_unlike env m1) (fun e m' => ∃ k', k' < k ∧ turnI x0 p c J found m k' e m') else turnZ x0 p c found m env m1 := by
  rintro ⟨j, hj, rfl, rfl⟩
  have hw := isW_nth hp j
  have hin := inW_sts (m := m ++ [.lst (sts found)]) (x := .obj m.length) (w := nth p c j) (ws := found) (neg := false) (by simp [asL]) (fun _ h => nomatch h) hw.okC hf
  by_cases h : nth p c j ∈ found
  · have hk : 0 < k := by
      rcases Nat.eq_zero_or_pos k with z | z
      · exfalso; apply hJ; have : j = J := by omega
        rw [← this]; exact h
      · exact z
    obtain ⟨q, hq⟩ : ∃ q, q = (c - 97 + j) % 26 := ⟨_, rfl⟩
    have hq26 : q < 26 := by omega
    have e0 : nth p c j = p ++ [97 + q] := by unfold nth; rw [hq]
    have e1 : nth p c (j + 1) = p ++ [97 + (q + 1) % 26] := by unfold nth; rw [hq]; congr 2; omega
    have hcut : slW (.d (.str (S (p ++ [97 + q])))) none (some (-1)) (m ++ [.lst (sts found)]) = .ok (.d (.str (S p))) (m ++ [.lst (sts found)]) := by
      have hl : (S (p ++ [97 + q])).length ≤ sizeLine := by
        have := hw.hi
        rw [e0] at this
        rw [S_len, sizeLine_eq]; omega
      simp only [slW, hl, if_true, cutS_last, List.dropLast_concat]
    have hlast := ixW_str (m := m ++ [.lst (sts found)]) (l := p ++ [97 + q]) (i := -1) (by have := hw.hi; rw [e0] at this; rw [sizeLine_eq]; omega) (atI_neg1 (x := 97 + q))
    have hidx := sindexW_one (m := m ++ [.lst (sts found)]) (l := abc) (c := 97 + q) (i := q) (by rw [abc_get hq26, Nat.add_comm]) (fun k hk => by rw [abc_get (by omega)]; simp; omega)
    have hix := ixW_str (m := m ++ [.lst (sts found)]) (l := abc) (i := ((q : Int) + 1) % 26) (c := 97 + (q + 1) % 26) (by decide) (by rw [ab_at (by omega) (by omega)]; congr 1; omega)
    have hadd := addW_str (m := m ++ [.lst (sts found)]) (a := p) (b := [97 + (q + 1) % 26]) (by have := hp.hi; simp at this; rw [sizeLine_eq]; simp; omega)
    rw [e0] at hin
    rw [e0] at h
    simp only [e0, b1__law_unlike]
    simp [runF, env0, finM, sSeq, sNx, sIf, sRet, sAsg, asgK, gSet, sDrop, sAug, eS_ok, tBool, tTru, truW, eOp, eChain, eVar, eC, eFrz, eObj, aNil, aCons, eTup, eLst, asDs, eCall, eCallF, callM, noFl, tAndF, tOrF, tNotF, eAnd, eOr, eNot, eIsi, tyW, Tk.sub, eSl, oNone, oSome, eMt, eMt0, isTyW, eNeg, negW, Res.bind_ok, List.length_cons, List.length_nil, List.map_cons, List.map_nil, List.cons_append, List.nil_append, List.replicate, List.getElem?_cons_zero, List.getElem?_cons_succ, List.set_cons_zero, List.set_cons_succ, if_true, if_false, Nat.sub_self, Nat.reduceSub, Nat.reduceAdd, sizeLine_eq, hin, h, ngB, hcut, hlast, hidx, hix, hadd]
    exact ⟨k - 1, by omega, j + 1, by omega, by rw [e1], rfl⟩
  · simp [runF, env0, finM, sSeq, sNx, sIf, sRet, sAsg, asgK, gSet, sDrop, sAug, eS_ok, tBool, tTru, truW, eOp, eChain, eVar, eC, eFrz, eObj, aNil, aCons, eTup, eLst, asDs, eCall, eCallF, callM, noFl, tAndF, tOrF, tNotF, eAnd, eOr, eNot, eIsi, tyW, Tk.sub, eSl, oNone, oSome, eMt, eMt0, isTyW, eNeg, negW, Res.bind_ok, List.length_cons, List.length_nil, List.map_cons, List.map_nil, List.cons_append, List.nil_append, List.replicate, List.getElem?_cons_zero, List.getElem?_cons_succ, List.set_cons_zero, List.set_cons_succ, if_true, if_false, Nat.sub_self, Nat.reduceSub, Nat.reduceAdd, sizeLine_eq, hin, h, ngB]
    exact ⟨j, h, rfl, rfl⟩
def unlI (o : Nat) (ws : List (List Nat)) (m : Mem) (i : Nat) (env : En) (m' : Mem) : Prop := ∃ (us : List (List Nat)) (x : Option W), env = [some (.obj o), some (.d (.str (S abc))), some (.obj m.length), x] ∧ m' = m ++ [.lst (sts us)] ∧ us.length = i ∧ (∀ w ∈ us, isW w) ∧ us.Nodup
theorem unl_step {o : Nat} {ws : List (List Nat)} {m : Mem} (hw : ∀ w ∈ ws, isW w) (i : Nat) (d : D) (env : En) (m' : Mem) (hd : (sts ws)[i]? = some d) (hi : i < 26) : unlI o ws m i env m' → stepOk (sTg (gSet 3) b2__law_unlike (.d d) env m') (unlI o ws m (i + 1)) := by
  rintro ⟨us, x, rfl, rfl, hl, hu, nd⟩
  unfold sts at hd
  rw [List.getElem?_map] at hd
  cases e : ws[i]? with
  | none => rw [e] at hd; cases hd
  | some w =>
    rw [e] at hd
    cases hd
    have hww := hw w (List.mem_of_getElem? e)
    obtain ⟨p, c, rfl⟩ := hww.last
    have hc := hww.ab c (by simp)
    obtain ⟨J, hJ26, hJ⟩ := nth_free p c us (by omega)
    have e0 : p ++ [c] = nth p c 0 := by unfold nth; congr 2; omega
    show stepOk (b2__law_unlike [some (.obj o), some (.d (.str (S abc))), some (.obj m.length), some (.d (.str (S (p ++ [c]))))] (m ++ [.lst (sts us)])) _
    have key : WP (fun r => stepOk r (unlI o ws m (i + 1))) (b2__law_unlike [some (.obj o), some (.d (.str (S abc))), some (.obj m.length), some (.d (.str (S (p ++ [c]))))] (m ++ [.lst (sts us)])) := by
      unfold b2__law_unlike
      refine wp_sWhile (k0 := J) (turnI (some (.obj o)) p c J us m) (turnZ (some (.obj o)) p c us m) ⟨0, by omega, by rw [e0], rfl⟩ (by omega) (fun k env m' h => turn_step hww hJ (fun w hw => (hu w hw).okC) k env m' h) ?_
      rintro _ _ ⟨j, hj, rfl, rfl⟩
      have ho : appendW (.obj m.length) [.d (.str (S (nth p c j)))] (m ++ [O.lst (sts us)]) = .ok (.d .none) (m ++ [.lst (sts (us ++ [nth p c j]))]) := by
        simp [appendW, asO, sts, hl, sizeLine_eq]
        omega
      refine wp_eq (by simp [runF, env0, finM, sSeq, sNx, sIf, sRet, sAsg, asgK, gSet, sDrop, sAug, eS_ok, tBool, tTru, truW, eOp, eChain, eVar, eC, eFrz, eObj, aNil, aCons, eTup, eLst, asDs, eCall, eCallF, callM, noFl, tAndF, tOrF, tNotF, eAnd, eOr, eNot, eIsi, tyW, Tk.sub, eSl, oNone, oSome, eMt, eMt0, isTyW, eNeg, negW, Res.bind_ok, List.length_cons, List.length_nil, List.map_cons, List.map_nil, List.cons_append, List.nil_append, List.replicate, List.getElem?_cons_zero, List.getElem?_cons_succ, List.set_cons_zero, List.set_cons_succ, if_true, if_false, Nat.sub_self, Nat.reduceSub, Nat.reduceAdd, sizeLine_eq, ho] <;> (try first | rfl | exact ⟨rfl, rfl⟩)) ?_
      refine ⟨us ++ [nth p c j], _, rfl, rfl, by simp [hl], fun w hw' => ?_, ?_⟩
      · rcases List.mem_append.mp hw' with h | h
        · exact hu w h
        · rw [List.mem_singleton.mp h]; exact isW_nth hww j
      · rw [List.nodup_append]
        refine ⟨nd, by simp, fun a ha b hb => ?_⟩
        rw [List.mem_singleton.mp hb]
        exact fun z => hj (z ▸ ha)
    exact key
theorem law_unlike {o : Nat} {ws : List (List Nat)} {m : Mem} (ho : m[o]? = some (.lst (sts ws))) (hw : ∀ w ∈ ws, isW w) (hl : ws.length ≤ 26) : ∃ us, us.length = ws.length ∧ (∀ w ∈ us, isW w) ∧ us.Nodup ∧ F__law_unlike [.obj o] m = .ok (.fl (sts us)) m := by
  refine run_wp (Q := fun r => ∃ us, us.length = ws.length ∧ (∀ w ∈ us, isW w) ∧ us.Nodup ∧ r = .ok (.fl (sts us)) m) ?_
  have hol : o < m.length := (List.getElem?_eq_some_iff.mp ho).1
  have hap (l : List O) : (m ++ l)[o]? = some (.lst (sts ws)) := by rw [List.getElem?_append_left hol]; exact ho
  unfold m__law_unlike
  refine wp_go (by simp [runF, env0, finM, sSeq, sNx, sIf, sRet, sAsg, asgK, gSet, sDrop, sAug, eS_ok, tBool, tTru, truW, eOp, eChain, eVar, eC, eFrz, eObj, aNil, aCons, eTup, eLst, asDs, eCall, eCallF, callM, noFl, tAndF, tOrF, tNotF, eAnd, eOr, eNot, eIsi, tyW, Tk.sub, eSl, oNone, oSome, eMt, eMt0, isTyW, eNeg, negW, Res.bind_ok, List.length_cons, List.length_nil, List.map_cons, List.map_nil, List.cons_append, List.nil_append, List.replicate, List.getElem?_cons_zero, List.getElem?_cons_succ, List.set_cons_zero, List.set_cons_succ, if_true, if_false, Nat.sub_self, Nat.reduceSub, Nat.reduceAdd, sizeLine_eq, abc_eq] <;> (try first | rfl | exact ⟨rfl, rfl⟩)) ?_
  refine wp_go (by simp [runF, env0, finM, sSeq, sNx, sIf, sRet, sAsg, asgK, gSet, sDrop, sAug, eS_ok, tBool, tTru, truW, eOp, eChain, eVar, eC, eFrz, eObj, aNil, aCons, eTup, eLst, asDs, eCall, eCallF, callM, noFl, tAndF, tOrF, tNotF, eAnd, eOr, eNot, eIsi, tyW, Tk.sub, eSl, oNone, oSome, eMt, eMt0, isTyW, eNeg, negW, Res.bind_ok, List.length_cons, List.length_nil, List.map_cons, List.map_nil, List.cons_append, List.nil_append, List.replicate, List.getElem?_cons_zero, List.getElem?_cons_succ, List.set_cons_zero, List.set_cons_succ, if_true, if_false, Nat.sub_self, Nat.reduceSub, Nat.reduceAdd, sizeLine_eq] <;> (try first | rfl | exact ⟨rfl, rfl⟩)) ?_
  refine wp_sForO (o := o) (ds := sts ws) (by simp [runF, env0, finM, sSeq, sNx, sIf, sRet, sAsg, asgK, gSet, sDrop, sAug, eS_ok, tBool, tTru, truW, eOp, eChain, eVar, eC, eFrz, eObj, aNil, aCons, eTup, eLst, asDs, eCall, eCallF, callM, noFl, tAndF, tOrF, tNotF, eAnd, eOr, eNot, eIsi, tyW, Tk.sub, eSl, oNone, oSome, eMt, eMt0, isTyW, eNeg, negW, Res.bind_ok, List.length_cons, List.length_nil, List.map_cons, List.map_nil, List.cons_append, List.nil_append, List.replicate, List.getElem?_cons_zero, List.getElem?_cons_succ, List.set_cons_zero, List.set_cons_succ, if_true, if_false, Nat.sub_self, Nat.reduceSub, Nat.reduceAdd, sizeLine_eq, iSeq, walkW, asL, hap] <;> (try first | rfl | exact ⟨rfl, rfl⟩)) (canLayAll0_sts fun w h => (hw w h).okC) (unlI o ws m) ⟨[], _, rfl, rfl, rfl, fun _ h => (nomatch h), List.nodup_nil⟩ (fun i env m' ⟨us, x, e, em, _⟩ => by subst em; simp [asL, hap]) (fun i d env m' hd hp => unl_step hw i d env m' hd (by have := (List.getElem?_eq_some_iff.mp hd).1; simp at this; omega) hp) ?_
  rintro _ _ ⟨us, x, rfl, rfl, hl', hu, nd⟩
  refine wp_ret (by simp [runF, env0, finM, sSeq, sNx, sIf, sRet, sAsg, asgK, gSet, sDrop, sAug, eS_ok, tBool, tTru, truW, eOp, eChain, eVar, eC, eFrz, eObj, aNil, aCons, eTup, eLst, asDs, eCall, eCallF, callM, noFl, tAndF, tOrF, tNotF, eAnd, eOr, eNot, eIsi, tyW, Tk.sub, eSl, oNone, oSome, eMt, eMt0, isTyW, eNeg, negW, Res.bind_ok, List.length_cons, List.length_nil, List.map_cons, List.map_nil, List.cons_append, List.nil_append, List.replicate, List.getElem?_cons_zero, List.getElem?_cons_succ, List.set_cons_zero, List.set_cons_succ, if_true, if_false, Nat.sub_self, Nat.reduceSub, Nat.reduceAdd, sizeLine_eq] <;> (try first | rfl | exact ⟨rfl, rfl⟩)) ?_
  exact ⟨us, by simpa using hl', hu, nd, outF_obj (i := 0) rfl⟩
def namesI (n : Int) (m : Mem) (i : Nat) (env : En) (m' : Mem) : Prop := ∃ (ws : List (List Nat)) (c : Int) (x : Option W), env = [some (.d (.int c)), some (.d (.int n)), some (.obj m.length), x] ∧ m' = m ++ [.lst (sts ws)] ∧ ws.length = i ∧ ∀ w ∈ ws, isW w
theorem names_step {n : Int} {m : Mem} {i : Nat} {env : En} {m' : Mem} {v : W} (hi : i < 1000) : namesI n m i env m' → stepOk (sTg (gSet 3) b1__law_names v env m') (namesI n m (i + 1)) := by
  rintro ⟨ws, c, x, rfl, rfl, hl, hw⟩
  obtain ⟨w, hww, hF⟩ := law_word (c % 1670616516608) (m ++ [.lst (sts ws)])
  have ho : appendW (.obj m.length) [.d (.str (S w))] (m ++ [O.lst (sts ws)]) = .ok (.d .none) (m ++ [.lst (sts (ws ++ [w]))]) := by
    simp [appendW, asO, sts, hl, sizeLine_eq]
    omega
  simp only [b1__law_names]
  simp [runF, env0, finM, sSeq, sNx, sIf, sRet, sAsg, asgK, gSet, sDrop, sAug, eS_ok, tBool, tTru, truW, eOp, eChain, eVar, eC, eFrz, eObj, aNil, aCons, eTup, eLst, asDs, eCall, eCallF, callM, noFl, tAndF, tOrF, tNotF, eAnd, eOr, eNot, eIsi, tyW, Tk.sub, eSl, oNone, oSome, eMt, eMt0, isTyW, eNeg, negW, Res.bind_ok, List.length_cons, List.length_nil, List.map_cons, List.map_nil, List.cons_append, List.nil_append, List.replicate, List.getElem?_cons_zero, List.getElem?_cons_succ, List.set_cons_zero, List.set_cons_succ, if_true, if_false, Nat.sub_self, Nat.reduceSub, Nat.reduceAdd, sizeLine_eq, sTg, hF, ho]
  refine ⟨ws ++ [w], _, _, rfl, rfl, by simp [hl], fun u hu => ?_⟩
  rcases List.mem_append.mp hu with h | h
  · exact hw u h
  · rw [List.mem_singleton.mp h]; exact hww
theorem law_names (c : Int) (n : Nat) (hn : n ≤ 26) (m : Mem) : ∃ ws, ws.length = n ∧ (∀ w ∈ ws, isW w) ∧ F__law_names [.d (.int c), .d (.int (n : Int))] m = .ok (.fl (sts ws)) m := by
  have hr2 (m : Mem) : rng1 [.d (.int (n : Int))] m = .ok (rngI 0 n) m := by rw [rng1_ok (by omega) (by omega)]; simp
  refine run_wp (Q := fun r => ∃ ws, ws.length = n ∧ (∀ w ∈ ws, isW w) ∧ r = .ok (.fl (sts ws)) m) ?_
  unfold m__law_names
  by_cases h : c % 2 = 1
  · obtain ⟨ws, hl, hw, hF⟩ := law_words (c / 2) n (by omega) m
    refine wp_sIfR (by simp [runF, env0, finM, sSeq, sNx, sIf, sRet, sAsg, asgK, gSet, sDrop, sAug, eS_ok, tBool, tTru, truW, eOp, eChain, eVar, eC, eFrz, eObj, aNil, aCons, eTup, eLst, asDs, eCall, eCallF, callM, noFl, tAndF, tOrF, tNotF, eAnd, eOr, eNot, eIsi, tyW, Tk.sub, eSl, oNone, oSome, eMt, eMt0, isTyW, eNeg, negW, Res.bind_ok, List.length_cons, List.length_nil, List.map_cons, List.map_nil, List.cons_append, List.nil_append, List.replicate, List.getElem?_cons_zero, List.getElem?_cons_succ, List.set_cons_zero, List.set_cons_succ, if_true, if_false, Nat.sub_self, Nat.reduceSub, Nat.reduceAdd, sizeLine_eq, h, ngB] <;> (try first | rfl | exact ⟨rfl, rfl⟩)) (by simp [runF, env0, finM, sSeq, sNx, sIf, sRet, sAsg, asgK, gSet, sDrop, sAug, eS_ok, tBool, tTru, truW, eOp, eChain, eVar, eC, eFrz, eObj, aNil, aCons, eTup, eLst, asDs, eCall, eCallF, callM, noFl, tAndF, tOrF, tNotF, eAnd, eOr, eNot, eIsi, tyW, Tk.sub, eSl, oNone, oSome, eMt, eMt0, isTyW, eNeg, negW, Res.bind_ok, List.length_cons, List.length_nil, List.map_cons, List.map_nil, List.cons_append, List.nil_append, List.replicate, List.getElem?_cons_zero, List.getElem?_cons_succ, List.set_cons_zero, List.set_cons_succ, if_true, if_false, Nat.sub_self, Nat.reduceSub, Nat.reduceAdd, sizeLine_eq, hF] <;> (try first | rfl | exact ⟨rfl, rfl⟩)) ?_
    exact ⟨ws, hl, hw, by simp⟩
  · refine wp_sIfN (by simp [runF, env0, finM, sSeq, sNx, sIf, sRet, sAsg, asgK, gSet, sDrop, sAug, eS_ok, tBool, tTru, truW, eOp, eChain, eVar, eC, eFrz, eObj, aNil, aCons, eTup, eLst, asDs, eCall, eCallF, callM, noFl, tAndF, tOrF, tNotF, eAnd, eOr, eNot, eIsi, tyW, Tk.sub, eSl, oNone, oSome, eMt, eMt0, isTyW, eNeg, negW, Res.bind_ok, List.length_cons, List.length_nil, List.map_cons, List.map_nil, List.cons_append, List.nil_append, List.replicate, List.getElem?_cons_zero, List.getElem?_cons_succ, List.set_cons_zero, List.set_cons_succ, if_true, if_false, Nat.sub_self, Nat.reduceSub, Nat.reduceAdd, sizeLine_eq, h, ngB] <;> (try first | rfl | exact ⟨rfl, rfl⟩)) ?_
    refine wp_go (by simp [runF, env0, finM, sSeq, sNx, sIf, sRet, sAsg, asgK, gSet, sDrop, sAug, eS_ok, tBool, tTru, truW, eOp, eChain, eVar, eC, eFrz, eObj, aNil, aCons, eTup, eLst, asDs, eCall, eCallF, callM, noFl, tAndF, tOrF, tNotF, eAnd, eOr, eNot, eIsi, tyW, Tk.sub, eSl, oNone, oSome, eMt, eMt0, isTyW, eNeg, negW, Res.bind_ok, List.length_cons, List.length_nil, List.map_cons, List.map_nil, List.cons_append, List.nil_append, List.replicate, List.getElem?_cons_zero, List.getElem?_cons_succ, List.set_cons_zero, List.set_cons_succ, if_true, if_false, Nat.sub_self, Nat.reduceSub, Nat.reduceAdd, sizeLine_eq] <;> (try first | rfl | exact ⟨rfl, rfl⟩)) ?_
    refine wp_go (by simp [runF, env0, finM, sSeq, sNx, sIf, sRet, sAsg, asgK, gSet, sDrop, sAug, eS_ok, tBool, tTru, truW, eOp, eChain, eVar, eC, eFrz, eObj, aNil, aCons, eTup, eLst, asDs, eCall, eCallF, callM, noFl, tAndF, tOrF, tNotF, eAnd, eOr, eNot, eIsi, tyW, Tk.sub, eSl, oNone, oSome, eMt, eMt0, isTyW, eNeg, negW, Res.bind_ok, List.length_cons, List.length_nil, List.map_cons, List.map_nil, List.cons_append, List.nil_append, List.replicate, List.getElem?_cons_zero, List.getElem?_cons_succ, List.set_cons_zero, List.set_cons_succ, if_true, if_false, Nat.sub_self, Nat.reduceSub, Nat.reduceAdd, sizeLine_eq] <;> (try first | rfl | exact ⟨rfl, rfl⟩)) ?_
    refine wp_sForR (by simp [runF, env0, finM, sSeq, sNx, sIf, sRet, sAsg, asgK, gSet, sDrop, sAug, eS_ok, tBool, tTru, truW, eOp, eChain, eVar, eC, eFrz, eObj, aNil, aCons, eTup, eLst, asDs, eCall, eCallF, callM, noFl, tAndF, tOrF, tNotF, eAnd, eOr, eNot, eIsi, tyW, Tk.sub, eSl, oNone, oSome, eMt, eMt0, isTyW, eNeg, negW, Res.bind_ok, List.length_cons, List.length_nil, List.map_cons, List.map_nil, List.cons_append, List.nil_append, List.replicate, List.getElem?_cons_zero, List.getElem?_cons_succ, List.set_cons_zero, List.set_cons_succ, if_true, if_false, Nat.sub_self, Nat.reduceSub, Nat.reduceAdd, sizeLine_eq, iRange1, hr2] <;> (try first | rfl | exact ⟨rfl, rfl⟩)) (namesI n m) ⟨[], _, _, rfl, rfl, rfl, fun _ h => nomatch h⟩ (fun i env m' hi hp => names_step (by omega) hp) ?_
    rintro _ _ ⟨ws, c', x, rfl, rfl, hl, hw⟩
    obtain ⟨us, hl2, hu, nd, hF⟩ := law_unlike (o := m.length) (m := m ++ [.lst (sts ws)]) (by simp) hw (by omega)
    refine wp_ret (by simp [runF, env0, finM, sSeq, sNx, sIf, sRet, sAsg, asgK, gSet, sDrop, sAug, eS_ok, tBool, tTru, truW, eOp, eChain, eVar, eC, eFrz, eObj, aNil, aCons, eTup, eLst, asDs, eCall, eCallF, callM, noFl, tAndF, tOrF, tNotF, eAnd, eOr, eNot, eIsi, tyW, Tk.sub, eSl, oNone, oSome, eMt, eMt0, isTyW, eNeg, negW, Res.bind_ok, List.length_cons, List.length_nil, List.map_cons, List.map_nil, List.cons_append, List.nil_append, List.replicate, List.getElem?_cons_zero, List.getElem?_cons_succ, List.set_cons_zero, List.set_cons_succ, if_true, if_false, Nat.sub_self, Nat.reduceSub, Nat.reduceAdd, sizeLine_eq, hF] <;> (try first | rfl | exact ⟨rfl, rfl⟩)) ?_
    exact ⟨us, by omega, hu, by simp⟩
/-! ### forms -/
inductive Fm where
  | b (w : List Nat)
  | n (s : Bool) (x y : Fm)
def slash (s : Bool) : List Nat := if s then [92] else [47]
def basicL : List Nat := [98, 97, 115, 105, 99]
theorem basic_eq : Str.ofString "basic" = S basicL := by decide +kernel
def enc : Fm → D
  | .b w => .tuple [.str (S basicL), .str (S w)]
  | .n s x y => .tuple [.str (S (slash s)), enc x, enc y]
def Fm.size : Fm → Nat
  | .b _ => 1
  | .n _ x y => x.size + y.size
def Fm.wf : Fm → Prop
  | .b w => isW w
  | .n _ x y => x.wf ∧ y.wf
theorem Fm.size_pos : ∀ f : Fm, 1 ≤ f.size
  | .b _ => Nat.le_refl _
  | .n _ x y => by have := x.size_pos; show 1 ≤ x.size + y.size; omega
/-! ### the cells -/
theorem law_take {o : Nat} {m : Mem} {c : Int} {r : List Int} (h : m[o]? = some (.lst ((c :: r).map .int))) : ∃ r' : List Int, r' ≠ [] ∧ F__law_take [.obj o] m = .ok (.d (.int c)) (m.set o (.lst (r'.map .int))) := by
  have hol : o < m.length := (List.getElem?_eq_some_iff.mp h).1
  have hp := popAt0 (m := m) (i := o) (d := .int c) (ds := r.map .int) h
  refine run_wp (Q := fun res => ∃ r' : List Int, r' ≠ [] ∧ res = .ok (.d (.int c)) (m.set o (.lst (r'.map .int)))) ?_
  unfold m__law_take
  refine wp_go (by simp [runF, env0, finM, sSeq, sNx, sIf, sRet, sAsg, asgK, gSet, sDrop, sAug, eS_ok, tBool, tTru, truW, eOp, eChain, eVar, eC, eFrz, eObj, aNil, aCons, eTup, eLst, asDs, eCall, eCallF, callM, noFl, tAndF, tOrF, tNotF, eAnd, eOr, eNot, eIsi, tyW, Tk.sub, eSl, oNone, oSome, eMt, eMt0, isTyW, eNeg, negW, Res.bind_ok, List.length_cons, List.length_nil, List.map_cons, List.map_nil, List.cons_append, List.nil_append, List.replicate, List.getElem?_cons_zero, List.getElem?_cons_succ, List.set_cons_zero, List.set_cons_succ, if_true, if_false, Nat.sub_self, Nat.reduceSub, Nat.reduceAdd, sizeLine_eq, h, hp] <;> (try first | rfl | exact ⟨rfl, rfl⟩)) ?_
  have hset : (m.set o (.lst (r.map .int)))[o]? = some (.lst (r.map .int)) := List.getElem?_set_self hol
  cases r with
  | nil =>
    have ho : appendW (.obj o) [.d (.int ((c * 48271 + 11) % 2147483647))] (m.set o (.lst [])) = .ok (.d .none) (m.set o (.lst [.int ((c * 48271 + 11) % 2147483647)])) := by
      have e : (m.set o (O.lst []))[o]? = some (.lst []) := hset
      simp [appendW, asO, e, sizeLine_eq]
    have heq : eqW false (.obj o) (.fl []) (m.set o (.lst [])) = .ok (.d (.bool true)) (m.set o (.lst [])) := by
      have e : (m.set o (O.lst []))[o]? = some (.lst []) := hset
      simp [eqW, asD, asL, e, PyData.eqv, PyData.eqvAll]
    have e : (m.set o (O.lst []))[o]? = some (.lst []) := hset
    refine wp_sIfT (by simp [runF, env0, finM, sSeq, sNx, sIf, sRet, sAsg, asgK, gSet, sDrop, sAug, eS_ok, tBool, tTru, truW, eOp, eChain, eVar, eC, eFrz, eObj, aNil, aCons, eTup, eLst, asDs, eCall, eCallF, callM, noFl, tAndF, tOrF, tNotF, eAnd, eOr, eNot, eIsi, tyW, Tk.sub, eSl, oNone, oSome, eMt, eMt0, isTyW, eNeg, negW, Res.bind_ok, List.length_cons, List.length_nil, List.map_cons, List.map_nil, List.cons_append, List.nil_append, List.replicate, List.getElem?_cons_zero, List.getElem?_cons_succ, List.set_cons_zero, List.set_cons_succ, if_true, if_false, Nat.sub_self, Nat.reduceSub, Nat.reduceAdd, sizeLine_eq, heq, ngB] <;> (try first | rfl | exact ⟨rfl, rfl⟩)) (wp_then (by simp [runF, env0, finM, sSeq, sNx, sIf, sRet, sAsg, asgK, gSet, sDrop, sAug, eS_ok, tBool, tTru, truW, eOp, eChain, eVar, eC, eFrz, eObj, aNil, aCons, eTup, eLst, asDs, eCall, eCallF, callM, noFl, tAndF, tOrF, tNotF, eAnd, eOr, eNot, eIsi, tyW, Tk.sub, eSl, oNone, oSome, eMt, eMt0, isTyW, eNeg, negW, Res.bind_ok, List.length_cons, List.length_nil, List.map_cons, List.map_nil, List.cons_append, List.nil_append, List.replicate, List.getElem?_cons_zero, List.getElem?_cons_succ, List.set_cons_zero, List.set_cons_succ, if_true, if_false, Nat.sub_self, Nat.reduceSub, Nat.reduceAdd, sizeLine_eq, ho, e] <;> (try first | rfl | exact ⟨rfl, rfl⟩)) ?_)
    refine wp_ret (by simp [runF, env0, finM, sSeq, sNx, sIf, sRet, sAsg, asgK, gSet, sDrop, sAug, eS_ok, tBool, tTru, truW, eOp, eChain, eVar, eC, eFrz, eObj, aNil, aCons, eTup, eLst, asDs, eCall, eCallF, callM, noFl, tAndF, tOrF, tNotF, eAnd, eOr, eNot, eIsi, tyW, Tk.sub, eSl, oNone, oSome, eMt, eMt0, isTyW, eNeg, negW, Res.bind_ok, List.length_cons, List.length_nil, List.map_cons, List.map_nil, List.cons_append, List.nil_append, List.replicate, List.getElem?_cons_zero, List.getElem?_cons_succ, List.set_cons_zero, List.set_cons_succ, if_true, if_false, Nat.sub_self, Nat.reduceSub, Nat.reduceAdd, sizeLine_eq] <;> (try first | rfl | exact ⟨rfl, rfl⟩)) ?_
    exact ⟨[(c * 48271 + 11) % 2147483647], by simp, by simp [outF, finM, List.take_of_length_le]⟩
  | cons d r =>
    have heq : eqW false (.obj o) (.fl []) (m.set o (.lst ((d :: r).map .int))) = .ok (.d (.bool false)) (m.set o (.lst ((d :: r).map .int))) := by
      have hs := shaped_ints (d :: r)
      unfold eqW asD asL
      simp only [hset, Option.map_some, hs, shaped_nil, Bool.and_self, if_true]
      simp [PyData.eqv, PyData.eqvAll]
    simp only [List.map_cons] at heq ⊢
    refine wp_sIfN (by simp [runF, env0, finM, sSeq, sNx, sIf, sRet, sAsg, asgK, gSet, sDrop, sAug, eS_ok, tBool, tTru, truW, eOp, eChain, eVar, eC, eFrz, eObj, aNil, aCons, eTup, eLst, asDs, eCall, eCallF, callM, noFl, tAndF, tOrF, tNotF, eAnd, eOr, eNot, eIsi, tyW, Tk.sub, eSl, oNone, oSome, eMt, eMt0, isTyW, eNeg, negW, Res.bind_ok, List.length_cons, List.length_nil, List.map_cons, List.map_nil, List.cons_append, List.nil_append, List.replicate, List.getElem?_cons_zero, List.getElem?_cons_succ, List.set_cons_zero, List.set_cons_succ, if_true, if_false, Nat.sub_self, Nat.reduceSub, Nat.reduceAdd, sizeLine_eq, heq, ngB] <;> (try first | rfl | exact ⟨rfl, rfl⟩)) ?_
    refine wp_ret (by simp [runF, env0, finM, sSeq, sNx, sIf, sRet, sAsg, asgK, gSet, sDrop, sAug, eS_ok, tBool, tTru, truW, eOp, eChain, eVar, eC, eFrz, eObj, aNil, aCons, eTup, eLst, asDs, eCall, eCallF, callM, noFl, tAndF, tOrF, tNotF, eAnd, eOr, eNot, eIsi, tyW, Tk.sub, eSl, oNone, oSome, eMt, eMt0, isTyW, eNeg, negW, Res.bind_ok, List.length_cons, List.length_nil, List.map_cons, List.map_nil, List.cons_append, List.nil_append, List.replicate, List.getElem?_cons_zero, List.getElem?_cons_succ, List.set_cons_zero, List.set_cons_succ, if_true, if_false, Nat.sub_self, Nat.reduceSub, Nat.reduceAdd, sizeLine_eq] <;> (try first | rfl | exact ⟨rfl, rfl⟩)) ?_
    exact ⟨d :: r, by simp, by simp [outF, finM, List.take_of_length_le]⟩

end K03

set_option Elab.async false
set_option linter.all false
set_option maxRecDepth 100000
set_option maxHeartbeats 1000000
namespace K03
open PySem L2 M
/-! ### loops that may return -/
def stepZ (r : SRes) (Q : En → Mem → Prop) (R : W → Mem → Prop) : Prop := match r with
  | .nx e m => Q e m
  | .ct e m => Q e m
  | .rt w m => R w m
  | _ => False
@[simp] theorem stepZ_nx (e : En) (m : Mem) (Q : En → Mem → Prop) (R : W → Mem → Prop) : stepZ (.nx e m) Q R = Q e m := rfl
@[simp] theorem stepZ_ct (e : En) (m : Mem) (Q : En → Mem → Prop) (R : W → Mem → Prop) : stepZ (.ct e m) Q R = Q e m := rfl
@[simp] theorem stepZ_rt (w : W) (m : Mem) (Q : En → Mem → Prop) (R : W → Mem → Prop) : stepZ (.rt w m) Q R = R w m := rfl
theorem wp_whileZ {Z : SRes → Prop} {c : TF} {b : SF} (P : Nat → En → Mem → Prop) (Y : En → Mem → Prop) (R : W → Mem → Prop)
    (hs : ∀ k env m, P k env m → (c env m).wp fun t m1 => if t = true then stepZ (b env m1) (fun e m' => ∃ k', k' < k ∧ P k' e m') R else Y env m1)
    (hr : ∀ w m', R w m' → Z (.rt w m')) (k : ∀ e m', Y e m' → Z (.nx e m')) : ∀ (n k0 : Nat) (env : En) (m : Mem), k0 < n → P k0 env m → WP Z (whileM c b n env m)
  | 0, k0, env, m, h, _ => absurd h (Nat.not_lt_zero _)
  | n + 1, k0, env, m, h, hp => by
    obtain ⟨t, m1, e1, h1⟩ := Res.wp_ex (hs k0 env m hp)
    unfold WP
    cases t with
    | false => simp only [whileM, e1, eS_ok]; exact k _ _ h1
    | true =>
      have h1 : stepZ (b env m1) _ R := h1
      simp only [whileM, e1, eS_ok, if_true]
      cases hb : b env m1 with
      | nx e m2 => rw [hb] at h1; obtain ⟨k', hk', hp'⟩ := h1; exact wp_whileZ P Y R hs hr k n k' e m2 (by omega) hp'
      | ct e m2 => rw [hb] at h1; obtain ⟨k', hk', hp'⟩ := h1; exact wp_whileZ P Y R hs hr k n k' e m2 (by omega) hp'
      | rt w m2 => rw [hb] at h1; exact hr w m2 h1
      | bk e m2 => rw [hb] at h1; exact False.elim h1
      | err x e m2 => rw [hb] at h1; exact False.elim h1
      | bad => rw [hb] at h1; exact False.elim h1
theorem wp_sWhileZ {Z : SRes → Prop} {d : SF} {c : TF} {b : SF} {n k0 : Nat} {env : En} {m : Mem} (P : Nat → En → Mem → Prop) (Y : En → Mem → Prop) (R : W → Mem → Prop) (h0 : P k0 env m) (hk : k0 < n)
    (hs : ∀ k env m, P k env m → (c env m).wp fun t m1 => if t = true then stepZ (b env m1) (fun e m' => ∃ k', k' < k ∧ P k' e m') R else Y env m1)
    (hr : ∀ w m', R w m' → Z (.rt w m')) (k : ∀ e m', Y e m' → WP Z (d e m')) : WP Z (sSeq (whileM c b n) d env m) :=
  wp_seq (wp_whileZ (Z := thenZ d Z) P Y R hs hr k n k0 env m hk h0)

theorem ixW_list {m : Mem} {ds : List D} {i : Int} {c : D} (h : L2.atI ds i = some c) : ixW (.d (.list ds)) (.d (.int i)) m = .ok (.d c) m := by
  simp only [ixW, asL, h]
theorem slash_eq : Str.ofString "/\\" = S [47, 92] := by decide +kernel
theorem slash_at {i : Int} (h : i = 0 ∨ i = 1) : ∃ s : Bool, L2.atI [47, 92] i = some (if s then 92 else 47) := by
  rcases h with rfl | rfl
  · exact ⟨false, by simp⟩
  · exact ⟨true, by simp⟩
theorem slash_S (s : Bool) : S [if s then 92 else 47] = S (slash s) := by cases s <;> rfl
theorem sts_at {ws : List (List Nat)} {i : Int} (h : 0 ≤ i) (h' : i < ws.length) : ∃ w ∈ ws, L2.atI (sts ws) i = some (.str (S w)) := by
  have hl : i.toNat < ws.length := by omega
  refine ⟨ws[i.toNat], List.getElem_mem hl, ?_⟩
  rw [atI_of h]
  unfold sts
  rw [List.getElem?_map, List.getElem?_eq_getElem hl]
  rfl
theorem law_form {ws : List (List Nat)} (hw : ∀ w ∈ ws, isW w) (hl : 0 < ws.length) : ∀ (n most : Nat), 1 ≤ most → most ≤ n → ∀ {o : Nat} {m : Mem} {cs : List Int}, m[o]? = some (.lst (cs.map .int)) → cs ≠ [] →
    ∃ f cs', Fm.wf f ∧ f.size ≤ most ∧ cs' ≠ [] ∧ F__law_form n [.obj o, .d (.list (sts ws)), .d (.int (most : Int))] m = .ok (.d (enc f)) (m.set o (.lst ((cs' : List Int).map .int)))
  | 0, most, h, h', _, _, _, _, _ => by omega
  | n + 1, most, hm1, hmn, o, m, cs, h, hcs => by
    obtain ⟨c, r, rfl⟩ := List.exists_cons_of_ne_nil hcs
    have hol : o < m.length := (List.getElem?_eq_some_iff.mp h).1
    obtain ⟨r', hr', hT⟩ := law_take h
    have hs1 : (m.set o (.lst (r'.map .int)))[o]? = some (.lst (r'.map .int)) := List.getElem?_set_self hol
    refine run_wp (Q := fun res => ∃ f cs', Fm.wf f ∧ f.size ≤ most ∧ cs' ≠ [] ∧ res = .ok (.d (enc f)) (m.set o (.lst ((cs' : List Int).map .int)))) ?_
    unfold m__law_form
    refine wp_go (by simp [runF, env0, finM, sSeq, sNx, sIf, sRet, sAsg, asgK, gSet, sDrop, sAug, eS_ok, tBool, tTru, truW, eOp, eChain, eVar, eC, eFrz, eObj, aNil, aCons, eTup, eLst, asDs, eCall, eCallF, callM, noFl, tAndF, tOrF, tNotF, eAnd, eOr, eNot, eIsi, tyW, Tk.sub, eSl, oNone, oSome, eMt, eMt0, isTyW, eNeg, negW, Res.bind_ok, List.length_cons, List.length_nil, List.map_cons, List.map_nil, List.cons_append, List.nil_append, List.replicate, List.getElem?_cons_zero, List.getElem?_cons_succ, List.set_cons_zero, List.set_cons_succ, if_true, if_false, Nat.sub_self, Nat.reduceSub, Nat.reduceAdd, sizeLine_eq, hT] <;> (try first | rfl | exact ⟨rfl, rfl⟩)) ?_
    by_cases hb : most = 1 ∨ c % 4 = 0
    · obtain ⟨w, hwm, hat⟩ := sts_at (ws := ws) (i := c / 4 % (ws.length : Int)) (Int.emod_nonneg _ (by omega)) (Int.emod_lt_of_pos _ (by omega))
      have hix := ixW_list (m := m.set o (.lst (r'.map .int))) hat
      have hlen : lenW [.d (.list (sts ws))] (m.set o (.lst (r'.map .int))) = .ok (.d (.int (ws.length : Int))) (m.set o (.lst (r'.map .int))) := by simp [lenW, asL, sts]
      have hmod := modW_pos (m := m.set o (.lst (r'.map .int))) (i := c / 4) (j := (ws.length : Int)) (by omega)
      have hc : (tOrF (tBool (eOp (eqW false) (eVar 2) (eC (.int 1)))) (tBool (eOp (eqW false) (eOp modW (eVar 3) (eC (.int 4))) (eC (.int 0))))) [some (.obj o), some (.d (.list (sts ws))), some (.d (.int (most : Int))), some (.d (.int c)), none, none] (m.set o (.lst (r'.map .int))) = .ok true (m.set o (.lst (r'.map .int))) := by
        by_cases h1 : most = 1
        · simp [runF, env0, finM, sSeq, sNx, sIf, sRet, sAsg, asgK, gSet, sDrop, sAug, eS_ok, tBool, tTru, truW, eOp, eChain, eVar, eC, eFrz, eObj, aNil, aCons, eTup, eLst, asDs, eCall, eCallF, callM, noFl, tAndF, tOrF, tNotF, eAnd, eOr, eNot, eIsi, tyW, Tk.sub, eSl, oNone, oSome, eMt, eMt0, isTyW, eNeg, negW, Res.bind_ok, List.length_cons, List.length_nil, List.map_cons, List.map_nil, List.cons_append, List.nil_append, List.replicate, List.getElem?_cons_zero, List.getElem?_cons_succ, List.set_cons_zero, List.set_cons_succ, if_true, if_false, Nat.sub_self, Nat.reduceSub, Nat.reduceAdd, sizeLine_eq, h1, ngB]
        · have h2 : c % 4 = 0 := hb.resolve_left h1
          have h3 : ¬ ((most : Int) = 1) := by omega
          simp [runF, env0, finM, sSeq, sNx, sIf, sRet, sAsg, asgK, gSet, sDrop, sAug, eS_ok, tBool, tTru, truW, eOp, eChain, eVar, eC, eFrz, eObj, aNil, aCons, eTup, eLst, asDs, eCall, eCallF, callM, noFl, tAndF, tOrF, tNotF, eAnd, eOr, eNot, eIsi, tyW, Tk.sub, eSl, oNone, oSome, eMt, eMt0, isTyW, eNeg, negW, Res.bind_ok, List.length_cons, List.length_nil, List.map_cons, List.map_nil, List.cons_append, List.nil_append, List.replicate, List.getElem?_cons_zero, List.getElem?_cons_succ, List.set_cons_zero, List.set_cons_succ, if_true, if_false, Nat.sub_self, Nat.reduceSub, Nat.reduceAdd, sizeLine_eq, h2, h3, ngB]
      refine wp_sIfR hc (by simp [runF, env0, finM, sSeq, sNx, sIf, sRet, sAsg, asgK, gSet, sDrop, sAug, eS_ok, tBool, tTru, truW, eOp, eChain, eVar, eC, eFrz, eObj, aNil, aCons, eTup, eLst, asDs, eCall, eCallF, callM, noFl, tAndF, tOrF, tNotF, eAnd, eOr, eNot, eIsi, tyW, Tk.sub, eSl, oNone, oSome, eMt, eMt0, isTyW, eNeg, negW, Res.bind_ok, List.length_cons, List.length_nil, List.map_cons, List.map_nil, List.cons_append, List.nil_append, List.replicate, List.getElem?_cons_zero, List.getElem?_cons_succ, List.set_cons_zero, List.set_cons_succ, if_true, if_false, Nat.sub_self, Nat.reduceSub, Nat.reduceAdd, sizeLine_eq, hlen, hmod, hix, basic_eq] <;> (try first | rfl | exact ⟨rfl, rfl⟩)) ?_
      exact ⟨.b w, r', hw w hwm, by show 1 ≤ most; exact hm1, hr', by simp [outF, finM, List.take_of_length_le, enc]⟩
    · have h1 : ¬ most = 1 := fun z => hb (.inl z)
      have h2 : ¬ c % 4 = 0 := fun z => hb (.inr z)
      have h3 : ¬ ((most : Int) = 1) := by omega
      obtain ⟨s, hs⟩ : ∃ s : Nat, 1 + c / 8 % ((most : Int) - 1) = (s : Int) := ⟨(1 + c / 8 % ((most : Int) - 1)).toNat, by
        have := Int.emod_nonneg (c / 8) (show (most : Int) - 1 ≠ 0 by omega)
        omega⟩
      have hsb : 1 ≤ s ∧ s ≤ most - 1 := by
        have h5 := Int.emod_nonneg (c / 8) (show (most : Int) - 1 ≠ 0 by omega)
        have h6 := Int.emod_lt_of_pos (c / 8) (show 0 < (most : Int) - 1 by omega)
        omega
      have hmod := modW_pos (m := m.set o (.lst (r'.map .int))) (i := c / 8) (j := (most : Int) - 1) (by omega)
      obtain ⟨f1, c1, wf1, sz1, n1, hF1⟩ := law_form hw hl n s hsb.1 (by omega) hs1 hr'
      have hs2 : (m.set o (.lst (c1.map .int)))[o]? = some (.lst (c1.map .int)) := List.getElem?_set_self hol
      obtain ⟨f2, c2, wf2, sz2, n2, hF2⟩ := law_form hw hl n (most - s) (by omega) (by omega) hs2 n1
      rw [List.set_set] at hF1 hF2
      have e4 : (most : Int) - (s : Int) = ((most - s : Nat) : Int) := by omega
      obtain ⟨t, ht⟩ := slash_at (i := c / 4 % 2) (by omega)
      have hix := ixW_str (m := m.set o (.lst (c1.map .int))) (l := [47, 92]) (by decide) ht
      rw [slash_S] at hix
      refine wp_sIfN (by simp [runF, env0, finM, sSeq, sNx, sIf, sRet, sAsg, asgK, gSet, sDrop, sAug, eS_ok, tBool, tTru, truW, eOp, eChain, eVar, eC, eFrz, eObj, aNil, aCons, eTup, eLst, asDs, eCall, eCallF, callM, noFl, tAndF, tOrF, tNotF, eAnd, eOr, eNot, eIsi, tyW, Tk.sub, eSl, oNone, oSome, eMt, eMt0, isTyW, eNeg, negW, Res.bind_ok, List.length_cons, List.length_nil, List.map_cons, List.map_nil, List.cons_append, List.nil_append, List.replicate, List.getElem?_cons_zero, List.getElem?_cons_succ, List.set_cons_zero, List.set_cons_succ, if_true, if_false, Nat.sub_self, Nat.reduceSub, Nat.reduceAdd, sizeLine_eq, h2, h3, ngB] <;> (try first | rfl | exact ⟨rfl, rfl⟩)) ?_
      refine wp_go (by simp [runF, env0, finM, sSeq, sNx, sIf, sRet, sAsg, asgK, gSet, sDrop, sAug, eS_ok, tBool, tTru, truW, eOp, eChain, eVar, eC, eFrz, eObj, aNil, aCons, eTup, eLst, asDs, eCall, eCallF, callM, noFl, tAndF, tOrF, tNotF, eAnd, eOr, eNot, eIsi, tyW, Tk.sub, eSl, oNone, oSome, eMt, eMt0, isTyW, eNeg, negW, Res.bind_ok, List.length_cons, List.length_nil, List.map_cons, List.map_nil, List.cons_append, List.nil_append, List.replicate, List.getElem?_cons_zero, List.getElem?_cons_succ, List.set_cons_zero, List.set_cons_succ, if_true, if_false, Nat.sub_self, Nat.reduceSub, Nat.reduceAdd, sizeLine_eq, hmod, hs] <;> (try first | rfl | exact ⟨rfl, rfl⟩)) ?_
      refine wp_go (by simp [runF, env0, finM, sSeq, sNx, sIf, sRet, sAsg, asgK, gSet, sDrop, sAug, eS_ok, tBool, tTru, truW, eOp, eChain, eVar, eC, eFrz, eObj, aNil, aCons, eTup, eLst, asDs, eCall, eCallF, callM, noFl, tAndF, tOrF, tNotF, eAnd, eOr, eNot, eIsi, tyW, Tk.sub, eSl, oNone, oSome, eMt, eMt0, isTyW, eNeg, negW, Res.bind_ok, List.length_cons, List.length_nil, List.map_cons, List.map_nil, List.cons_append, List.nil_append, List.replicate, List.getElem?_cons_zero, List.getElem?_cons_succ, List.set_cons_zero, List.set_cons_succ, if_true, if_false, Nat.sub_self, Nat.reduceSub, Nat.reduceAdd, sizeLine_eq, hF1] <;> (try first | rfl | exact ⟨rfl, rfl⟩)) ?_
      refine wp_ret (by simp [runF, env0, finM, sSeq, sNx, sIf, sRet, sAsg, asgK, gSet, sDrop, sAug, eS_ok, tBool, tTru, truW, eOp, eChain, eVar, eC, eFrz, eObj, aNil, aCons, eTup, eLst, asDs, eCall, eCallF, callM, noFl, tAndF, tOrF, tNotF, eAnd, eOr, eNot, eIsi, tyW, Tk.sub, eSl, oNone, oSome, eMt, eMt0, isTyW, eNeg, negW, Res.bind_ok, List.length_cons, List.length_nil, List.map_cons, List.map_nil, List.cons_append, List.nil_append, List.replicate, List.getElem?_cons_zero, List.getElem?_cons_succ, List.set_cons_zero, List.set_cons_succ, if_true, if_false, Nat.sub_self, Nat.reduceSub, Nat.reduceAdd, sizeLine_eq, e4, hF2, slash_eq, hix] <;> (try first | rfl | exact ⟨rfl, rfl⟩)) ?_
      exact ⟨.n t f1 f2, c2, ⟨wf1, wf2⟩, by show f1.size + f2.size ≤ most; omega, n2, by simp [outF, finM, List.take_of_length_le, enc]⟩

def Fm.parts : Fm → List Fm
  | .b w => [.b w]
  | .n s x y => .n s x y :: (x.parts ++ y.parts)
def kindD : Fm → D
  | .b w => .str (S w)
  | .n _ x y => .tuple [kindD y, kindD x]
theorem parts_len : ∀ f : Fm, f.parts.length + 1 = 2 * f.size
  | .b _ => rfl
  | .n _ x y => by
    have := parts_len x
    have := parts_len y
    simp only [Fm.parts, Fm.size, List.length_cons, List.length_append]
    omega
theorem parts_wf : ∀ {f : Fm}, f.wf → ∀ g ∈ f.parts, g.wf
  | .b _, h, g, hg => by rw [List.mem_singleton.mp hg]; exact h
  | .n s x y, h, g, hg => by
    rcases List.mem_cons.mp hg with e | hg
    · rw [e]; exact h
    · rcases List.mem_append.mp hg with e | e
      · exact parts_wf h.1 g e
      · exact parts_wf h.2 g e
theorem parts_size : ∀ {f : Fm}, ∀ g ∈ f.parts, g.size ≤ f.size
  | .b _, g, hg => by rw [List.mem_singleton.mp hg]; exact Nat.le_refl _
  | .n s x y, g, hg => by
    show g.size ≤ x.size + y.size
    rcases List.mem_cons.mp hg with e | hg
    · rw [e]; exact Nat.le_refl _
    · rcases List.mem_append.mp hg with e | e
      · have := parts_size g e; omega
      · have := parts_size g e; omega
theorem okC_basic : okC basicL = true := by decide
theorem okC_slash (s : Bool) : okC (slash s) = true := by cases s <;> decide
theorem slash_ne (s : Bool) : ¬ slash s = basicL := by cases s <;> decide
section
variable {m : Mem}
theorem eqBB : eqW false (.d (.str (S basicL))) (.d (.str (S basicL))) m = .ok (.d (.bool true)) m := by rw [eqW_str okC_basic okC_basic]; simp [ngB]
theorem eqSB (s : Bool) : eqW false (.d (.str (S (slash s)))) (.d (.str (S basicL))) m = .ok (.d (.bool false)) m := by rw [eqW_str (okC_slash s) okC_basic]; simp [ngB, slash_ne]
theorem neBB : eqW true (.d (.str (S basicL))) (.d (.str (S basicL))) m = .ok (.d (.bool false)) m := by rw [eqW_str okC_basic okC_basic]; simp [ngB]
theorem neSB (s : Bool) : eqW true (.d (.str (S (slash s)))) (.d (.str (S basicL))) m = .ok (.d (.bool true)) m := by rw [eqW_str (okC_slash s) okC_basic]; simp [ngB, slash_ne]
@[simp] theorem ixT0 (a : D) (r : List D) : ixW (.d (.tuple (a :: r))) (.d (.int 0)) m = .ok (.d a) m := ixW_tup (by simp)
@[simp] theorem ixT1 (a b : D) (r : List D) : ixW (.d (.tuple (a :: b :: r))) (.d (.int 1)) m = .ok (.d b) m := ixW_tup (by simp)
@[simp] theorem ixT2 (a b c : D) (r : List D) : ixW (.d (.tuple (a :: b :: c :: r))) (.d (.int 2)) m = .ok (.d c) m := ixW_tup (by simp)
end

end K03

set_option Elab.async false
set_option linter.all false
set_option maxRecDepth 100000
set_option maxHeartbeats 1000000
namespace K03
open PySem L2 M
/-! ### words and sizes of anything -/
def isWB (s : Str) : Bool := decide (1 ≤ s.cps.toList.length) && decide (s.cps.toList.length ≤ 8) && s.cps.toList.all fun c => decide (97 ≤ c ∧ c ≤ 122)
def isWD : D → Bool
  | .str s => isWB s
  | _ => false
theorem isWB_S (l : List Nat) : isWB (S l) = true ↔ isW l := by
  unfold isWB
  simp only [S_cps, Bool.and_eq_true, decide_eq_true_eq, List.all_eq_true]
  exact ⟨fun ⟨⟨h1, h2⟩, h3⟩ => ⟨of_decide_eq_true h1, of_decide_eq_true h2, h3⟩, fun h => ⟨⟨decide_eq_true h.lo, decide_eq_true h.hi⟩, h.ab⟩⟩
theorem mem_abc (c : Nat) : c ∈ abc ↔ 97 ≤ c ∧ c ≤ 122 := by
  constructor
  · intro h
    have : ∀ c ∈ abc, 97 ≤ c ∧ c ≤ 122 := by decide
    exact this c h
  · intro h
    have e := abc_get (show c - 97 < 26 by omega)
    have : c - 97 + 97 = c := by omega
    rw [this] at e
    exact List.mem_of_getElem? e
theorem inS_one (c : Nat) (l : List Nat) : inS (S [c]) (S l) = decide (c ∈ l) := rfl
theorem lets_eq : c_LETTERS = .str (S abc) := by unfold c_LETTERS; rw [abc_eq]
theorem one_S (c : Nat) : (⟨#[c]⟩ : Str) = S [c] := rfl
theorem lcM_strs {b : W → Mem → Res (Option D)} {f : Nat → D} {m : Mem} : ∀ {xs : List Nat} {acc : List D}, (∀ c ∈ xs, b (.d (.str (S [c]))) m = .ok (some (f c)) m) → acc.length + xs.length ≤ sizeLine → lcM yesM b (xs.map fun c => .d (.str (S [c]))) acc m = .ok (.fl (acc ++ xs.map f)) m
  | [], acc, _, _ => by simp [lcM, yesM]
  | x :: xs, acc, h, hl => by
    have hx := h x List.mem_cons_self
    simp only [List.length_cons] at hl
    simp only [List.map_cons, lcM, yesM, if_true, hx, Res.bind_ok]
    rw [if_pos (by omega), lcM_strs (f := f) (fun w hw => h w (List.mem_cons_of_mem _ hw)) (by simp; omega)]
    simp
theorem dBools_map' : ∀ bs : List Bool, dBools (bs.map .bool) = some bs
  | [] => rfl
  | b :: bs => by rw [List.map_cons, dBools, dBools_map' bs]; rfl
theorem allW_map (bs : List Bool) (m : Mem) : allW [.fl (bs.map .bool)] m = .ok (.d (.bool (bs.all id))) m := by
  simp [allW, lst1, asL, dBools_map']
theorem is_word_str (l : List Nat) (hl : l.length ≤ 100000) (m : Mem) : F_is_word [.d (.str (S l))] m = .ok (.d (.bool (isWB (S l)))) m := by
  refine run_wp (Q := fun r => r = .ok (.d (.bool (isWB (S l)))) m) ?_
  unfold m_is_word
  have hlen : lenW [.d (.str (S l))] m = .ok (.d (.int (l.length : Int))) m := by
    show (if (S l).length ≤ sizeLine then Res.ok (W.d (.int ((S l).length : Int))) m else .bad) = _
    rw [if_pos (show (S l).length ≤ sizeLine by rw [S_len, sizeLine_eq]; omega), S_len]
  by_cases h : 1 ≤ l.length ∧ l.length ≤ 8
  · have h1 : (1 : Int) ≤ (l.length : Int) := by omega
    have h2 : (l.length : Int) ≤ 8 := by omega
    refine wp_sIfN (by simp [runF, env0, finM, sSeq, sNx, sIf, sRet, sAsg, asgK, gSet, sDrop, sAug, eS_ok, tBool, tTru, truW, eOp, eChain, eVar, eC, eFrz, eObj, aNil, aCons, eTup, eLst, asDs, eCall, eCallF, callM, noFl, tAndF, tOrF, tNotF, eAnd, eOr, eNot, eIsi, tyW, Tk.sub, eSl, oNone, oSome, eMt, eMt0, isTyW, eNeg, negW, Res.bind_ok, List.length_cons, List.length_nil, List.map_cons, List.map_nil, List.cons_append, List.nil_append, List.replicate, List.getElem?_cons_zero, List.getElem?_cons_succ, List.set_cons_zero, List.set_cons_succ, if_true, if_false, Nat.sub_self, Nat.reduceSub, Nat.reduceAdd, sizeLine_eq, hlen, c_LONGEST, h1, h2] <;> (try first | rfl | exact ⟨rfl, rfl⟩)) ?_
    have hlc := lcM_strs (m := m) (b := lcB (gSet 1) tYesF (eOp (inW false) (eVar 1) (eC c_LETTERS)) [some (.d (.str (S l))), none]) (f := fun c => .bool (decide (97 ≤ c ∧ c ≤ 122))) (xs := l) (acc := []) (fun c hc => by
      simp [lcB, tYesF, runF, env0, finM, sSeq, sNx, sIf, sRet, sAsg, asgK, gSet, sDrop, sAug, eS_ok, tBool, tTru, truW, eOp, eChain, eVar, eC, eFrz, eObj, aNil, aCons, eTup, eLst, asDs, eCall, eCallF, callM, noFl, tAndF, tOrF, tNotF, eAnd, eOr, eNot, eIsi, tyW, Tk.sub, eSl, oNone, oSome, eMt, eMt0, isTyW, eNeg, negW, Res.bind_ok, List.length_cons, List.length_nil, List.map_cons, List.map_nil, List.cons_append, List.nil_append, List.replicate, List.getElem?_cons_zero, List.getElem?_cons_succ, List.set_cons_zero, List.set_cons_succ, if_true, if_false, Nat.sub_self, Nat.reduceSub, Nat.reduceAdd, sizeLine_eq, noErr, lets_eq, inW, inS_one, mem_abc, ngB]) (by simp [sizeLine_eq]; omega)
    have hm : l.map (fun c => PyData.bool (decide (97 ≤ c ∧ c ≤ 122))) = (l.map fun c => decide (97 ≤ c ∧ c ≤ 122)).map .bool := by simp
    have hall := allW_map (l.map fun c => decide (97 ≤ c ∧ c ≤ 122)) m
    rw [List.nil_append, hm] at hlc
    refine wp_ret (m1 := m) (w := .d (.bool (isWB (S l)))) (by
      simp [runF, env0, finM, sSeq, sNx, sIf, sRet, sAsg, asgK, gSet, sDrop, sAug, eS_ok, tBool, tTru, truW, eOp, eChain, eVar, eC, eFrz, eObj, aNil, aCons, eTup, eLst, asDs, eCall, eCallF, callM, noFl, tAndF, tOrF, tNotF, eAnd, eOr, eNot, eIsi, tyW, Tk.sub, eSl, oNone, oSome, eMt, eMt0, isTyW, eNeg, negW, Res.bind_ok, List.length_cons, List.length_nil, List.map_cons, List.map_nil, List.cons_append, List.nil_append, List.replicate, List.getElem?_cons_zero, List.getElem?_cons_succ, List.set_cons_zero, List.set_cons_succ, if_true, if_false, Nat.sub_self, Nat.reduceSub, Nat.reduceAdd, sizeLine_eq, eLc, iSeq, walkW, wipeE, one_S]
      rw [hlc]
      simp only [Res.bind_ok]
      rw [hall]
      unfold isWB
      simp [h.1, h.2, List.all_map]) ?_
    simp
  · have hf : isWB (S l) = false := by
      unfold isWB
      rw [S_cps]
      by_cases h1 : 1 ≤ l.length
      · have h2 : ¬ l.length ≤ 8 := fun z => h ⟨h1, z⟩
        simp [h2]
      · simp [h1]
    rw [hf]
    refine wp_sIfR (w := .d (.bool false)) (m1 := m) (m2 := m) (by
      by_cases h1 : 1 ≤ l.length
      · have h2 : ¬ (l.length : Int) ≤ 8 := by omega
        have h1 : (1 : Int) ≤ (l.length : Int) := by omega
        simp [runF, env0, finM, sSeq, sNx, sIf, sRet, sAsg, asgK, gSet, sDrop, sAug, eS_ok, tBool, tTru, truW, eOp, eChain, eVar, eC, eFrz, eObj, aNil, aCons, eTup, eLst, asDs, eCall, eCallF, callM, noFl, tAndF, tOrF, tNotF, eAnd, eOr, eNot, eIsi, tyW, Tk.sub, eSl, oNone, oSome, eMt, eMt0, isTyW, eNeg, negW, Res.bind_ok, List.length_cons, List.length_nil, List.map_cons, List.map_nil, List.cons_append, List.nil_append, List.replicate, List.getElem?_cons_zero, List.getElem?_cons_succ, List.set_cons_zero, List.set_cons_succ, if_true, if_false, Nat.sub_self, Nat.reduceSub, Nat.reduceAdd, sizeLine_eq, hlen, c_LONGEST, h1, h2]
      · have h1 : ¬ (1 : Int) ≤ (l.length : Int) := by omega
        simp [runF, env0, finM, sSeq, sNx, sIf, sRet, sAsg, asgK, gSet, sDrop, sAug, eS_ok, tBool, tTru, truW, eOp, eChain, eVar, eC, eFrz, eObj, aNil, aCons, eTup, eLst, asDs, eCall, eCallF, callM, noFl, tAndF, tOrF, tNotF, eAnd, eOr, eNot, eIsi, tyW, Tk.sub, eSl, oNone, oSome, eMt, eMt0, isTyW, eNeg, negW, Res.bind_ok, List.length_cons, List.length_nil, List.map_cons, List.map_nil, List.cons_append, List.nil_append, List.replicate, List.getElem?_cons_zero, List.getElem?_cons_succ, List.set_cons_zero, List.set_cons_succ, if_true, if_false, Nat.sub_self, Nat.reduceSub, Nat.reduceAdd, sizeLine_eq, hlen, c_LONGEST, h1]) (by simp [runF, env0, finM, sSeq, sNx, sIf, sRet, sAsg, asgK, gSet, sDrop, sAug, eS_ok, tBool, tTru, truW, eOp, eChain, eVar, eC, eFrz, eObj, aNil, aCons, eTup, eLst, asDs, eCall, eCallF, callM, noFl, tAndF, tOrF, tNotF, eAnd, eOr, eNot, eIsi, tyW, Tk.sub, eSl, oNone, oSome, eMt, eMt0, isTyW, eNeg, negW, Res.bind_ok, List.length_cons, List.length_nil, List.map_cons, List.map_nil, List.cons_append, List.nil_append, List.replicate, List.getElem?_cons_zero, List.getElem?_cons_succ, List.set_cons_zero, List.set_cons_succ, if_true, if_false, Nat.sub_self, Nat.reduceSub, Nat.reduceAdd, sizeLine_eq] <;> (try first | rfl | exact ⟨rfl, rfl⟩)) ?_
    simp
theorem is_word_ok (x : D) (hc : x.canLay0 = true) (hx : ∀ s, x = .str s → s.length ≤ 100000) (m : Mem) : F_is_word [.d x] m = .ok (.d (.bool (isWD x))) m := by
  cases x with
  | str s => exact is_word_str s.cps.toList (hx s rfl) m
  | dict kvs => simp [PyData.canLay0] at hc
  | _ =>
    refine run_wp (Q := fun r => r = .ok (.d (.bool false)) m) ?_
    unfold m_is_word
    refine wp_sIfR (by simp [runF, env0, finM, sSeq, sNx, sIf, sRet, sAsg, asgK, gSet, sDrop, sAug, eS_ok, tBool, tTru, truW, eOp, eChain, eVar, eC, eFrz, eObj, aNil, aCons, eTup, eLst, asDs, eCall, eCallF, callM, noFl, tAndF, tOrF, tNotF, eAnd, eOr, eNot, eIsi, tyW, Tk.sub, eSl, oNone, oSome, eMt, eMt0, isTyW, eNeg, negW, Res.bind_ok, List.length_cons, List.length_nil, List.map_cons, List.map_nil, List.cons_append, List.nil_append, List.replicate, List.getElem?_cons_zero, List.getElem?_cons_succ, List.set_cons_zero, List.set_cons_succ, if_true, if_false, Nat.sub_self, Nat.reduceSub, Nat.reduceAdd, sizeLine_eq] <;> (try first | rfl | exact ⟨rfl, rfl⟩)) (by simp [runF, env0, finM, sSeq, sNx, sIf, sRet, sAsg, asgK, gSet, sDrop, sAug, eS_ok, tBool, tTru, truW, eOp, eChain, eVar, eC, eFrz, eObj, aNil, aCons, eTup, eLst, asDs, eCall, eCallF, callM, noFl, tAndF, tOrF, tNotF, eAnd, eOr, eNot, eIsi, tyW, Tk.sub, eSl, oNone, oSome, eMt, eMt0, isTyW, eNeg, negW, Res.bind_ok, List.length_cons, List.length_nil, List.map_cons, List.map_nil, List.cons_append, List.nil_append, List.replicate, List.getElem?_cons_zero, List.getElem?_cons_succ, List.set_cons_zero, List.set_cons_succ, if_true, if_false, Nat.sub_self, Nat.reduceSub, Nat.reduceAdd, sizeLine_eq] <;> (try first | rfl | exact ⟨rfl, rfl⟩)) ?_
    simp
/-- the form that a thing is -/
def fmOf : D → Option Fm
  | .tuple [.str s, .str w] => if s = S basicL ∧ isWB w = true then some (.b w.cps.toList) else none
  | .tuple [.str s, x, y] => if s = S [47] ∨ s = S [92] then (fmOf x).bind fun f => (fmOf y).map fun g => .n (decide (s = S [92])) f g else none
  | _ => none
def fsz (x : D) (most : Nat) : Nat := match fmOf x with
  | some f => if f.size ≤ most then f.size else 0
  | none => 0
theorem fmOf_enc : ∀ {f : Fm}, f.wf → fmOf (enc f) = some f
  | .b w, h => by
    have := (isWB_S w).mpr h
    simp [enc, fmOf, this]
  | .n s x y, h => by
    have hx := fmOf_enc h.1
    have hy := fmOf_enc h.2
    cases s <;> simp [enc, fmOf, slash, hx, hy, S_inj]
/-- strings not too long, nothing that is no data of these kinds -/
def okS : Nat → D → Prop
  | 0, _ => True
  | n + 1, .tuple ds => ∀ d ∈ ds, okS n d
  | _, .str s => s.length ≤ 100000
  | _, _ => True
theorem canLay_of : ∀ {ds : List D}, PyData.canLayAll0 ds = true → ∀ d ∈ ds, d.canLay0 = true
  | [], _, d, hd => nomatch hd
  | e :: ds, h, d, hd => by
    simp only [PyData.canLayAll0, Bool.and_eq_true] at h
    rcases List.mem_cons.mp hd with rfl | hd
    · exact h.1
    · exact canLay_of h.2 d hd
theorem slashes_eq : c_SLASHES = .tuple [.str (S [47]), .str (S [92])] := by
  have h1 : Str.ofString "/" = S [47] := by decide +kernel
  have h2 : Str.ofString "\\" = S [92] := by decide +kernel
  unfold c_SLASHES
  rw [h1, h2]
theorem inSl {m : Mem} (neg : Bool) (s : Str) : inW neg (.d (.str s)) (.d c_SLASHES) m = .ok (.d (.bool (ngB neg (decide (s = S [47] ∨ s = S [92]))))) m := by
  rw [slashes_eq]
  simp only [inW]
  rw [if_pos (by simp [flatD])]
  congr 3
  by_cases h1 : s = S [47]
  · subst h1; simp
  · by_cases h2 : s = S [92]
    · subst h2; simp
    · have e1 : (S [47] == s) = false := beq_eq_false_iff_ne.mpr fun z => h1 z.symm
      have e2 : (S [92] == s) = false := beq_eq_false_iff_ne.mpr fun z => h2 z.symm
      simp [h1, h2, e1, e2]
theorem eqW_strD {m : Mem} {n : Bool} {a b : Str} (ha : PyData.strOk a = true) (hb : PyData.strOk b = true) : eqW n (.d (.str a)) (.d (.str b)) m = .ok (.d (.bool (ngB n (decide (a = b))))) m := by
  rw [S_eta a, S_eta b] at *
  rw [strOk_S] at ha hb
  rw [eqW_str ha hb]
  congr 3
  simp [S_inj]
theorem intW1_b (b : Bool) (m : Mem) : intW1 [.d (.bool b)] m = .ok (.d (.int (if b then 1 else 0))) m := rfl
def fsQ (m : Mem) (x : D) (most : Nat) (r : Res W) : Prop := r = .ok (.d (.int (fsz x most : Int))) m
theorem fsz_no {x : D} {most : Nat} (h : fmOf x = none) : fsz x most = 0 := by simp [fsz, h]
theorem fsz_zero (x : D) : fsz x 0 = 0 := by
  unfold fsz
  split
  · rename_i f _
    have := f.size_pos
    rw [if_neg (by omega)]
  · rfl
theorem fmOf_nonstr {a : D} {r : List D} (h : ∀ s, a ≠ .str s) : fmOf (.tuple (a :: r)) = none := by
  unfold fmOf
  split
  · rename_i s w e; cases e; exact absurd rfl (h s)
  · rename_i s x y e; cases e; exact absurd rfl (h s)
  · rfl
theorem fmOf_len {s : Str} {r : List D} (h1 : r.length ≠ 1) (h2 : r.length ≠ 2) : fmOf (.tuple (.str s :: r)) = none := by
  unfold fmOf
  split
  · rename_i s w e; cases e; exact absurd rfl h1
  · rename_i s x y e; cases e; exact absurd rfl h2
  · rfl
theorem fmOf_one {s : Str} {b : D} : fmOf (.tuple [.str s, b]) = if s = S basicL ∧ isWD b = true then (match b with | .str w => some (.b w.cps.toList) | _ => none) else none := by
  cases b with
  | str w => rw [fmOf]; rfl
  | _ => simp [fmOf, isWD]
theorem fmOf_two {s : Str} {x y : D} (h : ¬ (s = S [47] ∨ s = S [92])) : fmOf (.tuple [.str s, x, y]) = none := by
  simp [fmOf, h]
theorem basic_ns : ¬ (S basicL = S [47] ∨ S basicL = S [92]) := by
  rintro (h | h)
  · exact absurd (S_inj.mp h) (by decide)
  · exact absurd (S_inj.mp h) (by decide)
section
variable {n most : Nat} {m : Mem}
theorem fs_first {x : D} (h : fmOf x = none) (hc : (tOrF (tNotF (tTru (eIsi [.tup] (eVar 0)))) (tOrF (tBool (eOp ltW (eVar 1) (eC (.int 1)))) (tOrF (tBool (eOp (eqW false) (eCall lenW (aCons (eVar 0) aNil)) (eC (.int 0)))) (tNotF (tTru (eIsi [.str] (eOp ixW (eVar 0) (eC (.int 0)))))))))
    [some (.d x), some (.d (.int (most : Int))), none, none] m = .ok true m) : F_form_size (n + 1) [.d x, .d (.int (most : Int))] m = .ok (.d (.int (fsz x most : Int))) m := by
  refine run_wp (Q := fsQ m x most) ?_
  unfold m_form_size
  refine wp_sIfR hc (by simp [runF, env0, finM, sSeq, sNx, sIf, sRet, sAsg, asgK, gSet, sDrop, sAug, eS_ok, tBool, tTru, truW, eOp, eChain, eVar, eC, eFrz, eObj, aNil, aCons, eTup, eLst, asDs, eCall, eCallF, callM, noFl, tAndF, tOrF, tNotF, eAnd, eOr, eNot, eIsi, tyW, Tk.sub, eSl, oNone, oSome, eMt, eMt0, isTyW, eNeg, negW, Res.bind_ok, List.length_cons, List.length_nil, List.map_cons, List.map_nil, List.cons_append, List.nil_append, List.replicate, List.getElem?_cons_zero, List.getElem?_cons_succ, List.set_cons_zero, List.set_cons_succ, if_true, if_false, Nat.sub_self, Nat.reduceSub, Nat.reduceAdd, sizeLine_eq] <;> (try first | rfl | exact ⟨rfl, rfl⟩)) ?_
  rw [fsQ, fsz_no h]
  simp
theorem fs_zero {x : D} {r : List D} (h : x = .tuple r) : F_form_size (n + 1) [.d x, .d (.int ((0 : Nat) : Int))] m = .ok (.d (.int (fsz x 0 : Int))) m := by
  subst h
  refine run_wp (Q := fsQ m (.tuple r) 0) ?_
  unfold m_form_size
  refine wp_sIfR (w := .d (.int 0)) (m1 := m) (m2 := m) (by simp [runF, env0, finM, sSeq, sNx, sIf, sRet, sAsg, asgK, gSet, sDrop, sAug, eS_ok, tBool, tTru, truW, eOp, eChain, eVar, eC, eFrz, eObj, aNil, aCons, eTup, eLst, asDs, eCall, eCallF, callM, noFl, tAndF, tOrF, tNotF, eAnd, eOr, eNot, eIsi, tyW, Tk.sub, eSl, oNone, oSome, eMt, eMt0, isTyW, eNeg, negW, Res.bind_ok, List.length_cons, List.length_nil, List.map_cons, List.map_nil, List.cons_append, List.nil_append, List.replicate, List.getElem?_cons_zero, List.getElem?_cons_succ, List.set_cons_zero, List.set_cons_succ, if_true, if_false, Nat.sub_self, Nat.reduceSub, Nat.reduceAdd, sizeLine_eq]) (by simp [runF, env0, finM, sSeq, sNx, sIf, sRet, sAsg, asgK, gSet, sDrop, sAug, eS_ok, tBool, tTru, truW, eOp, eChain, eVar, eC, eFrz, eObj, aNil, aCons, eTup, eLst, asDs, eCall, eCallF, callM, noFl, tAndF, tOrF, tNotF, eAnd, eOr, eNot, eIsi, tyW, Tk.sub, eSl, oNone, oSome, eMt, eMt0, isTyW, eNeg, negW, Res.bind_ok, List.length_cons, List.length_nil, List.map_cons, List.map_nil, List.cons_append, List.nil_append, List.replicate, List.getElem?_cons_zero, List.getElem?_cons_succ, List.set_cons_zero, List.set_cons_succ, if_true, if_false, Nat.sub_self, Nat.reduceSub, Nat.reduceAdd, sizeLine_eq] <;> (try first | rfl | exact ⟨rfl, rfl⟩)) ?_
  rw [fsQ, fsz_zero]
  simp
theorem len_tup (ds : List D) : lenW [.d (.tuple ds)] m = .ok (.d (.int (ds.length : Int))) m := rfl
theorem strOk_of {s : Str} (h : (PyData.str s).canLay0 = true) : PyData.strOk s = true := by simpa [PyData.canLay0] using h
theorem strOk_basic : PyData.strOk (S basicL) = true := by rw [strOk_S]; exact okC_basic
theorem fs_basic {r : List D} (hm : most ≠ 0) (hc : PyData.canLayAll0 r = true) (hs : ∀ s, .str s ∈ r → s.length ≤ 100000) : F_form_size (n + 1) [.d (.tuple (.str (S basicL) :: r)), .d (.int (most : Int))] m = .ok (.d (.int (fsz (.tuple (.str (S basicL) :: r)) most : Int))) m := by
  have hm1 : ¬ (most : Int) < 1 := by omega
  have hm2 : ¬ ((r.length : Int) + 1 = 0) := by omega
  refine run_wp (Q := fsQ m (.tuple (.str (S basicL) :: r)) most) ?_
  unfold m_form_size
  refine wp_sIfN (by simp [runF, env0, finM, sSeq, sNx, sIf, sRet, sAsg, asgK, gSet, sDrop, sAug, eS_ok, tBool, tTru, truW, eOp, eChain, eVar, eC, eFrz, eObj, aNil, aCons, eTup, eLst, asDs, eCall, eCallF, callM, noFl, tAndF, tOrF, tNotF, eAnd, eOr, eNot, eIsi, tyW, Tk.sub, eSl, oNone, oSome, eMt, eMt0, isTyW, eNeg, negW, Res.bind_ok, List.length_cons, List.length_nil, List.map_cons, List.map_nil, List.cons_append, List.nil_append, List.replicate, List.getElem?_cons_zero, List.getElem?_cons_succ, List.set_cons_zero, List.set_cons_succ, if_true, if_false, Nat.sub_self, Nat.reduceSub, Nat.reduceAdd, sizeLine_eq, hm1, len_tup, hm2, ngB] <;> (try first | rfl | exact ⟨rfl, rfl⟩)) ?_
  by_cases h : r.length = 1
  · obtain ⟨b, rfl⟩ := List.length_eq_one_iff.mp h
    have hb := is_word_ok b (canLay_of hc b (by simp)) (fun s e => hs s (by simp [e])) m
    refine wp_sIfR (w := .d (.int (if isWD b then 1 else 0))) (m1 := m) (m2 := m) (by simp [runF, env0, finM, sSeq, sNx, sIf, sRet, sAsg, asgK, gSet, sDrop, sAug, eS_ok, tBool, tTru, truW, eOp, eChain, eVar, eC, eFrz, eObj, aNil, aCons, eTup, eLst, asDs, eCall, eCallF, callM, noFl, tAndF, tOrF, tNotF, eAnd, eOr, eNot, eIsi, tyW, Tk.sub, eSl, oNone, oSome, eMt, eMt0, isTyW, eNeg, negW, Res.bind_ok, List.length_cons, List.length_nil, List.map_cons, List.map_nil, List.cons_append, List.nil_append, List.replicate, List.getElem?_cons_zero, List.getElem?_cons_succ, List.set_cons_zero, List.set_cons_succ, if_true, if_false, Nat.sub_self, Nat.reduceSub, Nat.reduceAdd, sizeLine_eq, basic_eq, eqBB] <;> (try first | rfl | exact ⟨rfl, rfl⟩)) (by simp [runF, env0, finM, sSeq, sNx, sIf, sRet, sAsg, asgK, gSet, sDrop, sAug, eS_ok, tBool, tTru, truW, eOp, eChain, eVar, eC, eFrz, eObj, aNil, aCons, eTup, eLst, asDs, eCall, eCallF, callM, noFl, tAndF, tOrF, tNotF, eAnd, eOr, eNot, eIsi, tyW, Tk.sub, eSl, oNone, oSome, eMt, eMt0, isTyW, eNeg, negW, Res.bind_ok, List.length_cons, List.length_nil, List.map_cons, List.map_nil, List.cons_append, List.nil_append, List.replicate, List.getElem?_cons_zero, List.getElem?_cons_succ, List.set_cons_zero, List.set_cons_succ, if_true, if_false, Nat.sub_self, Nat.reduceSub, Nat.reduceAdd, sizeLine_eq, len_tup, ngB, hb, intW1_b] <;> (try first | rfl | exact ⟨rfl, rfl⟩)) ?_
    rw [fsQ]
    have e : (fsz (.tuple [.str (S basicL), b]) most : Int) = if isWD b then 1 else 0 := by
      unfold fsz
      rw [fmOf_one]
      cases b with
      | str w =>
        by_cases hw : isWB w = true
        · have : 1 ≤ most := by omega
          simp [isWD, hw, Fm.size, this]
        · simp [isWD, hw]
      | _ => simp [isWD]
    rw [e]
    simp
  · have h2 : ¬ ((r.length : Int) + 1 = 2) := by omega
    refine wp_sIfR (w := .d (.int 0)) (m1 := m) (m2 := m) (by simp [runF, env0, finM, sSeq, sNx, sIf, sRet, sAsg, asgK, gSet, sDrop, sAug, eS_ok, tBool, tTru, truW, eOp, eChain, eVar, eC, eFrz, eObj, aNil, aCons, eTup, eLst, asDs, eCall, eCallF, callM, noFl, tAndF, tOrF, tNotF, eAnd, eOr, eNot, eIsi, tyW, Tk.sub, eSl, oNone, oSome, eMt, eMt0, isTyW, eNeg, negW, Res.bind_ok, List.length_cons, List.length_nil, List.map_cons, List.map_nil, List.cons_append, List.nil_append, List.replicate, List.getElem?_cons_zero, List.getElem?_cons_succ, List.set_cons_zero, List.set_cons_succ, if_true, if_false, Nat.sub_self, Nat.reduceSub, Nat.reduceAdd, sizeLine_eq, basic_eq, eqBB] <;> (try first | rfl | exact ⟨rfl, rfl⟩)) (by simp [runF, env0, finM, sSeq, sNx, sIf, sRet, sAsg, asgK, gSet, sDrop, sAug, eS_ok, tBool, tTru, truW, eOp, eChain, eVar, eC, eFrz, eObj, aNil, aCons, eTup, eLst, asDs, eCall, eCallF, callM, noFl, tAndF, tOrF, tNotF, eAnd, eOr, eNot, eIsi, tyW, Tk.sub, eSl, oNone, oSome, eMt, eMt0, isTyW, eNeg, negW, Res.bind_ok, List.length_cons, List.length_nil, List.map_cons, List.map_nil, List.cons_append, List.nil_append, List.replicate, List.getElem?_cons_zero, List.getElem?_cons_succ, List.set_cons_zero, List.set_cons_succ, if_true, if_false, Nat.sub_self, Nat.reduceSub, Nat.reduceAdd, sizeLine_eq, len_tup, h2, ngB, intW1_b] <;> (try first | rfl | exact ⟨rfl, rfl⟩)) ?_
    rw [fsQ, fsz_no]
    · simp
    · by_cases h3 : r.length = 2
      · obtain ⟨x, y, rfl⟩ : ∃ x y, r = [x, y] := by
          match r, h3 with
          | [x, y], _ => exact ⟨x, y, rfl⟩
        exact fmOf_two basic_ns
      · exact fmOf_len h h3
theorem fs_odd {s : Str} {r : List D} (hm : most ≠ 0) (hs : PyData.strOk s = true) (hb : s ≠ S basicL) (h : r.length ≠ 2 ∨ ¬ (s = S [47] ∨ s = S [92])) : F_form_size (n + 1) [.d (.tuple (.str s :: r)), .d (.int (most : Int))] m = .ok (.d (.int (fsz (.tuple (.str s :: r)) most : Int))) m := by
  have hm1 : ¬ (most : Int) < 1 := by omega
  have hm2 : ¬ ((r.length : Int) + 1 = 0) := by omega
  have he := eqW_strD (m := m) (n := false) hs strOk_basic
  refine run_wp (Q := fsQ m (.tuple (.str s :: r)) most) ?_
  unfold m_form_size
  refine wp_sIfN (by simp [runF, env0, finM, sSeq, sNx, sIf, sRet, sAsg, asgK, gSet, sDrop, sAug, eS_ok, tBool, tTru, truW, eOp, eChain, eVar, eC, eFrz, eObj, aNil, aCons, eTup, eLst, asDs, eCall, eCallF, callM, noFl, tAndF, tOrF, tNotF, eAnd, eOr, eNot, eIsi, tyW, Tk.sub, eSl, oNone, oSome, eMt, eMt0, isTyW, eNeg, negW, Res.bind_ok, List.length_cons, List.length_nil, List.map_cons, List.map_nil, List.cons_append, List.nil_append, List.replicate, List.getElem?_cons_zero, List.getElem?_cons_succ, List.set_cons_zero, List.set_cons_succ, if_true, if_false, Nat.sub_self, Nat.reduceSub, Nat.reduceAdd, sizeLine_eq, hm1, len_tup, hm2, ngB] <;> (try first | rfl | exact ⟨rfl, rfl⟩)) ?_
  refine wp_sIfN (by simp [runF, env0, finM, sSeq, sNx, sIf, sRet, sAsg, asgK, gSet, sDrop, sAug, eS_ok, tBool, tTru, truW, eOp, eChain, eVar, eC, eFrz, eObj, aNil, aCons, eTup, eLst, asDs, eCall, eCallF, callM, noFl, tAndF, tOrF, tNotF, eAnd, eOr, eNot, eIsi, tyW, Tk.sub, eSl, oNone, oSome, eMt, eMt0, isTyW, eNeg, negW, Res.bind_ok, List.length_cons, List.length_nil, List.map_cons, List.map_nil, List.cons_append, List.nil_append, List.replicate, List.getElem?_cons_zero, List.getElem?_cons_succ, List.set_cons_zero, List.set_cons_succ, if_true, if_false, Nat.sub_self, Nat.reduceSub, Nat.reduceAdd, sizeLine_eq, basic_eq, he, hb, ngB] <;> (try first | rfl | exact ⟨rfl, rfl⟩)) ?_
  have hn : fmOf (.tuple (.str s :: r)) = none := by
    by_cases h1 : r.length = 1
    · obtain ⟨b, rfl⟩ := List.length_eq_one_iff.mp h1
      rw [fmOf_one]
      simp [hb]
    · by_cases h3 : r.length = 2
      · obtain ⟨x, y, rfl⟩ : ∃ x y, r = [x, y] := by
          match r, h3 with
          | [x, y], _ => exact ⟨x, y, rfl⟩
        exact fmOf_two (h.resolve_left fun z => z h3)
      · exact fmOf_len h1 h3
  refine wp_sIfR (w := .d (.int 0)) (m1 := m) (m2 := m) (by
    by_cases h2 : r.length = 2
    · have h2 : (r.length : Int) + 1 = 3 := by omega
      have h3 := h.resolve_left (fun z => z (by omega))
      simp [runF, env0, finM, sSeq, sNx, sIf, sRet, sAsg, asgK, gSet, sDrop, sAug, eS_ok, tBool, tTru, truW, eOp, eChain, eVar, eC, eFrz, eObj, aNil, aCons, eTup, eLst, asDs, eCall, eCallF, callM, noFl, tAndF, tOrF, tNotF, eAnd, eOr, eNot, eIsi, tyW, Tk.sub, eSl, oNone, oSome, eMt, eMt0, isTyW, eNeg, negW, Res.bind_ok, List.length_cons, List.length_nil, List.map_cons, List.map_nil, List.cons_append, List.nil_append, List.replicate, List.getElem?_cons_zero, List.getElem?_cons_succ, List.set_cons_zero, List.set_cons_succ, if_true, if_false, Nat.sub_self, Nat.reduceSub, Nat.reduceAdd, sizeLine_eq, len_tup, h2, ngB, inSl, h3]
    · have h2 : ¬ ((r.length : Int) + 1 = 3) := by omega
      simp [runF, env0, finM, sSeq, sNx, sIf, sRet, sAsg, asgK, gSet, sDrop, sAug, eS_ok, tBool, tTru, truW, eOp, eChain, eVar, eC, eFrz, eObj, aNil, aCons, eTup, eLst, asDs, eCall, eCallF, callM, noFl, tAndF, tOrF, tNotF, eAnd, eOr, eNot, eIsi, tyW, Tk.sub, eSl, oNone, oSome, eMt, eMt0, isTyW, eNeg, negW, Res.bind_ok, List.length_cons, List.length_nil, List.map_cons, List.map_nil, List.cons_append, List.nil_append, List.replicate, List.getElem?_cons_zero, List.getElem?_cons_succ, List.set_cons_zero, List.set_cons_succ, if_true, if_false, Nat.sub_self, Nat.reduceSub, Nat.reduceAdd, sizeLine_eq, len_tup, h2, ngB]) (by simp [runF, env0, finM, sSeq, sNx, sIf, sRet, sAsg, asgK, gSet, sDrop, sAug, eS_ok, tBool, tTru, truW, eOp, eChain, eVar, eC, eFrz, eObj, aNil, aCons, eTup, eLst, asDs, eCall, eCallF, callM, noFl, tAndF, tOrF, tNotF, eAnd, eOr, eNot, eIsi, tyW, Tk.sub, eSl, oNone, oSome, eMt, eMt0, isTyW, eNeg, negW, Res.bind_ok, List.length_cons, List.length_nil, List.map_cons, List.map_nil, List.cons_append, List.nil_append, List.replicate, List.getElem?_cons_zero, List.getElem?_cons_succ, List.set_cons_zero, List.set_cons_succ, if_true, if_false, Nat.sub_self, Nat.reduceSub, Nat.reduceAdd, sizeLine_eq] <;> (try first | rfl | exact ⟨rfl, rfl⟩)) ?_
  rw [fsQ, fsz_no hn]
  simp
theorem fs_node {s : Str} {x y : D} (hm : most ≠ 0) (hs : PyData.strOk s = true) (h : s = S [47] ∨ s = S [92])
    (ix : F_form_size n [.d x, .d (.int ((most - 1 : Nat) : Int))] m = .ok (.d (.int (fsz x (most - 1) : Int))) m)
    (iy : fsz x (most - 1) ≠ 0 → F_form_size n [.d y, .d (.int ((most - fsz x (most - 1) : Nat) : Int))] m = .ok (.d (.int (fsz y (most - fsz x (most - 1)) : Int))) m) :
    F_form_size (n + 1) [.d (.tuple [.str s, x, y]), .d (.int (most : Int))] m = .ok (.d (.int (fsz (.tuple [.str s, x, y]) most : Int))) m := by
  have hm1 : ¬ (most : Int) < 1 := by omega
  have hb : s ≠ S basicL := by rintro rfl; exact basic_ns h
  have he := eqW_strD (m := m) (n := false) hs strOk_basic
  have e1 : (most : Int) - 1 = ((most - 1 : Nat) : Int) := by omega
  have key : fsz (.tuple [.str s, x, y]) most = if fsz x (most - 1) = 0 then 0 else if fsz y (most - fsz x (most - 1)) = 0 then 0 else fsz x (most - 1) + fsz y (most - fsz x (most - 1)) := by
    have e : fmOf (.tuple [.str s, x, y]) = (fmOf x).bind fun f => (fmOf y).map fun g => .n (decide (s = S [92])) f g := by
      rw [fmOf]; rw [if_pos h]
    unfold fsz
    rw [e]
    cases hx : fmOf x with
    | none => simp
    | some f =>
      have pf := f.size_pos
      by_cases hf : f.size ≤ most - 1
      · cases hy : fmOf y with
        | none => simp
        | some g =>
          have pg := g.size_pos
          have nf : f.size ≠ 0 := by omega
          have ng : g.size ≠ 0 := by omega
          by_cases hg : g.size ≤ most - f.size
          · have : f.size + g.size ≤ most := by omega
            simp [hf, hg, nf, ng, Fm.size, this]
          · have : ¬ f.size + g.size ≤ most := by omega
            simp [hf, hg, nf, Fm.size, this]
      · cases hy : fmOf y with
        | none => simp [hf]
        | some g =>
          have pg := g.size_pos
          have : ¬ f.size + g.size ≤ most := by omega
          simp [hf, Fm.size, this]
  rw [key]
  obtain ⟨a, ha⟩ : ∃ a, a = fsz x (most - 1) := ⟨_, rfl⟩
  have hal : a ≤ most := by
    rw [ha]; unfold fsz
    split
    · split <;> omega
    · omega
  rw [← ha] at ix iy ⊢
  obtain ⟨b, hb'⟩ : ∃ b, b = fsz y (most - a) := ⟨_, rfl⟩
  rw [← hb'] at iy ⊢
  have e2 : (most : Int) - (a : Int) = ((most - a : Nat) : Int) := by omega
  refine run_wp (Q := fun r => r = .ok (.d (.int ((if a = 0 then 0 else if b = 0 then 0 else a + b : Nat) : Int))) m) ?_
  unfold m_form_size
  refine wp_sIfN (by simp [runF, env0, finM, sSeq, sNx, sIf, sRet, sAsg, asgK, gSet, sDrop, sAug, eS_ok, tBool, tTru, truW, eOp, eChain, eVar, eC, eFrz, eObj, aNil, aCons, eTup, eLst, asDs, eCall, eCallF, callM, noFl, tAndF, tOrF, tNotF, eAnd, eOr, eNot, eIsi, tyW, Tk.sub, eSl, oNone, oSome, eMt, eMt0, isTyW, eNeg, negW, Res.bind_ok, List.length_cons, List.length_nil, List.map_cons, List.map_nil, List.cons_append, List.nil_append, List.replicate, List.getElem?_cons_zero, List.getElem?_cons_succ, List.set_cons_zero, List.set_cons_succ, if_true, if_false, Nat.sub_self, Nat.reduceSub, Nat.reduceAdd, sizeLine_eq, hm1, len_tup, ngB] <;> (try first | rfl | exact ⟨rfl, rfl⟩)) ?_
  refine wp_sIfN (by simp [runF, env0, finM, sSeq, sNx, sIf, sRet, sAsg, asgK, gSet, sDrop, sAug, eS_ok, tBool, tTru, truW, eOp, eChain, eVar, eC, eFrz, eObj, aNil, aCons, eTup, eLst, asDs, eCall, eCallF, callM, noFl, tAndF, tOrF, tNotF, eAnd, eOr, eNot, eIsi, tyW, Tk.sub, eSl, oNone, oSome, eMt, eMt0, isTyW, eNeg, negW, Res.bind_ok, List.length_cons, List.length_nil, List.map_cons, List.map_nil, List.cons_append, List.nil_append, List.replicate, List.getElem?_cons_zero, List.getElem?_cons_succ, List.set_cons_zero, List.set_cons_succ, if_true, if_false, Nat.sub_self, Nat.reduceSub, Nat.reduceAdd, sizeLine_eq, basic_eq, he, hb, ngB] <;> (try first | rfl | exact ⟨rfl, rfl⟩)) ?_
  refine wp_sIfN (by simp [runF, env0, finM, sSeq, sNx, sIf, sRet, sAsg, asgK, gSet, sDrop, sAug, eS_ok, tBool, tTru, truW, eOp, eChain, eVar, eC, eFrz, eObj, aNil, aCons, eTup, eLst, asDs, eCall, eCallF, callM, noFl, tAndF, tOrF, tNotF, eAnd, eOr, eNot, eIsi, tyW, Tk.sub, eSl, oNone, oSome, eMt, eMt0, isTyW, eNeg, negW, Res.bind_ok, List.length_cons, List.length_nil, List.map_cons, List.map_nil, List.cons_append, List.nil_append, List.replicate, List.getElem?_cons_zero, List.getElem?_cons_succ, List.set_cons_zero, List.set_cons_succ, if_true, if_false, Nat.sub_self, Nat.reduceSub, Nat.reduceAdd, sizeLine_eq, len_tup, ngB, inSl, h] <;> (try first | rfl | exact ⟨rfl, rfl⟩)) ?_
  refine wp_go (by simp [runF, env0, finM, sSeq, sNx, sIf, sRet, sAsg, asgK, gSet, sDrop, sAug, eS_ok, tBool, tTru, truW, eOp, eChain, eVar, eC, eFrz, eObj, aNil, aCons, eTup, eLst, asDs, eCall, eCallF, callM, noFl, tAndF, tOrF, tNotF, eAnd, eOr, eNot, eIsi, tyW, Tk.sub, eSl, oNone, oSome, eMt, eMt0, isTyW, eNeg, negW, Res.bind_ok, List.length_cons, List.length_nil, List.map_cons, List.map_nil, List.cons_append, List.nil_append, List.replicate, List.getElem?_cons_zero, List.getElem?_cons_succ, List.set_cons_zero, List.set_cons_succ, if_true, if_false, Nat.sub_self, Nat.reduceSub, Nat.reduceAdd, sizeLine_eq, e1, ix] <;> (try first | rfl | exact ⟨rfl, rfl⟩)) ?_
  by_cases h1 : a = 0
  · have h1' : (a : Int) = 0 := by omega
    refine wp_sIfR (w := .d (.int 0)) (m1 := m) (m2 := m) (by simp [runF, env0, finM, sSeq, sNx, sIf, sRet, sAsg, asgK, gSet, sDrop, sAug, eS_ok, tBool, tTru, truW, eOp, eChain, eVar, eC, eFrz, eObj, aNil, aCons, eTup, eLst, asDs, eCall, eCallF, callM, noFl, tAndF, tOrF, tNotF, eAnd, eOr, eNot, eIsi, tyW, Tk.sub, eSl, oNone, oSome, eMt, eMt0, isTyW, eNeg, negW, Res.bind_ok, List.length_cons, List.length_nil, List.map_cons, List.map_nil, List.cons_append, List.nil_append, List.replicate, List.getElem?_cons_zero, List.getElem?_cons_succ, List.set_cons_zero, List.set_cons_succ, if_true, if_false, Nat.sub_self, Nat.reduceSub, Nat.reduceAdd, sizeLine_eq, h1', ngB] <;> (try first | rfl | exact ⟨rfl, rfl⟩)) (by simp [runF, env0, finM, sSeq, sNx, sIf, sRet, sAsg, asgK, gSet, sDrop, sAug, eS_ok, tBool, tTru, truW, eOp, eChain, eVar, eC, eFrz, eObj, aNil, aCons, eTup, eLst, asDs, eCall, eCallF, callM, noFl, tAndF, tOrF, tNotF, eAnd, eOr, eNot, eIsi, tyW, Tk.sub, eSl, oNone, oSome, eMt, eMt0, isTyW, eNeg, negW, Res.bind_ok, List.length_cons, List.length_nil, List.map_cons, List.map_nil, List.cons_append, List.nil_append, List.replicate, List.getElem?_cons_zero, List.getElem?_cons_succ, List.set_cons_zero, List.set_cons_succ, if_true, if_false, Nat.sub_self, Nat.reduceSub, Nat.reduceAdd, sizeLine_eq] <;> (try first | rfl | exact ⟨rfl, rfl⟩)) ?_
    simp [h1]
  · have h1' : ¬ (a : Int) = 0 := by omega
    refine wp_sIfN (by simp [runF, env0, finM, sSeq, sNx, sIf, sRet, sAsg, asgK, gSet, sDrop, sAug, eS_ok, tBool, tTru, truW, eOp, eChain, eVar, eC, eFrz, eObj, aNil, aCons, eTup, eLst, asDs, eCall, eCallF, callM, noFl, tAndF, tOrF, tNotF, eAnd, eOr, eNot, eIsi, tyW, Tk.sub, eSl, oNone, oSome, eMt, eMt0, isTyW, eNeg, negW, Res.bind_ok, List.length_cons, List.length_nil, List.map_cons, List.map_nil, List.cons_append, List.nil_append, List.replicate, List.getElem?_cons_zero, List.getElem?_cons_succ, List.set_cons_zero, List.set_cons_succ, if_true, if_false, Nat.sub_self, Nat.reduceSub, Nat.reduceAdd, sizeLine_eq, h1, h1', ngB] <;> (try first | rfl | exact ⟨rfl, rfl⟩)) ?_
    have iy := iy h1
    refine wp_go (by simp [runF, env0, finM, sSeq, sNx, sIf, sRet, sAsg, asgK, gSet, sDrop, sAug, eS_ok, tBool, tTru, truW, eOp, eChain, eVar, eC, eFrz, eObj, aNil, aCons, eTup, eLst, asDs, eCall, eCallF, callM, noFl, tAndF, tOrF, tNotF, eAnd, eOr, eNot, eIsi, tyW, Tk.sub, eSl, oNone, oSome, eMt, eMt0, isTyW, eNeg, negW, Res.bind_ok, List.length_cons, List.length_nil, List.map_cons, List.map_nil, List.cons_append, List.nil_append, List.replicate, List.getElem?_cons_zero, List.getElem?_cons_succ, List.set_cons_zero, List.set_cons_succ, if_true, if_false, Nat.sub_self, Nat.reduceSub, Nat.reduceAdd, sizeLine_eq, e2, iy] <;> (try first | rfl | exact ⟨rfl, rfl⟩)) ?_
    by_cases h2 : b = 0
    · have h2' : (b : Int) = 0 := by omega
      refine wp_sIfR (w := .d (.int 0)) (m1 := m) (m2 := m) (by simp [runF, env0, finM, sSeq, sNx, sIf, sRet, sAsg, asgK, gSet, sDrop, sAug, eS_ok, tBool, tTru, truW, eOp, eChain, eVar, eC, eFrz, eObj, aNil, aCons, eTup, eLst, asDs, eCall, eCallF, callM, noFl, tAndF, tOrF, tNotF, eAnd, eOr, eNot, eIsi, tyW, Tk.sub, eSl, oNone, oSome, eMt, eMt0, isTyW, eNeg, negW, Res.bind_ok, List.length_cons, List.length_nil, List.map_cons, List.map_nil, List.cons_append, List.nil_append, List.replicate, List.getElem?_cons_zero, List.getElem?_cons_succ, List.set_cons_zero, List.set_cons_succ, if_true, if_false, Nat.sub_self, Nat.reduceSub, Nat.reduceAdd, sizeLine_eq, h2', ngB] <;> (try first | rfl | exact ⟨rfl, rfl⟩)) (by simp [runF, env0, finM, sSeq, sNx, sIf, sRet, sAsg, asgK, gSet, sDrop, sAug, eS_ok, tBool, tTru, truW, eOp, eChain, eVar, eC, eFrz, eObj, aNil, aCons, eTup, eLst, asDs, eCall, eCallF, callM, noFl, tAndF, tOrF, tNotF, eAnd, eOr, eNot, eIsi, tyW, Tk.sub, eSl, oNone, oSome, eMt, eMt0, isTyW, eNeg, negW, Res.bind_ok, List.length_cons, List.length_nil, List.map_cons, List.map_nil, List.cons_append, List.nil_append, List.replicate, List.getElem?_cons_zero, List.getElem?_cons_succ, List.set_cons_zero, List.set_cons_succ, if_true, if_false, Nat.sub_self, Nat.reduceSub, Nat.reduceAdd, sizeLine_eq] <;> (try first | rfl | exact ⟨rfl, rfl⟩)) ?_
      simp [h2]
    · have h2' : ¬ (b : Int) = 0 := by omega
      refine wp_sIfN (by simp [runF, env0, finM, sSeq, sNx, sIf, sRet, sAsg, asgK, gSet, sDrop, sAug, eS_ok, tBool, tTru, truW, eOp, eChain, eVar, eC, eFrz, eObj, aNil, aCons, eTup, eLst, asDs, eCall, eCallF, callM, noFl, tAndF, tOrF, tNotF, eAnd, eOr, eNot, eIsi, tyW, Tk.sub, eSl, oNone, oSome, eMt, eMt0, isTyW, eNeg, negW, Res.bind_ok, List.length_cons, List.length_nil, List.map_cons, List.map_nil, List.cons_append, List.nil_append, List.replicate, List.getElem?_cons_zero, List.getElem?_cons_succ, List.set_cons_zero, List.set_cons_succ, if_true, if_false, Nat.sub_self, Nat.reduceSub, Nat.reduceAdd, sizeLine_eq, h2, h2', ngB] <;> (try first | rfl | exact ⟨rfl, rfl⟩)) ?_
      refine wp_ret (by simp [runF, env0, finM, sSeq, sNx, sIf, sRet, sAsg, asgK, gSet, sDrop, sAug, eS_ok, tBool, tTru, truW, eOp, eChain, eVar, eC, eFrz, eObj, aNil, aCons, eTup, eLst, asDs, eCall, eCallF, callM, noFl, tAndF, tOrF, tNotF, eAnd, eOr, eNot, eIsi, tyW, Tk.sub, eSl, oNone, oSome, eMt, eMt0, isTyW, eNeg, negW, Res.bind_ok, List.length_cons, List.length_nil, List.map_cons, List.map_nil, List.cons_append, List.nil_append, List.replicate, List.getElem?_cons_zero, List.getElem?_cons_succ, List.set_cons_zero, List.set_cons_succ, if_true, if_false, Nat.sub_self, Nat.reduceSub, Nat.reduceAdd, sizeLine_eq] <;> (try first | rfl | exact ⟨rfl, rfl⟩)) ?_
      simp [h1, h2]
end
theorem form_size_ok : ∀ (n most : Nat) (x : D) (m : Mem), most < n → x.canLay0 = true → okS n x → F_form_size n [.d x, .d (.int (most : Int))] m = .ok (.d (.int (fsz x most : Int))) m
  | 0, most, x, m, h, _, _ => by omega
  | n + 1, most, .tuple ds, m, hn, hc, hs => by
    by_cases h0 : most = 0
    · subst h0; exact fs_zero rfl
    have hm1 : ¬ (most : Int) < 1 := by omega
    have hca : PyData.canLayAll0 ds = true := by simpa [PyData.canLay0] using hc
    cases ds with
    | nil => exact fs_first (by simp [fmOf]) (by simp [runF, env0, finM, sSeq, sNx, sIf, sRet, sAsg, asgK, gSet, sDrop, sAug, eS_ok, tBool, tTru, truW, eOp, eChain, eVar, eC, eFrz, eObj, aNil, aCons, eTup, eLst, asDs, eCall, eCallF, callM, noFl, tAndF, tOrF, tNotF, eAnd, eOr, eNot, eIsi, tyW, Tk.sub, eSl, oNone, oSome, eMt, eMt0, isTyW, eNeg, negW, Res.bind_ok, List.length_cons, List.length_nil, List.map_cons, List.map_nil, List.cons_append, List.nil_append, List.replicate, List.getElem?_cons_zero, List.getElem?_cons_succ, List.set_cons_zero, List.set_cons_succ, if_true, if_false, Nat.sub_self, Nat.reduceSub, Nat.reduceAdd, sizeLine_eq, hm1, len_tup, ngB])
    | cons a r =>
      have hm2 : ¬ ((r.length : Int) + 1 = 0) := by omega
      have hcr : PyData.canLayAll0 r = true := by simp only [PyData.canLayAll0, Bool.and_eq_true] at hca; exact hca.2
      have hcA : a.canLay0 = true := by simp only [PyData.canLayAll0, Bool.and_eq_true] at hca; exact hca.1
      cases a with
      | str s =>
        have hso := strOk_of hcA
        by_cases hb : s = S basicL
        · subst hb
          refine fs_basic h0 hcr fun t ht => ?_
          have := hs (.str t) (List.mem_cons_of_mem _ ht)
          cases n with
          | zero => omega
          | succ n => exact this
        · by_cases h2 : r.length = 2 ∧ (s = S [47] ∨ s = S [92])
          · obtain ⟨h2, h3⟩ := h2
            obtain ⟨x, y, rfl⟩ : ∃ x y, r = [x, y] := by
              match r, h2 with
              | [x, y], _ => exact ⟨x, y, rfl⟩
            refine fs_node h0 hso h3 (form_size_ok n (most - 1) x m (by omega) (canLay_of hcr x (by simp)) (hs x (by simp))) ?_
            exact fun hz => form_size_ok n _ y m (by omega) (canLay_of hcr y (by simp)) (hs y (by simp))
          · exact fs_odd h0 hso hb (by
              by_cases h3 : r.length = 2
              · exact .inr fun z => h2 ⟨h3, z⟩
              · exact .inl h3)
      | dict kvs => simp [PyData.canLay0] at hcA
      | _ => exact fs_first (fmOf_nonstr (fun _ h => nomatch h)) (by simp [runF, env0, finM, sSeq, sNx, sIf, sRet, sAsg, asgK, gSet, sDrop, sAug, eS_ok, tBool, tTru, truW, eOp, eChain, eVar, eC, eFrz, eObj, aNil, aCons, eTup, eLst, asDs, eCall, eCallF, callM, noFl, tAndF, tOrF, tNotF, eAnd, eOr, eNot, eIsi, tyW, Tk.sub, eSl, oNone, oSome, eMt, eMt0, isTyW, eNeg, negW, Res.bind_ok, List.length_cons, List.length_nil, List.map_cons, List.map_nil, List.cons_append, List.nil_append, List.replicate, List.getElem?_cons_zero, List.getElem?_cons_succ, List.set_cons_zero, List.set_cons_succ, if_true, if_false, Nat.sub_self, Nat.reduceSub, Nat.reduceAdd, sizeLine_eq, hm1, len_tup, hm2, ngB])
  | n + 1, most, .none, m, hn, hc, hs => fs_first (by simp [fmOf]) (by simp [runF, env0, finM, sSeq, sNx, sIf, sRet, sAsg, asgK, gSet, sDrop, sAug, eS_ok, tBool, tTru, truW, eOp, eChain, eVar, eC, eFrz, eObj, aNil, aCons, eTup, eLst, asDs, eCall, eCallF, callM, noFl, tAndF, tOrF, tNotF, eAnd, eOr, eNot, eIsi, tyW, Tk.sub, eSl, oNone, oSome, eMt, eMt0, isTyW, eNeg, negW, Res.bind_ok, List.length_cons, List.length_nil, List.map_cons, List.map_nil, List.cons_append, List.nil_append, List.replicate, List.getElem?_cons_zero, List.getElem?_cons_succ, List.set_cons_zero, List.set_cons_succ, if_true, if_false, Nat.sub_self, Nat.reduceSub, Nat.reduceAdd, sizeLine_eq])
  | n + 1, most, .bool _, m, hn, hc, hs => fs_first (by simp [fmOf]) (by simp [runF, env0, finM, sSeq, sNx, sIf, sRet, sAsg, asgK, gSet, sDrop, sAug, eS_ok, tBool, tTru, truW, eOp, eChain, eVar, eC, eFrz, eObj, aNil, aCons, eTup, eLst, asDs, eCall, eCallF, callM, noFl, tAndF, tOrF, tNotF, eAnd, eOr, eNot, eIsi, tyW, Tk.sub, eSl, oNone, oSome, eMt, eMt0, isTyW, eNeg, negW, Res.bind_ok, List.length_cons, List.length_nil, List.map_cons, List.map_nil, List.cons_append, List.nil_append, List.replicate, List.getElem?_cons_zero, List.getElem?_cons_succ, List.set_cons_zero, List.set_cons_succ, if_true, if_false, Nat.sub_self, Nat.reduceSub, Nat.reduceAdd, sizeLine_eq])
  | n + 1, most, .int _, m, hn, hc, hs => fs_first (by simp [fmOf]) (by simp [runF, env0, finM, sSeq, sNx, sIf, sRet, sAsg, asgK, gSet, sDrop, sAug, eS_ok, tBool, tTru, truW, eOp, eChain, eVar, eC, eFrz, eObj, aNil, aCons, eTup, eLst, asDs, eCall, eCallF, callM, noFl, tAndF, tOrF, tNotF, eAnd, eOr, eNot, eIsi, tyW, Tk.sub, eSl, oNone, oSome, eMt, eMt0, isTyW, eNeg, negW, Res.bind_ok, List.length_cons, List.length_nil, List.map_cons, List.map_nil, List.cons_append, List.nil_append, List.replicate, List.getElem?_cons_zero, List.getElem?_cons_succ, List.set_cons_zero, List.set_cons_succ, if_true, if_false, Nat.sub_self, Nat.reduceSub, Nat.reduceAdd, sizeLine_eq])
  | n + 1, most, .str _, m, hn, hc, hs => fs_first (by simp [fmOf]) (by simp [runF, env0, finM, sSeq, sNx, sIf, sRet, sAsg, asgK, gSet, sDrop, sAug, eS_ok, tBool, tTru, truW, eOp, eChain, eVar, eC, eFrz, eObj, aNil, aCons, eTup, eLst, asDs, eCall, eCallF, callM, noFl, tAndF, tOrF, tNotF, eAnd, eOr, eNot, eIsi, tyW, Tk.sub, eSl, oNone, oSome, eMt, eMt0, isTyW, eNeg, negW, Res.bind_ok, List.length_cons, List.length_nil, List.map_cons, List.map_nil, List.cons_append, List.nil_append, List.replicate, List.getElem?_cons_zero, List.getElem?_cons_succ, List.set_cons_zero, List.set_cons_succ, if_true, if_false, Nat.sub_self, Nat.reduceSub, Nat.reduceAdd, sizeLine_eq])
  | n + 1, most, .list _, m, hn, hc, hs => fs_first (by simp [fmOf]) (by simp [runF, env0, finM, sSeq, sNx, sIf, sRet, sAsg, asgK, gSet, sDrop, sAug, eS_ok, tBool, tTru, truW, eOp, eChain, eVar, eC, eFrz, eObj, aNil, aCons, eTup, eLst, asDs, eCall, eCallF, callM, noFl, tAndF, tOrF, tNotF, eAnd, eOr, eNot, eIsi, tyW, Tk.sub, eSl, oNone, oSome, eMt, eMt0, isTyW, eNeg, negW, Res.bind_ok, List.length_cons, List.length_nil, List.map_cons, List.map_nil, List.cons_append, List.nil_append, List.replicate, List.getElem?_cons_zero, List.getElem?_cons_succ, List.set_cons_zero, List.set_cons_succ, if_true, if_false, Nat.sub_self, Nat.reduceSub, Nat.reduceAdd, sizeLine_eq])
  | n + 1, most, .dict _, m, hn, hc, hs => by simp [PyData.canLay0] at hc

end K03

set_option Elab.async false
set_option linter.all false
set_option maxRecDepth 100000
set_option maxHeartbeats 1000000
namespace K03
open PySem L2 M
/-! ### all are forms -/
theorem okS_enc : ∀ {f : Fm} (n : Nat), f.wf → okS n (enc f)
  | f, 0, _ => trivial
  | .b w, n + 1, h => fun d hd => by
    rcases List.mem_cons.mp hd with e | e
    · rw [e]; cases n <;> first | trivial | (show (S basicL).length ≤ 100000; decide)
    · rw [List.mem_singleton.mp e]
      have := isW.hi h
      cases n with
      | zero => trivial
      | succ n => show w.length ≤ 100000; omega
  | .n s x y, n + 1, h => fun d hd => by
    rcases List.mem_cons.mp hd with e | e
    · rw [e]
      cases n with
      | zero => trivial
      | succ n => show (slash s).length ≤ 100000; rw [show (slash s).length = 1 by cases s <;> rfl]; omega
    · rcases List.mem_cons.mp e with e | e
      · rw [e]; exact okS_enc n h.1
      · rw [List.mem_singleton.mp e]; exact okS_enc n h.2
theorem can_enc : ∀ {f : Fm}, f.wf → (enc f).canLay0 = true
  | .b w, h => by
    have h1 : PyData.strOk (S basicL) = true := strOk_basic
    have h2 : PyData.strOk (S w) = true := by rw [strOk_S]; exact isW.okC h
    simp [enc, PyData.canLay0, PyData.canLayAll0, h1, h2]
  | .n s x y, h => by
    have h1 : PyData.strOk (S (slash s)) = true := by rw [strOk_S]; exact okC_slash s
    have h2 := can_enc h.1
    have h3 := can_enc h.2
    simp [enc, PyData.canLay0, PyData.canLayAll0, h1, h2, h3]
theorem is_form_ok {x : D} {m : Mem} (hc : x.canLay0 = true) (hs : okS 40 x) : F_is_form [.d x] m = .ok (.d (.bool (decide (0 < fsz x 12)))) m := by
  have h := form_size_ok 40 12 x m (by omega) hc hs
  have h : F_form_size 40 [.d x, .d (.int 12)] m = .ok (.d (.int (fsz x 12 : Int))) m := h
  refine run_wp (Q := fun r => r = .ok (.d (.bool (decide (0 < fsz x 12)))) m) ?_
  unfold m_is_form
  refine wp_ret (by simp [runF, env0, finM, sSeq, sNx, sIf, sRet, sAsg, asgK, gSet, sDrop, sAug, eS_ok, tBool, tTru, truW, eOp, eChain, eVar, eC, eFrz, eObj, aNil, aCons, eTup, eLst, asDs, eCall, eCallF, callM, noFl, tAndF, tOrF, tNotF, eAnd, eOr, eNot, eIsi, tyW, Tk.sub, eSl, oNone, oSome, eMt, eMt0, isTyW, eNeg, negW, Res.bind_ok, List.length_cons, List.length_nil, List.map_cons, List.map_nil, List.cons_append, List.nil_append, List.replicate, List.getElem?_cons_zero, List.getElem?_cons_succ, List.set_cons_zero, List.set_cons_succ, if_true, if_false, Nat.sub_self, Nat.reduceSub, Nat.reduceAdd, sizeLine_eq, c_MOST_BASICS, h] <;> (try first | rfl | exact ⟨rfl, rfl⟩)) ?_
  simp
theorem fsz_enc {f : Fm} (h : f.wf) (hs : f.size ≤ 12) : fsz (enc f) 12 = f.size := by
  unfold fsz
  rw [fmOf_enc h]
  simp [hs]
theorem is_form_enc {f : Fm} {m : Mem} (h : f.wf) (hs : f.size ≤ 12) : F_is_form [.d (enc f)] m = .ok (.d (.bool true)) m := by
  rw [is_form_ok (can_enc h) (okS_enc 40 h), fsz_enc h hs]
  have := f.size_pos
  have h0 : 0 < f.size := by omega
  simp [h0]

/-! ### nice things -/
def nice (x : D) : Prop := x.canLay0 = true ∧ ∀ n, okS n x
theorem nice_enc {f : Fm} (h : f.wf) : nice (enc f) := ⟨can_enc h, fun n => okS_enc n h⟩
theorem nice_str {s : Str} (h : PyData.strOk s = true) (hl : s.length ≤ 100000) : nice (.str s) := ⟨by simpa [PyData.canLay0] using h, fun n => by
  cases n with
  | zero => trivial
  | succ n => exact hl⟩
theorem canAll_of : ∀ {ds : List D}, (∀ d ∈ ds, d.canLay0 = true) → PyData.canLayAll0 ds = true
  | [], _ => by simp [PyData.canLayAll0]
  | d :: ds, h => by
    simp only [PyData.canLayAll0, Bool.and_eq_true]
    exact ⟨h d List.mem_cons_self, canAll_of fun e he => h e (List.mem_cons_of_mem _ he)⟩
theorem nice_tup {ds : List D} (h : ∀ d ∈ ds, nice d) : nice (.tuple ds) := ⟨by
  simp only [PyData.canLay0]
  exact canAll_of fun d hd => (h d hd).1, fun n => by
  cases n with
  | zero => trivial
  | succ n => exact fun d hd => (h d hd).2 n⟩
theorem nice_tup_mem {ds : List D} (h : nice (.tuple ds)) : ∀ d ∈ ds, nice d := fun d hd => ⟨canLay_of (by simpa [PyData.canLay0] using h.1) d hd, fun n => h.2 (n + 1) d hd⟩
theorem nice_list {ds : List D} (h : ∀ d ∈ ds, nice d) : nice (.list ds) := ⟨by
  simp only [PyData.canLay0]
  exact canAll_of fun d hd => (h d hd).1, fun n => by cases n <;> trivial⟩
theorem nice_strOk {s : Str} (h : nice (.str s)) : PyData.strOk s = true ∧ s.length ≤ 100000 := ⟨strOk_of h.1, h.2 1⟩
def nd : D → Nat
  | .tuple [_, b, c] => 1 + nd b + nd c
  | _ => 1
theorem nd_pos (x : D) : 1 ≤ nd x := by
  unfold nd
  split <;> omega
def ndS : List D → Nat
  | [] => 0
  | x :: r => nd x + ndS r
theorem ndS_app : ∀ a b : List D, ndS (a ++ b) = ndS a + ndS b
  | [], b => by simp [ndS]
  | x :: a, b => by simp only [List.cons_append, ndS, ndS_app a b]; omega
theorem len_ndS : ∀ a : List D, a.length ≤ ndS a
  | [] => Nat.le_refl _
  | x :: a => by have := nd_pos x; have := len_ndS a; simp only [List.length_cons, ndS]; omega
def valS : List D → Option Nat
  | [] => some 0
  | x :: r => (fmOf x).bind fun f => (valS r).map (f.size + ·)
theorem valS_app : ∀ a b : List D, valS (a ++ b) = (valS a).bind fun x => (valS b).map (x + ·)
  | [], b => by
    simp only [List.nil_append, valS, Option.bind_some]
    cases valS b <;> simp
  | x :: a, b => by
    simp only [List.cons_append, valS, valS_app a b]
    cases fmOf x with
    | none => simp
    | some f => cases valS a with
      | none => simp
      | some k => cases valS b with
        | none => simp
        | some j => simp; omega
def dueB (st : List D) (c : Nat) : Bool := match valS st with
  | some k => decide (c + k ≤ 12)
  | none => false
theorem dueB_no {st : List D} {x : D} {c : Nat} (h : fmOf x = none) : dueB (st ++ [x]) c = false := by
  unfold dueB
  rw [valS_app]
  have : valS [x] = none := by simp [valS, h]
  rw [this]
  cases valS st <;> rfl
theorem dueB_node {st : List D} {s : Str} {y z : D} {c : Nat} (h : s = S [47] ∨ s = S [92]) : dueB (st ++ [.tuple [.str s, y, z]]) c = dueB (st ++ [y, z]) c := by
  unfold dueB
  rw [valS_app, valS_app]
  have e : fmOf (.tuple [.str s, y, z]) = (fmOf y).bind fun f => (fmOf z).map fun g => .n (decide (s = S [92])) f g := by
    rw [fmOf]; rw [if_pos h]
  have : valS [.tuple [.str s, y, z]] = valS [y, z] := by
    simp only [valS, e]
    cases fmOf y with
    | none => rfl
    | some f => cases fmOf z with
      | none => rfl
      | some g => simp [Fm.size]
  rw [this]
theorem dueB_basic {st : List D} {w : Str} {c : Nat} (h : isWB w = true) : dueB (st ++ [.tuple [.str (S basicL), .str w]]) c = dueB st (c + 1) := by
  unfold dueB
  rw [valS_app]
  have : valS [.tuple [.str (S basicL), .str w]] = some 1 := by simp [valS, fmOf, h, Fm.size]
  rw [this]
  cases valS st with
  | none => rfl
  | some k => simp; omega
theorem dueB_one (x : D) : dueB [x] 0 = decide (0 < fsz x 12) := by
  unfold dueB fsz
  simp only [valS]
  cases fmOf x with
  | none => rfl
  | some f =>
    have := f.size_pos
    by_cases h : f.size ≤ 12
    · have h0 : 0 < f.size := by omega
      simp [h, h0]
    · simp [h]
theorem law_is_word_str (l : List Nat) (hl : l.length ≤ 100000) (m : Mem) : F__law_is_word [.d (.str (S l))] m = .ok (.d (.bool (isWB (S l)))) m := by
  refine run_wp (Q := fun r => r = .ok (.d (.bool (isWB (S l)))) m) ?_
  unfold m__law_is_word
  have hlen : lenW [.d (.str (S l))] m = .ok (.d (.int (l.length : Int))) m := by
    show (if (S l).length ≤ sizeLine then Res.ok (W.d (.int ((S l).length : Int))) m else .bad) = _
    rw [if_pos (show (S l).length ≤ sizeLine by rw [S_len, sizeLine_eq]; omega), S_len]
  by_cases h : 1 ≤ l.length ∧ l.length ≤ 8
  · have h1 : (1 : Int) ≤ (l.length : Int) := by omega
    have h2 : (l.length : Int) ≤ 8 := by omega
    refine wp_sIfN (by simp [runF, env0, finM, sSeq, sNx, sIf, sRet, sAsg, asgK, gSet, sDrop, sAug, eS_ok, tBool, tTru, truW, eOp, eChain, eVar, eC, eFrz, eObj, aNil, aCons, eTup, eLst, asDs, eCall, eCallF, callM, noFl, tAndF, tOrF, tNotF, eAnd, eOr, eNot, eIsi, tyW, Tk.sub, eSl, oNone, oSome, eMt, eMt0, isTyW, eNeg, negW, Res.bind_ok, List.length_cons, List.length_nil, List.map_cons, List.map_nil, List.cons_append, List.nil_append, List.replicate, List.getElem?_cons_zero, List.getElem?_cons_succ, List.set_cons_zero, List.set_cons_succ, if_true, if_false, Nat.sub_self, Nat.reduceSub, Nat.reduceAdd, sizeLine_eq, hlen, h1, h2] <;> (try first | rfl | exact ⟨rfl, rfl⟩)) ?_
    have hlc := lcM_strs (m := m) (b := lcB (gSet 1) tYesF (eOp (inW false) (eVar 1) (eC (.str (Str.ofString "abcdefghijklmnopqrstuvwxyz")))) [some (.d (.str (S l))), none]) (f := fun c => .bool (decide (97 ≤ c ∧ c ≤ 122))) (xs := l) (acc := []) (fun c hc => by
      simp [lcB, tYesF, runF, env0, finM, sSeq, sNx, sIf, sRet, sAsg, asgK, gSet, sDrop, sAug, eS_ok, tBool, tTru, truW, eOp, eChain, eVar, eC, eFrz, eObj, aNil, aCons, eTup, eLst, asDs, eCall, eCallF, callM, noFl, tAndF, tOrF, tNotF, eAnd, eOr, eNot, eIsi, tyW, Tk.sub, eSl, oNone, oSome, eMt, eMt0, isTyW, eNeg, negW, Res.bind_ok, List.length_cons, List.length_nil, List.map_cons, List.map_nil, List.cons_append, List.nil_append, List.replicate, List.getElem?_cons_zero, List.getElem?_cons_succ, List.set_cons_zero, List.set_cons_succ, if_true, if_false, Nat.sub_self, Nat.reduceSub, Nat.reduceAdd, sizeLine_eq, noErr, abc_eq, inW, inS_one, mem_abc, ngB]) (by simp [sizeLine_eq]; omega)
    have hm : l.map (fun c => PyData.bool (decide (97 ≤ c ∧ c ≤ 122))) = (l.map fun c => decide (97 ≤ c ∧ c ≤ 122)).map .bool := by simp
    have hall := allW_map (l.map fun c => decide (97 ≤ c ∧ c ≤ 122)) m
    rw [List.nil_append, hm] at hlc
    refine wp_ret (m1 := m) (w := .d (.bool (isWB (S l)))) (by
      simp [runF, env0, finM, sSeq, sNx, sIf, sRet, sAsg, asgK, gSet, sDrop, sAug, eS_ok, tBool, tTru, truW, eOp, eChain, eVar, eC, eFrz, eObj, aNil, aCons, eTup, eLst, asDs, eCall, eCallF, callM, noFl, tAndF, tOrF, tNotF, eAnd, eOr, eNot, eIsi, tyW, Tk.sub, eSl, oNone, oSome, eMt, eMt0, isTyW, eNeg, negW, Res.bind_ok, List.length_cons, List.length_nil, List.map_cons, List.map_nil, List.cons_append, List.nil_append, List.replicate, List.getElem?_cons_zero, List.getElem?_cons_succ, List.set_cons_zero, List.set_cons_succ, if_true, if_false, Nat.sub_self, Nat.reduceSub, Nat.reduceAdd, sizeLine_eq, eLc, iSeq, walkW, wipeE, one_S]
      rw [hlc]
      simp only [Res.bind_ok]
      rw [hall]
      unfold isWB
      simp [h.1, h.2, List.all_map]) ?_
    simp
  · have hf : isWB (S l) = false := by
      unfold isWB
      rw [S_cps]
      by_cases h1 : 1 ≤ l.length
      · have h2 : ¬ l.length ≤ 8 := fun z => h ⟨h1, z⟩
        simp [h2]
      · simp [h1]
    rw [hf]
    refine wp_sIfR (w := .d (.bool false)) (m1 := m) (m2 := m) (by
      by_cases h1 : 1 ≤ l.length
      · have h2 : ¬ (l.length : Int) ≤ 8 := by omega
        have h1 : (1 : Int) ≤ (l.length : Int) := by omega
        simp [runF, env0, finM, sSeq, sNx, sIf, sRet, sAsg, asgK, gSet, sDrop, sAug, eS_ok, tBool, tTru, truW, eOp, eChain, eVar, eC, eFrz, eObj, aNil, aCons, eTup, eLst, asDs, eCall, eCallF, callM, noFl, tAndF, tOrF, tNotF, eAnd, eOr, eNot, eIsi, tyW, Tk.sub, eSl, oNone, oSome, eMt, eMt0, isTyW, eNeg, negW, Res.bind_ok, List.length_cons, List.length_nil, List.map_cons, List.map_nil, List.cons_append, List.nil_append, List.replicate, List.getElem?_cons_zero, List.getElem?_cons_succ, List.set_cons_zero, List.set_cons_succ, if_true, if_false, Nat.sub_self, Nat.reduceSub, Nat.reduceAdd, sizeLine_eq, hlen, h1, h2]
      · have h1 : ¬ (1 : Int) ≤ (l.length : Int) := by omega
        simp [runF, env0, finM, sSeq, sNx, sIf, sRet, sAsg, asgK, gSet, sDrop, sAug, eS_ok, tBool, tTru, truW, eOp, eChain, eVar, eC, eFrz, eObj, aNil, aCons, eTup, eLst, asDs, eCall, eCallF, callM, noFl, tAndF, tOrF, tNotF, eAnd, eOr, eNot, eIsi, tyW, Tk.sub, eSl, oNone, oSome, eMt, eMt0, isTyW, eNeg, negW, Res.bind_ok, List.length_cons, List.length_nil, List.map_cons, List.map_nil, List.cons_append, List.nil_append, List.replicate, List.getElem?_cons_zero, List.getElem?_cons_succ, List.set_cons_zero, List.set_cons_succ, if_true, if_false, Nat.sub_self, Nat.reduceSub, Nat.reduceAdd, sizeLine_eq, hlen, h1]) (by simp [runF, env0, finM, sSeq, sNx, sIf, sRet, sAsg, asgK, gSet, sDrop, sAug, eS_ok, tBool, tTru, truW, eOp, eChain, eVar, eC, eFrz, eObj, aNil, aCons, eTup, eLst, asDs, eCall, eCallF, callM, noFl, tAndF, tOrF, tNotF, eAnd, eOr, eNot, eIsi, tyW, Tk.sub, eSl, oNone, oSome, eMt, eMt0, isTyW, eNeg, negW, Res.bind_ok, List.length_cons, List.length_nil, List.map_cons, List.map_nil, List.cons_append, List.nil_append, List.replicate, List.getElem?_cons_zero, List.getElem?_cons_succ, List.set_cons_zero, List.set_cons_succ, if_true, if_false, Nat.sub_self, Nat.reduceSub, Nat.reduceAdd, sizeLine_eq] <;> (try first | rfl | exact ⟨rfl, rfl⟩)) ?_
    simp
section
variable {m : Mem} {X0 o : Option W} {c : Nat} {A : List D} {Q : En → Mem → Prop} {R : W → Mem → Prop}
theorem pop_last (A : List D) (x : D) : popW (.obj m.length) [] (m ++ [.lst (A ++ [x])]) = .ok (.d x) (m ++ [.lst A]) := by
  simp [popW, asO]
theorem in23 (n : Int) : inW true (.d (.int n)) (.d (.tuple [.int 2, .int 3])) m = .ok (.d (.bool (!(decide (2 = n) || decide (3 = n))))) m := by
  simp [inW, flatD, ngB]
  rfl
theorem tupLen (ds : List D) : lenW [.d (.tuple ds)] m = .ok (.d (.int (ds.length : Int))) m := rfl
/-- turned down at the first look -/
theorem due_no1 {x : D} (hc : ∀ m, (tOrF (tNotF (tTru (eIsi [.tup] (eVar 3)))) (tOrF (tBool (eOp (inW true) (eCall lenW (aCons (eVar 3) aNil)) (eTup (aCons (eC (.int 2)) (aCons (eC (.int 3)) aNil))))) (tNotF (tTru (eIsi [.str] (eOp ixW (eVar 3) (eC (.int 0)))))))) [X0, some (.obj m.length), some (.d (.int (c : Int))), some (.d x)] (m ++ [.lst A]) = .ok true (m ++ [.lst A]))
    (hR : R (.d (.bool false)) (m ++ [.lst A])) : stepZ (b1__law_due [X0, some (.obj m.length), some (.d (.int (c : Int))), o] (m ++ [.lst (A ++ [x])])) Q R := by
  have key : WP (fun r => stepZ r Q R) (b1__law_due [X0, some (.obj m.length), some (.d (.int (c : Int))), o] (m ++ [.lst (A ++ [x])])) := by
    unfold b1__law_due
    refine wp_go (by simp [runF, env0, finM, sSeq, sNx, sIf, sRet, sAsg, asgK, gSet, sDrop, sAug, eS_ok, tBool, tTru, truW, eOp, eChain, eVar, eC, eFrz, eObj, aNil, aCons, eTup, eLst, asDs, eCall, eCallF, callM, noFl, tAndF, tOrF, tNotF, eAnd, eOr, eNot, eIsi, tyW, Tk.sub, eSl, oNone, oSome, eMt, eMt0, isTyW, eNeg, negW, Res.bind_ok, List.length_cons, List.length_nil, List.map_cons, List.map_nil, List.cons_append, List.nil_append, List.replicate, List.getElem?_cons_zero, List.getElem?_cons_succ, List.set_cons_zero, List.set_cons_succ, if_true, if_false, Nat.sub_self, Nat.reduceSub, Nat.reduceAdd, sizeLine_eq, pop_last] <;> (try first | rfl | exact ⟨rfl, rfl⟩)) ?_
    exact wp_sIfR (hc m) (by simp [runF, env0, finM, sSeq, sNx, sIf, sRet, sAsg, asgK, gSet, sDrop, sAug, eS_ok, tBool, tTru, truW, eOp, eChain, eVar, eC, eFrz, eObj, aNil, aCons, eTup, eLst, asDs, eCall, eCallF, callM, noFl, tAndF, tOrF, tNotF, eAnd, eOr, eNot, eIsi, tyW, Tk.sub, eSl, oNone, oSome, eMt, eMt0, isTyW, eNeg, negW, Res.bind_ok, List.length_cons, List.length_nil, List.map_cons, List.map_nil, List.cons_append, List.nil_append, List.replicate, List.getElem?_cons_zero, List.getElem?_cons_succ, List.set_cons_zero, List.set_cons_succ, if_true, if_false, Nat.sub_self, Nat.reduceSub, Nat.reduceAdd, sizeLine_eq] <;> (try first | rfl | exact ⟨rfl, rfl⟩)) hR
  exact key
theorem due_no3 {s : Str} {y z : D} (hs : PyData.strOk s = true) (h : ¬ (s = S [47] ∨ s = S [92]))
    (hR : R (.d (.bool false)) (m ++ [.lst A])) : stepZ (b1__law_due [X0, some (.obj m.length), some (.d (.int (c : Int))), o] (m ++ [.lst (A ++ [.tuple [.str s, y, z]])])) Q R := by
  have key : WP (fun r => stepZ r Q R) (b1__law_due [X0, some (.obj m.length), some (.d (.int (c : Int))), o] (m ++ [.lst (A ++ [.tuple [.str s, y, z]])])) := by
    have e1 := eqW_strD (m := m ++ [.lst A]) (n := true) hs (show PyData.strOk (S [47]) = true by rw [strOk_S]; rfl)
    have e2 := eqW_strD (m := m ++ [.lst A]) (n := true) hs (show PyData.strOk (S [92]) = true by rw [strOk_S]; rfl)
    have n1 : ¬ s = S [47] := fun z => h (.inl z)
    have n2 : ¬ s = S [92] := fun z => h (.inr z)
    have l1 : Str.ofString "/" = S [47] := by decide +kernel
    have l2 : Str.ofString "\\" = S [92] := by decide +kernel
    unfold b1__law_due
    refine wp_go (by simp [runF, env0, finM, sSeq, sNx, sIf, sRet, sAsg, asgK, gSet, sDrop, sAug, eS_ok, tBool, tTru, truW, eOp, eChain, eVar, eC, eFrz, eObj, aNil, aCons, eTup, eLst, asDs, eCall, eCallF, callM, noFl, tAndF, tOrF, tNotF, eAnd, eOr, eNot, eIsi, tyW, Tk.sub, eSl, oNone, oSome, eMt, eMt0, isTyW, eNeg, negW, Res.bind_ok, List.length_cons, List.length_nil, List.map_cons, List.map_nil, List.cons_append, List.nil_append, List.replicate, List.getElem?_cons_zero, List.getElem?_cons_succ, List.set_cons_zero, List.set_cons_succ, if_true, if_false, Nat.sub_self, Nat.reduceSub, Nat.reduceAdd, sizeLine_eq, pop_last] <;> (try first | rfl | exact ⟨rfl, rfl⟩)) ?_
    refine wp_sIfN (by simp [runF, env0, finM, sSeq, sNx, sIf, sRet, sAsg, asgK, gSet, sDrop, sAug, eS_ok, tBool, tTru, truW, eOp, eChain, eVar, eC, eFrz, eObj, aNil, aCons, eTup, eLst, asDs, eCall, eCallF, callM, noFl, tAndF, tOrF, tNotF, eAnd, eOr, eNot, eIsi, tyW, Tk.sub, eSl, oNone, oSome, eMt, eMt0, isTyW, eNeg, negW, Res.bind_ok, List.length_cons, List.length_nil, List.map_cons, List.map_nil, List.cons_append, List.nil_append, List.replicate, List.getElem?_cons_zero, List.getElem?_cons_succ, List.set_cons_zero, List.set_cons_succ, if_true, if_false, Nat.sub_self, Nat.reduceSub, Nat.reduceAdd, sizeLine_eq, tupLen, in23] <;> (try first | rfl | exact ⟨rfl, rfl⟩)) ?_
    refine wp_ifT (by simp [runF, env0, finM, sSeq, sNx, sIf, sRet, sAsg, asgK, gSet, sDrop, sAug, eS_ok, tBool, tTru, truW, eOp, eChain, eVar, eC, eFrz, eObj, aNil, aCons, eTup, eLst, asDs, eCall, eCallF, callM, noFl, tAndF, tOrF, tNotF, eAnd, eOr, eNot, eIsi, tyW, Tk.sub, eSl, oNone, oSome, eMt, eMt0, isTyW, eNeg, negW, Res.bind_ok, List.length_cons, List.length_nil, List.map_cons, List.map_nil, List.cons_append, List.nil_append, List.replicate, List.getElem?_cons_zero, List.getElem?_cons_succ, List.set_cons_zero, List.set_cons_succ, if_true, if_false, Nat.sub_self, Nat.reduceSub, Nat.reduceAdd, sizeLine_eq, tupLen, ngB] <;> (try first | rfl | exact ⟨rfl, rfl⟩)) ?_
    exact wp_sIfR (by simp [runF, env0, finM, sSeq, sNx, sIf, sRet, sAsg, asgK, gSet, sDrop, sAug, eS_ok, tBool, tTru, truW, eOp, eChain, eVar, eC, eFrz, eObj, aNil, aCons, eTup, eLst, asDs, eCall, eCallF, callM, noFl, tAndF, tOrF, tNotF, eAnd, eOr, eNot, eIsi, tyW, Tk.sub, eSl, oNone, oSome, eMt, eMt0, isTyW, eNeg, negW, Res.bind_ok, List.length_cons, List.length_nil, List.map_cons, List.map_nil, List.cons_append, List.nil_append, List.replicate, List.getElem?_cons_zero, List.getElem?_cons_succ, List.set_cons_zero, List.set_cons_succ, if_true, if_false, Nat.sub_self, Nat.reduceSub, Nat.reduceAdd, sizeLine_eq, l1, l2, e1, e2, n1, n2, ngB] <;> (try first | rfl | exact ⟨rfl, rfl⟩)) (by simp [runF, env0, finM, sSeq, sNx, sIf, sRet, sAsg, asgK, gSet, sDrop, sAug, eS_ok, tBool, tTru, truW, eOp, eChain, eVar, eC, eFrz, eObj, aNil, aCons, eTup, eLst, asDs, eCall, eCallF, callM, noFl, tAndF, tOrF, tNotF, eAnd, eOr, eNot, eIsi, tyW, Tk.sub, eSl, oNone, oSome, eMt, eMt0, isTyW, eNeg, negW, Res.bind_ok, List.length_cons, List.length_nil, List.map_cons, List.map_nil, List.cons_append, List.nil_append, List.replicate, List.getElem?_cons_zero, List.getElem?_cons_succ, List.set_cons_zero, List.set_cons_succ, if_true, if_false, Nat.sub_self, Nat.reduceSub, Nat.reduceAdd, sizeLine_eq] <;> (try first | rfl | exact ⟨rfl, rfl⟩)) hR
  exact key
theorem due_node {s : Str} {y z : D} (hs : PyData.strOk s = true) (h : s = S [47] ∨ s = S [92]) (hA : A.length ≤ 1000)
    (hQ : Q [X0, some (.obj m.length), some (.d (.int (c : Int))), some (.d (.tuple [.str s, y, z]))] (m ++ [.lst (A ++ [y, z])])) : stepZ (b1__law_due [X0, some (.obj m.length), some (.d (.int (c : Int))), o] (m ++ [.lst (A ++ [.tuple [.str s, y, z]])])) Q R := by
  have key : WP (fun r => stepZ r Q R) (b1__law_due [X0, some (.obj m.length), some (.d (.int (c : Int))), o] (m ++ [.lst (A ++ [.tuple [.str s, y, z]])])) := by
    have e1 := eqW_strD (m := m ++ [.lst A]) (n := true) hs (show PyData.strOk (S [47]) = true by rw [strOk_S]; rfl)
    have e2 := eqW_strD (m := m ++ [.lst A]) (n := true) hs (show PyData.strOk (S [92]) = true by rw [strOk_S]; rfl)
    have l1 : Str.ofString "/" = S [47] := by decide +kernel
    have l2 : Str.ofString "\\" = S [92] := by decide +kernel
    have hx : extendAW (.obj m.length) [.d (.tuple [y, z])] (m ++ [.lst A]) = .ok (.d .none) (m ++ [.lst (A ++ [y, z])]) := by
      simp [extendAW, asO, sizeLine_eq]; omega
    have hcut : slW (.d (.tuple [.str s, y, z])) (some 1) none (m ++ [.lst A]) = .ok (.d (.tuple [y, z])) (m ++ [.lst A]) := by
      simp only [slW]
      rw [cutD_drop (by decide)]
      rfl
    unfold b1__law_due
    refine wp_go (by simp [runF, env0, finM, sSeq, sNx, sIf, sRet, sAsg, asgK, gSet, sDrop, sAug, eS_ok, tBool, tTru, truW, eOp, eChain, eVar, eC, eFrz, eObj, aNil, aCons, eTup, eLst, asDs, eCall, eCallF, callM, noFl, tAndF, tOrF, tNotF, eAnd, eOr, eNot, eIsi, tyW, Tk.sub, eSl, oNone, oSome, eMt, eMt0, isTyW, eNeg, negW, Res.bind_ok, List.length_cons, List.length_nil, List.map_cons, List.map_nil, List.cons_append, List.nil_append, List.replicate, List.getElem?_cons_zero, List.getElem?_cons_succ, List.set_cons_zero, List.set_cons_succ, if_true, if_false, Nat.sub_self, Nat.reduceSub, Nat.reduceAdd, sizeLine_eq, pop_last] <;> (try first | rfl | exact ⟨rfl, rfl⟩)) ?_
    refine wp_sIfN (by simp [runF, env0, finM, sSeq, sNx, sIf, sRet, sAsg, asgK, gSet, sDrop, sAug, eS_ok, tBool, tTru, truW, eOp, eChain, eVar, eC, eFrz, eObj, aNil, aCons, eTup, eLst, asDs, eCall, eCallF, callM, noFl, tAndF, tOrF, tNotF, eAnd, eOr, eNot, eIsi, tyW, Tk.sub, eSl, oNone, oSome, eMt, eMt0, isTyW, eNeg, negW, Res.bind_ok, List.length_cons, List.length_nil, List.map_cons, List.map_nil, List.cons_append, List.nil_append, List.replicate, List.getElem?_cons_zero, List.getElem?_cons_succ, List.set_cons_zero, List.set_cons_succ, if_true, if_false, Nat.sub_self, Nat.reduceSub, Nat.reduceAdd, sizeLine_eq, tupLen, in23] <;> (try first | rfl | exact ⟨rfl, rfl⟩)) ?_
    refine wp_ifT (by simp [runF, env0, finM, sSeq, sNx, sIf, sRet, sAsg, asgK, gSet, sDrop, sAug, eS_ok, tBool, tTru, truW, eOp, eChain, eVar, eC, eFrz, eObj, aNil, aCons, eTup, eLst, asDs, eCall, eCallF, callM, noFl, tAndF, tOrF, tNotF, eAnd, eOr, eNot, eIsi, tyW, Tk.sub, eSl, oNone, oSome, eMt, eMt0, isTyW, eNeg, negW, Res.bind_ok, List.length_cons, List.length_nil, List.map_cons, List.map_nil, List.cons_append, List.nil_append, List.replicate, List.getElem?_cons_zero, List.getElem?_cons_succ, List.set_cons_zero, List.set_cons_succ, if_true, if_false, Nat.sub_self, Nat.reduceSub, Nat.reduceAdd, sizeLine_eq, tupLen, ngB] <;> (try first | rfl | exact ⟨rfl, rfl⟩)) ?_
    have hcond : (tAndF (tBool (eOp (eqW true) (eOp ixW (eVar 3) (eC (.int 0))) (eC (.str (Str.ofString "/"))))) (tBool (eOp (eqW true) (eOp ixW (eVar 3) (eC (.int 0))) (eC (.str (Str.ofString "\\")))))) [X0, some (.obj m.length), some (.d (.int (c : Int))), some (.d (.tuple [.str s, y, z]))] (m ++ [.lst A]) = .ok false (m ++ [.lst A]) := by
      rcases h with rfl | rfl
      · simp [runF, env0, finM, sSeq, sNx, sIf, sRet, sAsg, asgK, gSet, sDrop, sAug, eS_ok, tBool, tTru, truW, eOp, eChain, eVar, eC, eFrz, eObj, aNil, aCons, eTup, eLst, asDs, eCall, eCallF, callM, noFl, tAndF, tOrF, tNotF, eAnd, eOr, eNot, eIsi, tyW, Tk.sub, eSl, oNone, oSome, eMt, eMt0, isTyW, eNeg, negW, Res.bind_ok, List.length_cons, List.length_nil, List.map_cons, List.map_nil, List.cons_append, List.nil_append, List.replicate, List.getElem?_cons_zero, List.getElem?_cons_succ, List.set_cons_zero, List.set_cons_succ, if_true, if_false, Nat.sub_self, Nat.reduceSub, Nat.reduceAdd, sizeLine_eq, l1, e1, ngB]
      · have n1 : ¬ S [92] = S [47] := fun z => absurd (S_inj.mp z) (by decide)
        simp [runF, env0, finM, sSeq, sNx, sIf, sRet, sAsg, asgK, gSet, sDrop, sAug, eS_ok, tBool, tTru, truW, eOp, eChain, eVar, eC, eFrz, eObj, aNil, aCons, eTup, eLst, asDs, eCall, eCallF, callM, noFl, tAndF, tOrF, tNotF, eAnd, eOr, eNot, eIsi, tyW, Tk.sub, eSl, oNone, oSome, eMt, eMt0, isTyW, eNeg, negW, Res.bind_ok, List.length_cons, List.length_nil, List.map_cons, List.map_nil, List.cons_append, List.nil_append, List.replicate, List.getElem?_cons_zero, List.getElem?_cons_succ, List.set_cons_zero, List.set_cons_succ, if_true, if_false, Nat.sub_self, Nat.reduceSub, Nat.reduceAdd, sizeLine_eq, l1, l2, e1, e2, n1, ngB]
    refine wp_sIfN hcond ?_
    refine wp_eq (by simp [runF, env0, finM, sSeq, sNx, sIf, sRet, sAsg, asgK, gSet, sDrop, sAug, eS_ok, tBool, tTru, truW, eOp, eChain, eVar, eC, eFrz, eObj, aNil, aCons, eTup, eLst, asDs, eCall, eCallF, callM, noFl, tAndF, tOrF, tNotF, eAnd, eOr, eNot, eIsi, tyW, Tk.sub, eSl, oNone, oSome, eMt, eMt0, isTyW, eNeg, negW, Res.bind_ok, List.length_cons, List.length_nil, List.map_cons, List.map_nil, List.cons_append, List.nil_append, List.replicate, List.getElem?_cons_zero, List.getElem?_cons_succ, List.set_cons_zero, List.set_cons_succ, if_true, if_false, Nat.sub_self, Nat.reduceSub, Nat.reduceAdd, sizeLine_eq, hcut, hx] <;> (try first | rfl | exact ⟨rfl, rfl⟩)) ?_
    exact hQ
  exact key
theorem due_no2 {s : Str} {y : D} (hs : PyData.strOk s = true) (hy : nice y) (h : ¬ (s = S basicL ∧ isWD y = true))
    (hR : R (.d (.bool false)) (m ++ [.lst A])) : stepZ (b1__law_due [X0, some (.obj m.length), some (.d (.int (c : Int))), o] (m ++ [.lst (A ++ [.tuple [.str s, y]])])) Q R := by
  have key : WP (fun r => stepZ r Q R) (b1__law_due [X0, some (.obj m.length), some (.d (.int (c : Int))), o] (m ++ [.lst (A ++ [.tuple [.str s, y]])])) := by
    have e1 := eqW_strD (m := m ++ [.lst A]) (n := true) hs strOk_basic
    unfold b1__law_due
    refine wp_go (by simp [runF, env0, finM, sSeq, sNx, sIf, sRet, sAsg, asgK, gSet, sDrop, sAug, eS_ok, tBool, tTru, truW, eOp, eChain, eVar, eC, eFrz, eObj, aNil, aCons, eTup, eLst, asDs, eCall, eCallF, callM, noFl, tAndF, tOrF, tNotF, eAnd, eOr, eNot, eIsi, tyW, Tk.sub, eSl, oNone, oSome, eMt, eMt0, isTyW, eNeg, negW, Res.bind_ok, List.length_cons, List.length_nil, List.map_cons, List.map_nil, List.cons_append, List.nil_append, List.replicate, List.getElem?_cons_zero, List.getElem?_cons_succ, List.set_cons_zero, List.set_cons_succ, if_true, if_false, Nat.sub_self, Nat.reduceSub, Nat.reduceAdd, sizeLine_eq, pop_last] <;> (try first | rfl | exact ⟨rfl, rfl⟩)) ?_
    refine wp_sIfN (by simp [runF, env0, finM, sSeq, sNx, sIf, sRet, sAsg, asgK, gSet, sDrop, sAug, eS_ok, tBool, tTru, truW, eOp, eChain, eVar, eC, eFrz, eObj, aNil, aCons, eTup, eLst, asDs, eCall, eCallF, callM, noFl, tAndF, tOrF, tNotF, eAnd, eOr, eNot, eIsi, tyW, Tk.sub, eSl, oNone, oSome, eMt, eMt0, isTyW, eNeg, negW, Res.bind_ok, List.length_cons, List.length_nil, List.map_cons, List.map_nil, List.cons_append, List.nil_append, List.replicate, List.getElem?_cons_zero, List.getElem?_cons_succ, List.set_cons_zero, List.set_cons_succ, if_true, if_false, Nat.sub_self, Nat.reduceSub, Nat.reduceAdd, sizeLine_eq, tupLen, in23] <;> (try first | rfl | exact ⟨rfl, rfl⟩)) ?_
    refine wp_ifF (by simp [runF, env0, finM, sSeq, sNx, sIf, sRet, sAsg, asgK, gSet, sDrop, sAug, eS_ok, tBool, tTru, truW, eOp, eChain, eVar, eC, eFrz, eObj, aNil, aCons, eTup, eLst, asDs, eCall, eCallF, callM, noFl, tAndF, tOrF, tNotF, eAnd, eOr, eNot, eIsi, tyW, Tk.sub, eSl, oNone, oSome, eMt, eMt0, isTyW, eNeg, negW, Res.bind_ok, List.length_cons, List.length_nil, List.map_cons, List.map_nil, List.cons_append, List.nil_append, List.replicate, List.getElem?_cons_zero, List.getElem?_cons_succ, List.set_cons_zero, List.set_cons_succ, if_true, if_false, Nat.sub_self, Nat.reduceSub, Nat.reduceAdd, sizeLine_eq, tupLen, ngB] <;> (try first | rfl | exact ⟨rfl, rfl⟩)) ?_
    refine wp_sIfR (w := .d (.bool false)) (m1 := m ++ [O.lst A]) (m2 := m ++ [O.lst A]) ?_ (by simp [runF, env0, finM, sSeq, sNx, sIf, sRet, sAsg, asgK, gSet, sDrop, sAug, eS_ok, tBool, tTru, truW, eOp, eChain, eVar, eC, eFrz, eObj, aNil, aCons, eTup, eLst, asDs, eCall, eCallF, callM, noFl, tAndF, tOrF, tNotF, eAnd, eOr, eNot, eIsi, tyW, Tk.sub, eSl, oNone, oSome, eMt, eMt0, isTyW, eNeg, negW, Res.bind_ok, List.length_cons, List.length_nil, List.map_cons, List.map_nil, List.cons_append, List.nil_append, List.replicate, List.getElem?_cons_zero, List.getElem?_cons_succ, List.set_cons_zero, List.set_cons_succ, if_true, if_false, Nat.sub_self, Nat.reduceSub, Nat.reduceAdd, sizeLine_eq] <;> (try first | rfl | exact ⟨rfl, rfl⟩)) hR
    by_cases hb : s = S basicL
    · subst hb
      cases y with
      | str w =>
        have hw := law_is_word_str w.cps.toList (nice_strOk hy).2 (m ++ [.lst A])
        have hw : F__law_is_word [.d (.str w)] (m ++ [.lst A]) = .ok (.d (.bool (isWB w))) (m ++ [.lst A]) := hw
        have hf : isWB w = false := by
          cases hq : isWB w with
          | false => rfl
          | true => exact absurd ⟨rfl, hq⟩ h
        simp [runF, env0, finM, sSeq, sNx, sIf, sRet, sAsg, asgK, gSet, sDrop, sAug, eS_ok, tBool, tTru, truW, eOp, eChain, eVar, eC, eFrz, eObj, aNil, aCons, eTup, eLst, asDs, eCall, eCallF, callM, noFl, tAndF, tOrF, tNotF, eAnd, eOr, eNot, eIsi, tyW, Tk.sub, eSl, oNone, oSome, eMt, eMt0, isTyW, eNeg, negW, Res.bind_ok, List.length_cons, List.length_nil, List.map_cons, List.map_nil, List.cons_append, List.nil_append, List.replicate, List.getElem?_cons_zero, List.getElem?_cons_succ, List.set_cons_zero, List.set_cons_succ, if_true, if_false, Nat.sub_self, Nat.reduceSub, Nat.reduceAdd, sizeLine_eq, basic_eq, e1, ngB, hw, hf]
      | dict kvs => have := hy.1; simp [PyData.canLay0] at this
      | _ => simp [runF, env0, finM, sSeq, sNx, sIf, sRet, sAsg, asgK, gSet, sDrop, sAug, eS_ok, tBool, tTru, truW, eOp, eChain, eVar, eC, eFrz, eObj, aNil, aCons, eTup, eLst, asDs, eCall, eCallF, callM, noFl, tAndF, tOrF, tNotF, eAnd, eOr, eNot, eIsi, tyW, Tk.sub, eSl, oNone, oSome, eMt, eMt0, isTyW, eNeg, negW, Res.bind_ok, List.length_cons, List.length_nil, List.map_cons, List.map_nil, List.cons_append, List.nil_append, List.replicate, List.getElem?_cons_zero, List.getElem?_cons_succ, List.set_cons_zero, List.set_cons_succ, if_true, if_false, Nat.sub_self, Nat.reduceSub, Nat.reduceAdd, sizeLine_eq, basic_eq, e1, ngB]
    · simp [runF, env0, finM, sSeq, sNx, sIf, sRet, sAsg, asgK, gSet, sDrop, sAug, eS_ok, tBool, tTru, truW, eOp, eChain, eVar, eC, eFrz, eObj, aNil, aCons, eTup, eLst, asDs, eCall, eCallF, callM, noFl, tAndF, tOrF, tNotF, eAnd, eOr, eNot, eIsi, tyW, Tk.sub, eSl, oNone, oSome, eMt, eMt0, isTyW, eNeg, negW, Res.bind_ok, List.length_cons, List.length_nil, List.map_cons, List.map_nil, List.cons_append, List.nil_append, List.replicate, List.getElem?_cons_zero, List.getElem?_cons_succ, List.set_cons_zero, List.set_cons_succ, if_true, if_false, Nat.sub_self, Nat.reduceSub, Nat.reduceAdd, sizeLine_eq, basic_eq, e1, ngB, hb]
  exact key
theorem due_basic {w : Str} (hy : nice (.str w)) (h : isWB w = true)
    (hQ : Q [X0, some (.obj m.length), some (.d (.int ((c + 1 : Nat) : Int))), some (.d (.tuple [.str (S basicL), .str w]))] (m ++ [.lst A])) : stepZ (b1__law_due [X0, some (.obj m.length), some (.d (.int (c : Int))), o] (m ++ [.lst (A ++ [.tuple [.str (S basicL), .str w]])])) Q R := by
  have key : WP (fun r => stepZ r Q R) (b1__law_due [X0, some (.obj m.length), some (.d (.int (c : Int))), o] (m ++ [.lst (A ++ [.tuple [.str (S basicL), .str w]])])) := by
    have hw := law_is_word_str w.cps.toList (nice_strOk hy).2 (m ++ [.lst A])
    have hw : F__law_is_word [.d (.str w)] (m ++ [.lst A]) = .ok (.d (.bool (isWB w))) (m ++ [.lst A]) := hw
    have c1 : (c : Int) + 1 = ((c + 1 : Nat) : Int) := by omega
    unfold b1__law_due
    refine wp_go (by simp [runF, env0, finM, sSeq, sNx, sIf, sRet, sAsg, asgK, gSet, sDrop, sAug, eS_ok, tBool, tTru, truW, eOp, eChain, eVar, eC, eFrz, eObj, aNil, aCons, eTup, eLst, asDs, eCall, eCallF, callM, noFl, tAndF, tOrF, tNotF, eAnd, eOr, eNot, eIsi, tyW, Tk.sub, eSl, oNone, oSome, eMt, eMt0, isTyW, eNeg, negW, Res.bind_ok, List.length_cons, List.length_nil, List.map_cons, List.map_nil, List.cons_append, List.nil_append, List.replicate, List.getElem?_cons_zero, List.getElem?_cons_succ, List.set_cons_zero, List.set_cons_succ, if_true, if_false, Nat.sub_self, Nat.reduceSub, Nat.reduceAdd, sizeLine_eq, pop_last] <;> (try first | rfl | exact ⟨rfl, rfl⟩)) ?_
    refine wp_sIfN (by simp [runF, env0, finM, sSeq, sNx, sIf, sRet, sAsg, asgK, gSet, sDrop, sAug, eS_ok, tBool, tTru, truW, eOp, eChain, eVar, eC, eFrz, eObj, aNil, aCons, eTup, eLst, asDs, eCall, eCallF, callM, noFl, tAndF, tOrF, tNotF, eAnd, eOr, eNot, eIsi, tyW, Tk.sub, eSl, oNone, oSome, eMt, eMt0, isTyW, eNeg, negW, Res.bind_ok, List.length_cons, List.length_nil, List.map_cons, List.map_nil, List.cons_append, List.nil_append, List.replicate, List.getElem?_cons_zero, List.getElem?_cons_succ, List.set_cons_zero, List.set_cons_succ, if_true, if_false, Nat.sub_self, Nat.reduceSub, Nat.reduceAdd, sizeLine_eq, tupLen, in23] <;> (try first | rfl | exact ⟨rfl, rfl⟩)) ?_
    refine wp_ifF (by simp [runF, env0, finM, sSeq, sNx, sIf, sRet, sAsg, asgK, gSet, sDrop, sAug, eS_ok, tBool, tTru, truW, eOp, eChain, eVar, eC, eFrz, eObj, aNil, aCons, eTup, eLst, asDs, eCall, eCallF, callM, noFl, tAndF, tOrF, tNotF, eAnd, eOr, eNot, eIsi, tyW, Tk.sub, eSl, oNone, oSome, eMt, eMt0, isTyW, eNeg, negW, Res.bind_ok, List.length_cons, List.length_nil, List.map_cons, List.map_nil, List.cons_append, List.nil_append, List.replicate, List.getElem?_cons_zero, List.getElem?_cons_succ, List.set_cons_zero, List.set_cons_succ, if_true, if_false, Nat.sub_self, Nat.reduceSub, Nat.reduceAdd, sizeLine_eq, tupLen, ngB] <;> (try first | rfl | exact ⟨rfl, rfl⟩)) ?_
    refine wp_sIfN (by simp [runF, env0, finM, sSeq, sNx, sIf, sRet, sAsg, asgK, gSet, sDrop, sAug, eS_ok, tBool, tTru, truW, eOp, eChain, eVar, eC, eFrz, eObj, aNil, aCons, eTup, eLst, asDs, eCall, eCallF, callM, noFl, tAndF, tOrF, tNotF, eAnd, eOr, eNot, eIsi, tyW, Tk.sub, eSl, oNone, oSome, eMt, eMt0, isTyW, eNeg, negW, Res.bind_ok, List.length_cons, List.length_nil, List.map_cons, List.map_nil, List.cons_append, List.nil_append, List.replicate, List.getElem?_cons_zero, List.getElem?_cons_succ, List.set_cons_zero, List.set_cons_succ, if_true, if_false, Nat.sub_self, Nat.reduceSub, Nat.reduceAdd, sizeLine_eq, basic_eq, neBB, hw, h] <;> (try first | rfl | exact ⟨rfl, rfl⟩)) ?_
    refine wp_eq (by simp only [runF, env0, finM, sSeq, sNx, sIf, sRet, sAsg, asgK, gSet, sDrop, sAug, eS_ok, tBool, tTru, truW, eOp, eChain, eVar, eC, eFrz, eObj, aNil, aCons, eTup, eLst, asDs, eCall, eCallF, callM, noFl, tAndF, tOrF, tNotF, eAnd, eOr, eNot, eIsi, tyW, Tk.sub, eSl, oNone, oSome, eMt, eMt0, isTyW, eNeg, negW, Res.bind_ok, List.length_cons, List.length_nil, List.map_cons, List.map_nil, List.cons_append, List.nil_append, List.replicate, List.getElem?_cons_zero, List.getElem?_cons_succ, List.set_cons_zero, List.set_cons_succ, if_true, if_false, Nat.sub_self, Nat.reduceSub, Nat.reduceAdd, sizeLine_eq, addW_int, c1]; rfl) ?_
    exact hQ
  exact key
end

end K03

set_option Elab.async false
set_option linter.all false
set_option maxRecDepth 100000
set_option maxHeartbeats 1000000
namespace K03
open PySem L2 M
def dueI (X0 : Option W) (res : Bool) (m : Mem) (k : Nat) (env : En) (m' : Mem) : Prop := ∃ (st : List D) (c : Nat) (o : Option W), env = [X0, some (.obj m.length), some (.d (.int (c : Int))), o] ∧ m' = m ++ [.lst st] ∧ dueB st c = res ∧ ndS st = k ∧ k ≤ 999 ∧ ∀ d ∈ st, nice d
def dueY (X0 : Option W) (res : Bool) (m : Mem) (env : En) (m' : Mem) : Prop := ∃ (c : Nat) (o : Option W) (l : O), env = [X0, some (.obj m.length), some (.d (.int (c : Int))), o] ∧ m' = m ++ [l] ∧ decide (c ≤ 12) = res
def dueR (res : Bool) (m : Mem) (w : W) (m' : Mem) : Prop := w = .d (.bool res) ∧ ∃ l, m' = m ++ [l]
theorem fmOf_two_no {s : Str} {y : D} (h : ¬ (s = S basicL ∧ isWD y = true)) : fmOf (.tuple [.str s, y]) = none := by
  rw [fmOf_one, if_neg h]
theorem due_step {X0 : Option W} {res : Bool} {m : Mem} (k : Nat) (env : En) (m' : Mem) : dueI X0 res m k env m' →
    ((tBool (eOp gtW (eCall lenW (aCons (eVar 1) aNil)) (eC (.int 0)))) env m').wp fun t m1 => if t = true then stepZ (b1__law_due env m1) (fun e m' => ∃ k', k' < k ∧ dueI X0 res m k' e m') (dueR res m) else dueY X0 res m env m1 := by
  rintro ⟨st, c, o, rfl, rfl, hr, hk, hk9, hn⟩
  rcases List.eq_nil_or_concat st with rfl | ⟨A, x, rfl⟩
  · have hv : decide (c ≤ 12) = res := by simpa [dueB, valS] using hr
    simp [runF, env0, finM, sSeq, sNx, sIf, sRet, sAsg, asgK, gSet, sDrop, sAug, eS_ok, tBool, tTru, truW, eOp, eChain, eVar, eC, eFrz, eObj, aNil, aCons, eTup, eLst, asDs, eCall, eCallF, callM, noFl, tAndF, tOrF, tNotF, eAnd, eOr, eNot, eIsi, tyW, Tk.sub, eSl, oNone, oSome, eMt, eMt0, isTyW, eNeg, negW, Res.bind_ok, List.length_cons, List.length_nil, List.map_cons, List.map_nil, List.cons_append, List.nil_append, List.replicate, List.getElem?_cons_zero, List.getElem?_cons_succ, List.set_cons_zero, List.set_cons_succ, if_true, if_false, Nat.sub_self, Nat.reduceSub, Nat.reduceAdd, sizeLine_eq, lenW, asL]
    exact ⟨c, o, _, rfl, rfl, hv⟩
  · rw [List.concat_eq_append] at hr hk hn ⊢
    have hlen := len_ndS (A ++ [x])
    rw [hk, List.length_append] at hlen
    have hpos : (0 : Int) < (A.length : Int) + 1 := by omega
    have hcnd : (tBool (eOp gtW (eCall lenW (aCons (eVar 1) aNil)) (eC (.int 0)))) [X0, some (.obj m.length), some (.d (.int (c : Int))), o] (m ++ [.lst (A ++ [x])]) = .ok true (m ++ [.lst (A ++ [x])]) := by
      simp [runF, env0, finM, sSeq, sNx, sIf, sRet, sAsg, asgK, gSet, sDrop, sAug, eS_ok, tBool, tTru, truW, eOp, eChain, eVar, eC, eFrz, eObj, aNil, aCons, eTup, eLst, asDs, eCall, eCallF, callM, noFl, tAndF, tOrF, tNotF, eAnd, eOr, eNot, eIsi, tyW, Tk.sub, eSl, oNone, oSome, eMt, eMt0, isTyW, eNeg, negW, Res.bind_ok, List.length_cons, List.length_nil, List.map_cons, List.map_nil, List.cons_append, List.nil_append, List.replicate, List.getElem?_cons_zero, List.getElem?_cons_succ, List.set_cons_zero, List.set_cons_succ, if_true, if_false, Nat.sub_self, Nat.reduceSub, Nat.reduceAdd, sizeLine_eq, lenW, asL, hpos]
    rw [hcnd, Res.wp_ok, if_pos rfl]
    have hx := hn x (by simp)
    have hA : ∀ d ∈ A, nice d := fun d hd => hn d (List.mem_append_left _ hd)
    have no : fmOf x = none → dueR res m (.d (.bool false)) (m ++ [.lst A]) := fun h => ⟨by rw [← hr, dueB_no h], _, rfl⟩
    rw [ndS_app] at hk
    have hnx : ndS [x] = nd x := rfl
    cases x with
    | tuple ds =>
      by_cases h23 : ds.length = 2 ∨ ds.length = 3
      · cases ds with
        | nil => simp at h23
        | cons a r =>
          cases a with
          | str s =>
            have hss := (nice_strOk (nice_tup_mem hx _ List.mem_cons_self)).1
            rcases h23 with h2 | h3
            · obtain ⟨y, rfl⟩ : ∃ y, r = [y] := by
                match r, h2 with
                | [y], _ => exact ⟨y, rfl⟩
              have hy := nice_tup_mem hx y (by simp)
              by_cases hb : s = S basicL ∧ isWD y = true
              · obtain ⟨rfl, hw⟩ := hb
                cases y with
                | str w =>
                  have hw : isWB w = true := hw
                  refine due_basic hy hw ⟨ndS A, ?_, A, c + 1, _, rfl, rfl, ?_, rfl, by omega, hA⟩
                  · have := nd_pos (.tuple [.str (S basicL), .str w]); omega
                  · rw [← hr, dueB_basic hw]
                | _ => cases hw
              · exact due_no2 hss hy hb (no (fmOf_two_no hb))
            · obtain ⟨y, z, rfl⟩ : ∃ y z, r = [y, z] := by
                match r, h3 with
                | [y, z], _ => exact ⟨y, z, rfl⟩
              by_cases hb : s = S [47] ∨ s = S [92]
              · have e : nd (.tuple [.str s, y, z]) = 1 + nd y + nd z := by rw [nd]
                refine due_node hss hb (by simp at hlen; omega) ⟨ndS (A ++ [y, z]), ?_, A ++ [y, z], c, _, rfl, rfl, ?_, rfl, ?_, fun d hd => ?_⟩
                · rw [ndS_app]; simp only [ndS]; omega
                · rw [← hr, dueB_node hb]
                · rw [ndS_app]; simp only [ndS]; omega
                · rcases List.mem_append.mp hd with h | h
                  · exact hA d h
                  · exact nice_tup_mem hx d (List.mem_cons_of_mem _ h)
              · exact due_no3 hss hb (no (fmOf_two hb))
          | dict kvs => have := (nice_tup_mem hx _ List.mem_cons_self).1; simp [PyData.canLay0] at this
          | _ =>
            refine due_no1 (fun m => ?_) (no (fmOf_nonstr (fun _ h => nomatch h)))
            rcases h23 with h2 | h3
            · have : r.length = 1 := by simpa using h2
              simp [runF, env0, finM, sSeq, sNx, sIf, sRet, sAsg, asgK, gSet, sDrop, sAug, eS_ok, tBool, tTru, truW, eOp, eChain, eVar, eC, eFrz, eObj, aNil, aCons, eTup, eLst, asDs, eCall, eCallF, callM, noFl, tAndF, tOrF, tNotF, eAnd, eOr, eNot, eIsi, tyW, Tk.sub, eSl, oNone, oSome, eMt, eMt0, isTyW, eNeg, negW, Res.bind_ok, List.length_cons, List.length_nil, List.map_cons, List.map_nil, List.cons_append, List.nil_append, List.replicate, List.getElem?_cons_zero, List.getElem?_cons_succ, List.set_cons_zero, List.set_cons_succ, if_true, if_false, Nat.sub_self, Nat.reduceSub, Nat.reduceAdd, sizeLine_eq, tupLen, in23, this]
            · have : r.length = 2 := by simpa using h3
              simp [runF, env0, finM, sSeq, sNx, sIf, sRet, sAsg, asgK, gSet, sDrop, sAug, eS_ok, tBool, tTru, truW, eOp, eChain, eVar, eC, eFrz, eObj, aNil, aCons, eTup, eLst, asDs, eCall, eCallF, callM, noFl, tAndF, tOrF, tNotF, eAnd, eOr, eNot, eIsi, tyW, Tk.sub, eSl, oNone, oSome, eMt, eMt0, isTyW, eNeg, negW, Res.bind_ok, List.length_cons, List.length_nil, List.map_cons, List.map_nil, List.cons_append, List.nil_append, List.replicate, List.getElem?_cons_zero, List.getElem?_cons_succ, List.set_cons_zero, List.set_cons_succ, if_true, if_false, Nat.sub_self, Nat.reduceSub, Nat.reduceAdd, sizeLine_eq, tupLen, in23, this]
      · refine due_no1 (fun m => ?_) (no ?_)
        · have h2 : ¬ 2 = (ds.length : Int) := by omega
          have h3 : ¬ 3 = (ds.length : Int) := by omega
          simp [runF, env0, finM, sSeq, sNx, sIf, sRet, sAsg, asgK, gSet, sDrop, sAug, eS_ok, tBool, tTru, truW, eOp, eChain, eVar, eC, eFrz, eObj, aNil, aCons, eTup, eLst, asDs, eCall, eCallF, callM, noFl, tAndF, tOrF, tNotF, eAnd, eOr, eNot, eIsi, tyW, Tk.sub, eSl, oNone, oSome, eMt, eMt0, isTyW, eNeg, negW, Res.bind_ok, List.length_cons, List.length_nil, List.map_cons, List.map_nil, List.cons_append, List.nil_append, List.replicate, List.getElem?_cons_zero, List.getElem?_cons_succ, List.set_cons_zero, List.set_cons_succ, if_true, if_false, Nat.sub_self, Nat.reduceSub, Nat.reduceAdd, sizeLine_eq, tupLen, in23, h2, h3]
        · unfold fmOf
          split
          · rename_i e; cases e; simp at h23
          · rename_i e; cases e; simp at h23
          · rfl
    | dict kvs => have := hx.1; simp [PyData.canLay0] at this
    | _ => exact due_no1 (fun m => by simp [runF, env0, finM, sSeq, sNx, sIf, sRet, sAsg, asgK, gSet, sDrop, sAug, eS_ok, tBool, tTru, truW, eOp, eChain, eVar, eC, eFrz, eObj, aNil, aCons, eTup, eLst, asDs, eCall, eCallF, callM, noFl, tAndF, tOrF, tNotF, eAnd, eOr, eNot, eIsi, tyW, Tk.sub, eSl, oNone, oSome, eMt, eMt0, isTyW, eNeg, negW, Res.bind_ok, List.length_cons, List.length_nil, List.map_cons, List.map_nil, List.cons_append, List.nil_append, List.replicate, List.getElem?_cons_zero, List.getElem?_cons_succ, List.set_cons_zero, List.set_cons_succ, if_true, if_false, Nat.sub_self, Nat.reduceSub, Nat.reduceAdd, sizeLine_eq]) (no (by simp [fmOf]))
theorem law_due_ok {x : D} {m : Mem} (hx : nice x) (hd : nd x ≤ 999) : F__law_due [.d x] m = .ok (.d (.bool (decide (0 < fsz x 12)))) m := by
  refine run_wp (Q := fun r => r = .ok (.d (.bool (decide (0 < fsz x 12)))) m) ?_
  unfold m__law_due
  refine wp_go (by simp [runF, env0, finM, sSeq, sNx, sIf, sRet, sAsg, asgK, gSet, sDrop, sAug, eS_ok, tBool, tTru, truW, eOp, eChain, eVar, eC, eFrz, eObj, aNil, aCons, eTup, eLst, asDs, eCall, eCallF, callM, noFl, tAndF, tOrF, tNotF, eAnd, eOr, eNot, eIsi, tyW, Tk.sub, eSl, oNone, oSome, eMt, eMt0, isTyW, eNeg, negW, Res.bind_ok, List.length_cons, List.length_nil, List.map_cons, List.map_nil, List.cons_append, List.nil_append, List.replicate, List.getElem?_cons_zero, List.getElem?_cons_succ, List.set_cons_zero, List.set_cons_succ, if_true, if_false, Nat.sub_self, Nat.reduceSub, Nat.reduceAdd, sizeLine_eq] <;> (try first | rfl | exact ⟨rfl, rfl⟩)) ?_
  refine wp_go (by simp [runF, env0, finM, sSeq, sNx, sIf, sRet, sAsg, asgK, gSet, sDrop, sAug, eS_ok, tBool, tTru, truW, eOp, eChain, eVar, eC, eFrz, eObj, aNil, aCons, eTup, eLst, asDs, eCall, eCallF, callM, noFl, tAndF, tOrF, tNotF, eAnd, eOr, eNot, eIsi, tyW, Tk.sub, eSl, oNone, oSome, eMt, eMt0, isTyW, eNeg, negW, Res.bind_ok, List.length_cons, List.length_nil, List.map_cons, List.map_nil, List.cons_append, List.nil_append, List.replicate, List.getElem?_cons_zero, List.getElem?_cons_succ, List.set_cons_zero, List.set_cons_succ, if_true, if_false, Nat.sub_self, Nat.reduceSub, Nat.reduceAdd, sizeLine_eq] <;> (try first | rfl | exact ⟨rfl, rfl⟩)) ?_
  refine wp_sWhileZ (k0 := nd x) (dueI (some (.d x)) (decide (0 < fsz x 12)) m) (dueY (some (.d x)) (decide (0 < fsz x 12)) m) (dueR (decide (0 < fsz x 12)) m) ⟨[x], 0, _, rfl, rfl, dueB_one x, rfl, hd, fun d hd => by rw [List.mem_singleton.mp hd]; exact hx⟩ (by omega) (fun k env m' h => due_step k env m' h) ?_ ?_
  · rintro _ _ ⟨rfl, l, rfl⟩
    simp
  · rintro _ _ ⟨c, o, l, rfl, rfl, hc⟩
    have hc' : decide ((c : Int) ≤ 12) = decide (0 < fsz x 12) := by
      rw [← hc]
      congr 1
      exact propext ⟨fun h => by omega, fun h => by omega⟩
    refine wp_ret (by simp only [runF, env0, finM, sSeq, sNx, sIf, sRet, sAsg, asgK, gSet, sDrop, sAug, eS_ok, tBool, tTru, truW, eOp, eChain, eVar, eC, eFrz, eObj, aNil, aCons, eTup, eLst, asDs, eCall, eCallF, callM, noFl, tAndF, tOrF, tNotF, eAnd, eOr, eNot, eIsi, tyW, Tk.sub, eSl, oNone, oSome, eMt, eMt0, isTyW, eNeg, negW, Res.bind_ok, List.length_cons, List.length_nil, List.map_cons, List.map_nil, List.cons_append, List.nil_append, List.replicate, List.getElem?_cons_zero, List.getElem?_cons_succ, List.set_cons_zero, List.set_cons_succ, if_true, if_false, Nat.sub_self, Nat.reduceSub, Nat.reduceAdd, sizeLine_eq, leW_int, hc']; rfl) ?_
    simp
/-! ### odd things -/
theorem upper_ok {w : List Nat} (h : isW w) : ∃ u, Txt.upper (S w) = S u ∧ okC u = true ∧ u.length = w.length := by
  have : ∀ {w : List Nat}, (∀ c ∈ w, 97 ≤ c ∧ c ≤ 122) → Txt.upper (S w) = S (w.map (· - 32)) := by
    intro w
    induction w with
    | nil => intro _; decide +kernel
    | cons c w ih =>
      intro h
      have e : S (c :: w) = S [c] ++ S w := by rw [S_app]; rfl
      have hc := h c List.mem_cons_self
      have e1 : Txt.upper (S [c]) = S [c - 32] := by
        have := PySem.W.KOpn.upper_one (c := c) (by omega)
        rw [if_pos hc] at this
        exact this
      rw [e, PySem.W.KOpn.upper_app, ih (fun d hd => h d (List.mem_cons_of_mem _ hd)), e1, S_app]
      rfl
  refine ⟨_, this h.ab, ?_, by simp⟩
  unfold okC
  rw [List.all_eq_true]
  intro d hd
  obtain ⟨c, hc, rfl⟩ := List.mem_map.mp hd
  have := h.ab c hc
  exact decide_eq_true (by omega)

end K03

set_option Elab.async false
set_option linter.all false
set_option maxRecDepth 100000
set_option maxHeartbeats 1000000
namespace K03
open PySem L2 M
def oddA (w u : List Nat) : List D := [.none, .int 3, .bool true, .str (Str.ofString ""), .str (S w), .str (S u), .tuple [], .tuple [.str (Str.ofString "basic")], .tuple [.str (Str.ofString "basic"), .str (S w), .str (S w)], .tuple [.str (Str.ofString "basic"), .int 3], .tuple [.str (Str.ofString "basic"), .str (Str.ofString "")]]
def oddB (w : List Nat) (a : D) : List D := [.tuple [.str (Str.ofString "basic"), .str (Str.ofString "ninesigns")], .tuple [.str (Str.ofString "basic"), .str (Str.ofString "a-b")], .tuple [.str (Str.ofString "basic"), .str (Str.ofString "Ab")], .tuple [.str (Str.ofString "basic"), a], .list [.str (Str.ofString "basic"), .str (S w)], .tuple [.str (Str.ofString "/"), a]]
def oddC (a : D) : List D := [.tuple [.str (Str.ofString "/"), a, a, a], .tuple [.str (Str.ofString "+"), a, a], .tuple [.str (Str.ofString "//"), a, a], .list [.str (Str.ofString "/"), a, a], .tuple [a, .str (Str.ofString "/"), a], .tuple [.str (Str.ofString "/"), a, a], .tuple [.str (Str.ofString "\\"), a, a]]
theorem nice_S {l : List Nat} (h : okC l = true) (hl : l.length ≤ 100000) : nice (.str (S l)) := nice_str (by rw [strOk_S]; exact h) hl
theorem nice_int (i : Int) : nice (.int i) := ⟨by simp [PyData.canLay0], fun n => by cases n <;> trivial⟩
theorem nice_bool (i : Bool) : nice (.bool i) := ⟨by simp [PyData.canLay0], fun n => by cases n <;> trivial⟩
theorem nice_none : nice .none := ⟨by simp [PyData.canLay0], fun n => by cases n <;> trivial⟩
theorem lits : (Str.ofString "" = S []) ∧ (Str.ofString "ninesigns" = S [110, 105, 110, 101, 115, 105, 103, 110, 115]) ∧ (Str.ofString "a-b" = S [97, 45, 98]) ∧ (Str.ofString "Ab" = S [65, 98]) ∧ (Str.ofString "/" = S [47]) ∧ (Str.ofString "+" = S [43]) ∧ (Str.ofString "//" = S [47, 47]) ∧ (Str.ofString "\\" = S [92]) ∧ Str.ofString "basic" = S basicL := by
  refine ⟨?_, ?_, ?_, ?_, ?_, ?_, ?_, ?_, ?_⟩ <;> decide +kernel
theorem odd_nice {w u : List Nat} (hw : isW w) (hu : okC u = true) (hul : u.length = w.length) : ∀ d ∈ oddA w u ++ oddB w (enc (.b w)) ++ oddC (enc (.b w)), nice d ∧ nd d ≤ 3 := by
  obtain ⟨l1, l2, l3, l4, l5, l6, l7, l8, l9⟩ := lits
  have h8 := hw.hi
  have nw : nice (.str (S w)) := nice_S hw.okC (by omega)
  have nu : nice (.str (S u)) := nice_S hu (by omega)
  have na : nice (enc (.b w)) := nice_enc (f := .b w) hw
  have da : nd (enc (.b w)) = 1 := by simp [enc, nd]
  have ns : ∀ l ∈ ([[], [110, 105, 110, 101, 115, 105, 103, 110, 115], [97, 45, 98], [65, 98], [47], [43], [47, 47], [92], basicL] : List (List Nat)), nice (.str (S l)) := by
    intro l hl
    refine nice_S ?_ ?_
    · revert l; decide
    · revert l; decide
  have nb := ns basicL (by decide)
  have n0 := ns [] (by decide)
  have n1 := ns [47] (by decide)
  have n2 := ns [43] (by decide)
  have n3 := ns [47, 47] (by decide)
  have n4 := ns [92] (by decide)
  have n5 := ns [110, 105, 110, 101, 115, 105, 103, 110, 115] (by decide)
  have n6 := ns [97, 45, 98] (by decide)
  have n7 := ns [65, 98] (by decide)
  intro d hd
  unfold oddA oddB oddC at hd
  rw [l1, l2, l3, l4, l5, l6, l7, l8, l9] at hd
  simp only [List.mem_append, List.mem_cons, List.not_mem_nil, or_false] at hd
  have T : ∀ {ds : List D}, (∀ d ∈ ds, nice d) → nd (.tuple ds) ≤ 3 → nice (.tuple ds) ∧ nd (.tuple ds) ≤ 3 := fun h h' => ⟨nice_tup h, h'⟩
  have T0 : ∀ d ∈ ([] : List D), nice d := fun _ h => nomatch h
  have T1 : ∀ {d : D} {ds : List D}, nice d → (∀ e ∈ ds, nice e) → ∀ e ∈ d :: ds, nice e := fun h h' e he => by
    rcases List.mem_cons.mp he with rfl | he
    · exact h
    · exact h' e he
  rcases hd with ((h | h | h | h | h | h | h | h | h | h | h) | (h | h | h | h | h | h)) | (h | h | h | h | h | h | h) <;> subst h
  · exact ⟨nice_none, by simp [nd]⟩
  · exact ⟨nice_int _, by simp [nd]⟩
  · exact ⟨nice_bool _, by simp [nd]⟩
  · exact ⟨n0, by simp [nd]⟩
  · exact ⟨nw, by simp [nd]⟩
  · exact ⟨nu, by simp [nd]⟩
  · exact T T0 (by simp [nd])
  · exact T (T1 nb T0) (by simp [nd])
  · exact T (T1 nb (T1 nw (T1 nw T0))) (by simp [nd])
  · exact T (T1 nb (T1 (nice_int _) T0)) (by simp [nd])
  · exact T (T1 nb (T1 n0 T0)) (by simp [nd])
  · exact T (T1 nb (T1 n5 T0)) (by simp [nd])
  · exact T (T1 nb (T1 n6 T0)) (by simp [nd])
  · exact T (T1 nb (T1 n7 T0)) (by simp [nd])
  · exact T (T1 nb (T1 na T0)) (by simp [nd])
  · exact ⟨nice_list (T1 nb (T1 nw T0)), by simp [nd]⟩
  · exact T (T1 n1 (T1 na T0)) (by simp [nd])
  · exact T (T1 n1 (T1 na (T1 na (T1 na T0)))) (by simp [nd])
  · exact T (T1 n2 (T1 na (T1 na T0))) (by simp [nd, da])
  · exact T (T1 n3 (T1 na (T1 na T0))) (by simp [nd, da])
  · exact ⟨nice_list (T1 n1 (T1 na (T1 na T0))), by simp [nd]⟩
  · exact T (T1 na (T1 n1 (T1 na T0))) (by simp [nd, da])
  · exact T (T1 n1 (T1 na (T1 na T0))) (by simp [nd, da])
  · exact T (T1 n4 (T1 na (T1 na T0))) (by simp [nd, da])
theorem law_odd_ok {c : Int} {w : List Nat} {m : Mem} (hw : isW w) : ∃ x, nice x ∧ nd x ≤ 3 ∧ F__law_odd [.d (.int c), .d (.str (S w))] m = .ok (.d x) m := by
  obtain ⟨u, hu, ho, hul⟩ := upper_ok hw
  have h8 := hw.hi
  have hup : upperW (.d (.str (S w))) [] m = .ok (.d (.str (S u))) m := by
    show (if (S w).length ≤ 5592405 then Res.ok (W.d (.str (Txt.upper (S w)))) m else .bad) = _
    rw [if_pos (show (S w).length ≤ 5592405 by rw [S_len]; omega), hu]
  obtain ⟨a, ha⟩ : ∃ a, a = enc (.b w) := ⟨_, rfl⟩
  have hae : PyData.tuple [.str (Str.ofString "basic"), .str (S w)] = a := by rw [ha, basic_eq]; rfl
  have hlt : (c % 24).toNat < (oddA w u ++ oddB w a ++ oddC a).length := by
    have : (oddA w u ++ oddB w a ++ oddC a).length = 24 := by simp [oddA, oddB, oddC]
    omega
  obtain ⟨x, hx⟩ : ∃ x, (oddA w u ++ oddB w a ++ oddC a)[(c % 24).toNat]? = some x := ⟨_, List.getElem?_eq_getElem hlt⟩
  obtain ⟨n1, n2⟩ := odd_nice hw ho hul x (by rw [← ha]; exact List.mem_of_getElem? hx)
  have a1 : addW (.d (.list (oddA w u))) (.fl (oddB w a)) m = .ok (.fl (oddA w u ++ oddB w a)) m := by
    simp [addW, asT, asL, sizeLine_eq, oddA, oddB]
  have a2 : addW (.d (.list (oddA w u ++ oddB w a))) (.fl (oddC a)) m = .ok (.fl (oddA w u ++ oddB w a ++ oddC a)) m := by
    simp only [addW, asT, asL]
    rw [if_pos (by simp [sizeLine_eq, oddA, oddB, oddC])]
  have hix := ixW_list (m := m) (ds := oddA w u ++ oddB w a ++ oddC a) (i := c % 24) (c := x) (by rw [atI_of (by omega)]; exact hx)
  refine ⟨x, n1, n2, ?_⟩
  refine run_wp (Q := fun r => r = .ok (.d x) m) ?_
  unfold m__law_odd
  refine wp_go (e := [some (.d (.int c)), some (.d (.str (S w))), some (.d a), none]) (m1 := m) (by simp [runF, env0, finM, sSeq, sNx, sIf, sRet, sAsg, asgK, gSet, sDrop, sAug, eS_ok, tBool, tTru, truW, eOp, eChain, eVar, eC, eFrz, eObj, aNil, aCons, eTup, eLst, asDs, eCall, eCallF, callM, noFl, tAndF, tOrF, tNotF, eAnd, eOr, eNot, eIsi, tyW, Tk.sub, eSl, oNone, oSome, eMt, eMt0, isTyW, eNeg, negW, Res.bind_ok, List.length_cons, List.length_nil, List.map_cons, List.map_nil, List.cons_append, List.nil_append, List.replicate, List.getElem?_cons_zero, List.getElem?_cons_succ, List.set_cons_zero, List.set_cons_succ, if_true, if_false, Nat.sub_self, Nat.reduceSub, Nat.reduceAdd, sizeLine_eq, hae]) ?_
  refine wp_go (e := [some (.d (.int c)), some (.d (.str (S w))), some (.d a), some (.d (.list (oddA w u)))]) (m1 := m) (by simp [runF, env0, finM, sSeq, sNx, sIf, sRet, sAsg, asgK, gSet, sDrop, sAug, eS_ok, tBool, tTru, truW, eOp, eChain, eVar, eC, eFrz, eObj, aNil, aCons, eTup, eLst, asDs, eCall, eCallF, callM, noFl, tAndF, tOrF, tNotF, eAnd, eOr, eNot, eIsi, tyW, Tk.sub, eSl, oNone, oSome, eMt, eMt0, isTyW, eNeg, negW, Res.bind_ok, List.length_cons, List.length_nil, List.map_cons, List.map_nil, List.cons_append, List.nil_append, List.replicate, List.getElem?_cons_zero, List.getElem?_cons_succ, List.set_cons_zero, List.set_cons_succ, if_true, if_false, Nat.sub_self, Nat.reduceSub, Nat.reduceAdd, sizeLine_eq, hup]; rfl) ?_
  refine wp_go (e := [some (.d (.int c)), some (.d (.str (S w))), some (.d a), some (.d (.list (oddA w u ++ oddB w a)))]) (m1 := m) (by
    have e : ∀ f : EF, f [some (.d (.int c)), some (.d (.str (S w))), some (.d a), some (.d (.list (oddA w u)))] m = .ok (.fl (oddB w a)) m → sAsg (eFrz (eOp addW (eVar 3) f)) (gSet 3) [some (.d (.int c)), some (.d (.str (S w))), some (.d a), some (.d (.list (oddA w u)))] m = .nx [some (.d (.int c)), some (.d (.str (S w))), some (.d a), some (.d (.list (oddA w u ++ oddB w a)))] m := fun f hf => by simp [runF, env0, finM, sSeq, sNx, sIf, sRet, sAsg, asgK, gSet, sDrop, sAug, eS_ok, tBool, tTru, truW, eOp, eChain, eVar, eC, eFrz, eObj, aNil, aCons, eTup, eLst, asDs, eCall, eCallF, callM, noFl, tAndF, tOrF, tNotF, eAnd, eOr, eNot, eIsi, tyW, Tk.sub, eSl, oNone, oSome, eMt, eMt0, isTyW, eNeg, negW, Res.bind_ok, List.length_cons, List.length_nil, List.map_cons, List.map_nil, List.cons_append, List.nil_append, List.replicate, List.getElem?_cons_zero, List.getElem?_cons_succ, List.set_cons_zero, List.set_cons_succ, if_true, if_false, Nat.sub_self, Nat.reduceSub, Nat.reduceAdd, sizeLine_eq, hf, a1]
    exact e _ (by simp [runF, env0, finM, sSeq, sNx, sIf, sRet, sAsg, asgK, gSet, sDrop, sAug, eS_ok, tBool, tTru, truW, eOp, eChain, eVar, eC, eFrz, eObj, aNil, aCons, eTup, eLst, asDs, eCall, eCallF, callM, noFl, tAndF, tOrF, tNotF, eAnd, eOr, eNot, eIsi, tyW, Tk.sub, eSl, oNone, oSome, eMt, eMt0, isTyW, eNeg, negW, Res.bind_ok, List.length_cons, List.length_nil, List.map_cons, List.map_nil, List.cons_append, List.nil_append, List.replicate, List.getElem?_cons_zero, List.getElem?_cons_succ, List.set_cons_zero, List.set_cons_succ, if_true, if_false, Nat.sub_self, Nat.reduceSub, Nat.reduceAdd, sizeLine_eq]; rfl)) ?_
  refine wp_go (e := [some (.d (.int c)), some (.d (.str (S w))), some (.d a), some (.d (.list (oddA w u ++ oddB w a ++ oddC a)))]) (m1 := m) (by
    have e : ∀ f : EF, f [some (.d (.int c)), some (.d (.str (S w))), some (.d a), some (.d (.list (oddA w u ++ oddB w a)))] m = .ok (.fl (oddC a)) m → sAsg (eFrz (eOp addW (eVar 3) f)) (gSet 3) [some (.d (.int c)), some (.d (.str (S w))), some (.d a), some (.d (.list (oddA w u ++ oddB w a)))] m = .nx [some (.d (.int c)), some (.d (.str (S w))), some (.d a), some (.d (.list (oddA w u ++ oddB w a ++ oddC a)))] m := fun f hf => by simp only [runF, env0, finM, sSeq, sNx, sIf, sRet, sAsg, asgK, gSet, sDrop, sAug, eS_ok, tBool, tTru, truW, eOp, eChain, eVar, eC, eFrz, eObj, aNil, aCons, eTup, eLst, asDs, eCall, eCallF, callM, noFl, tAndF, tOrF, tNotF, eAnd, eOr, eNot, eIsi, tyW, Tk.sub, eSl, oNone, oSome, eMt, eMt0, isTyW, eNeg, negW, Res.bind_ok, List.length_cons, List.length_nil, List.map_cons, List.map_nil, List.cons_append, List.nil_append, List.replicate, List.getElem?_cons_zero, List.getElem?_cons_succ, List.set_cons_zero, List.set_cons_succ, if_true, if_false, Nat.sub_self, Nat.reduceSub, Nat.reduceAdd, sizeLine_eq, hf, a2]
    exact e _ (by simp [runF, env0, finM, sSeq, sNx, sIf, sRet, sAsg, asgK, gSet, sDrop, sAug, eS_ok, tBool, tTru, truW, eOp, eChain, eVar, eC, eFrz, eObj, aNil, aCons, eTup, eLst, asDs, eCall, eCallF, callM, noFl, tAndF, tOrF, tNotF, eAnd, eOr, eNot, eIsi, tyW, Tk.sub, eSl, oNone, oSome, eMt, eMt0, isTyW, eNeg, negW, Res.bind_ok, List.length_cons, List.length_nil, List.map_cons, List.map_nil, List.cons_append, List.nil_append, List.replicate, List.getElem?_cons_zero, List.getElem?_cons_succ, List.set_cons_zero, List.set_cons_succ, if_true, if_false, Nat.sub_self, Nat.reduceSub, Nat.reduceAdd, sizeLine_eq]; rfl)) ?_
  refine wp_ret (w := .d x) (m1 := m) (by simp only [runF, env0, finM, sSeq, sNx, sIf, sRet, sAsg, asgK, gSet, sDrop, sAug, eS_ok, tBool, tTru, truW, eOp, eChain, eVar, eC, eFrz, eObj, aNil, aCons, eTup, eLst, asDs, eCall, eCallF, callM, noFl, tAndF, tOrF, tNotF, eAnd, eOr, eNot, eIsi, tyW, Tk.sub, eSl, oNone, oSome, eMt, eMt0, isTyW, eNeg, negW, Res.bind_ok, List.length_cons, List.length_nil, List.map_cons, List.map_nil, List.cons_append, List.nil_append, List.replicate, List.getElem?_cons_zero, List.getElem?_cons_succ, List.set_cons_zero, List.set_cons_succ, if_true, if_false, Nat.sub_self, Nat.reduceSub, Nat.reduceAdd, sizeLine_eq, modW_s (show (0 : Int) < 24 by decide), hix]) ?_
  simp
/-! ### exchanged -/
theorem exch_leaf {n : Nat} {x y : D} {c : Int} {m : Mem} (h : (eIsi [.tup] (eVar 0)) [some (.d x), some (.d (.int c)), some (.d y), none] m = .ok (.d (.bool false)) m) : F__law_exchanged (n + 1) [.d x, .d (.int c), .d y] m = .ok (.d y) m := by
  refine run_wp (Q := fun r => r = .ok (.d y) m) ?_
  unfold m__law_exchanged
  have hc : (tNotF (tTru (eIsi [.tup] (eVar 0)))) [some (.d x), some (.d (.int c)), some (.d y), none] m = .ok true m := by
    simp only [tNotF, tTru, h, Res.bind_ok, truW]
    rfl
  refine wp_sIfR (m1 := m) (m2 := m) (w := .d y) (by simp only [tOrF, env0]; show (tNotF (tTru (eIsi [.tup] (eVar 0))) [some (.d x), some (.d (.int c)), some (.d y), none] m).bind _ = _; rw [hc]; rfl) (by simp [runF, env0, finM, sSeq, sNx, sIf, sRet, sAsg, asgK, gSet, sDrop, sAug, eS_ok, tBool, tTru, truW, eOp, eChain, eVar, eC, eFrz, eObj, aNil, aCons, eTup, eLst, asDs, eCall, eCallF, callM, noFl, tAndF, tOrF, tNotF, eAnd, eOr, eNot, eIsi, tyW, Tk.sub, eSl, oNone, oSome, eMt, eMt0, isTyW, eNeg, negW, Res.bind_ok, List.length_cons, List.length_nil, List.map_cons, List.map_nil, List.cons_append, List.nil_append, List.replicate, List.getElem?_cons_zero, List.getElem?_cons_succ, List.set_cons_zero, List.set_cons_succ, if_true, if_false, Nat.sub_self, Nat.reduceSub, Nat.reduceAdd, sizeLine_eq] <;> (try first | rfl | exact ⟨rfl, rfl⟩)) ?_
  simp
theorem exch_str {n : Nat} {s : Str} {y : D} {c : Int} {m : Mem} : F__law_exchanged (n + 1) [.d (.str s), .d (.int c), .d y] m = .ok (.d y) m := exch_leaf (by simp [runF, env0, finM, sSeq, sNx, sIf, sRet, sAsg, asgK, gSet, sDrop, sAug, eS_ok, tBool, tTru, truW, eOp, eChain, eVar, eC, eFrz, eObj, aNil, aCons, eTup, eLst, asDs, eCall, eCallF, callM, noFl, tAndF, tOrF, tNotF, eAnd, eOr, eNot, eIsi, tyW, Tk.sub, eSl, oNone, oSome, eMt, eMt0, isTyW, eNeg, negW, Res.bind_ok, List.length_cons, List.length_nil, List.map_cons, List.map_nil, List.cons_append, List.nil_append, List.replicate, List.getElem?_cons_zero, List.getElem?_cons_succ, List.set_cons_zero, List.set_cons_succ, if_true, if_false, Nat.sub_self, Nat.reduceSub, Nat.reduceAdd, sizeLine_eq])
def exOk (n : Nat) (y : D) (m : Mem) (x : D) : Prop := ∀ c : Int, ∃ z, nice z ∧ nd z ≤ nd x + nd y ∧ F__law_exchanged n [.d x, .d (.int c), .d y] m = .ok (.d z) m
theorem exch_tup {n : Nat} {y : D} {m : Mem} {ds : List D} (h2 : ds.length = 2 ∨ ds.length = 3) (hn : ∀ d ∈ ds, nice d) (hy : nice y) (ih : ∀ d ∈ ds, exOk n y m d) : exOk (n + 1) y m (.tuple ds) := by
  intro c
  have py := nd_pos y
  have pt := nd_pos (.tuple ds)
  by_cases h5 : c % 5 = 0
  · refine ⟨y, hy, by omega, ?_⟩
    refine run_wp (Q := fun r => r = .ok (.d y) m) ?_
    unfold m__law_exchanged
    have hl : ¬ (ds.length : Int) < 2 := by omega
    refine wp_sIfR (by simp [runF, env0, finM, sSeq, sNx, sIf, sRet, sAsg, asgK, gSet, sDrop, sAug, eS_ok, tBool, tTru, truW, eOp, eChain, eVar, eC, eFrz, eObj, aNil, aCons, eTup, eLst, asDs, eCall, eCallF, callM, noFl, tAndF, tOrF, tNotF, eAnd, eOr, eNot, eIsi, tyW, Tk.sub, eSl, oNone, oSome, eMt, eMt0, isTyW, eNeg, negW, Res.bind_ok, List.length_cons, List.length_nil, List.map_cons, List.map_nil, List.cons_append, List.nil_append, List.replicate, List.getElem?_cons_zero, List.getElem?_cons_succ, List.set_cons_zero, List.set_cons_succ, if_true, if_false, Nat.sub_self, Nat.reduceSub, Nat.reduceAdd, sizeLine_eq, tupLen, hl, h5, ngB] <;> (try first | rfl | exact ⟨rfl, rfl⟩)) (by simp [runF, env0, finM, sSeq, sNx, sIf, sRet, sAsg, asgK, gSet, sDrop, sAug, eS_ok, tBool, tTru, truW, eOp, eChain, eVar, eC, eFrz, eObj, aNil, aCons, eTup, eLst, asDs, eCall, eCallF, callM, noFl, tAndF, tOrF, tNotF, eAnd, eOr, eNot, eIsi, tyW, Tk.sub, eSl, oNone, oSome, eMt, eMt0, isTyW, eNeg, negW, Res.bind_ok, List.length_cons, List.length_nil, List.map_cons, List.map_nil, List.cons_append, List.nil_append, List.replicate, List.getElem?_cons_zero, List.getElem?_cons_succ, List.set_cons_zero, List.set_cons_succ, if_true, if_false, Nat.sub_self, Nat.reduceSub, Nat.reduceAdd, sizeLine_eq] <;> (try first | rfl | exact ⟨rfl, rfl⟩)) ?_
    simp
  · obtain ⟨a, ha⟩ : ∃ a : Nat, c / 5 % (ds.length : Int) = (a : Int) := ⟨(c / 5 % (ds.length : Int)).toNat, by
      have := Int.emod_nonneg (c / 5) (show (ds.length : Int) ≠ 0 by omega)
      omega⟩
    have hal : a < ds.length := by
      have := Int.emod_lt_of_pos (c / 5) (show 0 < (ds.length : Int) by omega)
      omega
    obtain ⟨z, hz, hnz, hF⟩ := ih ds[a] (List.getElem_mem hal) (c / 15)
    have hl : ¬ (ds.length : Int) < 2 := by omega
    have hmod := modW_pos (m := m) (i := c / 5) (j := (ds.length : Int)) (by omega)
    have hix := ixW_tup (m := m) (ds := ds) (i := (a : Int)) (c := ds[a]) (by rw [atI_cast, List.getElem?_eq_getElem hal])
    have c1 : slW (.d (.tuple ds)) none (some (a : Int)) m = .ok (.d (.tuple (ds.take a))) m := by
      simp only [slW]; rw [cutD_take (by omega)]; rfl
    have c2 : slW (.d (.tuple ds)) (some ((a : Int) + 1)) none m = .ok (.d (.tuple (ds.drop (a + 1)))) m := by
      simp only [slW]; rw [cutD_drop (by omega)]; rfl
    have a1 : addW (.d (.tuple (ds.take a))) (.d (.tuple [z])) m = .ok (.d (.tuple (ds.take a ++ [z]))) m := by
      simp only [addW]; rw [if_pos (by rw [sizeLine_eq]; simp; omega)]
    have a2 : addW (.d (.tuple (ds.take a ++ [z]))) (.d (.tuple (ds.drop (a + 1)))) m = .ok (.d (.tuple (ds.take a ++ [z] ++ ds.drop (a + 1)))) m := by
      simp only [addW]; rw [if_pos (by rw [sizeLine_eq]; simp; omega)]
    refine ⟨.tuple (ds.take a ++ [z] ++ ds.drop (a + 1)), nice_tup fun d hd => ?_, ?_, ?_⟩
    · rcases List.mem_append.mp hd with hd | hd
      · rcases List.mem_append.mp hd with hd | hd
        · exact hn d (List.mem_of_mem_take hd)
        · rw [List.mem_singleton.mp hd]; exact hz
      · exact hn d (List.mem_of_mem_drop hd)
    · rcases h2 with h2 | h2
      · obtain ⟨p, q, rfl⟩ : ∃ p q, ds = [p, q] := by
          match ds, h2 with
          | [p, q], _ => exact ⟨p, q, rfl⟩
        have h01 : a = 0 ∨ a = 1 := by simp at hal; omega
        rcases h01 with rfl | rfl <;> simp [nd]
      · obtain ⟨p, q, r, rfl⟩ : ∃ p q r, ds = [p, q, r] := by
          match ds, h2 with
          | [p, q, r], _ => exact ⟨p, q, r, rfl⟩
        have h01 : a = 0 ∨ a = 1 ∨ a = 2 := by simp at hal; omega
        rcases h01 with rfl | rfl | rfl
        · simp [nd]
        · simp [nd] at hnz ⊢; omega
        · simp [nd] at hnz ⊢; omega
    · refine run_wp (Q := fun r => r = .ok (.d (.tuple (ds.take a ++ [z] ++ ds.drop (a + 1)))) m) ?_
      unfold m__law_exchanged
      refine wp_sIfN (by simp [runF, env0, finM, sSeq, sNx, sIf, sRet, sAsg, asgK, gSet, sDrop, sAug, eS_ok, tBool, tTru, truW, eOp, eChain, eVar, eC, eFrz, eObj, aNil, aCons, eTup, eLst, asDs, eCall, eCallF, callM, noFl, tAndF, tOrF, tNotF, eAnd, eOr, eNot, eIsi, tyW, Tk.sub, eSl, oNone, oSome, eMt, eMt0, isTyW, eNeg, negW, Res.bind_ok, List.length_cons, List.length_nil, List.map_cons, List.map_nil, List.cons_append, List.nil_append, List.replicate, List.getElem?_cons_zero, List.getElem?_cons_succ, List.set_cons_zero, List.set_cons_succ, if_true, if_false, Nat.sub_self, Nat.reduceSub, Nat.reduceAdd, sizeLine_eq, tupLen, hl, h5, ngB] <;> (try first | rfl | exact ⟨rfl, rfl⟩)) ?_
      refine wp_go (by simp only [runF, env0, finM, sSeq, sNx, sIf, sRet, sAsg, asgK, gSet, sDrop, sAug, eS_ok, tBool, tTru, truW, eOp, eChain, eVar, eC, eFrz, eObj, aNil, aCons, eTup, eLst, asDs, eCall, eCallF, callM, noFl, tAndF, tOrF, tNotF, eAnd, eOr, eNot, eIsi, tyW, Tk.sub, eSl, oNone, oSome, eMt, eMt0, isTyW, eNeg, negW, Res.bind_ok, List.length_cons, List.length_nil, List.map_cons, List.map_nil, List.cons_append, List.nil_append, List.replicate, List.getElem?_cons_zero, List.getElem?_cons_succ, List.set_cons_zero, List.set_cons_succ, if_true, if_false, Nat.sub_self, Nat.reduceSub, Nat.reduceAdd, sizeLine_eq, divW_s (show (0 : Int) < 5 by decide) (by decide), tupLen, hmod, ha]; rfl) ?_
      refine wp_ret (w := .d (.tuple (ds.take a ++ [z] ++ ds.drop (a + 1)))) (m1 := m) (by simp only [runF, env0, finM, sSeq, sNx, sIf, sRet, sAsg, asgK, gSet, sDrop, sAug, eS_ok, tBool, tTru, truW, eOp, eChain, eVar, eC, eFrz, eObj, aNil, aCons, eTup, eLst, asDs, eCall, eCallF, callM, noFl, tAndF, tOrF, tNotF, eAnd, eOr, eNot, eIsi, tyW, Tk.sub, eSl, oNone, oSome, eMt, eMt0, isTyW, eNeg, negW, Res.bind_ok, List.length_cons, List.length_nil, List.map_cons, List.map_nil, List.cons_append, List.nil_append, List.replicate, List.getElem?_cons_zero, List.getElem?_cons_succ, List.set_cons_zero, List.set_cons_succ, if_true, if_false, Nat.sub_self, Nat.reduceSub, Nat.reduceAdd, sizeLine_eq, c1, hix, divW_s (show (0 : Int) < 15 by decide) (by decide), hF, Option.map_some, Nat.reduceLeDiff, a1, addW_int, c2, a2]) ?_
      simp
theorem exch_ok {y : D} {m : Mem} (hy : nice y) : ∀ (n : Nat) (f : Fm), f.size < n → f.wf → exOk n y m (enc f)
  | 0, f, h, _ => by omega
  | 1, f, h, _ => by have := f.size_pos; omega
  | n + 2, .b w, h, hw => by
    have py := nd_pos y
    refine exch_tup (.inl rfl) (fun d hd => nice_tup_mem (nice_enc (f := .b w) hw) d hd) hy fun d hd => ?_
    rcases List.mem_cons.mp hd with rfl | hd
    · exact fun c => ⟨y, hy, by omega, exch_str⟩
    · rw [List.mem_singleton.mp hd]
      exact fun c => ⟨y, hy, by omega, exch_str⟩
  | n + 2, .n s x z, h, hw => by
    have px := x.size_pos
    have pz := z.size_pos
    have h : x.size + z.size < n + 2 := h
    refine exch_tup (.inr rfl) (fun d hd => nice_tup_mem (nice_enc (f := .n s x z) hw) d hd) hy fun d hd => ?_
    rcases List.mem_cons.mp hd with rfl | hd
    · exact fun c => ⟨y, hy, by omega, exch_str⟩
    · rcases List.mem_cons.mp hd with rfl | hd
      · exact exch_ok hy (n + 1) x (by omega) hw.1
      · rw [List.mem_singleton.mp hd]
        exact exch_ok hy (n + 1) z (by omega) hw.2
/-! ### grown -/
def grI (many cell : Int) (w : List Nat) (m : Mem) (k0 : Nat) (i : Nat) (env : En) (m' : Mem) : Prop := ∃ (x : D) (a b : Option W), env = [some (.d x), some (.d (.int many)), some (.d (.int cell)), some (.d (.str (S w))), a, b] ∧ m' = m ∧ nice x ∧ nd x ≤ k0 + 2 * i
theorem gr_step {many cell : Int} {w : List Nat} {m : Mem} {k0 i : Nat} {env : En} {m' : Mem} (hw : isW w) : grI many cell w m k0 i env m' → stepOk (sTg (gSet 4) b1__law_grown (.d (.int (0 + (i : Int)))) env m') (grI many cell w m k0 (i + 1)) := by
  rintro ⟨x, a, b, rfl, rfl, hx, hn⟩
  obtain ⟨t, ht⟩ := slash_at (i := (0 + (i : Int)) % 2) (by omega)
  have hix := ixW_str (m := m') (l := [47, 92]) (by decide) ht
  rw [slash_S] at hix
  have hone : PyData.tuple [.str (Str.ofString "basic"), .str (S w)] = enc (.b w) := by rw [basic_eq]; rfl
  have n1 := nice_enc (f := .b w) hw
  have ns : nice (.str (S (slash t))) := nice_S (okC_slash t) (by cases t <;> decide)
  have d1 : nd (enc (.b w)) = 1 := by simp [enc, nd]
  have g1 : nice (.tuple [.str (S (slash t)), x, enc (.b w)]) := nice_tup (by simp; exact ⟨ns, hx, n1⟩)
  have g2 : nice (.tuple [.str (S (slash t)), enc (.b w), x]) := nice_tup (by simp; exact ⟨ns, n1, hx⟩)
  obtain ⟨j, hj⟩ : ∃ j : Int, j = 0 + (i : Int) := ⟨_, rfl⟩
  rw [← hj] at hix ⊢
  have key : WP (fun r => stepOk r (grI many cell w m' k0 (i + 1))) (b1__law_grown [some (.d x), some (.d (.int many)), some (.d (.int cell)), some (.d (.str (S w))), some (.d (.int j)), b] m') := by
    unfold b1__law_grown
    refine wp_go (e := [some (.d x), some (.d (.int many)), some (.d (.int cell)), some (.d (.str (S w))), some (.d (.int j)), some (.d (enc (.b w)))]) (m1 := m') (by simp [runF, env0, finM, sSeq, sNx, sIf, sRet, sAsg, asgK, gSet, sDrop, sAug, eS_ok, tBool, tTru, truW, eOp, eChain, eVar, eC, eFrz, eObj, aNil, aCons, eTup, eLst, asDs, eCall, eCallF, callM, noFl, tAndF, tOrF, tNotF, eAnd, eOr, eNot, eIsi, tyW, Tk.sub, eSl, oNone, oSome, eMt, eMt0, isTyW, eNeg, negW, Res.bind_ok, List.length_cons, List.length_nil, List.map_cons, List.map_nil, List.cons_append, List.nil_append, List.replicate, List.getElem?_cons_zero, List.getElem?_cons_succ, List.set_cons_zero, List.set_cons_succ, if_true, if_false, Nat.sub_self, Nat.reduceSub, Nat.reduceAdd, sizeLine_eq, hone]) ?_
    refine wp_if (t := decide (cell % 3 = 0 ∨ cell % 3 = 2 ∧ j % 2 = 0)) (m1 := m') (by
      by_cases h1 : cell % 3 = 0
      · simp [runF, env0, finM, sSeq, sNx, sIf, sRet, sAsg, asgK, gSet, sDrop, sAug, eS_ok, tBool, tTru, truW, eOp, eChain, eVar, eC, eFrz, eObj, aNil, aCons, eTup, eLst, asDs, eCall, eCallF, callM, noFl, tAndF, tOrF, tNotF, eAnd, eOr, eNot, eIsi, tyW, Tk.sub, eSl, oNone, oSome, eMt, eMt0, isTyW, eNeg, negW, Res.bind_ok, List.length_cons, List.length_nil, List.map_cons, List.map_nil, List.cons_append, List.nil_append, List.replicate, List.getElem?_cons_zero, List.getElem?_cons_succ, List.set_cons_zero, List.set_cons_succ, if_true, if_false, Nat.sub_self, Nat.reduceSub, Nat.reduceAdd, sizeLine_eq, h1, ngB]
      · by_cases h2 : cell % 3 = 2
        · by_cases h3 : j % 2 = 0
          · simp [runF, env0, finM, sSeq, sNx, sIf, sRet, sAsg, asgK, gSet, sDrop, sAug, eS_ok, tBool, tTru, truW, eOp, eChain, eVar, eC, eFrz, eObj, aNil, aCons, eTup, eLst, asDs, eCall, eCallF, callM, noFl, tAndF, tOrF, tNotF, eAnd, eOr, eNot, eIsi, tyW, Tk.sub, eSl, oNone, oSome, eMt, eMt0, isTyW, eNeg, negW, Res.bind_ok, List.length_cons, List.length_nil, List.map_cons, List.map_nil, List.cons_append, List.nil_append, List.replicate, List.getElem?_cons_zero, List.getElem?_cons_succ, List.set_cons_zero, List.set_cons_succ, if_true, if_false, Nat.sub_self, Nat.reduceSub, Nat.reduceAdd, sizeLine_eq, h1, h2, h3, ngB]
          · simp [runF, env0, finM, sSeq, sNx, sIf, sRet, sAsg, asgK, gSet, sDrop, sAug, eS_ok, tBool, tTru, truW, eOp, eChain, eVar, eC, eFrz, eObj, aNil, aCons, eTup, eLst, asDs, eCall, eCallF, callM, noFl, tAndF, tOrF, tNotF, eAnd, eOr, eNot, eIsi, tyW, Tk.sub, eSl, oNone, oSome, eMt, eMt0, isTyW, eNeg, negW, Res.bind_ok, List.length_cons, List.length_nil, List.map_cons, List.map_nil, List.cons_append, List.nil_append, List.replicate, List.getElem?_cons_zero, List.getElem?_cons_succ, List.set_cons_zero, List.set_cons_succ, if_true, if_false, Nat.sub_self, Nat.reduceSub, Nat.reduceAdd, sizeLine_eq, h1, h2, h3, ngB]
        · simp [runF, env0, finM, sSeq, sNx, sIf, sRet, sAsg, asgK, gSet, sDrop, sAug, eS_ok, tBool, tTru, truW, eOp, eChain, eVar, eC, eFrz, eObj, aNil, aCons, eTup, eLst, asDs, eCall, eCallF, callM, noFl, tAndF, tOrF, tNotF, eAnd, eOr, eNot, eIsi, tyW, Tk.sub, eSl, oNone, oSome, eMt, eMt0, isTyW, eNeg, negW, Res.bind_ok, List.length_cons, List.length_nil, List.map_cons, List.map_nil, List.cons_append, List.nil_append, List.replicate, List.getElem?_cons_zero, List.getElem?_cons_succ, List.set_cons_zero, List.set_cons_succ, if_true, if_false, Nat.sub_self, Nat.reduceSub, Nat.reduceAdd, sizeLine_eq, h1, h2, ngB]) ?_ ?_
    · intro _
      refine wp_eq (r := .nx [some (.d (.tuple [.str (S (slash t)), x, enc (.b w)])), some (.d (.int many)), some (.d (.int cell)), some (.d (.str (S w))), some (.d (.int j)), some (.d (enc (.b w)))] m') (by simp [runF, env0, finM, sSeq, sNx, sIf, sRet, sAsg, asgK, gSet, sDrop, sAug, eS_ok, tBool, tTru, truW, eOp, eChain, eVar, eC, eFrz, eObj, aNil, aCons, eTup, eLst, asDs, eCall, eCallF, callM, noFl, tAndF, tOrF, tNotF, eAnd, eOr, eNot, eIsi, tyW, Tk.sub, eSl, oNone, oSome, eMt, eMt0, isTyW, eNeg, negW, Res.bind_ok, List.length_cons, List.length_nil, List.map_cons, List.map_nil, List.cons_append, List.nil_append, List.replicate, List.getElem?_cons_zero, List.getElem?_cons_succ, List.set_cons_zero, List.set_cons_succ, if_true, if_false, Nat.sub_self, Nat.reduceSub, Nat.reduceAdd, sizeLine_eq, slash_eq, hix]) ?_
      exact ⟨_, _, _, rfl, rfl, g1, by rw [nd]; omega⟩
    · intro _
      refine wp_eq (r := .nx [some (.d (.tuple [.str (S (slash t)), enc (.b w), x])), some (.d (.int many)), some (.d (.int cell)), some (.d (.str (S w))), some (.d (.int j)), some (.d (enc (.b w)))] m') (by simp [runF, env0, finM, sSeq, sNx, sIf, sRet, sAsg, asgK, gSet, sDrop, sAug, eS_ok, tBool, tTru, truW, eOp, eChain, eVar, eC, eFrz, eObj, aNil, aCons, eTup, eLst, asDs, eCall, eCallF, callM, noFl, tAndF, tOrF, tNotF, eAnd, eOr, eNot, eIsi, tyW, Tk.sub, eSl, oNone, oSome, eMt, eMt0, isTyW, eNeg, negW, Res.bind_ok, List.length_cons, List.length_nil, List.map_cons, List.map_nil, List.cons_append, List.nil_append, List.replicate, List.getElem?_cons_zero, List.getElem?_cons_succ, List.set_cons_zero, List.set_cons_succ, if_true, if_false, Nat.sub_self, Nat.reduceSub, Nat.reduceAdd, sizeLine_eq, slash_eq, hix]) ?_
      exact ⟨_, _, _, rfl, rfl, g2, by rw [nd]; omega⟩
  exact key
theorem law_grown_ok {x : D} {many : Nat} {cell : Int} {w : List Nat} {m : Mem} (hx : nice x) (hw : isW w) (hm : many ≤ 1000) : ∃ z, nice z ∧ nd z ≤ nd x + 2 * many ∧ F__law_grown [.d x, .d (.int (many : Int)), .d (.int cell), .d (.str (S w))] m = .ok (.d z) m := by
  have hr (m : Mem) : rng1 [.d (.int (many : Int))] m = .ok (rngI 0 many) m := by rw [rng1_ok (by omega) (by omega)]; simp
  refine run_wp (Q := fun r => ∃ z, nice z ∧ nd z ≤ nd x + 2 * many ∧ r = .ok (.d z) m) ?_
  unfold m__law_grown
  refine wp_sForR (by simp [runF, env0, finM, sSeq, sNx, sIf, sRet, sAsg, asgK, gSet, sDrop, sAug, eS_ok, tBool, tTru, truW, eOp, eChain, eVar, eC, eFrz, eObj, aNil, aCons, eTup, eLst, asDs, eCall, eCallF, callM, noFl, tAndF, tOrF, tNotF, eAnd, eOr, eNot, eIsi, tyW, Tk.sub, eSl, oNone, oSome, eMt, eMt0, isTyW, eNeg, negW, Res.bind_ok, List.length_cons, List.length_nil, List.map_cons, List.map_nil, List.cons_append, List.nil_append, List.replicate, List.getElem?_cons_zero, List.getElem?_cons_succ, List.set_cons_zero, List.set_cons_succ, if_true, if_false, Nat.sub_self, Nat.reduceSub, Nat.reduceAdd, sizeLine_eq, iRange1, hr] <;> (try first | rfl | exact ⟨rfl, rfl⟩)) (grI many cell w m (nd x)) ⟨x, _, _, rfl, rfl, hx, by omega⟩ (fun i env m' hi hp => gr_step hw hp) ?_
  rintro _ _ ⟨z, a, b, rfl, rfl, hz, hn⟩
  refine wp_ret (by simp [runF, env0, finM, sSeq, sNx, sIf, sRet, sAsg, asgK, gSet, sDrop, sAug, eS_ok, tBool, tTru, truW, eOp, eChain, eVar, eC, eFrz, eObj, aNil, aCons, eTup, eLst, asDs, eCall, eCallF, callM, noFl, tAndF, tOrF, tNotF, eAnd, eOr, eNot, eIsi, tyW, Tk.sub, eSl, oNone, oSome, eMt, eMt0, isTyW, eNeg, negW, Res.bind_ok, List.length_cons, List.length_nil, List.map_cons, List.map_nil, List.cons_append, List.nil_append, List.replicate, List.getElem?_cons_zero, List.getElem?_cons_succ, List.set_cons_zero, List.set_cons_succ, if_true, if_false, Nat.sub_self, Nat.reduceSub, Nat.reduceAdd, sizeLine_eq] <;> (try first | rfl | exact ⟨rfl, rfl⟩)) ?_
  exact ⟨z, hz, hn, by simp⟩

end K03

set_option Elab.async false
set_option linter.all false
set_option maxRecDepth 100000
set_option maxHeartbeats 1000000
namespace K03
open PySem L2 M
theorem dInts_ints : ∀ ns : List Int, dInts (ns.map PyData.int) = some ns
  | [] => rfl
  | n :: ns => by rw [List.map_cons, dInts, dInts_ints ns]; rfl
theorem nd_enc : ∀ f : Fm, nd (enc f) + 1 = 2 * f.size
  | .b _ => by simp [enc, nd, Fm.size]
  | .n s x y => by
    have := nd_enc x
    have := nd_enc y
    simp only [enc, nd, Fm.size]
    omega
def lawI (E : List (Option W)) (ds : List D) (m : Mem) (env : En) (m' : Mem) : Prop := ∃ x y, env = E ++ [x, y] ∧ m' = m
theorem sts_ix {ws : List (List Nat)} {k : Nat} (h : k < ws.length) (m : Mem) : ixW (.d (.list (sts ws))) (.d (.int (k : Int))) m = .ok (.d (.str (S ws[k]))) m := ixW_list (by
  rw [atI_cast]
  unfold sts
  rw [List.getElem?_map, List.getElem?_eq_getElem h]
  rfl)
theorem thing_step {a0 a1 a2 a3 a4 a5 a6 o p : Option W} {x : D} {m : Mem} (hx : nice x) (hd : nd x ≤ 999) : sTg (gSet 7) b1_law (.d x) [a0, a1, a2, a3, a4, a5, a6, o, p] m = .nx [a0, a1, a2, a3, a4, a5, a6, some (.d x), some (.d (.bool (decide (0 < fsz x 12))))] m := by
  have h1 := is_form_ok (m := m) hx.1 (hx.2 40)
  have h2 := law_due_ok (m := m) hx hd
  have h3 : eqW true (.d (.bool (decide (0 < fsz x 12)))) (.d (.bool (decide (0 < fsz x 12)))) m = .ok (.d (.bool false)) m := by
    unfold eqW asD
    simp [ngB]
  unfold b1_law
  simp [runF, env0, finM, sSeq, sNx, sIf, sRet, sAsg, asgK, gSet, sDrop, sAug, eS_ok, tBool, tTru, truW, eOp, eChain, eVar, eC, eFrz, eObj, aNil, aCons, eTup, eLst, asDs, eCall, eCallF, callM, noFl, tAndF, tOrF, tNotF, eAnd, eOr, eNot, eIsi, tyW, Tk.sub, eSl, oNone, oSome, eMt, eMt0, isTyW, eNeg, negW, Res.bind_ok, List.length_cons, List.length_nil, List.map_cons, List.map_nil, List.cons_append, List.nil_append, List.replicate, List.getElem?_cons_zero, List.getElem?_cons_succ, List.set_cons_zero, List.set_cons_succ, if_true, if_false, Nat.sub_self, Nat.reduceSub, Nat.reduceAdd, sizeLine_eq, sTg, h1, h2, h3]
def thI (a0 a1 a2 a3 a4 a5 a6 : Option W) (m : Mem) (i : Nat) (env : En) (m' : Mem) : Prop := ∃ o p, env = [a0, a1, a2, a3, a4, a5, a6, o, p] ∧ m' = m
theorem law_end {a0 a1 a2 a3 a4 a6 : Option W} {cs ds : List D} {o p : Option W} (hds : ∀ d ∈ ds, nice d ∧ nd d ≤ 999) {Q : Res W → Prop} (hQ : Q (.ok (.d (.bool true)) [])) :
    WP (fun r => Q (outF ([] : Mem).length r)) ((sSeq (sFor (iSeq (eVar 5)) (gSet 7) b1_law) (sRet (eC (.bool true)))) [a0, a1, a2, a3, a4, some (.obj 1), a6, o, p] [.lst cs, .lst ds]) := by
  refine wp_sForO (o := 1) (ds := ds) (by simp [runF, env0, finM, sSeq, sNx, sIf, sRet, sAsg, asgK, gSet, sDrop, sAug, eS_ok, tBool, tTru, truW, eOp, eChain, eVar, eC, eFrz, eObj, aNil, aCons, eTup, eLst, asDs, eCall, eCallF, callM, noFl, tAndF, tOrF, tNotF, eAnd, eOr, eNot, eIsi, tyW, Tk.sub, eSl, oNone, oSome, eMt, eMt0, isTyW, eNeg, negW, Res.bind_ok, List.length_cons, List.length_nil, List.map_cons, List.map_nil, List.cons_append, List.nil_append, List.replicate, List.getElem?_cons_zero, List.getElem?_cons_succ, List.set_cons_zero, List.set_cons_succ, if_true, if_false, Nat.sub_self, Nat.reduceSub, Nat.reduceAdd, sizeLine_eq, iSeq, walkW, asL] <;> (try first | rfl | exact ⟨rfl, rfl⟩)) (canAll_of fun d hd => (hds d hd).1.1) (thI a0 a1 a2 a3 a4 (some (.obj 1)) a6 [.lst cs, .lst ds]) ⟨o, p, rfl, rfl⟩ (fun i env m' ⟨o, p, e, em⟩ => by subst em; rfl) (fun i d env m' hd hp => by
    obtain ⟨o, p, rfl, rfl⟩ := hp
    obtain ⟨h1, h2⟩ := hds d (List.mem_of_getElem? hd)
    rw [thing_step h1 h2, stepOk_nx]
    exact ⟨_, _, rfl, rfl⟩) ?_
  rintro _ _ ⟨o, p, rfl, rfl⟩
  refine wp_ret (by simp [runF, env0, finM, sSeq, sNx, sIf, sRet, sAsg, asgK, gSet, sDrop, sAug, eS_ok, tBool, tTru, truW, eOp, eChain, eVar, eC, eFrz, eObj, aNil, aCons, eTup, eLst, asDs, eCall, eCallF, callM, noFl, tAndF, tOrF, tNotF, eAnd, eOr, eNot, eIsi, tyW, Tk.sub, eSl, oNone, oSome, eMt, eMt0, isTyW, eNeg, negW, Res.bind_ok, List.length_cons, List.length_nil, List.map_cons, List.map_nil, List.cons_append, List.nil_append, List.replicate, List.getElem?_cons_zero, List.getElem?_cons_succ, List.set_cons_zero, List.set_cons_succ, if_true, if_false, Nat.sub_self, Nat.reduceSub, Nat.reduceAdd, sizeLine_eq] <;> (try first | rfl | exact ⟨rfl, rfl⟩)) ?_
  exact hQ
theorem law_true : ∀ ns : List Int, ns.length ≤ 63 → ∃ m, F_law [.ro (ns.map .int)] [] = .ok (.d (.bool true)) m := by
  intro ns hn
  have hc (m : Mem) : F__law_cell_at [.ro (ns.map .int), .d (.int 0)] m = _ := cell_at ns 0 m
  have hc1 (m : Mem) : F__law_cell_at [.ro (ns.map .int), .d (.int 1)] m = _ := cell_at ns 1 m
  have hc2 (m : Mem) : F__law_cell_at [.ro (ns.map .int), .d (.int 2)] m = _ := cell_at ns 2 m
  obtain ⟨c, hcc⟩ : ∃ c, c = ns.getD 0 0 := ⟨_, rfl⟩
  obtain ⟨d, hdd⟩ : ∃ c, c = ns.getD 1 0 := ⟨_, rfl⟩
  obtain ⟨g, hgg⟩ : ∃ c, c = ns.getD 2 0 := ⟨_, rfl⟩
  simp only [← hcc] at hc
  simp only [← hdd] at hc1
  simp only [← hgg] at hc2
  obtain ⟨ws, hl, hw, hN⟩ := law_names (c / 36) 5 (by omega) []
  have hN : F__law_names [.d (.int (c / 36)), .d (.int 5)] [] = .ok (.fl (sts ws)) [] := hN
  obtain ⟨q, hq⟩ : ∃ q : Nat, 1 + c % 12 = (q : Int) := ⟨(1 + c % 12).toNat, by omega⟩
  obtain ⟨cs, hcs⟩ : ∃ cs : List Int, cs = (ns.take 64).drop 3 ++ [ns.sum % 2147483647] := ⟨_, rfl⟩
  have hsl : slW (.ro (ns.map .int)) (some 3) (some 64) [] = .ok (.fl (((ns.take 64).drop 3).map .int)) [] := by
    simp only [slW, asL]
    rw [cutD_mid (by decide) (by decide)]
    simp [List.map_take, List.map_drop]
  have hsum : sumW [.ro (ns.map .int)] [] = .ok (.d (.int ns.sum)) [] := by simp [sumW, lst1, asL, dInts_ints]
  have hadd : addW (.fl (((ns.take 64).drop 3).map .int)) (.fl [.int (ns.sum % 2147483647)]) [] = .ok (.fl (cs.map .int)) [] := by
    have : ((ns.take 64).drop 3).length ≤ 63 := by simp; omega
    simp only [addW, asT, asL, List.length_map, List.length_singleton]
    rw [if_pos (by rw [sizeLine_eq]; omega), hcs]
    simp
  obtain ⟨A, hA⟩ : ∃ A : List D, A = ((ns.take 64).drop 3).map .int := ⟨_, rfl⟩
  rw [← hA] at hsl hadd
  obtain ⟨f, cs', wf, sz, hcs', hF⟩ := law_form (ws := ws) hw (by omega) 40 q (by omega) (by omega) (o := 0) (m := [.lst (cs.map .int)]) (cs := cs) rfl (by rw [hcs]; simp)
  have hM : (List.set [O.lst (cs.map .int)] 0 (.lst (cs'.map .int))) = [.lst (cs'.map .int)] := rfl
  rw [hM] at hF
  have hnf := nd_enc f
  have w0 : isW ws[0] := hw _ (List.getElem_mem _)
  have w1 : isW ws[1] := hw _ (List.getElem_mem _)
  have w2 : isW ws[2] := hw _ (List.getElem_mem _)
  have i0 (m : Mem) : ixW (.d (.list (sts ws))) (.d (.int 0)) m = _ := sts_ix (k := 0) (by omega) m
  have i1 (m : Mem) : ixW (.d (.list (sts ws))) (.d (.int 1)) m = _ := sts_ix (k := 1) (by omega) m
  have i2 (m : Mem) : ixW (.d (.list (sts ws))) (.d (.int 2)) m = _ := sts_ix (k := 2) (by omega) m
  obtain ⟨y, ny, dy, hO⟩ := law_odd_ok (c := d) (m := [.lst (cs'.map .int)]) w1
  obtain ⟨z, nz, dz, hX⟩ := exch_ok (m := [.lst (cs'.map .int)]) ny 40 f (by omega) wf (d / 24)
  obtain ⟨j1, hj1⟩ : ∃ j : Nat, g % 5 = (j : Int) := ⟨(g % 5).toNat, by omega⟩
  obtain ⟨j2, hj2⟩ : ∃ j : Nat, 10 + g / 15 % 4 = (j : Int) := ⟨(10 + g / 15 % 4).toNat, by omega⟩
  obtain ⟨g1, n1, d1, hG1⟩ := law_grown_ok (x := enc f) (many := j1) (cell := g / 5) (m := [.lst (cs'.map .int), .lst [enc f, z]]) (nice_enc wf) w2 (by omega)
  have hbw : PyData.tuple [.str (Str.ofString "basic"), .str (S ws[0])] = enc (.b ws[0]) := by rw [basic_eq]; rfl
  obtain ⟨g2, n2, d2, hG2⟩ := law_grown_ok (x := enc (.b ws[0])) (many := j2) (cell := g / 5) (m := [.lst (cs'.map .int), .lst [enc f, z, g1]]) (nice_enc (f := .b ws[0]) w0) w2 (by omega)
  obtain ⟨g3, n3, d3, hG3⟩ := law_grown_ok (x := enc f) (many := 300) (cell := g / 5) (m := [.lst (cs'.map .int), .lst [enc f, z, g1, g2]]) (nice_enc wf) w2 (by omega)
  have hG3 : F__law_grown [.d (enc f), .d (.int 300), .d (.int (g / 5)), .d (.str (S ws[2]))] _ = _ := hG3
  have d2' : nd (enc (.b ws[0])) = 1 := by simp [enc, nd]
  have base : ∀ d ∈ [enc f, z, g1, g2], nice d ∧ nd d ≤ 999 := by
    intro x hx
    simp only [List.mem_cons, List.not_mem_nil, or_false] at hx
    rcases hx with rfl | rfl | rfl | rfl
    · exact ⟨nice_enc wf, by omega⟩
    · exact ⟨nz, by omega⟩
    · exact ⟨n1, by omega⟩
    · exact ⟨n2, by omega⟩
  refine run_wp (Q := fun r => ∃ m, r = .ok (.d (.bool true)) m) ?_
  unfold m_law
  refine wp_go (by simp [runF, env0, finM, sSeq, sNx, sIf, sRet, sAsg, asgK, gSet, sDrop, sAug, eS_ok, tBool, tTru, truW, eOp, eChain, eVar, eC, eFrz, eObj, aNil, aCons, eTup, eLst, asDs, eCall, eCallF, callM, noFl, tAndF, tOrF, tNotF, eAnd, eOr, eNot, eIsi, tyW, Tk.sub, eSl, oNone, oSome, eMt, eMt0, isTyW, eNeg, negW, Res.bind_ok, List.length_cons, List.length_nil, List.map_cons, List.map_nil, List.cons_append, List.nil_append, List.replicate, List.getElem?_cons_zero, List.getElem?_cons_succ, List.set_cons_zero, List.set_cons_succ, if_true, if_false, Nat.sub_self, Nat.reduceSub, Nat.reduceAdd, sizeLine_eq, hc] <;> (try first | rfl | exact ⟨rfl, rfl⟩)) ?_
  refine wp_go (by simp [runF, env0, finM, sSeq, sNx, sIf, sRet, sAsg, asgK, gSet, sDrop, sAug, eS_ok, tBool, tTru, truW, eOp, eChain, eVar, eC, eFrz, eObj, aNil, aCons, eTup, eLst, asDs, eCall, eCallF, callM, noFl, tAndF, tOrF, tNotF, eAnd, eOr, eNot, eIsi, tyW, Tk.sub, eSl, oNone, oSome, eMt, eMt0, isTyW, eNeg, negW, Res.bind_ok, List.length_cons, List.length_nil, List.map_cons, List.map_nil, List.cons_append, List.nil_append, List.replicate, List.getElem?_cons_zero, List.getElem?_cons_succ, List.set_cons_zero, List.set_cons_succ, if_true, if_false, Nat.sub_self, Nat.reduceSub, Nat.reduceAdd, sizeLine_eq, hc1] <;> (try first | rfl | exact ⟨rfl, rfl⟩)) ?_
  refine wp_go (by simp [runF, env0, finM, sSeq, sNx, sIf, sRet, sAsg, asgK, gSet, sDrop, sAug, eS_ok, tBool, tTru, truW, eOp, eChain, eVar, eC, eFrz, eObj, aNil, aCons, eTup, eLst, asDs, eCall, eCallF, callM, noFl, tAndF, tOrF, tNotF, eAnd, eOr, eNot, eIsi, tyW, Tk.sub, eSl, oNone, oSome, eMt, eMt0, isTyW, eNeg, negW, Res.bind_ok, List.length_cons, List.length_nil, List.map_cons, List.map_nil, List.cons_append, List.nil_append, List.replicate, List.getElem?_cons_zero, List.getElem?_cons_succ, List.set_cons_zero, List.set_cons_succ, if_true, if_false, Nat.sub_self, Nat.reduceSub, Nat.reduceAdd, sizeLine_eq, hN] <;> (try first | rfl | exact ⟨rfl, rfl⟩)) ?_
  refine wp_go (by simp [runF, env0, finM, sSeq, sNx, sIf, sRet, sAsg, asgK, gSet, sDrop, sAug, eS_ok, tBool, tTru, truW, eOp, eChain, eVar, eC, eFrz, eObj, aNil, aCons, eTup, eLst, asDs, eCall, eCallF, callM, noFl, tAndF, tOrF, tNotF, eAnd, eOr, eNot, eIsi, tyW, Tk.sub, eSl, oNone, oSome, eMt, eMt0, isTyW, eNeg, negW, Res.bind_ok, List.length_cons, List.length_nil, List.map_cons, List.map_nil, List.cons_append, List.nil_append, List.replicate, List.getElem?_cons_zero, List.getElem?_cons_succ, List.set_cons_zero, List.set_cons_succ, if_true, if_false, Nat.sub_self, Nat.reduceSub, Nat.reduceAdd, sizeLine_eq, hsl, hsum, hadd, hq, hF] <;> (try first | rfl | exact ⟨rfl, rfl⟩)) ?_
  refine wp_go (by simp [runF, env0, finM, sSeq, sNx, sIf, sRet, sAsg, asgK, gSet, sDrop, sAug, eS_ok, tBool, tTru, truW, eOp, eChain, eVar, eC, eFrz, eObj, aNil, aCons, eTup, eLst, asDs, eCall, eCallF, callM, noFl, tAndF, tOrF, tNotF, eAnd, eOr, eNot, eIsi, tyW, Tk.sub, eSl, oNone, oSome, eMt, eMt0, isTyW, eNeg, negW, Res.bind_ok, List.length_cons, List.length_nil, List.map_cons, List.map_nil, List.cons_append, List.nil_append, List.replicate, List.getElem?_cons_zero, List.getElem?_cons_succ, List.set_cons_zero, List.set_cons_succ, if_true, if_false, Nat.sub_self, Nat.reduceSub, Nat.reduceAdd, sizeLine_eq, i1, hO, hX] <;> (try first | rfl | exact ⟨rfl, rfl⟩)) ?_
  refine wp_go (by simp [runF, env0, finM, sSeq, sNx, sIf, sRet, sAsg, asgK, gSet, sDrop, sAug, eS_ok, tBool, tTru, truW, eOp, eChain, eVar, eC, eFrz, eObj, aNil, aCons, eTup, eLst, asDs, eCall, eCallF, callM, noFl, tAndF, tOrF, tNotF, eAnd, eOr, eNot, eIsi, tyW, Tk.sub, eSl, oNone, oSome, eMt, eMt0, isTyW, eNeg, negW, Res.bind_ok, List.length_cons, List.length_nil, List.map_cons, List.map_nil, List.cons_append, List.nil_append, List.replicate, List.getElem?_cons_zero, List.getElem?_cons_succ, List.set_cons_zero, List.set_cons_succ, if_true, if_false, Nat.sub_self, Nat.reduceSub, Nat.reduceAdd, sizeLine_eq, hc2] <;> (try first | rfl | exact ⟨rfl, rfl⟩)) ?_
  refine wp_go (by simp [runF, env0, finM, sSeq, sNx, sIf, sRet, sAsg, asgK, gSet, sDrop, sAug, eS_ok, tBool, tTru, truW, eOp, eChain, eVar, eC, eFrz, eObj, aNil, aCons, eTup, eLst, asDs, eCall, eCallF, callM, noFl, tAndF, tOrF, tNotF, eAnd, eOr, eNot, eIsi, tyW, Tk.sub, eSl, oNone, oSome, eMt, eMt0, isTyW, eNeg, negW, Res.bind_ok, List.length_cons, List.length_nil, List.map_cons, List.map_nil, List.cons_append, List.nil_append, List.replicate, List.getElem?_cons_zero, List.getElem?_cons_succ, List.set_cons_zero, List.set_cons_succ, if_true, if_false, Nat.sub_self, Nat.reduceSub, Nat.reduceAdd, sizeLine_eq, i2, hj1, hG1, appendW, asO] <;> (try first | rfl | exact ⟨rfl, rfl⟩)) ?_
  refine wp_go (by simp [runF, env0, finM, sSeq, sNx, sIf, sRet, sAsg, asgK, gSet, sDrop, sAug, eS_ok, tBool, tTru, truW, eOp, eChain, eVar, eC, eFrz, eObj, aNil, aCons, eTup, eLst, asDs, eCall, eCallF, callM, noFl, tAndF, tOrF, tNotF, eAnd, eOr, eNot, eIsi, tyW, Tk.sub, eSl, oNone, oSome, eMt, eMt0, isTyW, eNeg, negW, Res.bind_ok, List.length_cons, List.length_nil, List.map_cons, List.map_nil, List.cons_append, List.nil_append, List.replicate, List.getElem?_cons_zero, List.getElem?_cons_succ, List.set_cons_zero, List.set_cons_succ, if_true, if_false, Nat.sub_self, Nat.reduceSub, Nat.reduceAdd, sizeLine_eq, i0, i2, hj2, hbw, hG2, appendW, asO] <;> (try first | rfl | exact ⟨rfl, rfl⟩)) ?_
  by_cases h3 : c / 12 % 3 = 1
  · refine wp_sIfT (by simp [runF, env0, finM, sSeq, sNx, sIf, sRet, sAsg, asgK, gSet, sDrop, sAug, eS_ok, tBool, tTru, truW, eOp, eChain, eVar, eC, eFrz, eObj, aNil, aCons, eTup, eLst, asDs, eCall, eCallF, callM, noFl, tAndF, tOrF, tNotF, eAnd, eOr, eNot, eIsi, tyW, Tk.sub, eSl, oNone, oSome, eMt, eMt0, isTyW, eNeg, negW, Res.bind_ok, List.length_cons, List.length_nil, List.map_cons, List.map_nil, List.cons_append, List.nil_append, List.replicate, List.getElem?_cons_zero, List.getElem?_cons_succ, List.set_cons_zero, List.set_cons_succ, if_true, if_false, Nat.sub_self, Nat.reduceSub, Nat.reduceAdd, sizeLine_eq, h3, ngB] <;> (try first | rfl | exact ⟨rfl, rfl⟩)) (wp_then (by simp [runF, env0, finM, sSeq, sNx, sIf, sRet, sAsg, asgK, gSet, sDrop, sAug, eS_ok, tBool, tTru, truW, eOp, eChain, eVar, eC, eFrz, eObj, aNil, aCons, eTup, eLst, asDs, eCall, eCallF, callM, noFl, tAndF, tOrF, tNotF, eAnd, eOr, eNot, eIsi, tyW, Tk.sub, eSl, oNone, oSome, eMt, eMt0, isTyW, eNeg, negW, Res.bind_ok, List.length_cons, List.length_nil, List.map_cons, List.map_nil, List.cons_append, List.nil_append, List.replicate, List.getElem?_cons_zero, List.getElem?_cons_succ, List.set_cons_zero, List.set_cons_succ, if_true, if_false, Nat.sub_self, Nat.reduceSub, Nat.reduceAdd, sizeLine_eq, i2, hG3, appendW, asO] <;> (try first | rfl | exact ⟨rfl, rfl⟩)) ?_)
    refine law_end (Q := fun r => ∃ m, r = .ok (.d (.bool true)) m) (fun x hx => ?_) ⟨_, rfl⟩
    rcases List.mem_append.mp (show x ∈ [enc f, z, g1, g2] ++ [g3] from hx) with hx | hx
    · exact base x hx
    · rw [List.mem_singleton.mp hx]; exact ⟨n3, by omega⟩
  · refine wp_sIfN (by simp [runF, env0, finM, sSeq, sNx, sIf, sRet, sAsg, asgK, gSet, sDrop, sAug, eS_ok, tBool, tTru, truW, eOp, eChain, eVar, eC, eFrz, eObj, aNil, aCons, eTup, eLst, asDs, eCall, eCallF, callM, noFl, tAndF, tOrF, tNotF, eAnd, eOr, eNot, eIsi, tyW, Tk.sub, eSl, oNone, oSome, eMt, eMt0, isTyW, eNeg, negW, Res.bind_ok, List.length_cons, List.length_nil, List.map_cons, List.map_nil, List.cons_append, List.nil_append, List.replicate, List.getElem?_cons_zero, List.getElem?_cons_succ, List.set_cons_zero, List.set_cons_succ, if_true, if_false, Nat.sub_self, Nat.reduceSub, Nat.reduceAdd, sizeLine_eq, h3, ngB] <;> (try first | rfl | exact ⟨rfl, rfl⟩)) ?_
    exact law_end (Q := fun r => ∃ m, r = .ok (.d (.bool true)) m) base ⟨_, rfl⟩

end K03

set_option Elab.async false
set_option linter.all false
set_option maxRecDepth 100000
set_option maxHeartbeats 4000000
namespace K03
open PySem L2 M
def top (i : Nat) : Stmt := PySem.Challenge.pw_slashwise_k03_anything_a_form.main.body.getD i (.Pass ⟨0, 0, 0, 0⟩)
structure Txt (K : PySem.W.Frag) (mg : Str → Option Value) where
  ad_is_word : Addr
  fd_is_word : FuncData
  fn_is_word : Fun K "is_word" "is_word" (top 5) ad_is_word fd_is_word
  bn_is_word : Binds K fd_is_word ["thing"] []
  gl_is_word : mg "is_word" = some (.ref ad_is_word)
  ad_form_size : Addr
  fd_form_size : FuncData
  fn_form_size : Fun K "form_size" "form_size" (top 6) ad_form_size fd_form_size
  bn_form_size : Binds K fd_form_size ["thing", "most"] []
  gl_form_size : mg "form_size" = some (.ref ad_form_size)
  ad_is_form : Addr
  fd_is_form : FuncData
  fn_is_form : Fun K "is_form" "is_form" (top 7) ad_is_form fd_is_form
  bn_is_form : Binds K fd_is_form ["thing"] []
  gl_is_form : mg "is_form" = some (.ref ad_is_form)
  ad__law_cell_at : Addr
  fd__law_cell_at : FuncData
  fn__law_cell_at : Fun K "_law_cell_at" "_law_cell_at" (top 9) ad__law_cell_at fd__law_cell_at
  bn__law_cell_at : Binds K fd__law_cell_at ["_law_script", "_law_k"] []
  gl__law_cell_at : mg "_law_cell_at" = some (.ref ad__law_cell_at)
  ad__law_take : Addr
  fd__law_take : FuncData
  fn__law_take : Fun K "_law_take" "_law_take" (top 10) ad__law_take fd__law_take
  bn__law_take : Binds K fd__law_take ["_law_cells"] []
  gl__law_take : mg "_law_take" = some (.ref ad__law_take)
  ad__law_words : Addr
  fd__law_words : FuncData
  fn__law_words : Fun K "_law_words" "_law_words" (top 11) ad__law_words fd__law_words
  bn__law_words : Binds K fd__law_words ["_law_cell", "_law_many"] []
  gl__law_words : mg "_law_words" = some (.ref ad__law_words)
  ad__law_word : Addr
  fd__law_word : FuncData
  fn__law_word : Fun K "_law_word" "_law_word" (top 12) ad__law_word fd__law_word
  bn__law_word : Binds K fd__law_word ["_law_cell"] []
  gl__law_word : mg "_law_word" = some (.ref ad__law_word)
  ad__law_unlike : Addr
  fd__law_unlike : FuncData
  fn__law_unlike : Fun K "_law_unlike" "_law_unlike" (top 13) ad__law_unlike fd__law_unlike
  bn__law_unlike : Binds K fd__law_unlike ["_law_words_here"] []
  gl__law_unlike : mg "_law_unlike" = some (.ref ad__law_unlike)
  ad__law_names : Addr
  fd__law_names : FuncData
  fn__law_names : Fun K "_law_names" "_law_names" (top 14) ad__law_names fd__law_names
  bn__law_names : Binds K fd__law_names ["_law_cell", "_law_many"] []
  gl__law_names : mg "_law_names" = some (.ref ad__law_names)
  ad__law_form : Addr
  fd__law_form : FuncData
  fn__law_form : Fun K "_law_form" "_law_form" (top 15) ad__law_form fd__law_form
  bn__law_form : Binds K fd__law_form ["_law_cells", "_law_names_here", "_law_most"] []
  gl__law_form : mg "_law_form" = some (.ref ad__law_form)
  ad__law_is_word : Addr
  fd__law_is_word : FuncData
  fn__law_is_word : Fun K "_law_is_word" "_law_is_word" (top 16) ad__law_is_word fd__law_is_word
  bn__law_is_word : Binds K fd__law_is_word ["_law_text"] []
  gl__law_is_word : mg "_law_is_word" = some (.ref ad__law_is_word)
  ad__law_odd : Addr
  fd__law_odd : FuncData
  fn__law_odd : Fun K "_law_odd" "_law_odd" (top 17) ad__law_odd fd__law_odd
  bn__law_odd : Binds K fd__law_odd ["_law_cell", "_law_name"] []
  gl__law_odd : mg "_law_odd" = some (.ref ad__law_odd)
  ad__law_exchanged : Addr
  fd__law_exchanged : FuncData
  fn__law_exchanged : Fun K "_law_exchanged" "_law_exchanged" (top 18) ad__law_exchanged fd__law_exchanged
  bn__law_exchanged : Binds K fd__law_exchanged ["_law_thing", "_law_cell", "_law_odd_here"] []
  gl__law_exchanged : mg "_law_exchanged" = some (.ref ad__law_exchanged)
  ad__law_grown : Addr
  fd__law_grown : FuncData
  fn__law_grown : Fun K "_law_grown" "_law_grown" (top 19) ad__law_grown fd__law_grown
  bn__law_grown : Binds K fd__law_grown ["_law_form_here", "_law_many", "_law_cell", "_law_name"] []
  gl__law_grown : mg "_law_grown" = some (.ref ad__law_grown)
  ad__law_due : Addr
  fd__law_due : FuncData
  fn__law_due : Fun K "_law_due" "_law_due" (top 20) ad__law_due fd__law_due
  bn__law_due : Binds K fd__law_due ["_law_thing"] []
  gl__law_due : mg "_law_due" = some (.ref ad__law_due)
  ad_law : Addr
  fd_law : FuncData
  fn_law : Fun K "law" "law" (top 21) ad_law fd_law
  bn_law : Binds K fd_law ["_law_script"] []
  gl_law : mg "law" = some (.ref ad_law)
  z_all : mg "all" = none
  z_bool : mg "bool" = none
  z_int : mg "int" = none
  z_isinstance : mg "isinstance" = none
  z_len : mg "len" = none
  z_range : mg "range" = none
  z_str : mg "str" = none
  z_sum : mg "sum" = none
  z_tuple : mg "tuple" = none
  k_LETTERS : KRep K mg "LETTERS" c_LETTERS
  k_LONGEST : KRep K mg "LONGEST" c_LONGEST
  k_SLASHES : KRep K mg "SLASHES" c_SLASHES
  k_MOST_BASICS : KRep K mg "MOST_BASICS" c_MOST_BASICS
section
variable {P : Program} {w : World} {K : PySem.W.Frag} {mg : Str → Option Value} {base : Heap}
abbrev N_is_word : List Str := ["thing", "sign"]
theorem sc_is_word : FnScope N_is_word ["thing"] (defScope (top 5)) := ⟨rfl, rfl, rfl, by decide +kernel, rfl, by decide +kernel, by decide +kernel⟩
theorem ok_is_word (T : Txt K mg) : FnOk P w K mg base (L2.CX P w) (1) T.ad_is_word T.fd_is_word ["thing"] (SpM K mg 1 F_is_word) :=
  okF T.fn_is_word sc_is_word fun cdv A outer s H E hr =>
    (mb_cons (ms_if (MP.mt (mp_or (mt_not (mt_tru (me_isi .str (by rfl) T.z_isinstance (by rfl) T.z_str (me_var 0)))) (mp_or1 (mt_not (mt_chain op_le op_le leW_ok leW_ok me_int (me_callB call_len lenW_ok (by rfl) T.z_len (ma_cons (me_var 0) ma_nil)) (me_glob (by rfl) T.k_LONGEST)))))) (mb_one (ms_ret me_bl)) mb_nil)
    (mb_one (ms_ret (me_callB (cr_all rfl) allW_ok (by rfl) T.z_all (ma_cons (me_lc (own := [("sign", 1)]) rfl sc_is_word.nd (mi_seq (me_var 0)) (blkOk_by (own := [("sign", 1)]) (N := N_is_word) (sc := defScope (top 5)) (by decide +kernel)) (fun _ _ _ _ _ => (mg_name 1 sc_is_word.nd)) (fun _ _ _ _ _ => mts_nil) (fun _ _ _ _ _ => (me_cmp (op_inA (hu65 hr)) inW_ok (me_var 1) (me_glob (by rfl) T.k_LETTERS)))) ma_nil)))))
abbrev N_form_size : List Str := ["thing", "most", "left", "right"]
theorem sc_form_size : FnScope N_form_size ["thing", "most"] (defScope (top 6)) := ⟨rfl, rfl, rfl, by decide +kernel, rfl, by decide +kernel, by decide +kernel⟩
theorem st_form_size (T : Txt K mg) {n : Nat} (ih_form_size : FnOk P w K mg base (L2.CX P w) (n + 1) T.ad_form_size T.fd_form_size ["thing", "most"] (SpM K mg 2 (F_form_size n))) : FnOk P w K mg base (L2.CX P w) (n + 1 + 1) T.ad_form_size T.fd_form_size ["thing", "most"] (SpM K mg 2 (F_form_size (n + 1))) :=
  okF T.fn_form_size sc_form_size fun cdv A outer s H E hr =>
    (mb_cons (ms_if (MP.mt (mp_or (mt_not (mt_tru (me_isi .tup (by rfl) T.z_isinstance (by rfl) T.z_tuple (me_var 0)))) (mp_or (mt_cmp op_lt ltW_ok (me_var 1) me_int) (mp_or (mt_cmp (op_eqD hr.units) eqW_ok (me_callB call_len lenW_ok (by rfl) T.z_len (ma_cons (me_var 0) ma_nil)) me_int) (mp_or1 (mt_not (mt_tru (me_isi .str (by rfl) T.z_isinstance (by rfl) T.z_str (me_ix ix_seq ixW_ok (me_var 0) me_int))))))))) (mb_one (ms_ret me_int)) mb_nil)
    (mb_cons (ms_if (mt_cmp (op_eqD hr.units) eqW_ok (me_ix ix_seq ixW_ok (me_var 0) me_int) me_str) (mb_one (ms_ret (me_callTy call_int1 intW1_ok (by rfl) T.z_int (ma_cons (me_and (me_cmp (op_eqD hr.units) eqW_ok (me_callB call_len lenW_ok (by rfl) T.z_len (ma_cons (me_var 0) ma_nil)) me_int) (me_one (me_call (takes_of rfl rfl rfl rfl) (ok_is_word T) (hr.mono (by omega)) T.gl_is_word T.fn_is_word.kp T.bn_is_word (by rfl) (ma_cons (me_ix ix_seq ixW_ok (me_var 0) me_int) ma_nil) (aCons_len aNil_len)))) ma_nil)))) mb_nil)
    (mb_cons (ms_if (MP.mt (mp_or (mt_cmp (op_neD hr.units) neW_ok (me_callB call_len lenW_ok (by rfl) T.z_len (ma_cons (me_var 0) ma_nil)) me_int) (mp_or1 (mt_cmp (op_notInA (hu65 hr)) inW_ok (me_ix ix_seq ixW_ok (me_var 0) me_int) (me_glob (by rfl) T.k_SLASHES))))) (mb_one (ms_ret me_int)) mb_nil)
    (mb_cons (ms_set 2 sc_form_size.nd (me_frz (me_call (takes_of rfl rfl rfl rfl) ih_form_size hr T.gl_form_size T.fn_form_size.kp T.bn_form_size (by rfl) (ma_cons (me_ix ix_seq ixW_ok (me_var 0) me_int) (ma_cons (me_op op_sub subW_ok (me_var 1) me_int) ma_nil)) (aCons_len (aCons_len aNil_len)))))
    (mb_cons (ms_if (mt_cmp (op_eqD hr.units) eqW_ok (me_var 2) me_int) (mb_one (ms_ret me_int)) mb_nil)
    (mb_cons (ms_set 3 sc_form_size.nd (me_frz (me_call (takes_of rfl rfl rfl rfl) ih_form_size hr T.gl_form_size T.fn_form_size.kp T.bn_form_size (by rfl) (ma_cons (me_ix ix_seq ixW_ok (me_var 0) me_int) (ma_cons (me_op op_sub subW_ok (me_var 1) (me_var 2)) ma_nil)) (aCons_len (aCons_len aNil_len)))))
    (mb_cons (ms_if (mt_cmp (op_eqD hr.units) eqW_ok (me_var 3) me_int) (mb_one (ms_ret me_int)) mb_nil)
    (mb_one (ms_ret (me_op op_addA addW_ok (me_var 2) (me_var 3)))))))))))
theorem ok_form_size (T : Txt K mg) : ∀ n : Nat, FnOk P w K mg base (L2.CX P w) (n + 1) T.ad_form_size T.fd_form_size ["thing", "most"] (SpM K mg 2 (F_form_size n))
  | 0 => okBad
  | n + 1 => (st_form_size T (ok_form_size T n)).mono (by omega)
abbrev N_is_form : List Str := ["thing"]
theorem sc_is_form : FnScope N_is_form ["thing"] (defScope (top 7)) := ⟨rfl, rfl, rfl, by decide +kernel, rfl, by decide +kernel, by decide +kernel⟩
theorem ok_is_form (T : Txt K mg) : FnOk P w K mg base (L2.CX P w) (42) T.ad_is_form T.fd_is_form ["thing"] (SpM K mg 1 F_is_form) :=
  okF T.fn_is_form sc_is_form fun cdv A outer s H E hr =>
    (mb_one (ms_ret (me_cmp op_gt gtW_ok (me_call (takes_of rfl rfl rfl rfl) (ok_form_size T 40) (hr.mono (by decide)) T.gl_form_size T.fn_form_size.kp T.bn_form_size (by rfl) (ma_cons (me_var 0) (ma_cons (me_glob (by rfl) T.k_MOST_BASICS) ma_nil)) (aCons_len (aCons_len aNil_len))) me_int)))
abbrev N__law_cell_at : List Str := ["_law_script", "_law_k"]
theorem sc__law_cell_at : FnScope N__law_cell_at ["_law_script", "_law_k"] (defScope (top 9)) := ⟨rfl, rfl, rfl, by decide +kernel, rfl, by decide +kernel, by decide +kernel⟩
theorem ok__law_cell_at (T : Txt K mg) : FnOk P w K mg base (L2.CX P w) (1) T.ad__law_cell_at T.fd__law_cell_at ["_law_script", "_law_k"] (SpM K mg 2 F__law_cell_at) :=
  okF T.fn__law_cell_at sc__law_cell_at fun cdv A outer s H E hr =>
    (mb_cons (ms_if (mt_cmp op_lt ltW_ok (me_var 1) (me_callB call_len lenW_ok (by rfl) T.z_len (ma_cons (me_var 0) ma_nil))) (mb_one (ms_ret (me_ix ix_seq ixW_ok (me_var 0) (me_var 1)))) mb_nil)
    (mb_one (ms_ret me_int)))
abbrev N__law_take : List Str := ["_law_cells", "_law_cell"]
theorem sc__law_take : FnScope N__law_take ["_law_cells"] (defScope (top 10)) := ⟨rfl, rfl, rfl, by decide +kernel, rfl, by decide +kernel, by decide +kernel⟩
theorem ok__law_take (T : Txt K mg) : FnOk P w K mg base (L2.CX P w) (1) T.ad__law_take T.fd__law_take ["_law_cells"] (SpM K mg 1 F__law_take) :=
  okF T.fn__law_take sc__law_take fun cdv A outer s H E hr =>
    (mb_cons (ms_set 1 sc__law_take.nd (me_bm PySem.F.plainAttrs_list PySem.F.slot_list_pop PySem.F.type_list_pop mt_popAt popAtW_ok (me_var 0) (ma_cons me_int ma_nil)))
    (mb_cons (ms_if (mt_cmp (op_eqD hr.units) eqW_ok (me_var 0) (me_lst ma_nil)) (mb_one (ms_expr (me_bm PySem.F.plainAttrs_list PySem.F.slot_list_append PySem.F.type_list_append mt_append appendW_ok (me_var 0) (ma_cons (me_op op_mod modW_ok (me_op op_addA addW_ok (me_op op_mulA mulW_ok (me_var 1) me_int) me_int) me_int) ma_nil)))) mb_nil)
    (mb_one (ms_ret (me_var 1)))))
abbrev N__law_words : List Str := ["_law_cell", "_law_many", "_law_letters", "_law_size", "_law_at", "_law_number", "_law_base", "_law_k", "_law_words_here", "_law_row"]
theorem sc__law_words : FnScope N__law_words ["_law_cell", "_law_many"] (defScope (top 11)) := ⟨rfl, rfl, rfl, by decide +kernel, rfl, by decide +kernel, by decide +kernel⟩
theorem ok__law_words (T : Txt K mg) : FnOk P w K mg base (L2.CX P w) (1) T.ad__law_words T.fd__law_words ["_law_cell", "_law_many"] (SpM K mg 2 F__law_words) :=
  okF T.fn__law_words sc__law_words fun cdv A outer s H E hr =>
    (mb_cons (ms_set 2 sc__law_words.nd me_str)
    (mb_cons (ms_set 3 sc__law_words.nd (me_op op_addA addW_ok me_int (me_op op_mod modW_ok (me_var 0) me_int)))
    (mb_cons (ms_set 4 sc__law_words.nd (me_op op_mod modW_ok (me_op op_fdivW divW_ok (me_var 0) me_int) (me_var 3)))
    (mb_cons (ms_set 5 sc__law_words.nd (me_op op_addA addW_ok (me_op op_mod modW_ok (me_op op_fdivW divW_ok (me_var 0) me_int) me_int) me_int))
    (mb_cons (ms_set 6 sc__law_words.nd (me_obj (me_lst ma_nil)))
    (mb_cons (ms_for (passes_of rfl) rfl (mi_range1 (by rfl) T.z_range (ma_cons (me_var 3) ma_nil)) (mg_name 7 sc__law_words.nd) (mb_cons (ms_set 5 sc__law_words.nd (me_op op_mod modW_ok (me_op op_mulA mulW_ok (me_var 5) me_int) me_int))
    (mb_one (ms_expr (me_bm PySem.F.plainAttrs_list PySem.F.slot_list_append PySem.F.type_list_append mt_append appendW_ok (me_var 6) (ma_cons (me_op op_mod modW_ok (me_op op_fdivW divW_ok (me_var 5) me_int) me_int) ma_nil))))))
    (mb_cons (ms_set 8 sc__law_words.nd (me_obj (me_lst ma_nil)))
    (mb_cons (ms_for (passes_of rfl) rfl (mi_range1 (by rfl) T.z_range (ma_cons (me_var 1) ma_nil)) (mg_name 7 sc__law_words.nd) (mb_cons (ms_set 9 sc__law_words.nd (me_frz (me_op op_addA addW_ok (me_op op_addA addW_ok (me_slice sl_all slW_ok (me_var 6) mo_none (mo_some (me_var 4))) (me_lst (ma_cons (me_op op_mod modW_ok (me_op op_addA addW_ok (me_ix ix_seq ixW_ok (me_var 6) (me_var 4)) (me_var 7)) me_int) ma_nil))) (me_slice sl_all slW_ok (me_var 6) (mo_some (me_op op_addA addW_ok (me_var 4) me_int)) mo_none))))
    (mb_one (ms_expr (me_bm PySem.F.plainAttrs_list PySem.F.slot_list_append PySem.F.type_list_append mt_append appendW_ok (me_var 8) (ma_cons (me_bm PySem.F.plainAttrs_str PySem.F.slot_str_join PySem.F.type_str_join mt_join joinW_ok me_str (ma_cons (me_lc (own := [("_law_number", 5)]) rfl sc__law_words.nd (mi_seq (me_var 9)) (blkOk_by (own := [("_law_number", 5)]) (N := N__law_words) (sc := defScope (top 11)) (by decide +kernel)) (fun _ _ _ _ _ => (mg_name 5 sc__law_words.nd)) (fun _ _ _ _ _ => mts_nil) (fun _ _ _ _ _ => (me_ix ix_seq ixW_ok (me_var 2) (me_var 5)))) ma_nil)) ma_nil))))))
    (mb_one (ms_ret (me_var 8)))))))))))
abbrev N__law_word : List Str := ["_law_cell", "_law_letters", "_law_word_here", "_law_rest", "_law_j"]
theorem sc__law_word : FnScope N__law_word ["_law_cell"] (defScope (top 12)) := ⟨rfl, rfl, rfl, by decide +kernel, rfl, by decide +kernel, by decide +kernel⟩
theorem ok__law_word (T : Txt K mg) : FnOk P w K mg base (L2.CX P w) (1) T.ad__law_word T.fd__law_word ["_law_cell"] (SpM K mg 1 F__law_word) :=
  okF T.fn__law_word sc__law_word fun cdv A outer s H E hr =>
    (mb_cons (ms_set 1 sc__law_word.nd me_str)
    (mb_cons (ms_set 2 sc__law_word.nd me_str)
    (mb_cons (ms_set 3 sc__law_word.nd (me_op op_fdivW divW_ok (me_var 0) me_int))
    (mb_cons (ms_for (passes_of rfl) rfl (mi_range1 (by rfl) T.z_range (ma_cons (me_op op_addA addW_ok me_int (me_op op_mod modW_ok (me_var 0) me_int)) ma_nil)) (mg_name 4 sc__law_word.nd) (mb_cons (ms_set 2 sc__law_word.nd (me_op op_addA addW_ok (me_var 2) (me_ix ix_seq ixW_ok (me_var 1) (me_op op_mod modW_ok (me_var 3) me_int))))
    (mb_one (ms_set 3 sc__law_word.nd (me_op op_fdivW divW_ok (me_var 3) me_int)))))
    (mb_one (ms_ret (me_var 2)))))))
abbrev N__law_unlike : List Str := ["_law_words_here", "_law_letters", "_law_found", "_law_word_here"]
theorem sc__law_unlike : FnScope N__law_unlike ["_law_words_here"] (defScope (top 13)) := ⟨rfl, rfl, rfl, by decide +kernel, rfl, by decide +kernel, by decide +kernel⟩
theorem ok__law_unlike (T : Txt K mg) : FnOk P w K mg base (L2.CX P w) (1) T.ad__law_unlike T.fd__law_unlike ["_law_words_here"] (SpM K mg 1 F__law_unlike) :=
  okF T.fn__law_unlike sc__law_unlike fun cdv A outer s H E hr =>
    (mb_cons (ms_set 1 sc__law_unlike.nd me_str)
    (mb_cons (ms_set 2 sc__law_unlike.nd (me_obj (me_lst ma_nil)))
    (mb_cons (ms_for (passes_of rfl) rfl (mi_seq (me_var 0)) (mg_name 3 sc__law_unlike.nd) (mb_cons (ms_while 1000 (passes_of rfl) (mt_cmp (op_inA (hu65 hr)) inW_ok (me_var 3) (me_var 2)) (mb_one (ms_set 3 sc__law_unlike.nd (me_frz (me_op op_addA addW_ok (me_slice sl_all slW_ok (me_var 3) mo_none (mo_some (me_neg me_int))) (me_ix ix_seq ixW_ok (me_var 1) (me_op op_mod modW_ok (me_op op_addA addW_ok (me_bm PySem.F.plainAttrs_str PySem.F.slot_str_index PySem.F.type_str_index mt_sindex sindexW_ok (me_var 1) (ma_cons (me_ix ix_seq ixW_ok (me_var 3) (me_neg me_int)) ma_nil)) me_int) me_int)))))))
    (mb_one (ms_expr (me_bm PySem.F.plainAttrs_list PySem.F.slot_list_append PySem.F.type_list_append mt_append appendW_ok (me_var 2) (ma_cons (me_var 3) ma_nil))))))
    (mb_one (ms_ret (me_var 2))))))
abbrev N__law_names : List Str := ["_law_cell", "_law_many", "_law_words_here", "_law_k"]
theorem sc__law_names : FnScope N__law_names ["_law_cell", "_law_many"] (defScope (top 14)) := ⟨rfl, rfl, rfl, by decide +kernel, rfl, by decide +kernel, by decide +kernel⟩
theorem ok__law_names (T : Txt K mg) : FnOk P w K mg base (L2.CX P w) (2) T.ad__law_names T.fd__law_names ["_law_cell", "_law_many"] (SpM K mg 2 F__law_names) :=
  okF T.fn__law_names sc__law_names fun cdv A outer s H E hr =>
    (mb_cons (ms_if (mt_cmp (op_eqD hr.units) eqW_ok (me_op op_mod modW_ok (me_var 0) me_int) me_int) (mb_one (ms_ret (me_call (takes_of rfl rfl rfl rfl) (ok__law_words T) (hr.mono (by decide)) T.gl__law_words T.fn__law_words.kp T.bn__law_words (by rfl) (ma_cons (me_op op_fdivW divW_ok (me_var 0) me_int) (ma_cons (me_var 1) ma_nil)) (aCons_len (aCons_len aNil_len))))) mb_nil)
    (mb_cons (ms_set 0 sc__law_names.nd (me_op op_fdivW divW_ok (me_var 0) me_int))
    (mb_cons (ms_set 2 sc__law_names.nd (me_obj (me_lst ma_nil)))
    (mb_cons (ms_for (passes_of rfl) rfl (mi_range1 (by rfl) T.z_range (ma_cons (me_var 1) ma_nil)) (mg_name 3 sc__law_names.nd) (mb_cons (ms_expr (me_bm PySem.F.plainAttrs_list PySem.F.slot_list_append PySem.F.type_list_append mt_append appendW_ok (me_var 2) (ma_cons (me_frz (me_call (takes_of rfl rfl rfl rfl) (ok__law_word T) (hr.mono (by decide)) T.gl__law_word T.fn__law_word.kp T.bn__law_word (by rfl) (ma_cons (me_op op_mod modW_ok (me_var 0) (me_op op_mulA mulW_ok me_int (me_op op_pow powW_ok me_int me_int))) ma_nil) (aCons_len aNil_len))) ma_nil)))
    (mb_one (ms_set 0 sc__law_names.nd (me_op op_fdivW divW_ok (me_var 0) (me_op op_mulA mulW_ok me_int (me_op op_pow powW_ok me_int me_int)))))))
    (mb_one (ms_ret (me_call (takes_of rfl rfl rfl rfl) (ok__law_unlike T) (hr.mono (by decide)) T.gl__law_unlike T.fn__law_unlike.kp T.bn__law_unlike (by rfl) (ma_cons (me_var 2) ma_nil) (aCons_len aNil_len))))))))
abbrev N__law_form : List Str := ["_law_cells", "_law_names_here", "_law_most", "_law_cell", "_law_share", "_law_left"]
theorem sc__law_form : FnScope N__law_form ["_law_cells", "_law_names_here", "_law_most"] (defScope (top 15)) := ⟨rfl, rfl, rfl, by decide +kernel, rfl, by decide +kernel, by decide +kernel⟩
theorem st__law_form (T : Txt K mg) {n : Nat} (ih__law_form : FnOk P w K mg base (L2.CX P w) (n + 1) T.ad__law_form T.fd__law_form ["_law_cells", "_law_names_here", "_law_most"] (SpM K mg 3 (F__law_form n))) : FnOk P w K mg base (L2.CX P w) (n + 1 + 1) T.ad__law_form T.fd__law_form ["_law_cells", "_law_names_here", "_law_most"] (SpM K mg 3 (F__law_form (n + 1))) :=
  okF T.fn__law_form sc__law_form fun cdv A outer s H E hr =>
    (mb_cons (ms_set 3 sc__law_form.nd (me_frz (me_call (takes_of rfl rfl rfl rfl) (ok__law_take T) (hr.mono (by omega)) T.gl__law_take T.fn__law_take.kp T.bn__law_take (by rfl) (ma_cons (me_obj (me_var 0)) ma_nil) (aCons_len aNil_len))))
    (mb_cons (ms_if (MP.mt (mp_or (mt_cmp (op_eqD hr.units) eqW_ok (me_var 2) me_int) (mp_or1 (mt_cmp (op_eqD hr.units) eqW_ok (me_op op_mod modW_ok (me_var 3) me_int) me_int)))) (mb_one (ms_ret (me_tup (ma_cons me_str (ma_cons (me_ix ix_seq ixW_ok (me_var 1) (me_op op_mod modW_ok (me_op op_fdivW divW_ok (me_var 3) me_int) (me_callB call_len lenW_ok (by rfl) T.z_len (ma_cons (me_var 1) ma_nil)))) ma_nil))))) mb_nil)
    (mb_cons (ms_set 4 sc__law_form.nd (me_op op_addA addW_ok me_int (me_op op_mod modW_ok (me_op op_fdivW divW_ok (me_var 3) me_int) (me_op op_sub subW_ok (me_var 2) me_int))))
    (mb_cons (ms_set 5 sc__law_form.nd (me_frz (me_call (takes_of rfl rfl rfl rfl) ih__law_form hr T.gl__law_form T.fn__law_form.kp T.bn__law_form (by rfl) (ma_cons (me_obj (me_var 0)) (ma_cons (me_var 1) (ma_cons (me_var 4) ma_nil))) (aCons_len (aCons_len (aCons_len aNil_len))))))
    (mb_one (ms_ret (me_tup (ma_cons (me_ix ix_seq ixW_ok me_str (me_op op_mod modW_ok (me_op op_fdivW divW_ok (me_var 3) me_int) me_int)) (ma_cons (me_var 5) (ma_cons (me_frz (me_call (takes_of rfl rfl rfl rfl) ih__law_form hr T.gl__law_form T.fn__law_form.kp T.bn__law_form (by rfl) (ma_cons (me_obj (me_var 0)) (ma_cons (me_var 1) (ma_cons (me_op op_sub subW_ok (me_var 2) (me_var 4)) ma_nil))) (aCons_len (aCons_len (aCons_len aNil_len))))) ma_nil))))))))))
theorem ok__law_form (T : Txt K mg) : ∀ n : Nat, FnOk P w K mg base (L2.CX P w) (n + 1) T.ad__law_form T.fd__law_form ["_law_cells", "_law_names_here", "_law_most"] (SpM K mg 3 (F__law_form n))
  | 0 => okBad
  | n + 1 => (st__law_form T (ok__law_form T n)).mono (by omega)
abbrev N__law_is_word : List Str := ["_law_text", "_law_sign"]
theorem sc__law_is_word : FnScope N__law_is_word ["_law_text"] (defScope (top 16)) := ⟨rfl, rfl, rfl, by decide +kernel, rfl, by decide +kernel, by decide +kernel⟩
theorem ok__law_is_word (T : Txt K mg) : FnOk P w K mg base (L2.CX P w) (1) T.ad__law_is_word T.fd__law_is_word ["_law_text"] (SpM K mg 1 F__law_is_word) :=
  okF T.fn__law_is_word sc__law_is_word fun cdv A outer s H E hr =>
    (mb_cons (ms_if (mt_not (mt_chain op_le op_le leW_ok leW_ok me_int (me_callB call_len lenW_ok (by rfl) T.z_len (ma_cons (me_var 0) ma_nil)) me_int)) (mb_one (ms_ret me_bl)) mb_nil)
    (mb_one (ms_ret (me_callB (cr_all rfl) allW_ok (by rfl) T.z_all (ma_cons (me_lc (own := [("_law_sign", 1)]) rfl sc__law_is_word.nd (mi_seq (me_var 0)) (blkOk_by (own := [("_law_sign", 1)]) (N := N__law_is_word) (sc := defScope (top 16)) (by decide +kernel)) (fun _ _ _ _ _ => (mg_name 1 sc__law_is_word.nd)) (fun _ _ _ _ _ => mts_nil) (fun _ _ _ _ _ => (me_cmp (op_inA (hu65 hr)) inW_ok (me_var 1) me_str))) ma_nil)))))
abbrev N__law_odd : List Str := ["_law_cell", "_law_name", "_law_a", "_law_some"]
theorem sc__law_odd : FnScope N__law_odd ["_law_cell", "_law_name"] (defScope (top 17)) := ⟨rfl, rfl, rfl, by decide +kernel, rfl, by decide +kernel, by decide +kernel⟩
theorem ok__law_odd (T : Txt K mg) : FnOk P w K mg base (L2.CX P w) (1) T.ad__law_odd T.fd__law_odd ["_law_cell", "_law_name"] (SpM K mg 2 F__law_odd) :=
  okF T.fn__law_odd sc__law_odd fun cdv A outer s H E hr =>
    (mb_cons (ms_set 2 sc__law_odd.nd (me_tup (ma_cons me_str (ma_cons (me_var 1) ma_nil))))
    (mb_cons (ms_set 3 sc__law_odd.nd (me_frz (me_lst (ma_cons me_non (ma_cons me_int (ma_cons me_bl (ma_cons me_str (ma_cons (me_var 1) (ma_cons (me_bm0 PySem.F.plainAttrs_str PySem.F.slot_str_upper PySem.F.type_str_upper mt_upper upperW_ok (me_var 1)) (ma_cons (me_tup ma_nil) (ma_cons (me_tup (ma_cons me_str ma_nil)) (ma_cons (me_tup (ma_cons me_str (ma_cons (me_var 1) (ma_cons (me_var 1) ma_nil)))) (ma_cons (me_tup (ma_cons me_str (ma_cons me_int ma_nil))) (ma_cons (me_tup (ma_cons me_str (ma_cons me_str ma_nil))) ma_nil))))))))))))))
    (mb_cons (ms_set 3 sc__law_odd.nd (me_frz (me_op op_addA addW_ok (me_var 3) (me_lst (ma_cons (me_tup (ma_cons me_str (ma_cons me_str ma_nil))) (ma_cons (me_tup (ma_cons me_str (ma_cons me_str ma_nil))) (ma_cons (me_tup (ma_cons me_str (ma_cons me_str ma_nil))) (ma_cons (me_tup (ma_cons me_str (ma_cons (me_var 2) ma_nil))) (ma_cons (me_frz (me_lst (ma_cons me_str (ma_cons (me_var 1) ma_nil)))) (ma_cons (me_tup (ma_cons me_str (ma_cons (me_var 2) ma_nil))) ma_nil))))))))))
    (mb_cons (ms_set 3 sc__law_odd.nd (me_frz (me_op op_addA addW_ok (me_var 3) (me_lst (ma_cons (me_tup (ma_cons me_str (ma_cons (me_var 2) (ma_cons (me_var 2) (ma_cons (me_var 2) ma_nil))))) (ma_cons (me_tup (ma_cons me_str (ma_cons (me_var 2) (ma_cons (me_var 2) ma_nil)))) (ma_cons (me_tup (ma_cons me_str (ma_cons (me_var 2) (ma_cons (me_var 2) ma_nil)))) (ma_cons (me_frz (me_lst (ma_cons me_str (ma_cons (me_var 2) (ma_cons (me_var 2) ma_nil))))) (ma_cons (me_tup (ma_cons (me_var 2) (ma_cons me_str (ma_cons (me_var 2) ma_nil)))) (ma_cons (me_tup (ma_cons me_str (ma_cons (me_var 2) (ma_cons (me_var 2) ma_nil)))) (ma_cons (me_tup (ma_cons me_str (ma_cons (me_var 2) (ma_cons (me_var 2) ma_nil)))) ma_nil)))))))))))
    (mb_one (ms_ret (me_ix ix_seq ixW_ok (me_var 3) (me_op op_mod modW_ok (me_var 0) me_int))))))))
abbrev N__law_exchanged : List Str := ["_law_thing", "_law_cell", "_law_odd_here", "_law_at"]
theorem sc__law_exchanged : FnScope N__law_exchanged ["_law_thing", "_law_cell", "_law_odd_here"] (defScope (top 18)) := ⟨rfl, rfl, rfl, by decide +kernel, rfl, by decide +kernel, by decide +kernel⟩
theorem st__law_exchanged (T : Txt K mg) {n : Nat} (ih__law_exchanged : FnOk P w K mg base (L2.CX P w) (n + 0) T.ad__law_exchanged T.fd__law_exchanged ["_law_thing", "_law_cell", "_law_odd_here"] (SpM K mg 3 (F__law_exchanged n))) : FnOk P w K mg base (L2.CX P w) (n + 0 + 1) T.ad__law_exchanged T.fd__law_exchanged ["_law_thing", "_law_cell", "_law_odd_here"] (SpM K mg 3 (F__law_exchanged (n + 1))) :=
  okF T.fn__law_exchanged sc__law_exchanged fun cdv A outer s H E hr =>
    (mb_cons (ms_if (MP.mt (mp_or (mt_not (mt_tru (me_isi .tup (by rfl) T.z_isinstance (by rfl) T.z_tuple (me_var 0)))) (mp_or (mt_cmp op_lt ltW_ok (me_callB call_len lenW_ok (by rfl) T.z_len (ma_cons (me_var 0) ma_nil)) me_int) (mp_or1 (mt_cmp (op_eqD hr.units) eqW_ok (me_op op_mod modW_ok (me_var 1) me_int) me_int))))) (mb_one (ms_ret (me_var 2))) mb_nil)
    (mb_cons (ms_set 3 sc__law_exchanged.nd (me_op op_mod modW_ok (me_op op_fdivW divW_ok (me_var 1) me_int) (me_callB call_len lenW_ok (by rfl) T.z_len (ma_cons (me_var 0) ma_nil))))
    (mb_one (ms_ret (me_op op_addA addW_ok (me_op op_addA addW_ok (me_slice sl_all slW_ok (me_var 0) mo_none (mo_some (me_var 3))) (me_tup (ma_cons (me_frz (me_call (takes_of rfl rfl rfl rfl) ih__law_exchanged hr T.gl__law_exchanged T.fn__law_exchanged.kp T.bn__law_exchanged (by rfl) (ma_cons (me_ix ix_seq ixW_ok (me_var 0) (me_var 3)) (ma_cons (me_op op_fdivW divW_ok (me_var 1) me_int) (ma_cons (me_var 2) ma_nil))) (aCons_len (aCons_len (aCons_len aNil_len))))) ma_nil))) (me_slice sl_all slW_ok (me_var 0) (mo_some (me_op op_addA addW_ok (me_var 3) me_int)) mo_none))))))
theorem ok__law_exchanged (T : Txt K mg) : ∀ n : Nat, FnOk P w K mg base (L2.CX P w) (n + 0) T.ad__law_exchanged T.fd__law_exchanged ["_law_thing", "_law_cell", "_law_odd_here"] (SpM K mg 3 (F__law_exchanged n))
  | 0 => okBad
  | n + 1 => (st__law_exchanged T (ok__law_exchanged T n)).mono (by omega)
abbrev N__law_grown : List Str := ["_law_form_here", "_law_many", "_law_cell", "_law_name", "_law_k", "_law_one"]
theorem sc__law_grown : FnScope N__law_grown ["_law_form_here", "_law_many", "_law_cell", "_law_name"] (defScope (top 19)) := ⟨rfl, rfl, rfl, by decide +kernel, rfl, by decide +kernel, by decide +kernel⟩
theorem ok__law_grown (T : Txt K mg) : FnOk P w K mg base (L2.CX P w) (1) T.ad__law_grown T.fd__law_grown ["_law_form_here", "_law_many", "_law_cell", "_law_name"] (SpM K mg 4 F__law_grown) :=
  okF T.fn__law_grown sc__law_grown fun cdv A outer s H E hr =>
    (mb_cons (ms_for (passes_of rfl) rfl (mi_range1 (by rfl) T.z_range (ma_cons (me_var 1) ma_nil)) (mg_name 4 sc__law_grown.nd) (mb_cons (ms_set 5 sc__law_grown.nd (me_tup (ma_cons me_str (ma_cons (me_var 3) ma_nil))))
    (mb_one (ms_if (MP.mt (mp_or (mt_cmp (op_eqD hr.units) eqW_ok (me_op op_mod modW_ok (me_var 2) me_int) me_int) (mp_or1 (MP.mt (mp_and (mt_cmp (op_eqD hr.units) eqW_ok (me_op op_mod modW_ok (me_var 2) me_int) me_int) (mp_and1 (mt_cmp (op_eqD hr.units) eqW_ok (me_op op_mod modW_ok (me_var 4) me_int) me_int))))))) (mb_one (ms_set 0 sc__law_grown.nd (me_tup (ma_cons (me_ix ix_seq ixW_ok me_str (me_op op_mod modW_ok (me_var 4) me_int)) (ma_cons (me_var 0) (ma_cons (me_var 5) ma_nil)))))) (mb_one (ms_set 0 sc__law_grown.nd (me_tup (ma_cons (me_ix ix_seq ixW_ok me_str (me_op op_mod modW_ok (me_var 4) me_int)) (ma_cons (me_var 5) (ma_cons (me_var 0) ma_nil))))))))))
    (mb_one (ms_ret (me_var 0))))
abbrev N__law_due : List Str := ["_law_thing", "_law_waiting", "_law_many", "_law_one"]
theorem sc__law_due : FnScope N__law_due ["_law_thing"] (defScope (top 20)) := ⟨rfl, rfl, rfl, by decide +kernel, rfl, by decide +kernel, by decide +kernel⟩
theorem ok__law_due (T : Txt K mg) : FnOk P w K mg base (L2.CX P w) (2) T.ad__law_due T.fd__law_due ["_law_thing"] (SpM K mg 1 F__law_due) :=
  okF T.fn__law_due sc__law_due fun cdv A outer s H E hr =>
    (mb_cons (ms_set 1 sc__law_due.nd (me_obj (me_lst (ma_cons (me_var 0) ma_nil))))
    (mb_cons (ms_set 2 sc__law_due.nd me_int)
    (mb_cons (ms_while 1000 (passes_of rfl) (mt_cmp op_gt gtW_ok (me_callB call_len lenW_ok (by rfl) T.z_len (ma_cons (me_var 1) ma_nil)) me_int) (mb_cons (ms_set 3 sc__law_due.nd (me_bm0 PySem.F.plainAttrs_list PySem.F.slot_list_pop PySem.F.type_list_pop mt_pop popW_ok (me_var 1)))
    (mb_cons (ms_if (MP.mt (mp_or (mt_not (mt_tru (me_isi .tup (by rfl) T.z_isinstance (by rfl) T.z_tuple (me_var 3)))) (mp_or (mt_cmp (op_notInA (hu65 hr)) inW_ok (me_callB call_len lenW_ok (by rfl) T.z_len (ma_cons (me_var 3) ma_nil)) (me_tup (ma_cons me_int (ma_cons me_int ma_nil)))) (mp_or1 (mt_not (mt_tru (me_isi .str (by rfl) T.z_isinstance (by rfl) T.z_str (me_ix ix_seq ixW_ok (me_var 3) me_int)))))))) (mb_one (ms_ret me_bl)) mb_nil)
    (mb_one (ms_if (mt_cmp (op_eqD hr.units) eqW_ok (me_callB call_len lenW_ok (by rfl) T.z_len (ma_cons (me_var 3) ma_nil)) me_int) (mb_cons (ms_if (MP.mt (mp_and (mt_cmp (op_neD hr.units) neW_ok (me_ix ix_seq ixW_ok (me_var 3) me_int) me_str) (mp_and1 (mt_cmp (op_neD hr.units) neW_ok (me_ix ix_seq ixW_ok (me_var 3) me_int) me_str)))) (mb_one (ms_ret me_bl)) mb_nil)
    (mb_one (ms_expr (me_bm PySem.F.plainAttrs_list PySem.F.slot_list_extend PySem.F.type_list_extend mt_extendA extendAW_ok (me_var 1) (ma_cons (me_slice sl_all slW_ok (me_var 3) (mo_some me_int) mo_none) ma_nil))))) (mb_cons (ms_if (MP.mt (mp_or (mt_cmp (op_neD hr.units) neW_ok (me_ix ix_seq ixW_ok (me_var 3) me_int) me_str) (mp_or (mt_not (mt_tru (me_isi .str (by rfl) T.z_isinstance (by rfl) T.z_str (me_ix ix_seq ixW_ok (me_var 3) me_int)))) (mp_or1 (mt_not (mt_tru (me_call (takes_of rfl rfl rfl rfl) (ok__law_is_word T) (hr.mono (by decide)) T.gl__law_is_word T.fn__law_is_word.kp T.bn__law_is_word (by rfl) (ma_cons (me_ix ix_seq ixW_ok (me_var 3) me_int) ma_nil) (aCons_len aNil_len)))))))) (mb_one (ms_ret me_bl)) mb_nil)
    (mb_one (ms_set 2 sc__law_due.nd (me_op op_addA addW_ok (me_var 2) me_int)))))))))
    (mb_one (ms_ret (me_cmp op_le leW_ok (me_var 2) me_int))))))
abbrev N_law : List Str := ["_law_script", "_law_first", "_law_cell", "_law_names_here", "_law_form_here", "_law_things", "_law_more", "_law_thing", "_law_found"]
theorem sc_law : FnScope N_law ["_law_script"] (defScope (top 21)) := ⟨rfl, rfl, rfl, by decide +kernel, rfl, by decide +kernel, by decide +kernel⟩
theorem ok_law (T : Txt K mg) : FnOk P w K mg base (L2.CX P w) (43) T.ad_law T.fd_law ["_law_script"] (SpM K mg 1 F_law) :=
  okF T.fn_law sc_law fun cdv A outer s H E hr =>
    (mb_cons (ms_set 1 sc_law.nd (me_frz (me_call (takes_of rfl rfl rfl rfl) (ok__law_cell_at T) (hr.mono (by decide)) T.gl__law_cell_at T.fn__law_cell_at.kp T.bn__law_cell_at (by rfl) (ma_cons (me_var 0) (ma_cons me_int ma_nil)) (aCons_len (aCons_len aNil_len)))))
    (mb_cons (ms_set 2 sc_law.nd (me_frz (me_call (takes_of rfl rfl rfl rfl) (ok__law_cell_at T) (hr.mono (by decide)) T.gl__law_cell_at T.fn__law_cell_at.kp T.bn__law_cell_at (by rfl) (ma_cons (me_var 0) (ma_cons me_int ma_nil)) (aCons_len (aCons_len aNil_len)))))
    (mb_cons (ms_set 3 sc_law.nd (me_frz (me_call (takes_of rfl rfl rfl rfl) (ok__law_names T) (hr.mono (by decide)) T.gl__law_names T.fn__law_names.kp T.bn__law_names (by rfl) (ma_cons (me_op op_fdivW divW_ok (me_var 1) me_int) (ma_cons me_int ma_nil)) (aCons_len (aCons_len aNil_len)))))
    (mb_cons (ms_set 4 sc_law.nd (me_frz (me_call (takes_of rfl rfl rfl rfl) (ok__law_form T 40) (hr.mono (by decide)) T.gl__law_form T.fn__law_form.kp T.bn__law_form (by rfl) (ma_cons (me_obj (me_op op_addA addW_ok (me_slice sl_all slW_ok (me_var 0) (mo_some me_int) (mo_some me_int)) (me_lst (ma_cons (me_op op_mod modW_ok (me_callB (cr_sum rfl) sumW_ok (by rfl) T.z_sum (ma_cons (me_var 0) ma_nil)) me_int) ma_nil)))) (ma_cons (me_var 3) (ma_cons (me_op op_addA addW_ok me_int (me_op op_mod modW_ok (me_var 1) me_int)) ma_nil))) (aCons_len (aCons_len (aCons_len aNil_len))))))
    (mb_cons (ms_set 5 sc_law.nd (me_obj (me_lst (ma_cons (me_var 4) (ma_cons (me_frz (me_call (takes_of rfl rfl rfl rfl) (ok__law_exchanged T 40) (hr.mono (by decide)) T.gl__law_exchanged T.fn__law_exchanged.kp T.bn__law_exchanged (by rfl) (ma_cons (me_var 4) (ma_cons (me_op op_fdivW divW_ok (me_var 2) me_int) (ma_cons (me_frz (me_call (takes_of rfl rfl rfl rfl) (ok__law_odd T) (hr.mono (by decide)) T.gl__law_odd T.fn__law_odd.kp T.bn__law_odd (by rfl) (ma_cons (me_var 2) (ma_cons (me_ix ix_seq ixW_ok (me_var 3) me_int) ma_nil)) (aCons_len (aCons_len aNil_len)))) ma_nil))) (aCons_len (aCons_len (aCons_len aNil_len))))) ma_nil)))))
    (mb_cons (ms_set 6 sc_law.nd (me_frz (me_call (takes_of rfl rfl rfl rfl) (ok__law_cell_at T) (hr.mono (by decide)) T.gl__law_cell_at T.fn__law_cell_at.kp T.bn__law_cell_at (by rfl) (ma_cons (me_var 0) (ma_cons me_int ma_nil)) (aCons_len (aCons_len aNil_len)))))
    (mb_cons (ms_expr (me_bm PySem.F.plainAttrs_list PySem.F.slot_list_append PySem.F.type_list_append mt_append appendW_ok (me_var 5) (ma_cons (me_frz (me_call (takes_of rfl rfl rfl rfl) (ok__law_grown T) (hr.mono (by decide)) T.gl__law_grown T.fn__law_grown.kp T.bn__law_grown (by rfl) (ma_cons (me_var 4) (ma_cons (me_op op_mod modW_ok (me_var 6) me_int) (ma_cons (me_op op_fdivW divW_ok (me_var 6) me_int) (ma_cons (me_ix ix_seq ixW_ok (me_var 3) me_int) ma_nil)))) (aCons_len (aCons_len (aCons_len (aCons_len aNil_len)))))) ma_nil)))
    (mb_cons (ms_expr (me_bm PySem.F.plainAttrs_list PySem.F.slot_list_append PySem.F.type_list_append mt_append appendW_ok (me_var 5) (ma_cons (me_frz (me_call (takes_of rfl rfl rfl rfl) (ok__law_grown T) (hr.mono (by decide)) T.gl__law_grown T.fn__law_grown.kp T.bn__law_grown (by rfl) (ma_cons (me_tup (ma_cons me_str (ma_cons (me_ix ix_seq ixW_ok (me_var 3) me_int) ma_nil))) (ma_cons (me_op op_addA addW_ok me_int (me_op op_mod modW_ok (me_op op_fdivW divW_ok (me_var 6) me_int) me_int)) (ma_cons (me_op op_fdivW divW_ok (me_var 6) me_int) (ma_cons (me_ix ix_seq ixW_ok (me_var 3) me_int) ma_nil)))) (aCons_len (aCons_len (aCons_len (aCons_len aNil_len)))))) ma_nil)))
    (mb_cons (ms_if (mt_cmp (op_eqD hr.units) eqW_ok (me_op op_mod modW_ok (me_op op_fdivW divW_ok (me_var 1) me_int) me_int) me_int) (mb_one (ms_expr (me_bm PySem.F.plainAttrs_list PySem.F.slot_list_append PySem.F.type_list_append mt_append appendW_ok (me_var 5) (ma_cons (me_frz (me_call (takes_of rfl rfl rfl rfl) (ok__law_grown T) (hr.mono (by decide)) T.gl__law_grown T.fn__law_grown.kp T.bn__law_grown (by rfl) (ma_cons (me_var 4) (ma_cons me_int (ma_cons (me_op op_fdivW divW_ok (me_var 6) me_int) (ma_cons (me_ix ix_seq ixW_ok (me_var 3) me_int) ma_nil)))) (aCons_len (aCons_len (aCons_len (aCons_len aNil_len)))))) ma_nil)))) mb_nil)
    (mb_cons (ms_for (passes_of rfl) rfl (mi_seq (me_var 5)) (mg_name 7 sc_law.nd) (mb_cons (ms_set 8 sc_law.nd (me_frz (me_call (takes_of rfl rfl rfl rfl) (ok_is_form T) (hr.mono (by decide)) T.gl_is_form T.fn_is_form.kp T.bn_is_form (by rfl) (ma_cons (me_var 7) ma_nil) (aCons_len aNil_len))))
    (mb_one (ms_if (MP.mt (mp_or (mt_not (mt_tru (me_isi .bl (by rfl) T.z_isinstance (by rfl) T.z_bool (me_var 8)))) (mp_or1 (mt_cmp (op_neD hr.units) neW_ok (me_var 8) (me_call (takes_of rfl rfl rfl rfl) (ok__law_due T) (hr.mono (by decide)) T.gl__law_due T.fn__law_due.kp T.bn__law_due (by rfl) (ma_cons (me_var 7) ma_nil) (aCons_len aNil_len)))))) (mb_one (ms_ret me_bl)) mb_nil))))
    (mb_one (ms_ret me_bl))))))))))))
end

theorem all_mk {l : PySem.W.OpenLaw} {w : World} {K : PySem.W.Frag} {h : Heap} {mg : Str → Option Value} {fa : Addr} (X : K.In h) (G : h.Ns mainGlobals mg) (hfa : mg "law" = some (.ref fa))
    {f1 : Addr} {od1 an1 : Option Addr} {sl1 : Array (Option Value)} {oc1 kV1 dc1 pm1 cd1 ct1 : Value}
    {f2 : Addr} {od2 an2 : Option Addr} {sl2 : Array (Option Value)} {oc2 kV2 dc2 pm2 cd2 ct2 : Value}
    {f3 : Addr} {od3 an3 : Option Addr} {sl3 : Array (Option Value)} {oc3 kV3 dc3 pm3 cd3 ct3 : Value}
    {f4 : Addr} {od4 an4 : Option Addr} {sl4 : Array (Option Value)} {oc4 kV4 dc4 pm4 cd4 ct4 : Value}
    {f5 : Addr} {od5 an5 : Option Addr} {sl5 : Array (Option Value)} {oc5 kV5 dc5 pm5 cd5 ct5 : Value}
    {f6 : Addr} {od6 an6 : Option Addr} {sl6 : Array (Option Value)} {oc6 kV6 dc6 pm6 cd6 ct6 : Value}
    {f7 : Addr} {od7 an7 : Option Addr} {sl7 : Array (Option Value)} {oc7 kV7 dc7 pm7 cd7 ct7 : Value}
    {f8 : Addr} {od8 an8 : Option Addr} {sl8 : Array (Option Value)} {oc8 kV8 dc8 pm8 cd8 ct8 : Value}
    {f9 : Addr} {od9 an9 : Option Addr} {sl9 : Array (Option Value)} {oc9 kV9 dc9 pm9 cd9 ct9 : Value}
    {f10 : Addr} {od10 an10 : Option Addr} {sl10 : Array (Option Value)} {oc10 kV10 dc10 pm10 cd10 ct10 : Value}
    {f11 : Addr} {od11 an11 : Option Addr} {sl11 : Array (Option Value)} {oc11 kV11 dc11 pm11 cd11 ct11 : Value}
    {f12 : Addr} {od12 an12 : Option Addr} {sl12 : Array (Option Value)} {oc12 kV12 dc12 pm12 cd12 ct12 : Value}
    {f13 : Addr} {od13 an13 : Option Addr} {sl13 : Array (Option Value)} {oc13 kV13 dc13 pm13 cd13 ct13 : Value}
    {f14 : Addr} {od14 an14 : Option Addr} {sl14 : Array (Option Value)} {oc14 kV14 dc14 pm14 cd14 ct14 : Value}
    {f15 : Addr} {od15 an15 : Option Addr} {sl15 : Array (Option Value)} {oc15 kV15 dc15 pm15 cd15 ct15 : Value}
    {f16 : Addr} {od16 an16 : Option Addr} {sl16 : Array (Option Value)} {oc16 kV16 dc16 pm16 cd16 ct16 : Value}
    {qt_LETTERS : Tok}
    {qt_LONGEST : Tok}
    {q_SLASHES : Addr} {qd_SLASHES : Option Addr} {qs_SLASHES : Array (Option Value)} {qn_SLASHES : Nat} {qt_SLASHES_0 : Tok} {qt_SLASHES_1 : Tok}
    {qt_MOST_BASICS : Tok}
    (a1 : PySem.W.nsIn K mainGlobals "is_word" = some (some (.ref f1))) (l1 : K.lookup f1 = some ⟨oc1, od1, .func (PySem.W.fnOf "is_word" "is_word" (defArgs (top 5)) (defBody (top 5)) (defScope (top 5)) .none kV1 dc1 pm1 an1 cd1 ct1), sl1⟩) (c1 : PySem.W.codeIn K cd1 "is_word" = true) (k1 : PySem.W.keepIn K (.ref f1) = true)
    (a2 : PySem.W.nsIn K mainGlobals "form_size" = some (some (.ref f2))) (l2 : K.lookup f2 = some ⟨oc2, od2, .func (PySem.W.fnOf "form_size" "form_size" (defArgs (top 6)) (defBody (top 6)) (defScope (top 6)) .none kV2 dc2 pm2 an2 cd2 ct2), sl2⟩) (c2 : PySem.W.codeIn K cd2 "form_size" = true) (k2 : PySem.W.keepIn K (.ref f2) = true)
    (a3 : PySem.W.nsIn K mainGlobals "is_form" = some (some (.ref f3))) (l3 : K.lookup f3 = some ⟨oc3, od3, .func (PySem.W.fnOf "is_form" "is_form" (defArgs (top 7)) (defBody (top 7)) (defScope (top 7)) .none kV3 dc3 pm3 an3 cd3 ct3), sl3⟩) (c3 : PySem.W.codeIn K cd3 "is_form" = true) (k3 : PySem.W.keepIn K (.ref f3) = true)
    (a4 : PySem.W.nsIn K mainGlobals "_law_cell_at" = some (some (.ref f4))) (l4 : K.lookup f4 = some ⟨oc4, od4, .func (PySem.W.fnOf "_law_cell_at" "_law_cell_at" (defArgs (top 9)) (defBody (top 9)) (defScope (top 9)) .none kV4 dc4 pm4 an4 cd4 ct4), sl4⟩) (c4 : PySem.W.codeIn K cd4 "_law_cell_at" = true) (k4 : PySem.W.keepIn K (.ref f4) = true)
    (a5 : PySem.W.nsIn K mainGlobals "_law_take" = some (some (.ref f5))) (l5 : K.lookup f5 = some ⟨oc5, od5, .func (PySem.W.fnOf "_law_take" "_law_take" (defArgs (top 10)) (defBody (top 10)) (defScope (top 10)) .none kV5 dc5 pm5 an5 cd5 ct5), sl5⟩) (c5 : PySem.W.codeIn K cd5 "_law_take" = true) (k5 : PySem.W.keepIn K (.ref f5) = true)
    (a6 : PySem.W.nsIn K mainGlobals "_law_words" = some (some (.ref f6))) (l6 : K.lookup f6 = some ⟨oc6, od6, .func (PySem.W.fnOf "_law_words" "_law_words" (defArgs (top 11)) (defBody (top 11)) (defScope (top 11)) .none kV6 dc6 pm6 an6 cd6 ct6), sl6⟩) (c6 : PySem.W.codeIn K cd6 "_law_words" = true) (k6 : PySem.W.keepIn K (.ref f6) = true)
    (a7 : PySem.W.nsIn K mainGlobals "_law_word" = some (some (.ref f7))) (l7 : K.lookup f7 = some ⟨oc7, od7, .func (PySem.W.fnOf "_law_word" "_law_word" (defArgs (top 12)) (defBody (top 12)) (defScope (top 12)) .none kV7 dc7 pm7 an7 cd7 ct7), sl7⟩) (c7 : PySem.W.codeIn K cd7 "_law_word" = true) (k7 : PySem.W.keepIn K (.ref f7) = true)
    (a8 : PySem.W.nsIn K mainGlobals "_law_unlike" = some (some (.ref f8))) (l8 : K.lookup f8 = some ⟨oc8, od8, .func (PySem.W.fnOf "_law_unlike" "_law_unlike" (defArgs (top 13)) (defBody (top 13)) (defScope (top 13)) .none kV8 dc8 pm8 an8 cd8 ct8), sl8⟩) (c8 : PySem.W.codeIn K cd8 "_law_unlike" = true) (k8 : PySem.W.keepIn K (.ref f8) = true)
    (a9 : PySem.W.nsIn K mainGlobals "_law_names" = some (some (.ref f9))) (l9 : K.lookup f9 = some ⟨oc9, od9, .func (PySem.W.fnOf "_law_names" "_law_names" (defArgs (top 14)) (defBody (top 14)) (defScope (top 14)) .none kV9 dc9 pm9 an9 cd9 ct9), sl9⟩) (c9 : PySem.W.codeIn K cd9 "_law_names" = true) (k9 : PySem.W.keepIn K (.ref f9) = true)
    (a10 : PySem.W.nsIn K mainGlobals "_law_form" = some (some (.ref f10))) (l10 : K.lookup f10 = some ⟨oc10, od10, .func (PySem.W.fnOf "_law_form" "_law_form" (defArgs (top 15)) (defBody (top 15)) (defScope (top 15)) .none kV10 dc10 pm10 an10 cd10 ct10), sl10⟩) (c10 : PySem.W.codeIn K cd10 "_law_form" = true) (k10 : PySem.W.keepIn K (.ref f10) = true)
    (a11 : PySem.W.nsIn K mainGlobals "_law_is_word" = some (some (.ref f11))) (l11 : K.lookup f11 = some ⟨oc11, od11, .func (PySem.W.fnOf "_law_is_word" "_law_is_word" (defArgs (top 16)) (defBody (top 16)) (defScope (top 16)) .none kV11 dc11 pm11 an11 cd11 ct11), sl11⟩) (c11 : PySem.W.codeIn K cd11 "_law_is_word" = true) (k11 : PySem.W.keepIn K (.ref f11) = true)
    (a12 : PySem.W.nsIn K mainGlobals "_law_odd" = some (some (.ref f12))) (l12 : K.lookup f12 = some ⟨oc12, od12, .func (PySem.W.fnOf "_law_odd" "_law_odd" (defArgs (top 17)) (defBody (top 17)) (defScope (top 17)) .none kV12 dc12 pm12 an12 cd12 ct12), sl12⟩) (c12 : PySem.W.codeIn K cd12 "_law_odd" = true) (k12 : PySem.W.keepIn K (.ref f12) = true)
    (a13 : PySem.W.nsIn K mainGlobals "_law_exchanged" = some (some (.ref f13))) (l13 : K.lookup f13 = some ⟨oc13, od13, .func (PySem.W.fnOf "_law_exchanged" "_law_exchanged" (defArgs (top 18)) (defBody (top 18)) (defScope (top 18)) .none kV13 dc13 pm13 an13 cd13 ct13), sl13⟩) (c13 : PySem.W.codeIn K cd13 "_law_exchanged" = true) (k13 : PySem.W.keepIn K (.ref f13) = true)
    (a14 : PySem.W.nsIn K mainGlobals "_law_grown" = some (some (.ref f14))) (l14 : K.lookup f14 = some ⟨oc14, od14, .func (PySem.W.fnOf "_law_grown" "_law_grown" (defArgs (top 19)) (defBody (top 19)) (defScope (top 19)) .none kV14 dc14 pm14 an14 cd14 ct14), sl14⟩) (c14 : PySem.W.codeIn K cd14 "_law_grown" = true) (k14 : PySem.W.keepIn K (.ref f14) = true)
    (a15 : PySem.W.nsIn K mainGlobals "_law_due" = some (some (.ref f15))) (l15 : K.lookup f15 = some ⟨oc15, od15, .func (PySem.W.fnOf "_law_due" "_law_due" (defArgs (top 20)) (defBody (top 20)) (defScope (top 20)) .none kV15 dc15 pm15 an15 cd15 ct15), sl15⟩) (c15 : PySem.W.codeIn K cd15 "_law_due" = true) (k15 : PySem.W.keepIn K (.ref f15) = true)
    (a16 : PySem.W.nsIn K mainGlobals "law" = some (some (.ref f16))) (l16 : K.lookup f16 = some ⟨oc16, od16, .func (PySem.W.fnOf "law" "law" (defArgs (top 21)) (defBody (top 21)) (defScope (top 21)) .none kV16 dc16 pm16 an16 cd16 ct16), sl16⟩) (c16 : PySem.W.codeIn K cd16 "law" = true) (k16 : PySem.W.keepIn K (.ref f16) = true)
    (z_all : PySem.W.nsIn K mainGlobals "all" = some none)
    (z_bool : PySem.W.nsIn K mainGlobals "bool" = some none)
    (z_int : PySem.W.nsIn K mainGlobals "int" = some none)
    (z_isinstance : PySem.W.nsIn K mainGlobals "isinstance" = some none)
    (z_len : PySem.W.nsIn K mainGlobals "len" = some none)
    (z_range : PySem.W.nsIn K mainGlobals "range" = some none)
    (z_str : PySem.W.nsIn K mainGlobals "str" = some none)
    (z_sum : PySem.W.nsIn K mainGlobals "sum" = some none)
    (z_tuple : PySem.W.nsIn K mainGlobals "tuple" = some none)
    (q_LETTERS_a : PySem.W.nsIn K mainGlobals "LETTERS" = some (some (.str (Str.ofString "abcdefghijklmnopqrstuvwxyz") qt_LETTERS)))
    (q_LONGEST_a : PySem.W.nsIn K mainGlobals "LONGEST" = some (some (.int 8 qt_LONGEST)))
    (q_SLASHES_a : PySem.W.nsIn K mainGlobals "SLASHES" = some (some (.ref q_SLASHES))) (q_SLASHES_l : K.lookup q_SLASHES = some ⟨.type "tuple", qd_SLASHES, .seq #[.str (Str.ofString "/") qt_SLASHES_0, .str (Str.ofString "\\") qt_SLASHES_1] qn_SLASHES, qs_SLASHES⟩)
    (q_MOST_BASICS_a : PySem.W.nsIn K mainGlobals "MOST_BASICS" = some (some (.int 12 qt_MOST_BASICS))) :
    ∃ fd : FuncData, (∀ (s : Shared) (v : Value), BindsTo s fd ⟨[v], []⟩ [("_law_script", v)]) ∧ ∀ base : Heap, K.In base → base.Ns mainGlobals mg → FnOk l.prog w K mg base (L2.CX l.prog w) 43 fa fd ["_law_script"] (spLaw K) := by
  have e := hfa.symm.trans (PySem.W.mg_of X G a16)
  cases e
  let T : Txt K mg := {
    ad_is_word := f1, fd_is_word := PySem.W.fnOf "is_word" "is_word" (defArgs (top 5)) (defBody (top 5)) (defScope (top 5)) .none kV1 dc1 pm1 an1 cd1 ct1, fn_is_word := fun_mk (st := top 5) l1 c1 k1, bn_is_word := (fun_mk (st := top 5) l1 c1 k1).binds (ps := ["thing"]) fun _ _ _ _ _ _ us hl => (match us, hl with | [_], _ => rfl), gl_is_word := PySem.W.mg_of X G a1,
    ad_form_size := f2, fd_form_size := PySem.W.fnOf "form_size" "form_size" (defArgs (top 6)) (defBody (top 6)) (defScope (top 6)) .none kV2 dc2 pm2 an2 cd2 ct2, fn_form_size := fun_mk (st := top 6) l2 c2 k2, bn_form_size := (fun_mk (st := top 6) l2 c2 k2).binds (ps := ["thing", "most"]) fun _ _ _ _ _ _ us hl => (match us, hl with | [_, _], _ => rfl), gl_form_size := PySem.W.mg_of X G a2,
    ad_is_form := f3, fd_is_form := PySem.W.fnOf "is_form" "is_form" (defArgs (top 7)) (defBody (top 7)) (defScope (top 7)) .none kV3 dc3 pm3 an3 cd3 ct3, fn_is_form := fun_mk (st := top 7) l3 c3 k3, bn_is_form := (fun_mk (st := top 7) l3 c3 k3).binds (ps := ["thing"]) fun _ _ _ _ _ _ us hl => (match us, hl with | [_], _ => rfl), gl_is_form := PySem.W.mg_of X G a3,
    ad__law_cell_at := f4, fd__law_cell_at := PySem.W.fnOf "_law_cell_at" "_law_cell_at" (defArgs (top 9)) (defBody (top 9)) (defScope (top 9)) .none kV4 dc4 pm4 an4 cd4 ct4, fn__law_cell_at := fun_mk (st := top 9) l4 c4 k4, bn__law_cell_at := (fun_mk (st := top 9) l4 c4 k4).binds (ps := ["_law_script", "_law_k"]) fun _ _ _ _ _ _ us hl => (match us, hl with | [_, _], _ => rfl), gl__law_cell_at := PySem.W.mg_of X G a4,
    ad__law_take := f5, fd__law_take := PySem.W.fnOf "_law_take" "_law_take" (defArgs (top 10)) (defBody (top 10)) (defScope (top 10)) .none kV5 dc5 pm5 an5 cd5 ct5, fn__law_take := fun_mk (st := top 10) l5 c5 k5, bn__law_take := (fun_mk (st := top 10) l5 c5 k5).binds (ps := ["_law_cells"]) fun _ _ _ _ _ _ us hl => (match us, hl with | [_], _ => rfl), gl__law_take := PySem.W.mg_of X G a5,
    ad__law_words := f6, fd__law_words := PySem.W.fnOf "_law_words" "_law_words" (defArgs (top 11)) (defBody (top 11)) (defScope (top 11)) .none kV6 dc6 pm6 an6 cd6 ct6, fn__law_words := fun_mk (st := top 11) l6 c6 k6, bn__law_words := (fun_mk (st := top 11) l6 c6 k6).binds (ps := ["_law_cell", "_law_many"]) fun _ _ _ _ _ _ us hl => (match us, hl with | [_, _], _ => rfl), gl__law_words := PySem.W.mg_of X G a6,
    ad__law_word := f7, fd__law_word := PySem.W.fnOf "_law_word" "_law_word" (defArgs (top 12)) (defBody (top 12)) (defScope (top 12)) .none kV7 dc7 pm7 an7 cd7 ct7, fn__law_word := fun_mk (st := top 12) l7 c7 k7, bn__law_word := (fun_mk (st := top 12) l7 c7 k7).binds (ps := ["_law_cell"]) fun _ _ _ _ _ _ us hl => (match us, hl with | [_], _ => rfl), gl__law_word := PySem.W.mg_of X G a7,
    ad__law_unlike := f8, fd__law_unlike := PySem.W.fnOf "_law_unlike" "_law_unlike" (defArgs (top 13)) (defBody (top 13)) (defScope (top 13)) .none kV8 dc8 pm8 an8 cd8 ct8, fn__law_unlike := fun_mk (st := top 13) l8 c8 k8, bn__law_unlike := (fun_mk (st := top 13) l8 c8 k8).binds (ps := ["_law_words_here"]) fun _ _ _ _ _ _ us hl => (match us, hl with | [_], _ => rfl), gl__law_unlike := PySem.W.mg_of X G a8,
    ad__law_names := f9, fd__law_names := PySem.W.fnOf "_law_names" "_law_names" (defArgs (top 14)) (defBody (top 14)) (defScope (top 14)) .none kV9 dc9 pm9 an9 cd9 ct9, fn__law_names := fun_mk (st := top 14) l9 c9 k9, bn__law_names := (fun_mk (st := top 14) l9 c9 k9).binds (ps := ["_law_cell", "_law_many"]) fun _ _ _ _ _ _ us hl => (match us, hl with | [_, _], _ => rfl), gl__law_names := PySem.W.mg_of X G a9,
    ad__law_form := f10, fd__law_form := PySem.W.fnOf "_law_form" "_law_form" (defArgs (top 15)) (defBody (top 15)) (defScope (top 15)) .none kV10 dc10 pm10 an10 cd10 ct10, fn__law_form := fun_mk (st := top 15) l10 c10 k10, bn__law_form := (fun_mk (st := top 15) l10 c10 k10).binds (ps := ["_law_cells", "_law_names_here", "_law_most"]) fun _ _ _ _ _ _ us hl => (match us, hl with | [_, _, _], _ => rfl), gl__law_form := PySem.W.mg_of X G a10,
    ad__law_is_word := f11, fd__law_is_word := PySem.W.fnOf "_law_is_word" "_law_is_word" (defArgs (top 16)) (defBody (top 16)) (defScope (top 16)) .none kV11 dc11 pm11 an11 cd11 ct11, fn__law_is_word := fun_mk (st := top 16) l11 c11 k11, bn__law_is_word := (fun_mk (st := top 16) l11 c11 k11).binds (ps := ["_law_text"]) fun _ _ _ _ _ _ us hl => (match us, hl with | [_], _ => rfl), gl__law_is_word := PySem.W.mg_of X G a11,
    ad__law_odd := f12, fd__law_odd := PySem.W.fnOf "_law_odd" "_law_odd" (defArgs (top 17)) (defBody (top 17)) (defScope (top 17)) .none kV12 dc12 pm12 an12 cd12 ct12, fn__law_odd := fun_mk (st := top 17) l12 c12 k12, bn__law_odd := (fun_mk (st := top 17) l12 c12 k12).binds (ps := ["_law_cell", "_law_name"]) fun _ _ _ _ _ _ us hl => (match us, hl with | [_, _], _ => rfl), gl__law_odd := PySem.W.mg_of X G a12,
    ad__law_exchanged := f13, fd__law_exchanged := PySem.W.fnOf "_law_exchanged" "_law_exchanged" (defArgs (top 18)) (defBody (top 18)) (defScope (top 18)) .none kV13 dc13 pm13 an13 cd13 ct13, fn__law_exchanged := fun_mk (st := top 18) l13 c13 k13, bn__law_exchanged := (fun_mk (st := top 18) l13 c13 k13).binds (ps := ["_law_thing", "_law_cell", "_law_odd_here"]) fun _ _ _ _ _ _ us hl => (match us, hl with | [_, _, _], _ => rfl), gl__law_exchanged := PySem.W.mg_of X G a13,
    ad__law_grown := f14, fd__law_grown := PySem.W.fnOf "_law_grown" "_law_grown" (defArgs (top 19)) (defBody (top 19)) (defScope (top 19)) .none kV14 dc14 pm14 an14 cd14 ct14, fn__law_grown := fun_mk (st := top 19) l14 c14 k14, bn__law_grown := (fun_mk (st := top 19) l14 c14 k14).binds (ps := ["_law_form_here", "_law_many", "_law_cell", "_law_name"]) fun _ _ _ _ _ _ us hl => (match us, hl with | [_, _, _, _], _ => rfl), gl__law_grown := PySem.W.mg_of X G a14,
    ad__law_due := f15, fd__law_due := PySem.W.fnOf "_law_due" "_law_due" (defArgs (top 20)) (defBody (top 20)) (defScope (top 20)) .none kV15 dc15 pm15 an15 cd15 ct15, fn__law_due := fun_mk (st := top 20) l15 c15 k15, bn__law_due := (fun_mk (st := top 20) l15 c15 k15).binds (ps := ["_law_thing"]) fun _ _ _ _ _ _ us hl => (match us, hl with | [_], _ => rfl), gl__law_due := PySem.W.mg_of X G a15,
    ad_law := _, fd_law := PySem.W.fnOf "law" "law" (defArgs (top 21)) (defBody (top 21)) (defScope (top 21)) .none kV16 dc16 pm16 an16 cd16 ct16, fn_law := fun_mk (st := top 21) l16 c16 k16, bn_law := (fun_mk (st := top 21) l16 c16 k16).binds (ps := ["_law_script"]) fun _ _ _ _ _ _ us hl => (match us, hl with | [_], _ => rfl), gl_law := PySem.W.mg_of X G a16,
    z_all := PySem.W.mg_none_of X G z_all,
    z_bool := PySem.W.mg_none_of X G z_bool,
    z_int := PySem.W.mg_none_of X G z_int,
    z_isinstance := PySem.W.mg_none_of X G z_isinstance,
    z_len := PySem.W.mg_none_of X G z_len,
    z_range := PySem.W.mg_none_of X G z_range,
    z_str := PySem.W.mg_none_of X G z_str,
    z_sum := PySem.W.mg_none_of X G z_sum,
    z_tuple := PySem.W.mg_none_of X G z_tuple,
    k_LETTERS := ⟨_, .str (Str.ofString "abcdefghijklmnopqrstuvwxyz"), PySem.W.mg_of X G q_LETTERS_a, ⟨_, rfl⟩, fun _ _ => .str _⟩,
    k_LONGEST := ⟨_, .int 8, PySem.W.mg_of X G q_LONGEST_a, ⟨_, rfl⟩, fun _ _ => .int _⟩,
    k_SLASHES := ⟨_, .ref q_SLASHES, PySem.W.mg_of X G q_SLASHES_a, rfl, fun _ _ => Rep.tup (xs := [.str (Str.ofString "/"), .str (Str.ofString "\\")]) (.inr ⟨_, _, _, q_SLASHES_l, rfl, rfl, (show 2 ≤ sizeLine by decide), (.cons ⟨_, rfl⟩ (.cons ⟨_, rfl⟩ .nil))⟩) (.cons (.str _) (.cons (.str _) .nil))⟩,
    k_MOST_BASICS := ⟨_, .int 12, PySem.W.mg_of X G q_MOST_BASICS_a, ⟨_, rfl⟩, fun _ _ => .int _⟩ }
  exact ⟨PySem.W.fnOf "law" "law" (defArgs (top 21)) (defBody (top 21)) (defScope (top 21)) .none kV16 dc16 pm16 an16 cd16 ct16, fun s v => .of_eq rfl, fun base _ _ => law_imp (ok_law T) law_true⟩
end K03
open PySem PySem.W PyProof.Rows
set_option maxRecDepth 100000 in
set_option maxHeartbeats 0 in
theorem PySem.Challenge.cw_slashwise_k03_anything_a_form_holds : PySem.Challenge.rw_slashwise_k03_anything_a_form.Holds := by
  w_on; o_law; k_head; (case hw => w_witness2)
  k_fill
  refine L2.walk_of (l := PySem.Challenge.rw_slashwise_k03_anything_a_form) (n := 63) (k := 43) (x := "_law_script") (CX := fun w => L2.CX PySem.Challenge.rw_slashwise_k03_anything_a_form.prog w) (sp := fun w => M.spLaw _) rfl (by decide) rfl ⟨rfl, by decide, by decide⟩ (fun w h Y => PySem.W.kIn_of Y) ?F (fun _ _ a ns hl _ hS => ⟨a, ns, rfl, hS, hl, fun _ => rfl⟩) (fun _ _ _ _ _ h => M.cx_no h)
  case F =>
    intro w mg fa h KX G hmg
    refine' K03.all_mk KX G hmg ?a1 ?l1 ?c1 ?k1 ?a2 ?l2 ?c2 ?k2 ?a3 ?l3 ?c3 ?k3 ?a4 ?l4 ?c4 ?k4 ?a5 ?l5 ?c5 ?k5 ?a6 ?l6 ?c6 ?k6 ?a7 ?l7 ?c7 ?k7 ?a8 ?l8 ?c8 ?k8 ?a9 ?l9 ?c9 ?k9 ?a10 ?l10 ?c10 ?k10 ?a11 ?l11 ?c11 ?k11 ?a12 ?l12 ?c12 ?k12 ?a13 ?l13 ?c13 ?k13 ?a14 ?l14 ?c14 ?k14 ?a15 ?l15 ?c15 ?k15 ?a16 ?l16 ?c16 ?k16 ?z_all ?z_bool ?z_int ?z_isinstance ?z_len ?z_range ?z_str ?z_sum ?z_tuple ?q_LETTERS_a ?q_LONGEST_a ?q_SLASHES_a ?q_SLASHES_l ?q_MOST_BASICS_a
    (case a1 => k_is)
    (case l1 => k_is)
    (case c1 => k_is)
    (case k1 => k_is)
    (case a2 => k_is)
    (case l2 => k_is)
    (case c2 => k_is)
    (case k2 => k_is)
    (case a3 => k_is)
    (case l3 => k_is)
    (case c3 => k_is)
    (case k3 => k_is)
    (case a4 => k_is)
    (case l4 => k_is)
    (case c4 => k_is)
    (case k4 => k_is)
    (case a5 => k_is)
    (case l5 => k_is)
    (case c5 => k_is)
    (case k5 => k_is)
    (case a6 => k_is)
    (case l6 => k_is)
    (case c6 => k_is)
    (case k6 => k_is)
    (case a7 => k_is)
    (case l7 => k_is)
    (case c7 => k_is)
    (case k7 => k_is)
    (case a8 => k_is)
    (case l8 => k_is)
    (case c8 => k_is)
    (case k8 => k_is)
    (case a9 => k_is)
    (case l9 => k_is)
    (case c9 => k_is)
    (case k9 => k_is)
    (case a10 => k_is)
    (case l10 => k_is)
    (case c10 => k_is)
    (case k10 => k_is)
    (case a11 => k_is)
    (case l11 => k_is)
    (case c11 => k_is)
    (case k11 => k_is)
    (case a12 => k_is)
    (case l12 => k_is)
    (case c12 => k_is)
    (case k12 => k_is)
    (case a13 => k_is)
    (case l13 => k_is)
    (case c13 => k_is)
    (case k13 => k_is)
    (case a14 => k_is)
    (case l14 => k_is)
    (case c14 => k_is)
    (case k14 => k_is)
    (case a15 => k_is)
    (case l15 => k_is)
    (case c15 => k_is)
    (case k15 => k_is)
    (case a16 => k_is)
    (case l16 => k_is)
    (case c16 => k_is)
    (case k16 => k_is)
    (case z_all => k_is)
    (case z_bool => k_is)
    (case z_int => k_is)
    (case z_isinstance => k_is)
    (case z_len => k_is)
    (case z_range => k_is)
    (case z_str => k_is)
    (case z_sum => k_is)
    (case z_tuple => k_is)
    (case q_LETTERS_a => k_is)
    (case q_LONGEST_a => k_is)
    (case q_SLASHES_a => k_is)
    (case q_SLASHES_l => k_is)
    (case q_MOST_BASICS_a => k_is)

