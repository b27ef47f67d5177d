import PyProof.Rows.All
import Wide.All
import OpenK.AllK
import Wide.FinOn
import HandS.ForMost
import HandS.ForExc
import HandS.CallSlots
import HandS.IsInst
import HandS.Wide
import HandS.Deep
import HandS.TupAny
import HandS.Conv
import HandS.Replace
import HandS.Zip
import HandS.Style
import HandS.Dict
import HandS.NoneIn
import HandS.ExcIs
import KE.RegKIsAll
import KE.KExcIs
import HandS.ExcField
import HandS.ExcInit
import PySem.Challenge.RW_slashwise_k32_whole_rows_put_together
set_option Elab.async false
set_option linter.all false
set_option maxRecDepth 100000
/-! M: defs as functions over plain data. D: data; W: a value (data, a mutable object by its number, a fresh list); O: a mutable object -/
namespace M
open PySem L2

abbrev D := PyData
inductive W where
  | d (x : D)
  | obj (i : Nat)
  | fl (xs : List D)
  | ro (xs : List D)
inductive O where
  | lst (xs : List D)
  | fz (xs : List D)
  | dct (kvs : List (Str × W))
  | lsw (ws : List W)
abbrev Mem := List O
abbrev Env := List (Option W)
structure Exn where
  cls : Str
  fs : List (Str × D)
inductive Res (α : Type) where
  | ok (a : α) (m : Mem)
  | err (e : Exn) (m : Mem)
  | bad
def Res.bind {α β : Type} (r : Res α) (k : α → Mem → Res β) : Res β :=
  match r with
  | .ok a m => k a m
  | .err e m => .err e m
  | .bad => .bad
@[simp] theorem Res.bind_ok {α β : Type} (a : α) (m : Mem) (k : α → Mem → Res β) : (Res.ok a m).bind k = k a m := rfl
@[simp] theorem Res.bind_err {α β : Type} (e : Exn) (m : Mem) (k : α → Mem → Res β) : (Res.err e m : Res α).bind k = .err e m := rfl
@[simp] theorem Res.bind_bad {α β : Type} (k : α → Mem → Res β) : (Res.bad : Res α).bind k = .bad := rfl

/-! ### data on the heap -/
def KL (K : PySem.W.Frag) (a : Addr) (xs : List V) : Prop :=
  ∃ (o : Obj) (its : Array Value) (n : Nat), K.lookup a = some o ∧ o.cls = .type "list" ∧ o.dict = none ∧ o.data = .seq its n ∧ its.size ≤ sizeLine ∧ Vals xs its.toList
def KT (K : PySem.W.Frag) (a : Addr) (xs : List V) : Prop :=
  ∃ (o : Obj) (its : Array Value) (n : Nat), K.lookup a = some o ∧ o.cls = .type "tuple" ∧ o.data = .seq its n ∧ its.size ≤ sizeLine ∧ Vals xs its.toList
def LsI (K : PySem.W.Frag) (lv : List Addr) (H : Hp) (a : Addr) (xs : List V) : Prop := (a ∉ lv ∧ Rd H a (.lst xs)) ∨ KL K a xs
def LsT (lv : List Addr) (H : Hp) (a : Addr) (xs : List V) : Prop := a ∉ lv ∧ H a = some (.lst xs)
def TpI (K : PySem.W.Frag) (lv : List Addr) (H : Hp) (a : Addr) (xs : List V) : Prop := (a ∉ lv ∧ H a = some (.tup xs)) ∨ KT K a xs
mutual
inductive Rep (K : PySem.W.Frag) (lv : List Addr) (H : Hp) : V → D → Prop
  | non : Rep K lv H .non .none
  | bl (b : Bool) : Rep K lv H (.bl b) (.bool b)
  | int (i : Int) : Rep K lv H (.int i) (.int i)
  | str (x : Str) : Rep K lv H (.str x) (.str x)
  | lst {a : Addr} {xs : List V} {ds : List D} : LsT lv H a xs → Reps K lv H xs ds → Rep K lv H (.ref a) (.list ds)
  | tup {a : Addr} {xs : List V} {ds : List D} : TpI K lv H a xs → Reps K lv H xs ds → Rep K lv H (.ref a) (.tuple ds)
inductive Reps (K : PySem.W.Frag) (lv : List Addr) (H : Hp) : List V → List D → Prop
  | nil : Reps K lv H [] []
  | cons {v : V} {vs : List V} {d : D} {ds : List D} : Rep K lv H v d → Reps K lv H vs ds → Reps K lv H (v :: vs) (d :: ds)
end
/-- what was held is held -/
structure Mo (lv : List Addr) (H : Hp) (lv' : List Addr) (H' : Hp) : Prop where
  keep : ∀ a o, H a = some o → a ∉ lv → H' a = some o
  out : ∀ a o, H a = some o → a ∉ lv → a ∉ lv'
section
variable {K : PySem.W.Frag} {lv lv' : List Addr} {H H' : Hp}
theorem LsI.mono {a : Addr} {xs : List V} (h : LsI K lv H a xs) (m : Mo lv H lv' H') : LsI K lv' H' a xs := by
  rcases h with ⟨n, h | ⟨o, h⟩⟩ | h
  · exact .inl ⟨m.out _ _ h n, .inl (m.keep _ _ h n)⟩
  · exact .inl ⟨m.out _ _ h n, .inr ⟨o, m.keep _ _ h n⟩⟩
  · exact .inr h
theorem LsT.mono {a : Addr} {xs : List V} (h : LsT lv H a xs) (m : Mo lv H lv' H') : LsT lv' H' a xs := ⟨m.out _ _ h.2 h.1, m.keep _ _ h.2 h.1⟩
theorem LsT.sq {a : Addr} {xs : List V} (h : LsT lv H a xs) : SqL K H a xs := .inl (.inl h.2)
theorem TpI.mono {a : Addr} {xs : List V} (h : TpI K lv H a xs) (m : Mo lv H lv' H') : TpI K lv' H' a xs := by
  rcases h with ⟨n, h⟩ | h
  · exact .inl ⟨m.out _ _ h n, m.keep _ _ h n⟩
  · exact .inr h
theorem LsI.sq {a : Addr} {xs : List V} (h : LsI K lv H a xs) : SqL K H a xs := by
  rcases h with ⟨_, h⟩ | h
  · exact .inl h
  · exact .inr h
theorem TpI.sq {a : Addr} {xs : List V} (h : TpI K lv H a xs) : SqT K H a xs := by
  rcases h with ⟨_, h⟩ | h
  · exact .inl (.inl h)
  · exact .inr h
mutual
theorem Rep.mono (m : Mo lv H lv' H') : ∀ {v : V} {d : D}, Rep K lv H v d → Rep K lv' H' v d
  | _, _, .non => .non
  | _, _, .bl b => .bl b
  | _, _, .int i => .int i
  | _, _, .str x => .str x
  | _, _, .lst h r => .lst (h.mono m) (Reps.mono m r)
  | _, _, .tup h r => .tup (h.mono m) (Reps.mono m r)
theorem Reps.mono (m : Mo lv H lv' H') : ∀ {vs : List V} {ds : List D}, Reps K lv H vs ds → Reps K lv' H' vs ds
  | _, _, .nil => .nil
  | _, _, .cons h r => .cons (Rep.mono m h) (Reps.mono m r)
end
mutual
theorem Rep.dp : ∀ {v : V} {d : D}, Rep K lv H v d → Dp K H v d
  | _, _, .non => .non
  | _, _, .bl b => .bl b
  | _, _, .int i => .int i
  | _, _, .str x => .str x
  | _, _, .lst h r => .lst h.sq (Reps.dp r)
  | _, _, .tup h r => .tup h.sq (Reps.dp r)
theorem Reps.dp : ∀ {vs : List V} {ds : List D}, Reps K lv H vs ds → DpAll K H vs ds
  | _, _, .nil => .nil
  | _, _, .cons h r => .cons (Rep.dp h) (Reps.dp r)
end
theorem Reps.length : ∀ {vs : List V} {ds : List D}, Reps K lv H vs ds → vs.length = ds.length
  | _, _, .nil => rfl
  | _, _, .cons _ r => by rw [List.length_cons, List.length_cons, Reps.length r]
theorem Reps.append : ∀ {vs us : List V} {ds es : List D}, Reps K lv H vs ds → Reps K lv H us es → Reps K lv H (vs ++ us) (ds ++ es)
  | _, _, _, _, .nil, s => s
  | _, _, _, _, .cons h r, s => .cons h (Reps.append r s)
theorem Reps.get : ∀ {vs : List V} {ds : List D} {i : Nat} {d : D}, Reps K lv H vs ds → ds[i]? = some d → ∃ v, vs[i]? = some v ∧ Rep K lv H v d
  | _, _, _, _, .nil, e => by simp at e
  | _, _, 0, _, .cons h r, e => by simp at e; subst e; exact ⟨_, rfl, h⟩
  | _, _, i + 1, d, .cons h r, e => by
    obtain ⟨v, h1, h2⟩ := Reps.get (i := i) (d := d) r (by simpa using e)
    exact ⟨v, by simpa using h1, h2⟩
theorem Reps.get' : ∀ {vs : List V} {ds : List D} {i : Nat} {v : V}, Reps K lv H vs ds → vs[i]? = some v → ∃ d, ds[i]? = some d ∧ Rep K lv H v d
  | _, _, _, _, .nil, e => by simp at e
  | _, _, 0, _, .cons h r, e => by simp at e; subst e; exact ⟨_, rfl, h⟩
  | _, _, i + 1, d, .cons h r, e => by
    obtain ⟨v, h1, h2⟩ := Reps.get' (i := i) (v := d) r (by simpa using e)
    exact ⟨v, by simpa using h1, h2⟩
theorem Reps.take : ∀ {vs : List V} {ds : List D} (n : Nat), Reps K lv H vs ds → Reps K lv H (vs.take n) (ds.take n)
  | _, _, 0, _ => .nil
  | _, _, _ + 1, .nil => .nil
  | _, _, n + 1, .cons h r => .cons h (Reps.take n r)
theorem Reps.drop : ∀ {vs : List V} {ds : List D} (n : Nat), Reps K lv H vs ds → Reps K lv H (vs.drop n) (ds.drop n)
  | _, _, 0, r => r
  | _, _, _ + 1, .nil => .nil
  | _, _, n + 1, .cons h r => Reps.drop n r
theorem Reps.set {v : V} {d : D} (h : Rep K lv H v d) : ∀ {vs : List V} {ds : List D} (i : Nat), Reps K lv H vs ds → Reps K lv H (vs.set i v) (ds.set i d)
  | _, _, _, .nil => .nil
  | _, _, 0, .cons _ t => .cons h t
  | _, _, i + 1, .cons q t => .cons q (Reps.set h i t)
theorem Reps.eraseIdx : ∀ {vs : List V} {ds : List D} (i : Nat), Reps K lv H vs ds → Reps K lv H (vs.eraseIdx i) (ds.eraseIdx i)
  | _, _, _, .nil => .nil
  | _, _, 0, .cons _ t => t
  | _, _, i + 1, .cons q t => .cons q (Reps.eraseIdx i t)
theorem Reps.dropLast : ∀ {vs : List V} {ds : List D}, Reps K lv H vs ds → Reps K lv H vs.dropLast ds.dropLast := fun {vs ds} r => by
  rw [List.dropLast_eq_take, List.dropLast_eq_take, r.length]; exact r.take _
theorem Reps.reverse : ∀ {vs : List V} {ds : List D}, Reps K lv H vs ds → Reps K lv H vs.reverse ds.reverse
  | _, _, .nil => .nil
  | _, _, .cons h r => by rw [List.reverse_cons, List.reverse_cons]; exact (Reps.reverse r).append (.cons h .nil)
theorem Reps.one {v : V} {d : D} (h : Rep K lv H v d) : Reps K lv H [v] [d] := .cons h .nil
theorem Reps.ints : ∀ (ns : List Int), Reps K lv H (ns.map V.int) (ns.map PyData.int)
  | [] => .nil
  | n :: ns => .cons (.int n) (Reps.ints ns)
theorem Reps.vints : ∀ {vs : List V} {ns : List Int}, Reps K lv H vs (ns.map PyData.int) → vs = ns.map V.int
  | [], [], _ => rfl
  | v :: vs, n :: ns, .cons h r => by cases h; rw [Reps.vints r]; rfl
theorem Reps.vstrs : ∀ {vs : List V} {ns : List Str}, Reps K lv H vs (ns.map PyData.str) → vs = ns.map V.str
  | [], [], _ => rfl
  | v :: vs, n :: ns, .cons h r => by cases h; rw [Reps.vstrs r]; rfl
theorem Reps.vbls : ∀ {vs : List V} {ns : List Bool}, Reps K lv H vs (ns.map PyData.bool) → vs = ns.map V.bl
  | [], [], _ => rfl
  | v :: vs, n :: ns, .cons h r => by cases h; rw [Reps.vbls r]; rfl
end

/-! ### the world: the objects' places; those that no data holds (objects that may change, fresh lists); the heap -/
structure Wd where
  io : List Addr
  lv : List Addr
  H : Hp
def RepW (K : PySem.W.Frag) (G : Wd) (v : V) : W → Prop
  | .d x => Rep K G.lv G.H v x
  | .obj i => ∃ a, G.io[i]? = some a ∧ v = .ref a
  | .fl _ => False
  | .ro ds => ∃ a vs, v = .ref a ∧ LsI K G.lv G.H a vs ∧ Reps K G.lv G.H vs ds
def RepR (K : PySem.W.Frag) (H0 : Hp) (G : Wd) (v : V) : W → Prop
  | .d x => Rep K G.lv G.H v x
  | .obj i => ∃ a, G.io[i]? = some a ∧ v = .ref a
  | .fl ds => ∃ p vs, v = .ref p ∧ H0 p = none ∧ p ∉ G.io ∧ p ∈ G.lv ∧ G.H p = some (.lst vs) ∧ Reps K G.lv G.H vs ds
  | .ro ds => ∃ a vs, v = .ref a ∧ LsI K G.lv G.H a vs ∧ Reps K G.lv G.H vs ds
def ORep (K : PySem.W.Frag) (G : Wd) (a : Addr) : O → Prop
  | .lst ds => a ∈ G.lv ∧ ∃ vs, G.H a = some (.lst vs) ∧ Reps K G.lv G.H vs ds
  | .fz ds => a ∉ G.lv ∧ ∃ vs, G.H a = some (.lst vs) ∧ Reps K G.lv G.H vs ds
  | .lsw ws => a ∈ G.lv ∧ ∃ vs, G.H a = some (.lst vs) ∧ Paired (RepW K G) vs ws
  | .dct kvs => a ∈ G.lv ∧ ∃ ks : List (Key × V), G.H a = some (.dK ks) ∧ Paired (fun (p : Key × V) (q : Str × W) => p.1 = Sum.inr q.1 ∧ RepW K G p.2 q.2) ks kvs
def okW (n : Nat) : W → Bool
  | .obj j => decide (j < n)
  | .fl _ => false
  | _ => true
def okO (n : Nat) : O → Bool
  | .dct kvs => kvs.all fun p => okW n p.2
  | .lsw ws => ws.all (okW n)
  | _ => true
theorem okW.le {i n : Nat} {w : W} (h : okW i w = true) (hi : i ≤ n) : okW n w = true := by
  cases w with
  | obj j => have h : j < i := by simpa [okW] using h
             show decide (j < n) = true
             exact decide_eq_true (by omega)
  | d _ => rfl
  | ro _ => rfl
  | fl _ => cases h
theorem okO.le {i n : Nat} {o : O} (h : okO i o = true) (hi : i ≤ n) : okO n o = true := by
  cases o with
  | lst _ => rfl
  | fz _ => rfl
  | dct kvs =>
    have h : kvs.all (fun p => okW i p.2) = true := h
    show kvs.all (fun p => okW n p.2) = true
    rw [List.all_eq_true] at h ⊢
    exact fun p hp => okW.le (h p hp) hi
  | lsw ws =>
    have h : ws.all (okW i) = true := h
    show ws.all (okW n) = true
    rw [List.all_eq_true] at h ⊢
    exact fun p hp => okW.le (h p hp) hi
structure RelM (K : PySem.W.Frag) (G : Wd) (m : Mem) : Prop where
  dw : ∀ (i : Nat) (o : O), m[i]? = some o → okO m.length o = true
  len : G.io.length = m.length
  nd : G.io.Nodup
  lt : ∀ a ∈ G.lv, G.H a ≠ none
  it : ∀ a ∈ G.io, G.H a ≠ none
  ob : ∀ (i : Nat) (a : Addr) (o : O), G.io[i]? = some a → m[i]? = some o → ORep K G a o
structure Le (G G' : Wd) : Prop where
  lt : ∀ a ∈ G.lv, G.H a ≠ none
  io : ∃ κ : List Addr, G'.io = G.io ++ κ ∧ ∀ a ∈ κ, G.H a = none
  lv : ∀ a ∈ G'.lv, a ∈ G.lv ∨ G.H a = none
  stay : ∀ a ∈ G.lv, a ∉ G.io → a ∈ G'.lv
  keep : ∀ a o, G.H a = some o → ¬ (a ∈ G.io ∧ a ∈ G.lv) → G'.H a = some o
  tr : ∀ a, G'.H a = none → G.H a = none
theorem Le.refl {K : PySem.W.Frag} {G : Wd} {m : Mem} (R : RelM K G m) : Le G G := ⟨R.lt, ⟨[], by simp, fun _ h => nomatch h⟩, fun _ h => .inl h, fun _ h _ => h, fun _ _ h _ => h, fun _ h => h⟩
theorem Le.nio {G G' : Wd} (a : Le G G') {c : Addr} (h : G.H c ≠ none) (n : c ∉ G.io) : c ∉ G'.io := by
  obtain ⟨κ, e, nk⟩ := a.io
  rw [e]
  intro z
  rcases List.mem_append.mp z with z | z
  · exact n z
  · exact h (nk _ z)
theorem Le.nlv {G G' : Wd} (a : Le G G') {c : Addr} (h : G.H c ≠ none) (n : c ∉ G.lv) : c ∉ G'.lv := fun z => by
  rcases a.lv c z with z | z
  · exact n z
  · exact h z
theorem Le.trans {G G1 G2 : Wd} (a : Le G G1) (b : Le G1 G2) : Le G G2 := by
  obtain ⟨κ1, e1, n1⟩ := a.io
  obtain ⟨κ2, e2, n2⟩ := b.io
  refine ⟨a.lt, ⟨κ1 ++ κ2, by rw [e2, e1, List.append_assoc], fun c hc => ?_⟩, fun c hc => ?_, fun c hc n => b.stay c (a.stay c hc n) (a.nio (a.lt c hc) n), fun c o h n => ?_, fun c h => a.tr c (b.tr c h)⟩
  · rcases List.mem_append.mp hc with h | h
    · exact n1 c h
    · exact a.tr c (n2 c h)
  · rcases b.lv c hc with h | h
    · exact a.lv c h
    · exact .inr (a.tr c h)
  · have hn : G.H c ≠ none := by rw [h]; simp
    refine b.keep c o (a.keep c o h n) fun ⟨z1, z2⟩ => ?_
    by_cases z : c ∈ G.io
    · exact n ⟨z, Classical.byContradiction fun q => a.nlv hn q z2⟩
    · exact a.nio hn z z1
theorem Le.mo {G G' : Wd} (a : Le G G') : Mo G.lv G.H G'.lv G'.H := ⟨fun c o h n => a.keep c o h fun z => n z.2, fun c o h n => a.nlv (by rw [h]; simp) n⟩
theorem Le.iget {G G' : Wd} (a : Le G G') {i : Nat} {c : Addr} (h : G.io[i]? = some c) : G'.io[i]? = some c := by
  obtain ⟨κ, e, _⟩ := a.io
  rw [e, List.getElem?_append_left (List.getElem?_eq_some_iff.mp h).1]; exact h
section
variable {K : PySem.W.Frag} {G G' : Wd} {H0 H1 : Hp}
theorem RepW.mono {v : V} {w : W} (h : RepW K G v w) (le : Le G G') : RepW K G' v w := by
  cases w with
  | d x => exact Rep.mono le.mo h
  | obj i => obtain ⟨a, h1, h2⟩ := h; exact ⟨a, le.iget h1, h2⟩
  | fl _ => exact h
  | ro ds => obtain ⟨a, vs, h1, h2, h3⟩ := h; exact ⟨a, vs, h1, h2.mono le.mo, h3.mono le.mo⟩
theorem RepR.mono {v : V} {w : W} (h : RepR K H0 G v w) (le : Le G G') : RepR K H0 G' v w := by
  cases w with
  | d x => exact Rep.mono le.mo h
  | obj i => obtain ⟨a, h1, h2⟩ := h; exact ⟨a, le.iget h1, h2⟩
  | fl ds =>
    obtain ⟨p, vs, e, h0, h1, h2, h3, r⟩ := h
    have hp : G.H p ≠ none := by rw [h3]; simp
    exact ⟨p, vs, e, h0, le.nio hp h1, le.stay _ h2 h1, le.keep _ _ h3 (fun z => h1 z.1), Reps.mono le.mo r⟩
  | ro ds => obtain ⟨a, vs, h1, h2, h3⟩ := h; exact ⟨a, vs, h1, h2.mono le.mo, h3.mono le.mo⟩
theorem RepR.weak {v : V} {w : W} (h : RepR K H1 G v w) (t : ∀ a, H1 a = none → H0 a = none) : RepR K H0 G v w := by
  cases w with
  | d x => exact h
  | obj i => exact h
  | fl ds => obtain ⟨p, vs, e, h0, r⟩ := h; exact ⟨p, vs, e, t p h0, r⟩
  | ro ds => exact h
theorem RepW.r {v : V} {w : W} (h : RepW K G v w) : RepR K H0 G v w := by
  cases w with
  | d x => exact h
  | obj i => exact h
  | fl _ => exact False.elim h
  | ro ds => exact h
theorem ORep.mono {a : Addr} {ob : O} (h : ORep K G a ob) (le : Le G G') (hl : a ∈ G.lv → a ∈ G'.lv) (hl2 : a ∉ G.lv → a ∉ G'.lv) (e : G'.H a = G.H a) : ORep K G' a ob := by
  cases ob with
  | lst ds => obtain ⟨h1, vs, h2, r⟩ := h; exact ⟨hl h1, vs, by rw [e]; exact h2, Reps.mono le.mo r⟩
  | fz ds => obtain ⟨h1, vs, h2, r⟩ := h; exact ⟨hl2 h1, vs, by rw [e]; exact h2, Reps.mono le.mo r⟩
  | dct kvs =>
    obtain ⟨h1, ks, h2, r⟩ := h
    exact ⟨hl h1, ks, by rw [e]; exact h2, Paired.mono (fun _ _ z => ⟨z.1, z.2.mono le⟩) r⟩
  | lsw ws => obtain ⟨h1, vs, h2, r⟩ := h; exact ⟨hl h1, vs, by rw [e]; exact h2, Paired.mono (fun _ _ z => z.mono le) r⟩
end

/-! ### worlds that grow -/
section
variable {K : PySem.W.Frag} {G G0 : Wd} {m : Mem} {p : Addr} {o : HO}
theorem upd_none {H : Hp} {a : Addr} (e : upd H p o a = none) : H a = none := by
  unfold upd at e
  split at e
  · cases e
  · exact e
theorem RelM.ne (R : RelM K G m) (h : G.H p = none) : p ∉ G.io ∧ p ∉ G.lv := ⟨fun z => R.it p z h, fun z => R.lt p z h⟩
/-- a new thing that is held as data -/
theorem Le.new (R : RelM K G m) (h : G.H p = none) : Le G ⟨G.io, G.lv, upd G.H p o⟩ :=
  ⟨R.lt, ⟨[], by simp, fun _ z => nomatch z⟩, fun _ z => .inl z, fun _ z _ => z, fun a u e _ => by show upd G.H p o a = _; rw [upd_ne (ne_of_none e h)]; exact e, fun a e => upd_none e⟩
theorem RelM.new (R : RelM K G m) (h : G.H p = none) : RelM K ⟨G.io, G.lv, upd G.H p o⟩ m := by
  have ne : ∀ a, G.H a ≠ none → a ≠ p := fun a z e => z (e ▸ h)
  refine ⟨R.dw, R.len, R.nd, fun a z => ?_, fun a z => ?_, fun i a ob e1 e2 => (R.ob i a ob e1 e2).mono (Le.new R h) (fun z => z) (fun z => z) ?_⟩
  · show upd G.H p o a ≠ none
    rw [upd_ne (ne a (R.lt a z))]; exact R.lt a z
  · show upd G.H p o a ≠ none
    rw [upd_ne (ne a (R.it a z))]; exact R.it a z
  · exact upd_ne (ne a (R.it a (List.mem_of_getElem? e1)))
/-- a new thing that no data holds -/
theorem Le.newL (R : RelM K G m) (h : G.H p = none) : Le G ⟨G.io, p :: G.lv, upd G.H p o⟩ :=
  ⟨R.lt, ⟨[], by simp, fun _ z => nomatch z⟩, fun a z => by
    rcases List.mem_cons.mp z with z | z
    · exact .inr (z ▸ h)
    · exact .inl z, fun _ z _ => List.mem_cons_of_mem _ z, fun a u e _ => by show upd G.H p o a = _; rw [upd_ne (ne_of_none e h)]; exact e, fun a e => upd_none e⟩
theorem RelM.newL (R : RelM K G m) (h : G.H p = none) : RelM K ⟨G.io, p :: G.lv, upd G.H p o⟩ m := by
  have ne : ∀ a, G.H a ≠ none → a ≠ p := fun a z e => z (e ▸ h)
  refine ⟨R.dw, R.len, R.nd, fun a z => ?_, fun a z => ?_, fun i a ob e1 e2 => (R.ob i a ob e1 e2).mono (Le.newL R h) (fun z => List.mem_cons_of_mem _ z) (fun z q => ?_) ?_⟩
  · show upd G.H p o a ≠ none
    rcases List.mem_cons.mp z with z | z
    · rw [z, upd_same]; simp
    · rw [upd_ne (ne a (R.lt a z))]; exact R.lt a z
  · show upd G.H p o a ≠ none
    rw [upd_ne (ne a (R.it a z))]; exact R.it a z
  · rcases List.mem_cons.mp q with q | q
    · exact R.it a (List.mem_of_getElem? e1) (q ▸ h)
    · exact z q
  · exact upd_ne (ne a (R.it a (List.mem_of_getElem? e1)))
/-- a fresh list becomes data -/
def Wd.drop (G : Wd) (p : Addr) : Wd := ⟨G.io, G.lv.filter (fun a => decide (a ≠ p)), G.H⟩
theorem mem_drop {a : Addr} : a ∈ (G.drop p).lv ↔ a ∈ G.lv ∧ a ≠ p := by
  show a ∈ G.lv.filter _ ↔ _
  rw [List.mem_filter]; simp
theorem Mo.drop : Mo G.lv G.H (G.drop p).lv (G.drop p).H := ⟨fun _ _ h _ => h, fun _ _ _ n z => n (mem_drop.mp z).1⟩
theorem Le.drop (le : Le G0 G) (h0 : G0.H p = none) : Le G0 (G.drop p) :=
  ⟨le.lt, le.io, fun a z => le.lv a (mem_drop.mp z).1, fun a z n => mem_drop.mpr ⟨le.stay a z n, fun e => le.lt a z (e ▸ h0)⟩, le.keep, le.tr⟩
theorem RepW.drop {v : V} {w : W} (h : RepW K G v w) : RepW K (G.drop p) v w := by
  cases w with
  | d x => exact Rep.mono Mo.drop h
  | obj i => exact h
  | fl _ => exact h
  | ro ds => obtain ⟨a, vs, h1, h2, h3⟩ := h; exact ⟨a, vs, h1, h2.mono Mo.drop, h3.mono Mo.drop⟩
theorem RelM.drop (R : RelM K G m) (h : p ∉ G.io) : RelM K (G.drop p) m := by
  refine ⟨R.dw, R.len, R.nd, fun a z => R.lt a (mem_drop.mp z).1, R.it, fun i a ob e1 e2 => ?_⟩
  have q := R.ob i a ob e1 e2
  have ne : a ≠ p := fun e => h (e ▸ List.mem_of_getElem? e1)
  cases ob with
  | lst ds => obtain ⟨h1, vs, h2, r⟩ := q; exact ⟨mem_drop.mpr ⟨h1, ne⟩, vs, h2, Reps.mono Mo.drop r⟩
  | fz ds => obtain ⟨h1, vs, h2, r⟩ := q; exact ⟨fun z => h1 (mem_drop.mp z).1, vs, h2, Reps.mono Mo.drop r⟩
  | dct kvs => obtain ⟨h1, ks, h2, r⟩ := q; exact ⟨mem_drop.mpr ⟨h1, ne⟩, ks, h2, Paired.mono (fun _ _ z => ⟨z.1, z.2.drop⟩) r⟩
  | lsw ws => obtain ⟨h1, vs, h2, r⟩ := q; exact ⟨mem_drop.mpr ⟨h1, ne⟩, vs, h2, Paired.mono (fun _ _ z => z.drop) r⟩
theorem RepR.drop {v : V} {ds : List D} {H0 : Hp} {p : Addr} {vs : List V} (h3 : G.H p = some (.lst vs)) (r : Reps K G.lv G.H vs ds) : Rep K (G.drop p).lv (G.drop p).H (.ref p) (.list ds) :=
  .lst ⟨fun z => (mem_drop.mp z).2 rfl, h3⟩ (Reps.mono Mo.drop r)
/-- a fresh list becomes an object -/
def Wd.own (G : Wd) (p : Addr) : Wd := ⟨G.io ++ [p], G.lv, G.H⟩
theorem Le.own (le : Le G0 G) (h0 : G0.H p = none) : Le G0 (G.own p) := by
  obtain ⟨κ, e, nk⟩ := le.io
  refine ⟨le.lt, ⟨κ ++ [p], by show G.io ++ [p] = _; rw [e, List.append_assoc], fun a z => ?_⟩, le.lv, le.stay, le.keep, le.tr⟩
  rcases List.mem_append.mp z with z | z
  · exact nk a z
  · rw [List.mem_singleton.mp z]; exact h0
theorem RepW.own {v : V} {w : W} (h : RepW K G v w) : RepW K (G.own p) v w := by
  cases w with
  | d x => exact h
  | obj i =>
    obtain ⟨a, h1, h2⟩ := h
    exact ⟨a, by show (G.io ++ [p])[i]? = _; rw [List.getElem?_append_left (List.getElem?_eq_some_iff.mp h1).1]; exact h1, h2⟩
  | fl _ => exact h
  | ro ds => exact h
theorem ORep.own {a : Addr} {ob : O} (q : ORep K G a ob) : ORep K (G.own p) a ob := by
  cases ob with
  | lst ds => exact q
  | fz ds => exact q
  | dct kvs => obtain ⟨h1, ks, h2, r⟩ := q; exact ⟨h1, ks, h2, Paired.mono (fun _ _ z => ⟨z.1, z.2.own⟩) r⟩
  | lsw ws => obtain ⟨h1, vs, h2, r⟩ := q; exact ⟨h1, vs, h2, Paired.mono (fun _ _ z => z.own) r⟩
theorem RelM.own {ob : O} (R : RelM K G m) (h : p ∉ G.io) (ht : G.H p ≠ none) (ho : ORep K G p ob) (hd : okO m.length ob = true) : RelM K (G.own p) (m ++ [ob]) := by
  refine ⟨fun i o e => ?_, by show (G.io ++ [p]).length = _; rw [List.length_append, List.length_append, R.len]; rfl, ?_, R.lt, fun a z => ?_, fun i a o e1 e2 => ?_⟩
  · by_cases hi : i < m.length
    · rw [List.getElem?_append_left hi] at e
      exact okO.le (R.dw i o e) (by simp)
    · have hl := (List.getElem?_eq_some_iff.mp e).1
      rw [List.length_append, List.length_singleton] at hl
      have ei : i = m.length := by omega
      subst ei
      rw [List.getElem?_append_right (Nat.le_refl _), Nat.sub_self] at e
      cases e
      exact okO.le hd (by simp)
  · show (G.io ++ [p]).Nodup
    rw [List.nodup_append]
    exact ⟨R.nd, by simp, fun a ha b hb e => h (by rw [← List.mem_singleton.mp hb, ← e]; exact ha)⟩
  · rcases List.mem_append.mp z with z | z
    · exact R.it a z
    · rw [List.mem_singleton.mp z]; exact ht
  · have e1 : (G.io ++ [p])[i]? = some a := e1
    by_cases hi : i < G.io.length
    · rw [List.getElem?_append_left hi] at e1
      rw [List.getElem?_append_left (by rw [← R.len]; exact hi)] at e2
      exact (R.ob i a o e1 e2).own
    · rw [List.getElem?_append_right (by omega)] at e1
      rw [List.getElem?_append_right (by rw [← R.len]; omega)] at e2
      have hj : i - G.io.length = 0 := by
        have := (List.getElem?_eq_some_iff.mp e1).1
        simp at this; omega
      rw [hj] at e1
      rw [← R.len, hj] at e2
      have e1' : p = a := by simpa using e1
      have e2' : ob = o := by simpa using e2
      subst e1' e2'
      exact ho.own
/-- an object changes -/
theorem Le.mut {i : Nat} (R : RelM K G m) (h1 : G.io[i]? = some p) (h2 : p ∈ G.lv) : Le G ⟨G.io, G.lv, upd G.H p o⟩ :=
  ⟨R.lt, ⟨[], by simp, fun _ z => nomatch z⟩, fun _ z => .inl z, fun _ z _ => z, fun a u e n => by
    show upd G.H p o a = _
    rw [upd_ne (fun z => n (by rw [z]; exact ⟨List.mem_of_getElem? h1, h2⟩))]; exact e, fun a e => upd_none e⟩
theorem RelM.mut {i : Nat} {ob : O} (R : RelM K G m) (h1 : G.io[i]? = some p) (h2 : p ∈ G.lv) (ho : ORep K ⟨G.io, G.lv, upd G.H p o⟩ p ob) (hd : okO m.length ob = true) : RelM K ⟨G.io, G.lv, upd G.H p o⟩ (m.set i ob) := by
  have up : ∀ a, G.H a ≠ none → upd G.H p o a ≠ none := fun a z q => z (upd_none q)
  refine ⟨fun j u e => ?_, by rw [List.length_set]; exact R.len, R.nd, fun a z => up a (R.lt a z), fun a z => up a (R.it a z), fun j a u e1 e2 => ?_⟩
  · by_cases hj : i = j
    · subst hj
      have hl := (List.getElem?_eq_some_iff.mp e).1
      rw [List.length_set] at hl
      rw [List.getElem?_set_self hl] at e
      cases e
      rw [List.length_set]
      exact hd
    · rw [List.getElem?_set_ne hj] at e
      rw [List.length_set]
      exact R.dw j u e
  by_cases hj : j = i
  · subst hj
    rw [h1] at e1
    cases e1
    rw [List.getElem?_set_self (by rw [← R.len]; exact (List.getElem?_eq_some_iff.mp h1).1)] at e2
    cases e2
    exact ho
  · rw [List.getElem?_set_ne (fun z => hj z.symm)] at e2
    have na : a ≠ p := fun z => hj ((List.getElem?_inj (List.getElem?_eq_some_iff.mp e1).1 R.nd).mp (by rw [e1, h1, z]))
    exact (R.ob j a u e1 e2).mono (Le.mut R h1 h2) (fun z => z) (fun z => z) (upd_ne na)
/-- an object is frozen: data may hold it -/
theorem Rep.drop {v : V} {x : D} (h : Rep K G.lv G.H v x) : Rep K (G.drop p).lv (G.drop p).H v x := Rep.mono Mo.drop h
end

/-! ### slots -/
structure RelS (K : PySem.W.Frag) (G : Wd) (σ : St) (env : Env) : Prop where
  len : σ.length = env.length
  get : ∀ (i : Nat) (w : W), env[i]? = some (some w) → ∃ v, σ[i]? = some (some v) ∧ RepW K G v w
theorem RelS.mono {K : PySem.W.Frag} {G G' : Wd} {σ : St} {env : Env} (S : RelS K G σ env) (le : Le G G') : RelS K G' σ env :=
  ⟨S.len, fun i w e => let ⟨v, h1, h2⟩ := S.get i w e; ⟨v, h1, h2.mono le⟩⟩
theorem RelS.set {K : PySem.W.Frag} {G : Wd} {σ : St} {env : Env} {v : V} {w : W} {i : Nat} (S : RelS K G σ env) (h : RepW K G v w) : RelS K G (σ.set i (some v)) (env.set i (some w)) := by
  refine ⟨by rw [List.length_set, List.length_set]; exact S.len, fun j u e => ?_⟩
  by_cases hj : j = i
  · subst hj
    have hl : j < env.length := by
      have := (List.getElem?_eq_some_iff.mp e).1
      rwa [List.length_set] at this
    rw [List.getElem?_set_self hl] at e
    cases e
    exact ⟨v, by rw [List.getElem?_set_self (by rw [S.len]; exact hl)], h⟩
  · rw [List.getElem?_set_ne (fun z => hj z.symm)] at e
    obtain ⟨u', h1, h2⟩ := S.get j u e
    exact ⟨u', by rw [List.getElem?_set_ne (fun z => hj z.symm)]; exact h1, h2⟩

/-! ### ends -/
def ExRep (mg : Str → Option Value) (K : PySem.W.Frag) (G : Wd) (c : Value) (d : Option Addr) (e : Exn) : Prop :=
  mg e.cls = some c ∧ ((e.fs = [] ∧ d = none) ∨ ∃ dd fs, e.fs ≠ [] ∧ d = some dd ∧ G.H dd = some (.xd fs) ∧ dd ∉ G.io ∧ Paired (fun (p : Str × V) (q : Str × D) => p.1 = q.1 ∧ Rep K G.lv G.H p.2 q.2) fs e.fs)
def GPost {α β : Type} (X : Cx) (Wx : WX) (σ : St) (G : Wd) (rel : Hp → Wd → β → α → Prop) (r : Res α) (Q : β → Hp → Prop) : Prop :=
  match r with
  | .ok a m => ∀ v G', Le G G' → RelM X.K G' m → rel G.H G' v a → Q v G'.H
  | .err e m => ∀ c d G', Le G G' → RelM X.K G' m → ExRep X.mg X.K G' c d e → Wx c d σ G'.H
  | .bad => False
/-- a relation that may start earlier -/
def Weak {α β : Type} (rel : Hp → Wd → β → α → Prop) : Prop := ∀ H H1 G v a, (∀ p, H1 p = none → H p = none) → rel H1 G v a → rel H G v a
section
variable {X : Cx} {Wx : WX} {σ : St} {G G1 : Wd}
theorem GPost.later {α β : Type} {rel : Hp → Wd → β → α → Prop} (hw : Weak rel) {r : Res α} {Q : β → Hp → Prop} (h : GPost X Wx σ G rel r Q) (le : Le G G1) : GPost X Wx σ G1 rel r Q := by
  cases r with
  | ok a m => exact fun v G' l R q => h v G' (le.trans l) R (hw _ _ _ _ _ le.tr q)
  | err e m => exact fun c d G' l R q => h c d G' (le.trans l) R q
  | bad => exact h
theorem GPost.bind {α β α' β' : Type} {rel : Hp → Wd → β → α → Prop} {rel' : Hp → Wd → β' → α' → Prop} (hw : Weak rel') {r : Res α} {k : α → Mem → Res α'} {Q : β → Hp → Prop} {Q' : β' → Hp → Prop}
    (h : GPost X Wx σ G rel' (r.bind k) Q')
    (hk : ∀ a m v G1, Le G G1 → RelM X.K G1 m → rel G.H G1 v a → GPost X Wx σ G1 rel' (k a m) Q' → Q v G1.H) : GPost X Wx σ G rel r Q := by
  cases r with
  | ok a m => exact fun v G1 le R q => hk a m v G1 le R q (GPost.later hw h le)
  | err e m => exact h
  | bad => exact h
theorem weakR {K : PySem.W.Frag} : Weak (RepR K) := fun _ _ _ _ _ t h => h.weak t
def relEq {α : Type} : Hp → Wd → α → α → Prop := fun _ _ v a => v = a
theorem weakEq {α : Type} : Weak (relEq (α := α)) := fun _ _ _ _ _ _ h => h
def RepRs (K : PySem.W.Frag) (H0 : Hp) (G : Wd) (vs : List V) (ws : List W) : Prop := Paired (RepR K H0 G) vs ws
theorem weakRs {K : PySem.W.Frag} : Weak (RepRs K) := fun _ _ _ _ _ t h => Paired.mono (fun _ _ z => z.weak t) h
theorem RepRs.mono {K : PySem.W.Frag} {H0 : Hp} {G G' : Wd} {vs : List V} {ws : List W} (h : RepRs K H0 G vs ws) (le : Le G G') : RepRs K H0 G' vs ws := Paired.mono (fun _ _ z => z.mono le) h
end

/-! ### judgements -/
def ME (X : Cx) (Wx : WX) (e : Expr) (f : Env → Mem → Res W) : Prop :=
  ∃ t, PE X e t ∧ ∀ env m σ G Q, RelS X.K G σ env → RelM X.K G m → GPost X Wx σ G (RepR X.K) (f env m) Q → t σ G.H Q
def MT (X : Cx) (Wx : WX) (e : Expr) (f : Env → Mem → Res Bool) : Prop :=
  ∃ t, PT X e t ∧ ∀ env m σ G Q, RelS X.K G σ env → RelM X.K G m → GPost X Wx σ G relEq (f env m) Q → t σ G.H Q
def MP (X : Cx) (Wx : WX) (e : Expr) (f : Env → Mem → Res Bool) : Prop :=
  ∃ t, PW X e t ∧ ∀ env m σ G Q, RelS X.K G σ env → RelM X.K G m → GPost X Wx σ G relEq (f env m) Q → t σ G.H Q
def MA (X : Cx) (Wx : WX) (es : List Expr) (f : Env → Mem → Res (List W)) : Prop :=
  ∃ t, PA X es t ∧ ∀ env m σ G Q, RelS X.K G σ env → RelM X.K G m → GPost X Wx σ G (RepRs X.K) (f env m) Q → t σ G.H Q
inductive SRes where
  | nx (env : Env) (m : Mem)
  | bk (env : Env) (m : Mem)
  | ct (env : Env) (m : Mem)
  | rt (w : W) (m : Mem)
  | err (e : Exn) (env : Env) (m : Mem)
  | bad
def SPost (X : Cx) (Wx : WX) (G : Wd) (r : SRes) (E : Ends) : Prop :=
  match r with
  | .nx env m => ∀ σ' G', Le G G' → RelM X.K G' m → RelS X.K G' σ' env → E.nx σ' G'.H
  | .bk env m => ∀ σ' G', Le G G' → RelM X.K G' m → RelS X.K G' σ' env → E.bk σ' G'.H
  | .ct env m => ∀ σ' G', Le G G' → RelM X.K G' m → RelS X.K G' σ' env → E.ct σ' G'.H
  | .rt w m => ∀ v G', Le G G' → RelM X.K G' m → RepR X.K G.H G' v w → E.rt v G'.H
  | .err e env m => ∀ c d σ' G', Le G G' → RelM X.K G' m → RelS X.K G' σ' env → ExRep X.mg X.K G' c d e → Wx c d σ' G'.H
  | .bad => False
def MS (X : Cx) (Wx : WX) (st : Stmt) (f : Env → Mem → SRes) : Prop :=
  ∃ t, PS X st t ∧ ∀ env m σ G E, RelS X.K G σ env → RelM X.K G m → SPost X Wx G (f env m) E → t E σ G.H
def MB (X : Cx) (Wx : WX) (st : List Stmt) (f : Env → Mem → SRes) : Prop :=
  ∃ t, PSs X st t ∧ ∀ env m σ G E, RelS X.K G σ env → RelM X.K G m → SPost X Wx G (f env m) E → t E σ G.H
theorem SPost.later {X : Cx} {Wx : WX} {G G1 : Wd} {r : SRes} {E : Ends} (h : SPost X Wx G r E) (le : Le G G1) : SPost X Wx G1 r E := by
  cases r with
  | nx env m => exact fun σ' G' l R S => h σ' G' (le.trans l) R S
  | bk env m => exact fun σ' G' l R S => h σ' G' (le.trans l) R S
  | ct env m => exact fun σ' G' l R S => h σ' G' (le.trans l) R S
  | rt w m => exact fun v G' l R q => h v G' (le.trans l) R (q.weak le.tr)
  | err e env m => exact fun c d σ' G' l R S q => h c d σ' G' (le.trans l) R S q
  | bad => exact h
end M

set_option Elab.async false
set_option linter.all false
set_option maxRecDepth 100000
namespace M
open PySem L2
abbrev EF := Env → Mem → Res W
abbrev TF := Env → Mem → Res Bool
abbrev AF := Env → Mem → Res (List W)
abbrev SF := Env → Mem → SRes

/-! ### values seen -/
def asL (w : W) (m : Mem) : Option (List D) :=
  match w with
  | .d (.list ds) => some ds
  | .fl ds => some ds
  | .ro ds => some ds
  | .obj i => match m[i]? with
    | some (.lst ds) => some ds
    | some (.fz ds) => some ds
    | _ => none
  | _ => none
/-- a list that is tracked (not the script) -/
def asT (w : W) (m : Mem) : Option (List D) :=
  match w with
  | .ro _ => none
  | w => asL w m
def asD (w : W) (m : Mem) : Option D :=
  match w with
  | .d x => some x
  | w => (asL w m).map PyData.list
section
variable {K : PySem.W.Frag} {G : Wd} {m : Mem} {H0 : Hp} {v : V} {w : W}
theorem asT_sq (R : RelM K G m) (h : RepR K H0 G v w) {ds : List D} (e : asT w m = some ds) : ∃ a vs, v = .ref a ∧ G.H a = some (.lst vs) ∧ Reps K G.lv G.H vs ds := by
  cases w with
  | d x =>
    cases x with
    | list xs =>
      have e : xs = ds := by simpa [asT, asL] using e
      subst e
      cases h with
      | lst h r => exact ⟨_, _, rfl, h.2, r⟩
    | _ => simp [asT, asL] at e
  | fl xs =>
    have e : xs = ds := by simpa [asT, asL] using e
    subst e
    obtain ⟨p, vs, e, _, _, _, h3, r⟩ := h
    exact ⟨p, vs, e, h3, r⟩
  | ro xs => simp [asT] at e
  | obj i =>
    obtain ⟨a, h1, h2⟩ := h
    simp only [asT, asL] at e
    cases q : m[i]? with
    | none => rw [q] at e; cases e
    | some o =>
      rw [q] at e
      have ob := R.ob i a o h1 q
      cases o with
      | lst xs => cases e; obtain ⟨_, vs, h3, r⟩ := ob; exact ⟨a, vs, h2, h3, r⟩
      | fz xs => cases e; obtain ⟨_, vs, h3, r⟩ := ob; exact ⟨a, vs, h2, h3, r⟩
      | dct kvs => cases e
      | lsw ws => cases e
theorem asL_sq (R : RelM K G m) (h : RepR K H0 G v w) {ds : List D} (e : asL w m = some ds) : ∃ a vs, v = .ref a ∧ SqL K G.H a vs ∧ Reps K G.lv G.H vs ds := by
  cases w with
  | ro xs =>
    have e : xs = ds := by simpa [asL] using e
    subst e
    obtain ⟨a, vs, h1, h2, h3⟩ := h
    exact ⟨a, vs, h1, h2.sq, h3⟩
  | d x => obtain ⟨a, vs, h1, h2, h3⟩ := asT_sq (w := .d x) R h e; exact ⟨a, vs, h1, .of h2, h3⟩
  | fl x => obtain ⟨a, vs, h1, h2, h3⟩ := asT_sq (w := .fl x) R h e; exact ⟨a, vs, h1, .of h2, h3⟩
  | obj x => obtain ⟨a, vs, h1, h2, h3⟩ := asT_sq (w := .obj x) R h e; exact ⟨a, vs, h1, .of h2, h3⟩
theorem asD_dp (R : RelM K G m) (h : RepR K H0 G v w) {x : D} (e : asD w m = some x) : Dp K G.H v x := by
  have lst : ∀ ds, asL w m = some ds → Dp K G.H v (.list ds) := fun ds e => by
    obtain ⟨a, vs, rfl, h2, h3⟩ := asL_sq R h e
    exact .lst h2 h3.dp
  have go : (asL w m).map PyData.list = some x → Dp K G.H v x := fun e => by
    cases q : asL w m with
    | none => rw [q] at e; cases e
    | some ds => rw [q] at e; cases e; exact lst ds q
  cases w with
  | d y => cases e; exact Rep.dp h
  | obj i => exact go e
  | fl i => exact go e
  | ro i => exact go e
end

section
variable {X : Cx} {Wx : WX}
/-- an end without a change -/
theorem fin {σ : St} {G : Wd} {m : Mem} {Q : VK} {w : W} {v : V} (R : RelM X.K G m) (h : GPost X Wx σ G (RepR X.K) (.ok w m) Q) (r : RepR X.K G.H G v w) : Q v G.H := h v G (Le.refl R) R r
theorem finD {σ : St} {G : Wd} {m : Mem} {Q : VK} {x : D} {v : V} (R : RelM X.K G m) (h : GPost X Wx σ G (RepR X.K) (.ok (.d x) m) Q) (r : Rep X.K G.lv G.H v x) : Q v G.H := h v G (Le.refl R) R r
/-- a new tuple -/
theorem finT {σ : St} {G : Wd} {m : Mem} {Q : VK} {ds : List D} {vs : List V} {p : Addr} (R : RelM X.K G m) (h : GPost X Wx σ G (RepR X.K) (.ok (.d (.tuple ds)) m) Q) (r : Reps X.K G.lv G.H vs ds) (hp : G.H p = none) : Q (.ref p) (upd G.H p (.tup vs)) := by
  have le : Le G ⟨G.io, G.lv, upd G.H p (.tup vs)⟩ := Le.new R hp
  exact h (.ref p) _ le (R.new hp) (Rep.tup (.inl ⟨(R.ne hp).2, upd_same⟩) (Reps.mono le.mo r))
/-- a new list -/
theorem finL {σ : St} {G : Wd} {m : Mem} {Q : VK} {ds : List D} {vs : List V} {p : Addr} (R : RelM X.K G m) (h : GPost X Wx σ G (RepR X.K) (.ok (.fl ds) m) Q) (r : Reps X.K G.lv G.H vs ds) (hp : G.H p = none) : Q (.ref p) (upd G.H p (.lst vs)) := by
  have le : Le G ⟨G.io, p :: G.lv, upd G.H p (.lst vs)⟩ := Le.newL R hp
  exact h (.ref p) _ le (R.newL hp) ⟨p, vs, rfl, hp, (R.ne hp).1, List.mem_cons_self, upd_same, Reps.mono le.mo r⟩

/-! ### names, constants -/
def eVar (i : Nat) (env : Env) (m : Mem) : Res W := match env[i]? with
  | some (some w) => .ok w m
  | _ => .bad
def eC (x : D) (_ : Env) (m : Mem) : Res W := .ok (.d x) m
theorem me_var (i : Nat) {x : Str} {pos : Pos} (hN : X.N[i]? = some x := by rfl) (hv : Vis X.env.scope x := by first | exact Or.inl rfl | exact Or.inr (Or.inl rfl) | exact Or.inr (Or.inr rfl)) (hd : (x == ("__debug__" : Str)) = false := by decide)
    (hcd : (x == ("__classdict__" : Str)) = false := by decide) : ME X Wx (.Name x pos) (eVar i) := by
  refine ⟨_, pe_var hN hv hd hcd, fun env m σ G Q S R h => ?_⟩
  unfold eVar at h
  cases e : env[i]? with
  | none => rw [e] at h; exact False.elim h
  | some o =>
    cases o with
    | none => rw [e] at h; exact False.elim h
    | some w =>
      rw [e] at h
      obtain ⟨v, h1, h2⟩ := S.get i w e
      exact ⟨v, h1, fin R h h2.r⟩
theorem me_int {i : Int} {j pos} : ME X Wx (.Constant (.int i) j pos) (eC (.int i)) := ⟨_, pe_int, fun env m σ G Q S R h => finD R h (.int i)⟩
theorem me_str {i : Str} {j pos} : ME X Wx (.Constant (.str i) j pos) (eC (.str i)) := ⟨_, pe_str, fun env m σ G Q S R h => finD R h (.str i)⟩
theorem me_bl {i : Bool} {j pos} : ME X Wx (.Constant (.bool i) j pos) (eC (.bool i)) := ⟨_, pe_bl, fun env m σ G Q S R h => finD R h (.bl i)⟩
theorem me_non {j pos} : ME X Wx (.Constant .none j pos) (eC .none) := ⟨_, pe_non, fun env m σ G Q S R h => finD R h .non⟩
/-- a constant of the module -/
def KRep (K : PySem.W.Frag) (mg : Str → Option Value) (x : Str) (d : D) : Prop := ∃ u v, mg x = some u ∧ RelV v u ∧ ∀ lv H, Rep K lv H v d
theorem me_glob {x : Str} {d : D} {pos : Pos} (hg : Gl X x) (hk : KRep X.K X.mg x d) (hd : (x == ("__debug__" : Str)) = false := by decide) : ME X Wx (.Name x pos) (eC d) := by
  obtain ⟨u, v, hm, hr, hp⟩ := hk
  exact ⟨_, pe_glob hg hm hr hd, fun env m σ G Q S R h => finD R h (hp _ _)⟩

/-! ### operators -/
def OpOk (X : Cx) (Wx : WX) (r : R2) (g : W → W → Mem → Res W) : Prop :=
  ∀ (σ : St) (G : Wd) (m : Mem) (v u : V) (x y : W) (H0 H1 : Hp) (Q : VK), RelM X.K G m → RepR X.K H0 G v x → RepR X.K H1 G u y → GPost X Wx σ G (RepR X.K) (g x y m) Q → r v u G.H Q
def eOp (g : W → W → Mem → Res W) (a b : EF) (env : Env) (m : Mem) : Res W := (a env m).bind fun x m1 => (b env m1).bind fun y m2 => g x y m2
theorem two {a b : Expr} {ta tb : TE} {fa fb : EF} {g : W → W → Mem → Res W} {r : R2} (hg : OpOk X Wx r g) (qa : ∀ env m σ G Q, RelS X.K G σ env → RelM X.K G m → GPost X Wx σ G (RepR X.K) (fa env m) Q → ta σ G.H Q)
    (qb : ∀ env m σ G Q, RelS X.K G σ env → RelM X.K G m → GPost X Wx σ G (RepR X.K) (fb env m) Q → tb σ G.H Q) (env : Env) (m : Mem) (σ : St) (G : Wd) (Q : VK) (S : RelS X.K G σ env) (R : RelM X.K G m)
    (h : GPost X Wx σ G (RepR X.K) (eOp g fa fb env m) Q) : tOp r ta tb σ G.H Q := by
  refine qa env m σ G _ S R (GPost.bind weakR h fun x m1 v G1 le1 R1 q1 h1 => ?_)
  refine qb env m1 σ G1 _ (S.mono le1) R1 (GPost.bind weakR h1 fun y m2 u G2 le2 R2 q2 h2 => ?_)
  exact hg σ G2 m2 v u x y _ _ Q R2 (q1.mono le2) q2 h2
theorem me_op {op : Operator} {r : R2} {g : W → W → Mem → Res W} {a b : Expr} {fa fb : EF} {pos : Pos} (ho : OpR X (binaryOp op) r) (hg : OpOk X Wx r g) (ha : ME X Wx a fa) (hb : ME X Wx b fb) : ME X Wx (.BinOp a op b pos) (eOp g fa fb) := by
  obtain ⟨ta, pa, qa⟩ := ha
  obtain ⟨tb, pb, qb⟩ := hb
  exact ⟨_, pe_op ho pa pb, fun env m σ G Q S R h => two (a := a) (b := b) hg qa qb env m σ G Q S R h⟩
theorem me_cmp {op : CmpOp} {r : R2} {g : W → W → Mem → Res W} {a b : Expr} {fa fb : EF} {pos : Pos} (ho : OpR X (compareOp op) r) (hg : OpOk X Wx r g) (ha : ME X Wx a fa) (hb : ME X Wx b fb) (hm : behindInMarks op b = false := by first | exact nomark _ | with_unfolding_all rfl) :
    ME X Wx (.Compare a [op] [b] pos) (eOp g fa fb) := by
  obtain ⟨ta, pa, qa⟩ := ha
  obtain ⟨tb, pb, qb⟩ := hb
  exact ⟨_, pe_cmpR ho pa pb hm, fun env m σ G Q S R h => two (a := a) (b := b) hg qa qb env m σ G Q S R h⟩
/-- a value as a bool -/
def tBool (f : EF) (env : Env) (m : Mem) : Res Bool := (f env m).bind fun w m1 => match w with
  | .d (.bool b) => .ok b m1
  | _ => .bad
theorem boolQ {σ : St} {G : Wd} {r : Res W} {Q : Bool → Hp → Prop} (h : GPost X Wx σ G relEq (r.bind fun w m1 => match w with | .d (.bool b) => .ok b m1 | _ => .bad) Q) : GPost X Wx σ G (RepR X.K) r (fun x H' => ∃ k, x = .bl k ∧ Q k H') := by
  refine GPost.bind weakEq h fun w m1 v G1 le1 R1 q1 h1 => ?_
  cases w with
  | d x =>
    cases x with
    | bool b => cases q1; exact ⟨b, rfl, h1 b G1 (Le.refl R1) R1 rfl⟩
    | _ => exact False.elim h1
  | _ => exact False.elim h1
theorem mt_cmp {op : CmpOp} {r : R2} {g : W → W → Mem → Res W} {a b : Expr} {fa fb : EF} {pos : Pos} (ho : OpR X (compareOp op) r) (hg : OpOk X Wx r g) (ha : ME X Wx a fa) (hb : ME X Wx b fb) (hm : behindInMarks op b = false := by first | exact nomark _ | with_unfolding_all rfl) :
    MT X Wx (.Compare a [op] [b] pos) (tBool (eOp g fa fb)) := by
  obtain ⟨ta, pa, qa⟩ := ha
  obtain ⟨tb, pb, qb⟩ := hb
  exact ⟨_, pt_cmpR ho pa pb hm, fun env m σ G Q S R h => two (a := a) (b := b) hg qa qb env m σ G _ S R (boolQ h)⟩
/-- a < b < c -/
def eChain (g g' : W → W → Mem → Res W) (a b c : EF) (env : Env) (m : Mem) : Res W := (a env m).bind fun x m1 => (b env m1).bind fun y m2 => (g x y m2).bind fun z m3 => match z with
  | .d (.bool true) => (c env m3).bind fun u m4 => g' y u m4
  | .d (.bool false) => .ok (.d (.bool false)) m3
  | _ => .bad
theorem chainQ {a b c : Expr} {ta tb tc : TE} {fa fb fc : EF} {g g' : W → W → Mem → Res W} {r r' : R2} (hg : OpOk X Wx r g) (hg' : OpOk X Wx r' g') (qa : ∀ env m σ G Q, RelS X.K G σ env → RelM X.K G m → GPost X Wx σ G (RepR X.K) (fa env m) Q → ta σ G.H Q)
    (qb : ∀ env m σ G Q, RelS X.K G σ env → RelM X.K G m → GPost X Wx σ G (RepR X.K) (fb env m) Q → tb σ G.H Q) (qc : ∀ env m σ G Q, RelS X.K G σ env → RelM X.K G m → GPost X Wx σ G (RepR X.K) (fc env m) Q → tc σ G.H Q)
    (env : Env) (m : Mem) (σ : St) (G : Wd) (Q : VK) (S : RelS X.K G σ env) (R : RelM X.K G m)
    (h : GPost X Wx σ G (RepR X.K) (eChain g g' fa fb fc env m) Q) : tChain r r' ta tb tc σ G.H Q := by
  refine qa env m σ G _ S R (GPost.bind weakR h fun x m1 v G1 le1 R1 q1 h1 => ?_)
  refine qb env m1 σ G1 _ (S.mono le1) R1 (GPost.bind weakR h1 fun y m2 u G2 le2 R2 q2 h2 => ?_)
  refine hg σ G2 m2 v u x y _ _ _ R2 (q1.mono le2) q2 (GPost.bind weakR h2 fun z m3 k G3 le3 R3 q3 h3 => ?_)
  cases z with
  | d x =>
    cases x with
    | bool b =>
      cases q3
      refine ⟨b, rfl, ?_⟩
      cases b with
      | false => exact iteF (finD R3 h3 (.bl false))
      | true =>
        refine iteT (qc env m3 σ G3 _ ((S.mono le1).mono (le2.trans le3)) R3 (GPost.bind weakR h3 fun t m4 k' G4 le4 R4 q4 h4 => ?_))
        exact hg' σ G4 m4 u k' y t _ _ Q R4 (q2.mono (le3.trans le4)) q4 h4
    | _ => exact False.elim h3
  | _ => exact False.elim h3
theorem me_chain {op op' : CmpOp} {r r' : R2} {g g' : W → W → Mem → Res W} {a b c : Expr} {fa fb fc : EF} {pos : Pos} (ho : OpR X (compareOp op) r) (ho' : OpR X (compareOp op') r') (hg : OpOk X Wx r g) (hg' : OpOk X Wx r' g')
    (ha : ME X Wx a fa) (hb : ME X Wx b fb) (hc : ME X Wx c fc) (hm : lastMarks [op, op'] [b, c] = false := by with_unfolding_all rfl) : ME X Wx (.Compare a [op, op'] [b, c] pos) (eChain g g' fa fb fc) := by
  obtain ⟨ta, pa, qa⟩ := ha
  obtain ⟨tb, pb, qb⟩ := hb
  obtain ⟨tc, pc, qc⟩ := hc
  exact ⟨_, pe_chain ho ho' pa pb pc hm, fun env m σ G Q S R h => chainQ (a := a) (b := b) (c := c) hg hg' qa qb qc env m σ G Q S R h⟩
theorem mt_chain {op op' : CmpOp} {r r' : R2} {g g' : W → W → Mem → Res W} {a b c : Expr} {fa fb fc : EF} {pos : Pos} (ho : OpR X (compareOp op) r) (ho' : OpR X (compareOp op') r') (hg : OpOk X Wx r g) (hg' : OpOk X Wx r' g')
    (ha : ME X Wx a fa) (hb : ME X Wx b fb) (hc : ME X Wx c fc) (hm : lastMarks [op, op'] [b, c] = false := by with_unfolding_all rfl) : MT X Wx (.Compare a [op, op'] [b, c] pos) (tBool (eChain g g' fa fb fc)) := by
  obtain ⟨ta, pa, qa⟩ := ha
  obtain ⟨tb, pb, qb⟩ := hb
  obtain ⟨tc, pc, qc⟩ := hc
  exact ⟨_, pt_chain ho ho' pa pb pc hm, fun env m σ G Q S R h => chainQ (a := a) (b := b) (c := c) hg hg' qa qb qc env m σ G _ S R (boolQ h)⟩

/-! ### tests -/
def truW (w : W) (m : Mem) : Option Bool :=
  match w with
  | .d .none => some false
  | .d (.bool b) => some b
  | .d (.int i) => some (i != 0)
  | .d (.str x) => if x.length ≤ sizeLine then some ((x.length : Int) != 0) else none
  | .d (.tuple ds) => some (!ds.isEmpty)
  | w => (asL w m).map fun ds => !ds.isEmpty
def tTru (f : EF) (env : Env) (m : Mem) : Res Bool := (f env m).bind fun w m1 => match truW w m1 with
  | some b => .ok b m1
  | none => .bad
theorem Reps.isEmpty {K : PySem.W.Frag} {lv : List Addr} {H : Hp} {vs : List V} {ds : List D} (r : Reps K lv H vs ds) : vs.isEmpty = ds.isEmpty := by cases r <;> rfl
theorem truW_ok {G : Wd} {m : Mem} {H0 : Hp} {v : V} {w : W} {b : Bool} (R : RelM X.K G m) (h : RepR X.K H0 G v w) (e : truW w m = some b) : TruV X.K v G.H b := by
  have lst : (asL w m).map (fun ds => !ds.isEmpty) = some b → TruV X.K v G.H b := fun e => by
    cases q : asL w m with
    | none => rw [q] at e; cases e
    | some ds =>
      rw [q] at e
      cases e
      obtain ⟨a, vs, rfl, h2, h3⟩ := asL_sq R h q
      exact .inl ⟨vs, h2, by rw [h3.isEmpty]⟩
  cases w with
  | d x =>
    cases x with
    | none => cases e; cases h; exact rfl
    | bool c => cases e; cases h; exact rfl
    | int i => cases e; cases h; exact rfl
    | str z =>
      cases h
      simp only [truW] at e
      split at e
      · rename_i hz
        cases e
        exact ⟨hz, rfl⟩
      · cases e
    | tuple ds =>
      cases e
      cases h with
      | tup h r => exact .inr (.inl ⟨_, h.sq, by rw [r.isEmpty]⟩)
    | list ds => exact lst e
    | dict kvs => exact lst e
  | obj i => exact lst e
  | fl i => exact lst e
  | ro i => exact lst e
theorem mt_tru {a : Expr} {f : EF} (ha : ME X Wx a f) (he : ∀ whole, isTrue a X.env whole = (do let v ← whole; standAt a.pos; holding [v] (truthy v)) := by intro _; rfl) : MT X Wx a (tTru f) := by
  obtain ⟨ta, pa, qa⟩ := ha
  refine ⟨_, pt_truth pa he, fun env m σ G Q S R h => qa env m σ G _ S R (GPost.bind weakEq h fun w m1 v G1 le1 R1 q1 h1 => ?_)⟩
  cases e : truW w m1 with
  | none => rw [e] at h1; exact False.elim h1
  | some b => rw [e] at h1; exact ⟨b, truW_ok R1 q1 e, h1 b G1 (Le.refl R1) R1 rfl⟩
def tAndF (a b : TF) (env : Env) (m : Mem) : Res Bool := (a env m).bind fun x m1 => if x = true then b env m1 else .ok false m1
def tOrF (a b : TF) (env : Env) (m : Mem) : Res Bool := (a env m).bind fun x m1 => if x = true then .ok true m1 else b env m1
def tNotF (a : TF) (env : Env) (m : Mem) : Res Bool := (a env m).bind fun x m1 => .ok (!x) m1
theorem MP.mt {e : Expr} {f : TF} (h : MP X Wx e f) : MT X Wx e f := let ⟨t, p, q⟩ := h; ⟨t, p.pt, q⟩
theorem mp_and1 {a : Expr} {f : TF} {pos : Pos} (h : MT X Wx a f) : MP X Wx (.BoolOp .And [a] pos) f := let ⟨t, p, q⟩ := h; ⟨t, pw_and1 p, q⟩
theorem mp_or1 {a : Expr} {f : TF} {pos : Pos} (h : MT X Wx a f) : MP X Wx (.BoolOp .Or [a] pos) f := let ⟨t, p, q⟩ := h; ⟨t, pw_or1 p, q⟩
theorem mp_and {a b : Expr} {rest : List Expr} {f g : TF} {pos : Pos} (h : MT X Wx a f) (h' : MP X Wx (.BoolOp .And (b :: rest) pos) g) : MP X Wx (.BoolOp .And (a :: b :: rest) pos) (tAndF f g) := by
  obtain ⟨ta, pa, qa⟩ := h
  obtain ⟨tb, pb, qb⟩ := h'
  refine ⟨_, pw_and pa pb, fun env m σ G Q S R h => qa env m σ G _ S R (GPost.bind weakEq h fun b m1 v G1 le1 R1 q1 h1 => ?_)⟩
  rw [show v = b from q1]
  cases b with
  | true => exact iteT (qb env m1 σ G1 Q (S.mono le1) R1 h1)
  | false => exact iteF (h1 false G1 (Le.refl R1) R1 rfl)
theorem mp_or {a b : Expr} {rest : List Expr} {f g : TF} {pos : Pos} (h : MT X Wx a f) (h' : MP X Wx (.BoolOp .Or (b :: rest) pos) g) : MP X Wx (.BoolOp .Or (a :: b :: rest) pos) (tOrF f g) := by
  obtain ⟨ta, pa, qa⟩ := h
  obtain ⟨tb, pb, qb⟩ := h'
  refine ⟨_, pw_or pa pb, fun env m σ G Q S R h => qa env m σ G _ S R (GPost.bind weakEq h fun b m1 v G1 le1 R1 q1 h1 => ?_)⟩
  rw [show v = b from q1]
  cases b with
  | true => exact iteT (h1 true G1 (Le.refl R1) R1 rfl)
  | false => exact iteF (qb env m1 σ G1 Q (S.mono le1) R1 h1)
theorem mt_not {a : Expr} {f : TF} {pos : Pos} (h : MT X Wx a f) : MT X Wx (.UnaryOp .Not a pos) (tNotF f) := by
  obtain ⟨ta, pa, qa⟩ := h
  refine ⟨_, pt_not pa, fun env m σ G Q S R h => qa env m σ G _ S R (GPost.bind weakEq h fun b m1 v G1 le1 R1 q1 h1 => ?_)⟩
  rw [show v = b from q1]
  exact h1 (!b) G1 (Le.refl R1) R1 rfl
/-! .. as values -/
def eAnd (a b : EF) (env : Env) (m : Mem) : Res W := (tBool a env m).bind fun x m1 => if x = true then b env m1 else .ok (.d (.bool false)) m1
def eOr (a b : EF) (env : Env) (m : Mem) : Res W := (tBool a env m).bind fun x m1 => if x = true then .ok (.d (.bool true)) m1 else b env m1
def eNot (a : EF) (env : Env) (m : Mem) : Res W := (tBool a env m).bind fun x m1 => .ok (.d (.bool (!x))) m1
def eIf (c : TF) (a b : EF) (env : Env) (m : Mem) : Res W := (c env m).bind fun x m1 => if x = true then a env m1 else b env m1
theorem me_one {op} {a : Expr} {f : EF} {pos : Pos} (h : ME X Wx a f) : ME X Wx (.BoolOp op [a] pos) f := let ⟨t, p, q⟩ := h; ⟨t, pe_one p, q⟩
theorem bind_bind {α β γ : Type} (r : Res α) (k : α → Mem → Res β) (k' : β → Mem → Res γ) : (r.bind k).bind k' = r.bind fun a m => (k a m).bind k' := by cases r <;> rfl
theorem me_and {a b : Expr} {rest : List Expr} {f g : EF} {pos : Pos} (h : ME X Wx a f) (h' : ME X Wx (.BoolOp .And (b :: rest) pos) g) : ME X Wx (.BoolOp .And (a :: b :: rest) pos) (eAnd f g) := by
  obtain ⟨ta, pa, qa⟩ := h
  obtain ⟨tb, pb, qb⟩ := h'
  refine ⟨_, pe_and pa pb, fun env m σ G Q S R h => ?_⟩
  unfold eAnd tBool at h
  rw [bind_bind] at h
  refine qa env m σ G _ S R (GPost.bind weakR h fun w m1 v G1 le1 R1 q1 h1 => ?_)
  cases w with
  | d x =>
    cases x with
    | bool c =>
      cases q1
      refine ⟨c, rfl, ?_⟩
      cases c with
      | true => exact iteT (qb env m1 σ G1 Q (S.mono le1) R1 h1)
      | false => exact iteF (finD R1 h1 (.bl false))
    | _ => exact False.elim h1
  | _ => exact False.elim h1
theorem me_or {a b : Expr} {rest : List Expr} {f g : EF} {pos : Pos} (h : ME X Wx a f) (h' : ME X Wx (.BoolOp .Or (b :: rest) pos) g) : ME X Wx (.BoolOp .Or (a :: b :: rest) pos) (eOr f g) := by
  obtain ⟨ta, pa, qa⟩ := h
  obtain ⟨tb, pb, qb⟩ := h'
  refine ⟨_, pe_or pa pb, fun env m σ G Q S R h => ?_⟩
  unfold eOr tBool at h
  rw [bind_bind] at h
  refine qa env m σ G _ S R (GPost.bind weakR h fun w m1 v G1 le1 R1 q1 h1 => ?_)
  cases w with
  | d x =>
    cases x with
    | bool c =>
      cases q1
      refine ⟨c, rfl, ?_⟩
      cases c with
      | true => exact iteT (finD R1 h1 (.bl true))
      | false => exact iteF (qb env m1 σ G1 Q (S.mono le1) R1 h1)
    | _ => exact False.elim h1
  | _ => exact False.elim h1
theorem me_not {a : Expr} {f : EF} {pos : Pos} (h : ME X Wx a f) : ME X Wx (.UnaryOp .Not a pos) (eNot f) := by
  obtain ⟨ta, pa, qa⟩ := h
  refine ⟨_, pe_not pa, fun env m σ G Q S R h => ?_⟩
  unfold eNot tBool at h
  rw [bind_bind] at h
  refine qa env m σ G _ S R (GPost.bind weakR h fun w m1 v G1 le1 R1 q1 h1 => ?_)
  cases w with
  | d x =>
    cases x with
    | bool c => cases q1; exact ⟨c, rfl, finD R1 h1 (.bl (!c))⟩
    | _ => exact False.elim h1
  | _ => exact False.elim h1
theorem me_if {c a b : Expr} {fc : TF} {f g : EF} {pos : Pos} (hc : MT X Wx c fc) (h : ME X Wx a f) (h' : ME X Wx b g) : ME X Wx (.IfExp c a b pos) (eIf fc f g) := by
  obtain ⟨tc, pc, qc⟩ := hc
  obtain ⟨ta, pa, qa⟩ := h
  obtain ⟨tb, pb, qb⟩ := h'
  refine ⟨_, pe_ifExp pc pa pb, fun env m σ G Q S R h => qc env m σ G _ S R (GPost.bind weakR h fun k m1 v G1 le1 R1 q1 h1 => ?_)⟩
  rw [show v = k from q1]
  cases k with
  | true => exact iteT (qa env m1 σ G1 Q (S.mono le1) R1 h1)
  | false => exact iteF (qb env m1 σ G1 Q (S.mono le1) R1 h1)

/-! ### fresh lists: as data, as objects -/
def eFrz (f : EF) (env : Env) (m : Mem) : Res W := (f env m).bind fun w m1 => match w with
  | .fl ds => .ok (.d (.list ds)) m1
  | w => .ok w m1
def eObj (f : EF) (env : Env) (m : Mem) : Res W := (f env m).bind fun w m1 => match w with
  | .fl ds => .ok (.obj m1.length) (m1 ++ [.lst ds])
  | w => .ok w m1
theorem GPost.bind0 {σ : St} {G : Wd} {α β α' β' : Type} {rel : Hp → Wd → β → α → Prop} {rel' : Hp → Wd → β' → α' → Prop} {r : Res α} {k : α → Mem → Res α'} {Q : β → Hp → Prop} {Q' : β' → Hp → Prop}
    (h : GPost X Wx σ G rel' (r.bind k) Q')
    (hk : ∀ a m v G1, Le G G1 → RelM X.K G1 m → rel G.H G1 v a → GPost X Wx σ G rel' (k a m) Q' → Q v G1.H) : GPost X Wx σ G rel r Q := by
  cases r with
  | ok a m => exact fun v G1 le R q => hk a m v G1 le R q h
  | err e m => exact h
  | bad => exact h
theorem GPost.bind1 {σ : St} {G G1 : Wd} {α β α' β' : Type} {rel : Hp → Wd → β → α → Prop} {rel' : Hp → Wd → β' → α' → Prop} {r : Res α} {k : α → Mem → Res α'} {Q : β → Hp → Prop} {Q' : β' → Hp → Prop}
    (h : GPost X Wx σ G rel' (r.bind k) Q') (le : Le G G1)
    (hk : ∀ a m v G2, Le G1 G2 → RelM X.K G2 m → rel G1.H G2 v a → GPost X Wx σ G rel' (k a m) Q' → Q v G2.H) : GPost X Wx σ G1 rel r Q := by
  cases r with
  | ok a m => exact fun v G2 l R q => hk a m v G2 l R q h
  | err e m => exact fun c d G' l R q => h c d G' (le.trans l) R q
  | bad => exact h
theorem frzQ {σ : St} {G : Wd} {Q : VK} {r : Res W} (h : GPost X Wx σ G (RepR X.K) (r.bind fun w m1 => match w with | .fl ds => .ok (.d (.list ds)) m1 | w => .ok w m1) Q) : GPost X Wx σ G (RepR X.K) r Q := by
  refine GPost.bind0 h fun w m1 v G1 le1 R1 q1 h1 => ?_
  cases w with
  | fl ds =>
    obtain ⟨p', vs, rfl, h0, n1, l1, e1, r1⟩ := q1
    exact h1 (.ref p') (G1.drop p') (le1.drop h0) (R1.drop n1) (RepR.drop (v := .ref p') (H0 := G.H) e1 r1)
  | d x => exact h1 v G1 le1 R1 q1
  | obj x => exact h1 v G1 le1 R1 q1
  | ro x => exact h1 v G1 le1 R1 q1
theorem objQ {σ : St} {G : Wd} {Q : VK} {r : Res W} (h : GPost X Wx σ G (RepR X.K) (r.bind fun w m1 => match w with | .fl ds => .ok (.obj m1.length) (m1 ++ [.lst ds]) | w => .ok w m1) Q) : GPost X Wx σ G (RepR X.K) r Q := by
  refine GPost.bind0 h fun w m1 v G1 le1 R1 q1 h1 => ?_
  cases w with
  | fl ds =>
    obtain ⟨p', vs, rfl, h0, n1, l1, e1, r1⟩ := q1
    refine h1 (.ref p') (G1.own p') (le1.own h0) (R1.own n1 (by rw [e1]; simp) ⟨l1, vs, e1, r1⟩ rfl) ⟨p', ?_, rfl⟩
    show (G1.io ++ [p'])[m1.length]? = some p'
    rw [← R1.len]; simp
  | d x => exact h1 v G1 le1 R1 q1
  | obj x => exact h1 v G1 le1 R1 q1
  | ro x => exact h1 v G1 le1 R1 q1
theorem me_frz {e : Expr} {f : EF} (h : ME X Wx e f) : ME X Wx e (eFrz f) := by
  obtain ⟨t, p, q⟩ := h
  exact ⟨t, p, fun env m σ G Q S R h => q env m σ G Q S R (frzQ h)⟩
theorem me_obj {e : Expr} {f : EF} (h : ME X Wx e f) : ME X Wx e (eObj f) := by
  obtain ⟨t, p, q⟩ := h
  exact ⟨t, p, fun env m σ G Q S R h => q env m σ G Q S R (objQ h)⟩

/-! ### argument lists, tuples, lists -/
def aNil (_ : Env) (m : Mem) : Res (List W) := .ok [] m
def aCons (a : EF) (r : AF) (env : Env) (m : Mem) : Res (List W) := (a env m).bind fun x m1 => (r env m1).bind fun xs m2 => .ok (x :: xs) m2
theorem ma_nil : MA X Wx [] aNil := ⟨_, pa_nil, fun env m σ G Q S R h => h [] G (Le.refl R) R .nil⟩
theorem ma_cons {e : Expr} {es : List Expr} {f : EF} {g : AF} (ha : ME X Wx e f) (hr : MA X Wx es g) (hs : starEach (e :: es) X.env = (false, eval e X.env) :: starEach es X.env := by rfl) : MA X Wx (e :: es) (aCons f g) := by
  obtain ⟨ta, pa, qa⟩ := ha
  obtain ⟨tr, pr, qr⟩ := hr
  refine ⟨_, pa_cons pa pr hs, fun env m σ G Q S R h => qa env m σ G _ S R (GPost.bind0 h fun x m1 v G1 le1 R1 q1 h1 => ?_)⟩
  refine qr env m1 σ G1 _ (S.mono le1) R1 (GPost.bind1 h1 le1 fun xs m2 vs G2 le2 R2 q2 h2 => ?_)
  exact h2 (v :: vs) G2 (le1.trans le2) R2 (.cons (q1.mono le2) (Paired.mono (fun _ _ z => z.weak le1.tr) q2))
/-- the data of a list of values -/
def asDs : List W → Option (List D)
  | [] => some []
  | .d x :: r => (asDs r).map (x :: ·)
  | _ :: _ => none
theorem asDs_reps {K : PySem.W.Frag} {H0 : Hp} {G : Wd} : ∀ {vs : List V} {ws : List W} {ds : List D}, RepRs K H0 G vs ws → asDs ws = some ds → Reps K G.lv G.H vs ds
  | _, [], ds, .nil, e => by cases e; exact .nil
  | _, .d x :: r, ds, .cons h t, e => by
    simp only [asDs] at e
    cases q : asDs r with
    | none => rw [q] at e; cases e
    | some es => rw [q] at e; cases e; exact .cons h (asDs_reps t q)
  | _, .obj _ :: _, _, .cons _ _, e => by cases e
  | _, .fl _ :: _, _, .cons _ _, e => by cases e
  | _, .ro _ :: _, _, .cons _ _, e => by cases e
def eTup (a : AF) (env : Env) (m : Mem) : Res W := (a env m).bind fun ws m1 => match asDs ws with
  | some ds => if ds.length ≤ sizeLine then .ok (.d (.tuple ds)) m1 else .bad
  | none => .bad
def eLst (a : AF) (env : Env) (m : Mem) : Res W := (a env m).bind fun ws m1 => match asDs ws with
  | some ds => if ds.length ≤ sizeLine then .ok (.fl ds) m1 else .bad
  | none => .bad
theorem me_tup {es : List Expr} {f : AF} {x1} {pos : Pos} (h : MA X Wx es f) : ME X Wx (.Tuple es x1 pos) (eTup f) := by
  obtain ⟨t, p, q⟩ := h
  refine ⟨_, pe_tup p, fun env m σ G Q S R h => q env m σ G _ S R (GPost.bind weakR h fun ws m1 vs G1 le1 R1 q1 h1 => ?_)⟩
  cases e : asDs ws with
  | none => rw [e] at h1; exact False.elim h1
  | some ds =>
    rw [e] at h1
    have r := asDs_reps q1 e
    by_cases hz : ds.length ≤ sizeLine
    · simp only [hz, if_true] at h1
      exact ⟨by rw [r.length]; exact hz, fun p hp => finT R1 h1 r hp⟩
    · simp only [hz, if_false] at h1
      exact False.elim h1
theorem me_lst {es : List Expr} {f : AF} {pos : Pos} (h : MA X Wx es f) : ME X Wx (.List es pos) (eLst f) := by
  obtain ⟨t, p, q⟩ := h
  refine ⟨_, pe_lst p, fun env m σ G Q S R h => q env m σ G _ S R (GPost.bind weakR h fun ws m1 vs G1 le1 R1 q1 h1 => ?_)⟩
  cases e : asDs ws with
  | none => rw [e] at h1; exact False.elim h1
  | some ds =>
    rw [e] at h1
    have r := asDs_reps q1 e
    by_cases hz : ds.length ≤ sizeLine
    · simp only [hz, if_true] at h1
      exact ⟨by rw [r.length]; exact hz, fun p hp => finL R1 h1 r hp⟩
    · simp only [hz, if_false] at h1
      exact False.elim h1

/-! ### calls of built-ins -/
def CallOk (X : Cx) (Wx : WX) (r : List V → Hp → VK → Prop) (g : List W → Mem → Res W) : Prop :=
  ∀ (σ : St) (G : Wd) (m : Mem) (vs : List V) (ws : List W) (H0 : Hp) (Q : VK), RelM X.K G m → RepRs X.K H0 G vs ws → GPost X Wx σ G (RepR X.K) (g ws m) Q → r vs G.H Q
def eCall (g : List W → Mem → Res W) (a : AF) (env : Env) (m : Mem) : Res W := (a env m).bind g
theorem me_callB {id : String} {x : Str} {p pos : Pos} {e : Expr} {es : List Expr} {r : List V → Hp → VK → Prop} {g : List W → Mem → Res W} {f : AF} (hc : CallR X (.builtin id) r) (hk : CallOk X Wx r g) (hg : Gl X x) (hm : X.mg x = none) (ha : MA X Wx (e :: es) f)
    (hv : bootBuiltins x = some (.builtin id) := by decide +kernel) (hn : x ≠ "__name__" := by decide) (hdb : (x == ("__debug__" : Str)) = false := by decide)
    (he : starEach (e :: es) X.env = (false, eval e X.env) :: starEach es X.env := by rfl) (hpl : (backTo pos (starEach es X.env)).any (·.1) = false := by rfl) : ME X Wx (.Call (.Name x p) (e :: es) [] pos) (eCall g f) := by
  obtain ⟨t, pa, qa⟩ := ha
  refine ⟨_, pe_callB hc hg hm hv pa hn hdb he hpl, fun env m σ G Q S R h => qa env m σ G _ S R (GPost.bind weakR h fun ws m1 vs G1 le1 R1 q1 h1 => ?_)⟩
  exact hk σ G1 m1 vs ws _ Q R1 q1 h1
theorem me_callTy {T : String} {x : Str} {p pos : Pos} {e : Expr} {es : List Expr} {r : List V → Hp → VK → Prop} {g : List W → Mem → Res W} {f : AF} (hc : CallR X (.type T) r) (hk : CallOk X Wx r g) (hg : Gl X x) (hm : X.mg x = none) (ha : MA X Wx (e :: es) f)
    (hv : bootBuiltins x = some (.type T) := by decide +kernel) (hn : x ≠ "__name__" := by decide) (hdb : (x == ("__debug__" : Str)) = false := by decide)
    (he : starEach (e :: es) X.env = (false, eval e X.env) :: starEach es X.env := by rfl) (hpl : (backTo pos (starEach es X.env)).any (·.1) = false := by rfl) : ME X Wx (.Call (.Name x p) (e :: es) [] pos) (eCall g f) := by
  obtain ⟨t, pa, qa⟩ := ha
  refine ⟨_, pe_callTy hc hg hm hv pa hn hdb he hpl, fun env m σ G Q S R h => qa env m σ G _ S R (GPost.bind weakR h fun ws m1 vs G1 le1 R1 q1 h1 => ?_)⟩
  exact hk σ G1 m1 vs ws _ Q R1 q1 h1
/-! ### subscripts -/
theorem me_ix {r : R2} {g : W → W → Mem → Res W} {a b : Expr} {fa fb : EF} {pos : Pos} (hr : IxR X r) (hg : OpOk X Wx r g) (ha : ME X Wx a fa) (hb : ME X Wx b fb) (hs : PlainIx b := by exact fun _ _ => rfl) : ME X Wx (.Subscript a b pos) (eOp g fa fb) := by
  obtain ⟨ta, pa, qa⟩ := ha
  obtain ⟨tb, pb, qb⟩ := hb
  exact ⟨_, pe_ix hr pa pb hs, fun env m σ G Q S R h => two (a := a) (b := b) hg qa qb env m σ G Q S R h⟩
/-! ### slices -/
abbrev OF := Env → Mem → Res (Option Int)
def MO (X : Cx) (Wx : WX) (e : Option Expr) (f : OF) : Prop :=
  ∃ t, PO X e t ∧ ∀ env m σ G Q, RelS X.K G σ env → RelM X.K G m → GPost X Wx σ G relEq (f env m) Q → t σ G.H Q
def oNone (_ : Env) (m : Mem) : Res (Option Int) := .ok none m
def oSome (f : EF) (env : Env) (m : Mem) : Res (Option Int) := (f env m).bind fun w m1 => match w with
  | .d (.int i) => .ok (some i) m1
  | _ => .bad
theorem mo_none : MO X Wx none oNone := ⟨_, po_none, fun env m σ G Q S R h => h none G (Le.refl R) R rfl⟩
theorem mo_some {e : Expr} {f : EF} (h : ME X Wx e f) : MO X Wx (some e) (oSome f) := by
  obtain ⟨t, p, q⟩ := h
  refine ⟨_, po_some p, fun env m σ G Q S R h => q env m σ G _ S R (GPost.bind weakEq h fun w m1 v G1 le1 R1 q1 h1 => ?_)⟩
  cases w with
  | d x =>
    cases x with
    | int i => cases q1; exact ⟨i, rfl, h1 (some i) G1 (Le.refl R1) R1 rfl⟩
    | _ => exact False.elim h1
  | _ => exact False.elim h1
def SlOk (X : Cx) (Wx : WX) (r : V → Option Int → Option Int → Hp → VK → Prop) (g : W → Option Int → Option Int → Mem → Res W) : Prop :=
  ∀ (σ : St) (G : Wd) (m : Mem) (v : V) (x : W) (lo hi : Option Int) (H0 : Hp) (Q : VK), RelM X.K G m → RepR X.K H0 G v x → GPost X Wx σ G (RepR X.K) (g x lo hi m) Q → r v lo hi G.H Q
def eSl (g : W → Option Int → Option Int → Mem → Res W) (a : EF) (lo hi : OF) (env : Env) (m : Mem) : Res W := (a env m).bind fun x m1 => (lo env m1).bind fun l m2 => (hi env m2).bind fun h m3 => g x l h m3
theorem me_slice {r : V → Option Int → Option Int → Hp → VK → Prop} {g : W → Option Int → Option Int → Mem → Res W} {e : Expr} {lo hi : Option Expr} {f : EF} {fl fh : OF} {p2 pos : Pos} (hr : SlR X r) (hg : SlOk X Wx r g) (he : ME X Wx e f) (hl : MO X Wx lo fl) (hh : MO X Wx hi fh) :
    ME X Wx (.Subscript e (.Slice lo hi none p2) pos) (eSl g f fl fh) := by
  obtain ⟨te, pe, qe⟩ := he
  obtain ⟨tl, pl, ql⟩ := hl
  obtain ⟨th, ph, qh⟩ := hh
  refine ⟨_, pe_slice hr pe pl ph, fun env m σ G Q S R h => qe env m σ G _ S R (GPost.bind weakR h fun x m1 v G1 le1 R1 q1 h1 => ?_)⟩
  refine ql env m1 σ G1 _ (S.mono le1) R1 (GPost.bind weakR h1 fun l m2 l' G2 le2 R2 q2 h2 => ?_)
  refine qh env m2 σ G2 _ ((S.mono le1).mono le2) R2 (GPost.bind weakR h2 fun k m3 k' G3 le3 R3 q3 h3 => ?_)
  have q2 : l' = l := q2
  have q3 : k' = k := q3
  rw [q2, q3]
  exact hg σ G3 m3 v x l k _ Q R3 (q1.mono (le2.trans le3)) h3
/-! ### methods of built-in types -/
def BmOk (X : Cx) (Wx : WX) (T : String) (r : V → List V → Hp → VK → Prop) (g : W → List W → Mem → Res W) : Prop :=
  (∀ (G : Wd) (m : Mem) (v : V) (x : W) (H0 : Hp) (ws : List W) (m' : Mem), RelM X.K G m → RepR X.K H0 G v x → (g x ws m' matches .ok _ _) → tyV X.K T v G.H) ∧
  ∀ (σ : St) (G : Wd) (m : Mem) (v : V) (x : W) (vs : List V) (ws : List W) (H0 H1 : Hp) (Q : VK), RelM X.K G m → RepR X.K H0 G v x → RepRs X.K H1 G vs ws → GPost X Wx σ G (RepR X.K) (g x ws m) Q → r v vs G.H Q
end
end M

set_option Elab.async false
set_option linter.all false
set_option maxRecDepth 100000
namespace M
open PySem L2
section
variable {X : Cx} {Wx : WX}
/-! ### + -/
def addW (x y : W) (m : Mem) : Res W :=
  match x, y with
  | .d (.int i), .d (.int j) => .ok (.d (.int (i + j))) m
  | .d (.str a), .d (.str b) => if a.length + b.length ≤ sizeLine then .ok (.d (.str (a ++ b))) m else .bad
  | .d (.tuple a), .d (.tuple b) => if a.length + b.length ≤ sizeLine then .ok (.d (.tuple (a ++ b))) m else .bad
  | x, y => match asT x m, asT y m with
    | some a, some b => if a.length + b.length ≤ sizeLine then .ok (.fl (a ++ b)) m else .bad
    | _, _ => .bad
def rAddA (K : PySem.W.Frag) : R2 := fun x y H Q => (rI0 (fun i j => .int (i + j)) x y H Q ∨ (∃ i j, x = .str i ∧ y = .str j ∧ i.length + j.length ≤ sizeLine ∧ Q (.str (i ++ j)) H)) ∨ (rCatA K x y H Q ∨ rCat x y H Q)
theorem op_addA : OpR X (binaryOp .Add) (rAddA X.K) := (op_add.or op_add_str).or (op_catA.or op_cat)
theorem Reps.nil_iff {K : PySem.W.Frag} {lv : List Addr} {H : Hp} {vs : List V} {ds : List D} (r : Reps K lv H vs ds) : vs = [] ↔ ds = [] := by
  cases r with
  | nil => simp
  | cons _ _ => simp
theorem addL_ok {σ : St} {G : Wd} {m : Mem} {v u : V} {x y : W} {H0 H1 : Hp} {Q : VK} (R : RelM X.K G m) (rx : RepR X.K H0 G v x) (ry : RepR X.K H1 G u y)
    (h : GPost X Wx σ G (RepR X.K) (match asT x m, asT y m with | some a, some b => if a.length + b.length ≤ sizeLine then .ok (.fl (a ++ b)) m else .bad | _, _ => .bad) Q) : rAddA X.K v u G.H Q := by
  cases ex : asT x m with
  | none => rw [ex] at h; exact False.elim h
  | some a =>
    cases ey : asT y m with
    | none => rw [ex, ey] at h; exact False.elim h
    | some b =>
      rw [ex, ey] at h
      obtain ⟨p, vs, rfl, h1, r1⟩ := asT_sq R rx ex
      obtain ⟨q, us, rfl, h2, r2⟩ := asT_sq R ry ey
      by_cases hz : a.length + b.length ≤ sizeLine
      · simp only [hz, if_true] at h
        exact .inr (.inr ⟨p, q, vs, us, rfl, rfl, h1, h2, by rw [r1.length, r2.length]; exact hz, fun l hl => finL R h (r1.append r2) hl⟩)
      · simp only [hz, if_false] at h
        exact False.elim h
theorem addW_ok : OpOk X Wx (rAddA X.K) addW := by
  intro σ G m v u x y H0 H1 Q R rx ry h
  cases x with
  | d x =>
    cases y with
    | d y =>
      cases x with
      | int i =>
        cases y with
        | int j => cases rx; cases ry; exact .inl (.inl ⟨i, j, rfl, rfl, finD R h (.int _)⟩)
        | _ => exact addL_ok R rx ry h
      | str a =>
        cases y with
        | str b =>
          cases rx; cases ry
          simp only [addW] at h
          by_cases hz : a.length + b.length ≤ sizeLine
          · simp only [hz, if_true] at h
            exact .inl (.inr ⟨a, b, rfl, rfl, hz, finD R h (.str _)⟩)
          · simp only [hz, if_false] at h
            exact False.elim h
        | _ => exact addL_ok R rx ry h
      | tuple a =>
        cases y with
        | tuple b =>
          simp only [addW] at h
          by_cases hz : a.length + b.length ≤ sizeLine
          · simp only [hz, if_true] at h
            cases rx with
            | @tup p vs _ t1 r1 =>
              cases ry with
              | @tup q us _ t2 r2 =>
                refine .inr (.inl ⟨p, q, vs, us, rfl, rfl, t1.sq, t2.sq, by rw [r1.length, r2.length]; exact hz, fun e => ?_, fun e1 e2 => ?_, fun e1 e2 l hl => finT R h (r1.append r2) hl⟩)
                · have ea := r1.nil_iff.mp e
                  subst ea
                  exact finD R h (.tup t2 r2)
                · have eb := r2.nil_iff.mp e2
                  subst eb
                  rw [List.append_nil] at h
                  exact finD R h (.tup t1 r1)
          · simp only [hz, if_false] at h
            exact False.elim h
        | _ => exact addL_ok R rx ry h
      | _ => exact addL_ok R rx ry h
    | obj j => cases x <;> exact addL_ok R rx ry h
    | fl j => cases x <;> exact addL_ok R rx ry h
    | ro j => cases x <;> exact addL_ok R rx ry h
  | obj i => exact addL_ok R rx ry h
  | fl i => exact addL_ok R rx ry h
  | ro i => exact addL_ok R rx ry h
/-! ### ints -/
/-- a condition that no reduction opens -/
noncomputable def grd (p : Prop) : Bool := @decide p (Classical.propDecidable p)
theorem grd_iff {p : Prop} : grd p = true ↔ p := by
  unfold grd
  exact ⟨fun h => @of_decide_eq_true p (Classical.propDecidable p) h, fun h => @decide_eq_true p (Classical.propDecidable p) h⟩
theorem grd_t {p : Prop} (h : p) : grd p = true := grd_iff.mpr h
def intW (C : Int → Int → Bool) (g : Int → Int → D) (x y : W) (m : Mem) : Res W :=
  match x, y with
  | .d (.int i), .d (.int j) => if C i j = true then .ok (.d (g i j)) m else .bad
  | _, _ => .bad
theorem intW_ok {C : Int → Int → Bool} {P : Int → Int → Prop} {g : Int → Int → V} {g' : Int → Int → D} (hC : ∀ i j, C i j = true → P i j) (hg : ∀ i j K lv H, Rep K lv H (g i j) (g' i j)) : OpOk X Wx (rI P g) (intW C g') := by
  intro σ G m v u x y H0 H1 Q R rx ry h
  cases x with
  | d x =>
    cases x with
    | int i =>
      cases y with
      | d y =>
        cases y with
        | int j =>
          cases rx; cases ry
          simp only [intW] at h
          by_cases hz : C i j = true
          · simp only [hz, if_true] at h
            exact ⟨i, j, rfl, rfl, hC i j hz, finD R h (hg i j _ _ _)⟩
          · simp only [hz] at h
            exact False.elim h
        | _ => exact False.elim h
      | _ => exact False.elim h
    | _ => exact False.elim h
  | _ => exact False.elim h
def int0W (g : Int → Int → D) (x y : W) (m : Mem) : Res W :=
  match x, y with
  | .d (.int i), .d (.int j) => .ok (.d (g i j)) m
  | _, _ => .bad
theorem int0W_ok {g : Int → Int → V} {g' : Int → Int → D} (hg : ∀ i j K lv H, Rep K lv H (g i j) (g' i j)) : OpOk X Wx (rI0 g) (int0W g') := by
  intro σ G m v u x y H0 H1 Q R rx ry h
  cases x with
  | d x =>
    cases x with
    | int i =>
      cases y with
      | d y =>
        cases y with
        | int j => cases rx; cases ry; exact ⟨i, j, rfl, rfl, finD R h (hg i j _ _ _)⟩
        | _ => exact False.elim h
      | _ => exact False.elim h
    | _ => exact False.elim h
  | _ => exact False.elim h
def subW := int0W fun i j => .int (i - j)
theorem subW_ok : OpOk X Wx (rI0 fun i j => .int (i - j)) subW := int0W_ok fun _ _ _ _ _ => .int _
noncomputable def mulOk (i j : Int) : Bool := grd (((-(2 ^ 64) < i ∧ i < 2 ^ 64) ∨ (-(2 ^ 64) < j ∧ j < 2 ^ 64)) ∨ i.natAbs.log2 + j.natAbs.log2 < 1000000)
noncomputable def mulW := intW mulOk fun i j => .int (i * j)
theorem op_mulA : OpR X (binaryOp .Mult) (rI (fun i j => CMul i j ∨ CMulW i j) fun i j => .int (i * j)) := by
  intro pins s σ H x y v u Q I rx ry h
  obtain ⟨i, j, e1, e2, hc | hc, q⟩ := h
  · exact op_mul pins s σ H x y v u Q I rx ry ⟨i, j, e1, e2, hc, q⟩
  · exact op_mulW pins s σ H x y v u Q I rx ry ⟨i, j, e1, e2, hc, q⟩
theorem mulW_ok : OpOk X Wx (rI (fun i j => CMul i j ∨ CMulW i j) fun i j => .int (i * j)) mulW := intW_ok (fun i j h => by
  have h := grd_iff.mp h
  rcases h with (h | h) | h
  · exact .inl (.inl h)
  · exact .inl (.inr h)
  · exact .inr h) fun _ _ _ _ _ => .int _
noncomputable def divOk (_ j : Int) : Bool := grd (0 < j ∧ j.natAbs.log2 < 9000)
noncomputable def divW := intW divOk fun i j => .int (i / j)
theorem divW_ok : OpOk X Wx (rI CDivW fun i j => .int (i / j)) divW := intW_ok (fun i j h => by
  have h := grd_iff.mp h
  exact ⟨h.1, h.2⟩) fun _ _ _ _ _ => .int _
noncomputable def modOk (_ j : Int) : Bool := grd (0 < j)
noncomputable def modW := intW modOk fun i j => .int (i % j)
theorem modW_ok : OpOk X Wx (rI (fun _ j => 0 < j) fun i j => .int (i % j)) modW := intW_ok (fun i j h => grd_iff.mp h) fun _ _ _ _ _ => .int _
noncomputable def powOk (i j : Int) : Bool := grd (0 ≤ j ∧ j ≤ 1000000 ∧ i.natAbs < 2 ^ 64)
noncomputable def powW := intW powOk fun i j => .int (i ^ j.toNat)
theorem powW_ok : OpOk X Wx (rI CPow fun i j => .int (i ^ j.toNat)) powW := intW_ok (fun i j h => by
  exact grd_iff.mp h) fun _ _ _ _ _ => .int _
def ltW := int0W fun i j => .bool (decide (i < j))
def leW := int0W fun i j => .bool (decide (i ≤ j))
def gtW := int0W fun i j => .bool (decide (j < i))
def geW := int0W fun i j => .bool (decide (j ≤ i))
theorem ltW_ok : OpOk X Wx (rI0 fun i j => .bl (decide (i < j))) ltW := int0W_ok fun _ _ _ _ _ => .bl _
theorem leW_ok : OpOk X Wx (rI0 fun i j => .bl (decide (i ≤ j))) leW := int0W_ok fun _ _ _ _ _ => .bl _
theorem gtW_ok : OpOk X Wx (rI0 fun i j => .bl (decide (j < i))) gtW := int0W_ok fun _ _ _ _ _ => .bl _
theorem geW_ok : OpOk X Wx (rI0 fun i j => .bl (decide (j ≤ i))) geW := int0W_ok fun _ _ _ _ _ => .bl _
/-! ### ==, !=, in -/
def eqW (neg : Bool) (x y : W) (m : Mem) : Res W :=
  match asD x m, asD y m with
  | some a, some b => if (SeqAt.shaped a && SeqAt.shaped b) = true then .ok (.d (.bool (if neg then !PyData.eqv a b else PyData.eqv a b))) m else .bad
  | _, _ => .bad
theorem eqW_ok : OpOk X Wx (rEqD X.K) (eqW false) := by
  intro σ G m v u x y H0 H1 Q R rx ry h
  unfold eqW at h
  cases ex : asD x m with
  | none => rw [ex] at h; exact False.elim h
  | some a =>
    cases ey : asD y m with
    | none => rw [ex, ey] at h; exact False.elim h
    | some b =>
      rw [ex, ey] at h
      by_cases hz : (SeqAt.shaped a && SeqAt.shaped b) = true
      · simp only [hz, if_true] at h
        have hz' := Bool.and_eq_true_iff.mp hz
        exact ⟨a, b, asD_dp R rx ex, asD_dp R ry ey, hz'.1, hz'.2, finD R h (.bl _)⟩
      · simp only [hz] at h
        exact False.elim h
theorem neW_ok : OpOk X Wx (rNeD X.K) (eqW true) := by
  intro σ G m v u x y H0 H1 Q R rx ry h
  unfold eqW at h
  cases ex : asD x m with
  | none => rw [ex] at h; exact False.elim h
  | some a =>
    cases ey : asD y m with
    | none => rw [ex, ey] at h; exact False.elim h
    | some b =>
      rw [ex, ey] at h
      by_cases hz : (SeqAt.shaped a && SeqAt.shaped b) = true
      · simp only [hz, if_true] at h
        have hz' := Bool.and_eq_true_iff.mp hz
        exact ⟨a, b, asD_dp R rx ex, asD_dp R ry ey, hz'.1, hz'.2, finD R h (.bl _)⟩
      · simp only [hz] at h
        exact False.elim h
/-! ### in -/
def flatD : D → Bool
  | .none => true
  | .bool _ => true
  | .int _ => true
  | .str _ => true
  | _ => false
theorem flat_rep {K : PySem.W.Frag} {lv : List Addr} {H : Hp} {v : V} {x : D} (r : Rep K lv H v x) (f : flatD x = true) : flatV v = true := by
  cases r <;> first | rfl | (exact absurd f (by simp [flatD]))
theorem eqV_eqv {K : PySem.W.Frag} {lv : List Addr} {H : Hp} {v u : V} {x y : D} (r : Rep K lv H v x) (q : Rep K lv H u y) (f : flatD x = true) (g : flatD y = true) : eqV v u = PyData.eqv x y := by
  cases r <;> cases q <;> first | rfl | (exact absurd f (by simp [flatD])) | (exact absurd g (by simp [flatD])) | simp [eqV, PyData.eqv]
theorem flats {K : PySem.W.Frag} {lv : List Addr} {H : Hp} : ∀ {vs : List V} {ds : List D}, Reps K lv H vs ds → ds.all flatD = true → vs.all flatV = true
  | _, _, .nil, _ => rfl
  | _, _, .cons h r, f => by
    rw [List.all_cons, Bool.and_eq_true] at f ⊢
    exact ⟨flat_rep h f.1, flats r f.2⟩
theorem inV_any {K : PySem.W.Frag} {lv : List Addr} {H : Hp} {v : V} {x : D} (q : Rep K lv H v x) (fx : flatD x = true) : ∀ {vs : List V} {ds : List D}, Reps K lv H vs ds → ds.all flatD = true → inV v vs = ds.any fun z => PyData.eqv z x
  | _, _, .nil, _ => rfl
  | _, _, .cons h r, f => by
    rw [List.all_cons, Bool.and_eq_true] at f
    have e1 := eqV_eqv h q f.1 fx
    have e2 := inV_any q fx r f.2
    unfold inV at e2 ⊢
    rw [List.any_cons, List.any_cons, e1, e2]
def inS (a b : Str) : Bool := match a.cps.toList with
  | [c] => decide (c ∈ b.cps.toList)
  | _ => !(Builtin.Str.occurrences b a 0 b.length 1).isEmpty
def ngB (neg b : Bool) : Bool := if neg then !b else b
def inW (neg : Bool) (x y : W) (m : Mem) : Res W :=
  match x, y with
  | .d (.str a), .d (.str b) => .ok (.d (.bool (ngB neg (inS a b)))) m
  | .d x, .d (.tuple ds) => if (flatD x && ds.all flatD) = true then .ok (.d (.bool (ngB neg (ds.any fun z => PyData.eqv z x)))) m else .bad
  | x, y => match asD x m, asL y m with
    | some a, some ds => if (SeqAt.shaped a && SeqAt.shaped (.list ds)) = true then .ok (.d (.bool (ngB neg (ds.any fun z => PyData.eqv z a)))) m else .bad
    | _, _ => .bad
def rInA (K : PySem.W.Frag) (neg : Bool) : R2 := fun x y H Q =>
  (∃ i j, x = .str i ∧ y = .str j ∧ Q (.bl (ngB neg (inS i j))) H) ∨
  (∃ p xs, y = .ref p ∧ SqT K H p xs ∧ flatV x = true ∧ xs.all flatV = true ∧ Q (.bl (ngB neg (inV x xs))) H) ∨
  (∃ d ds, Dp K H x d ∧ Dp K H y (.list ds) ∧ SeqAt.shaped d = true ∧ SeqAt.shaped (.list ds) = true ∧ Q (.bl (ngB neg (ds.any fun z => PyData.eqv z d))) H)
theorem one_sign {a : Str} {c : Nat} (h : a.cps.toList = [c]) : a = ⟨#[c]⟩ := by
  cases a with
  | mk cps =>
    have : cps = #[c] := by
      apply Array.ext'
      simpa using h
    rw [this]
theorem op_inA (hu : X.A.units + 65 < cLine) : OpR X (compareOp .In) (rInA X.K false) := by
  intro pins s σ H x y v u Q I rx ry h
  rcases h with ⟨i, j, e1, e2, q⟩ | ⟨p, xs, e1, h1, h2, h3, q⟩ | ⟨d, ds, h1, h2, h3, h4, q⟩
  · have q : Q (.bl (inS i j)) H := q
    unfold inS at q
    split at q
    · rename_i c hc
      exact op_in_sign pins s σ H x y v u Q I rx ry ⟨c, j, by rw [e1, one_sign hc], e2, q⟩
    · exact op_in_str pins s σ H x y v u Q I rx ry ⟨i, j, e1, e2, q⟩
  · exact op_in_seq pins s σ H x y v u Q I rx ry ⟨p, xs, e1, .inr h1, h2, h3, q⟩
  · exact op_inD hu pins s σ H x y v u Q I rx ry ⟨d, ds, h1, h2, h3, h4, q⟩
theorem op_notInA (hu : X.A.units + 65 < cLine) : OpR X (compareOp .NotIn) (rInA X.K true) := by
  intro pins s σ H x y v u Q I rx ry h
  rcases h with ⟨i, j, e1, e2, q⟩ | ⟨p, xs, e1, h1, h2, h3, q⟩ | ⟨d, ds, h1, h2, h3, h4, q⟩
  · have q : Q (.bl (!inS i j)) H := q
    unfold inS at q
    split at q
    · rename_i c hc
      exact op_notIn_sign pins s σ H x y v u Q I rx ry ⟨c, j, by rw [e1, one_sign hc], e2, q⟩
    · exact op_notin_str pins s σ H x y v u Q I rx ry ⟨i, j, e1, e2, q⟩
  · exact op_notIn_seq pins s σ H x y v u Q I rx ry ⟨p, xs, e1, .inr h1, h2, h3, q⟩
  · exact op_notInD hu pins s σ H x y v u Q I rx ry ⟨d, ds, h1, h2, h3, h4, q⟩
theorem inL_ok {neg : Bool} {σ : St} {G : Wd} {m : Mem} {v u : V} {x y : W} {H0 H1 : Hp} {Q : VK} (R : RelM X.K G m) (rx : RepR X.K H0 G v x) (ry : RepR X.K H1 G u y)
    (h : GPost X Wx σ G (RepR X.K) (match asD x m, asL y m with | some a, some ds => if (SeqAt.shaped a && SeqAt.shaped (.list ds)) = true then .ok (.d (.bool (ngB neg (ds.any fun z => PyData.eqv z a)))) m else .bad | _, _ => .bad) Q) : rInA X.K neg v u G.H Q := by
  cases ex : asD x m with
  | none => rw [ex] at h; exact False.elim h
  | some a =>
    cases ey : asL y m with
    | none => rw [ex, ey] at h; exact False.elim h
    | some ds =>
      rw [ex, ey] at h
      by_cases hz : (SeqAt.shaped a && SeqAt.shaped (.list ds)) = true
      · simp only [hz, if_true] at h
        have hz' := Bool.and_eq_true_iff.mp hz
        obtain ⟨p, vs, rfl, h1, r1⟩ := asL_sq R ry ey
        exact .inr (.inr ⟨a, ds, asD_dp R rx ex, .lst h1 r1.dp, hz'.1, hz'.2, finD R h (.bl _)⟩)
      · simp only [hz] at h
        exact False.elim h
theorem inT_ok {neg : Bool} {σ : St} {G : Wd} {m : Mem} {v u : V} {x : D} {ds : List D} {Q : VK} (R : RelM X.K G m) (rx : Rep X.K G.lv G.H v x) (ry : Rep X.K G.lv G.H u (.tuple ds))
    (h : GPost X Wx σ G (RepR X.K) (if (flatD x && ds.all flatD) = true then .ok (.d (.bool (ngB neg (ds.any fun z => PyData.eqv z x)))) m else .bad) Q) : rInA X.K neg v u G.H Q := by
  by_cases hz : (flatD x && ds.all flatD) = true
  · simp only [hz, if_true] at h
    have hz' := Bool.and_eq_true_iff.mp hz
    cases ry with
    | tup t r => exact .inr (.inl ⟨_, _, rfl, t.sq, flat_rep rx hz'.1, flats r hz'.2, by rw [inV_any rx hz'.1 r hz'.2]; exact finD R h (.bl _)⟩)
  · simp only [hz] at h
    exact False.elim h
theorem inW_ok {neg : Bool} : OpOk X Wx (rInA X.K neg) (inW neg) := by
  intro σ G m v u x y H0 H1 Q R rx ry h
  cases x with
  | d x =>
    cases y with
    | d y =>
      cases y with
      | str b =>
        cases x with
        | str a => cases rx; cases ry; exact .inl ⟨a, b, rfl, rfl, finD R h (.bl _)⟩
        | _ => exact inL_ok R rx ry h
      | tuple b => cases x <;> exact inT_ok R rx ry h
      | _ => cases x <;> exact inL_ok R rx ry h
    | _ => cases x <;> exact inL_ok R rx ry h
  | _ => cases y <;> exact inL_ok R rx ry h
/-! ### is None -/
def isNW (neg : Bool) (x y : W) (m : Mem) : Res W :=
  match y with
  | .d .none => match x with
    | .d .none => .ok (.d (.bool (ngB neg true))) m
    | _ => .ok (.d (.bool (ngB neg false))) m
  | _ => .bad
def rIsN (neg : Bool) : R2 := fun x y H Q => y = .non ∧ Q (.bl (ngB neg (decide (x = .non)))) H
theorem op_isA : OpR X (compareOp .Is) (rIsN false) := op_isN
theorem op_isNotA : OpR X (compareOp .IsNot) (rIsN true) := op_notN
theorem isNW_ok {neg : Bool} : OpOk X Wx (rIsN neg) (isNW neg) := by
  intro σ G m v u x y H0 H1 Q R rx ry h
  cases y with
  | d y =>
    cases y with
    | none =>
      cases ry
      refine ⟨rfl, ?_⟩
      have no : v ≠ .non → GPost X Wx σ G (RepR X.K) (.ok (.d (.bool (ngB neg false))) m) Q → Q (.bl (ngB neg (decide (v = .non)))) G.H := fun hv h => by
        rw [decide_eq_false hv]; exact finD R h (.bl _)
      cases x with
      | d x =>
        cases x with
        | none => cases rx; exact finD R h (.bl _)
        | _ => cases rx <;> exact no (by simp) h
      | obj i => obtain ⟨a, _, rfl⟩ := rx; exact no (by simp) h
      | fl i => obtain ⟨a, _, rfl, _⟩ := rx; exact no (by simp) h
      | ro i => obtain ⟨a, _, rfl, _⟩ := rx; exact no (by simp) h
    | _ => exact False.elim h
  | _ => exact False.elim h
/-! ### items, slices -/
def ixW (x y : W) (m : Mem) : Res W :=
  match x, y with
  | .d (.str z), .d (.int i) => if z.length ≤ sizeLine then (match atI z.cps.toList i with | some c => .ok (.d (.str ⟨#[c]⟩)) m | none => .bad) else .bad
  | .d (.tuple ds), .d (.int i) => (match atI ds i with | some c => .ok (.d c) m | none => .bad)
  | x, .d (.int i) => (match asL x m with | some ds => (match atI ds i with | some c => .ok (.d c) m | none => .bad) | none => .bad)
  | _, _ => .bad
theorem Reps.atI {K : PySem.W.Frag} {lv : List Addr} {H : Hp} {vs : List V} {ds : List D} {i : Int} {c : D} (r : Reps K lv H vs ds) (e : L2.atI ds i = some c) : ∃ v, L2.atI vs i = some v ∧ Rep K lv H v c := by
  unfold L2.atI at e ⊢
  rw [r.length]
  cases q : ixN ds.length i with
  | none => rw [q] at e; cases e
  | some j =>
    rw [q] at e
    exact r.get e
theorem ixL_ok {σ : St} {G : Wd} {m : Mem} {v : V} {x : W} {i : Int} {H0 : Hp} {Q : VK} (R : RelM X.K G m) (rx : RepR X.K H0 G v x)
    (h : GPost X Wx σ G (RepR X.K) (match asL x m with | some ds => (match L2.atI ds i with | some c => .ok (.d c) m | none => .bad) | none => .bad) Q) : rIx X.K v (.int i) G.H Q := by
  cases ex : asL x m with
  | none => rw [ex] at h; exact False.elim h
  | some ds =>
    rw [ex] at h
    obtain ⟨p, vs, rfl, h1, r1⟩ := asL_sq R rx ex
    cases ea : L2.atI ds i with
    | none => simp only [ea] at h; exact False.elim h
    | some c =>
      simp only [ea] at h
      obtain ⟨w, h2, h3⟩ := r1.atI ea
      exact .inl ⟨p, vs, i, w, rfl, rfl, h1, h2, finD R h h3⟩
theorem ixW_ok : OpOk X Wx (rIx X.K) ixW := by
  intro σ G m v u x y H0 H1 Q R rx ry h
  cases y with
  | d y =>
    cases y with
    | int i =>
      cases ry
      cases x with
      | d x =>
        cases x with
        | str z =>
          cases rx
          simp only [ixW] at h
          by_cases hz : z.length ≤ sizeLine
          · simp only [hz, if_true] at h
            cases ea : L2.atI z.cps.toList i with
            | none => simp only [ea] at h; exact False.elim h
            | some c => simp only [ea] at h; exact .inr (.inr ⟨z, i, c, rfl, rfl, hz, ea, finD R h (.str _)⟩)
          · simp only [hz, if_false] at h; exact False.elim h
        | tuple ds =>
          simp only [ixW] at h
          cases rx with
          | @tup p vs _ t r =>
            cases ea : L2.atI ds i with
            | none => simp only [ea] at h; exact False.elim h
            | some c =>
              simp only [ea] at h
              obtain ⟨w, h2, h3⟩ := r.atI ea
              exact .inr (.inl ⟨p, vs, i, w, rfl, rfl, t.sq, h2, finD R h h3⟩)
        | _ => exact ixL_ok R rx h
      | _ => exact ixL_ok R rx h
    | _ => cases x <;> first | exact False.elim h | (rename_i x; cases x <;> exact False.elim h)
  | _ => cases x <;> first | exact False.elim h | (rename_i x; cases x <;> exact False.elim h)
def cutD (xs : List D) (lo hi : Option Int) : List D := (xs.drop (HT.sIx xs.length 0 lo)).take (HT.sIx xs.length xs.length hi - HT.sIx xs.length 0 lo)
theorem Reps.cut {K : PySem.W.Frag} {lv : List Addr} {H : Hp} {vs : List V} {ds : List D} (r : Reps K lv H vs ds) (lo hi : Option Int) : Reps K lv H (cutV vs lo hi) (cutD ds lo hi) := by
  unfold cutV cutD
  rw [r.length]
  exact (r.drop _).take _
def slW (x : W) (lo hi : Option Int) (m : Mem) : Res W :=
  match x with
  | .d (.str z) => if z.length ≤ sizeLine then .ok (.d (.str (cutS z lo hi))) m else .bad
  | .d (.tuple ds) => .ok (.d (.tuple (cutD ds lo hi))) m
  | x => match asL x m with
    | some ds => .ok (.fl (cutD ds lo hi)) m
    | none => .bad
def rSlAll (K : PySem.W.Frag) : V → Option Int → Option Int → Hp → VK → Prop := fun x lo hi H Q => rSlS x lo hi H Q ∨ (rSlA K x lo hi H Q ∨ rSlL K x lo hi H Q)
theorem sl_all : SlR X (rSlAll X.K) := SlR.or sl_str (SlR.or sl_tupA sl_list)
theorem slL_ok {σ : St} {G : Wd} {m : Mem} {v : V} {x : W} {lo hi : Option Int} {H0 : Hp} {Q : VK} (R : RelM X.K G m) (rx : RepR X.K H0 G v x)
    (h : GPost X Wx σ G (RepR X.K) (match asL x m with | some ds => .ok (.fl (cutD ds lo hi)) m | none => .bad) Q) : rSlAll X.K v lo hi G.H Q := by
  cases ex : asL x m with
  | none => rw [ex] at h; exact False.elim h
  | some ds =>
    rw [ex] at h
    obtain ⟨p, vs, rfl, h1, r1⟩ := asL_sq R rx ex
    exact .inr (.inr ⟨p, vs, rfl, h1, fun l hl => finL R h (r1.cut lo hi) hl⟩)
theorem slW_ok : SlOk X Wx (rSlAll X.K) slW := by
  intro σ G m v x lo hi H0 Q R rx h
  cases x with
  | d x =>
    cases x with
    | str z =>
      cases rx
      simp only [slW] at h
      by_cases hz : z.length ≤ sizeLine
      · simp only [hz, if_true] at h
        exact .inl ⟨z, rfl, hz, finD R h (.str _)⟩
      · simp only [hz, if_false] at h; exact False.elim h
    | tuple ds =>
      cases rx with
      | @tup p vs _ t r =>
        refine .inr (.inl ⟨p, vs, rfl, t.sq, fun e => ?_, fun e l hl => finT R h (r.cut lo hi) hl⟩)
        refine finD R h ?_
        have ec : cutD ds lo hi = ds := by
          unfold cutD
          rw [← r.length, e.1, e.2, r.length, Nat.sub_zero, List.drop_zero, List.take_length]
        rw [ec]
        exact .tup t r
    | _ => exact slL_ok R rx h
  | _ => exact slL_ok R rx h
end
end M

set_option Elab.async false
set_option linter.all false
set_option maxRecDepth 100000
namespace M
open PySem L2
section
variable {X : Cx} {Wx : WX}
/-! ### from expressions to statements -/
def eS {α : Type} (r : Res α) (env : Env) (k : α → Mem → SRes) : SRes := match r with
  | .ok a m => k a m
  | .err e m => .err e env m
  | .bad => .bad
@[simp] theorem eS_ok {α : Type} (a : α) (m : Mem) (env : Env) (k : α → Mem → SRes) : eS (.ok a m) env k = k a m := rfl
@[simp] theorem eS_err {α : Type} (e : Exn) (m : Mem) (env : Env) (k : α → Mem → SRes) : eS (.err e m) env k = .err e env m := rfl
@[simp] theorem eS_bad {α : Type} (env : Env) (k : α → Mem → SRes) : eS (.bad : Res α) env k = .bad := rfl
theorem SPost.ofE0 {α β : Type} {rel : Hp → Wd → β → α → Prop} {σ : St} {G : Wd} {env : Env} {r : Res α} {k : α → Mem → SRes} {E : Ends} {Q : β → Hp → Prop} (h : SPost X Wx G (eS r env k) E) (S : RelS X.K G σ env)
    (hk : ∀ a m v G1, Le G G1 → RelM X.K G1 m → rel G.H G1 v a → SPost X Wx G (k a m) E → Q v G1.H) : GPost X Wx σ G rel r Q := by
  cases r with
  | ok a m => exact fun v G1 le R q => hk a m v G1 le R q h
  | err e m => exact fun c d G' le R q => h c d σ G' le R (S.mono le) q
  | bad => exact h
theorem SPost.ofE {α β : Type} {rel : Hp → Wd → β → α → Prop} {σ : St} {G : Wd} {env : Env} {r : Res α} {k : α → Mem → SRes} {E : Ends} {Q : β → Hp → Prop} (h : SPost X Wx G (eS r env k) E) (S : RelS X.K G σ env)
    (hk : ∀ a m v G1, Le G G1 → RelM X.K G1 m → rel G.H G1 v a → SPost X Wx G1 (k a m) E → Q v G1.H) : GPost X Wx σ G rel r Q :=
  SPost.ofE0 h S fun a m v G1 le R q hq => hk a m v G1 le R q (hq.later le)
/-! ### blocks -/
def sNx (env : Env) (m : Mem) : SRes := .nx env m
def sSeq (a b : SF) (env : Env) (m : Mem) : SRes := match a env m with
  | .nx e m1 => b e m1
  | r => r
theorem mb_nil : MB X Wx [] sNx := ⟨_, pss_nil, fun env m σ G E S R h => h σ G (Le.refl R) R S⟩
theorem mb_one {st : Stmt} {f : SF} (h : MS X Wx st f) : MB X Wx [st] f := let ⟨t, p, q⟩ := h; ⟨t, pss_one p, q⟩
theorem mb_cons {st : Stmt} {rest : List Stmt} {f g : SF} (h : MS X Wx st f) (h' : MB X Wx rest g) : MB X Wx (st :: rest) (sSeq f g) := by
  obtain ⟨ta, pa, qa⟩ := h
  obtain ⟨tb, pb, qb⟩ := h'
  refine ⟨_, pss_cons pa pb, fun env m σ G E S R h => qa env m σ G _ S R ?_⟩
  unfold sSeq at h
  cases e : f env m with
  | nx e1 m1 => rw [e] at h; exact fun σ' G' le R' S' => qb e1 m1 σ' G' E S' R' (SPost.later h le)
  | bk e1 m1 => rw [e] at h; exact h
  | ct e1 m1 => rw [e] at h; exact h
  | rt w m1 => rw [e] at h; exact h
  | err x e1 m1 => rw [e] at h; exact h
  | bad => rw [e] at h; exact h
def sBad (_ : Env) (_ : Mem) : SRes := .bad
theorem ms_never {st : Stmt} : MS X Wx st sBad := ⟨_, ps_never, fun env m σ G E S R h => h⟩
theorem mb_never {st : List Stmt} : MB X Wx st sBad := ⟨_, pss_never, fun env m σ G E S R h => h⟩
def sBk (env : Env) (m : Mem) : SRes := .bk env m
def sCt (env : Env) (m : Mem) : SRes := .ct env m
theorem ms_pass {pos : Pos} : MS X Wx (.Pass pos) sNx := ⟨_, ps_pass, fun env m σ G E S R h => h σ G (Le.refl R) R S⟩
theorem ms_break {pos : Pos} : MS X Wx (.Break pos) sBk := ⟨_, ps_break, fun env m σ G E S R h => h σ G (Le.refl R) R S⟩
theorem ms_continue {pos : Pos} : MS X Wx (.Continue pos) sCt := ⟨_, ps_continue, fun env m σ G E S R h => h σ G (Le.refl R) R S⟩
def sDrop (f : EF) (env : Env) (m : Mem) : SRes := eS (f env m) env fun _ m1 => .nx env m1
theorem ms_expr {e : Expr} {f : EF} {pos : Pos} (h : ME X Wx e f) (hs : swapsWith e none pos.line X.env = pure false := by rfl) : MS X Wx (.Expr e pos) (sDrop f) := by
  obtain ⟨t, p, q⟩ := h
  exact ⟨_, ps_expr p hs, fun env m σ G E S R h => q env m σ G _ S R (SPost.ofE h S fun a m v G1 le R1 q1 h1 => h1 σ G1 (Le.refl R1) R1 (S.mono le))⟩
def sRet (f : EF) (env : Env) (m : Mem) : SRes := eS (f env m) env fun w m1 => .rt w m1
theorem ms_ret {e : Expr} {f : EF} {pos : Pos} (h : ME X Wx e f) : MS X Wx (.Return (some e) pos) (sRet f) := by
  obtain ⟨t, p, q⟩ := h
  exact ⟨_, ps_ret p, fun env m σ G E S R h => q env m σ G _ S R (SPost.ofE0 h S fun a m v G1 le R1 q1 h1 => h1 v G1 le R1 q1)⟩
def sIf (c : TF) (a b : SF) (env : Env) (m : Mem) : SRes := eS (c env m) env fun t m1 => if t = true then a env m1 else b env m1
theorem ms_if {c : Expr} {a b : List Stmt} {fc : TF} {fa fb : SF} {pos : Pos} (hc : MT X Wx c fc) (ha : MB X Wx a fa) (hb : MB X Wx b fb) : MS X Wx (.If c a b pos) (sIf fc fa fb) := by
  obtain ⟨tc, pc, qc⟩ := hc
  obtain ⟨ta, pa, qa⟩ := ha
  obtain ⟨tb, pb, qb⟩ := hb
  refine ⟨_, ps_if pc pa pb, fun env m σ G E S R h => qc env m σ G _ S R (SPost.ofE h S fun k m1 v G1 le R1 q1 h1 => ?_)⟩
  rw [show v = k from q1]
  cases k with
  | true => exact iteT (qa env m1 σ G1 E (S.mono le) R1 h1)
  | false => exact iteF (qb env m1 σ G1 E (S.mono le) R1 h1)
/-! ### targets -/
abbrev GF := W → Env → Option Env
/-- but for the slots is, the slots stay -/
structure Off (is : List Nat) (σ σ' : St) : Prop where
  len : σ'.length = σ.length
  get : ∀ j, j ∉ is → σ'[j]? = σ[j]?
theorem Off.refl (is : List Nat) (σ : St) : Off is σ σ := ⟨rfl, fun _ _ => rfl⟩
theorem Off.trans {is js : List Nat} {σ σ1 σ2 : St} (a : Off is σ σ1) (b : Off js σ1 σ2) : Off (is ++ js) σ σ2 :=
  ⟨b.len.trans a.len, fun j h => (b.get j fun z => h (List.mem_append_right _ z)).trans (a.get j fun z => h (List.mem_append_left _ z))⟩
def MG (X : Cx) (tg : Expr) (g : GF) (is : List Nat) : Prop :=
  ∃ t, PG X tg t ∧ ∀ w env env' σ (G : Wd) v (Q : St → Hp → Prop), RelS X.K G σ env → RepW X.K G v w → g w env = some env' → (∀ σ', Off is σ σ' → RelS X.K G σ' env' → Q σ' G.H) → t v σ G.H Q
def gSet (i : Nat) (w : W) (env : Env) : Option Env := some (env.set i (some w))
theorem Off.set {σ : St} {v : V} (i : Nat) : Off [i] σ (σ.set i (some v)) := ⟨List.length_set, fun j h => List.getElem?_set_ne fun z => h (by rw [z]; exact List.mem_singleton.mpr rfl)⟩
theorem mg_name (i : Nat) {x : Str} {pos : Pos} (hN : X.N.Nodup) (hi : X.N[i]? = some x := by rfl) (hx : Loc X.env.scope x := by first | exact .inl rfl | exact .inr rfl) (hf : X.fn x = true ∨ X.env.scope.names.lookup x = some .local := by first | exact .inl rfl | exact .inr rfl) : MG X (.Name x pos) (gSet i) [i] :=
  ⟨_, pg_name hN hi hx hf, fun w env env' σ G v Q S r e h => by cases e; exact h _ (Off.set i) (S.set r)⟩
abbrev GsF := List D → Env → Option Env
def MGs (X : Cx) (tg : List Expr) (g : GsF) (is : List Nat) : Prop :=
  ∃ t, PGs X tg t ∧ ∀ ds env env' σ (G : Wd) vs (Q : St → Hp → Prop), RelS X.K G σ env → Reps X.K G.lv G.H vs ds → g ds env = some env' → (∀ σ', Off is σ σ' → RelS X.K G σ' env' → Q σ' G.H) → t vs σ G.H Q
def gsNil (ds : List D) (env : Env) : Option Env := match ds with
  | [] => some env
  | _ :: _ => none
def gsCons (g : GF) (r : GsF) (ds : List D) (env : Env) : Option Env := match ds with
  | [] => none
  | d :: ds => (g (.d d) env).bind fun e => r ds e
theorem mgs_nil : MGs X [] gsNil [] := ⟨_, pgs_nil, fun ds env env' σ G vs Q S r e h => by
  cases r with
  | nil => cases e; exact ⟨rfl, h _ (Off.refl _ _) S⟩
  | cons _ _ => cases e⟩
theorem mgs_cons {e : Expr} {es : List Expr} {g : GF} {r : GsF} {is js : List Nat} (h1 : MG X e g is) (h2 : MGs X es r js) (hs : (assignEach (e :: es) X.env).map (·.2) = assign e X.env :: (assignEach es X.env).map (·.2) := by rfl) : MGs X (e :: es) (gsCons g r) (is ++ js) := by
  obtain ⟨t, p, q⟩ := h1
  obtain ⟨u, p2, q2⟩ := h2
  refine ⟨_, pgs_cons p p2 hs, fun ds env env' σ G vs Q S rr e h => ?_⟩
  cases rr with
  | nil => cases e
  | cons h0 r0 =>
    rename_i d ds'
    simp only [gsCons] at e
    cases q0 : g (.d d) env with
    | none => rw [q0] at e; cases e
    | some e1 =>
      rw [q0] at e
      exact ⟨_, _, rfl, q (.d d) env e1 σ G _ _ S h0 q0 fun σ' o1 S' => q2 ds' e1 env' σ' G _ Q S' r0 e fun σ2 o2 S2 => h σ2 (o1.trans o2) S2⟩
def gTupF (n : Nat) (r : GsF) (w : W) (env : Env) : Option Env := match w with
  | .d (.tuple ds) => if ds.length = n then r ds env else none
  | _ => none
theorem mg_tup {es : List Expr} {k : Nat} {r : GsF} {n : Nat} {is : List Nat} {pos : Pos} (hc : X.calm = true) (h : MGs X es r is) (hn : (assignEach es X.env).length = n := by rfl) (hst : (assignEach es X.env).findIdx? (·.1) = none := by rfl) : MG X (.Tuple es k pos) (gTupF n r) is := by
  obtain ⟨t, p, q⟩ := h
  refine ⟨_, pg_tup hc p hn hst, fun w env env' σ G v Q S rr e h => ?_⟩
  cases w with
  | d x =>
    cases x with
    | tuple ds =>
      simp only [gTupF] at e
      by_cases hz : ds.length = n
      · rw [if_pos hz] at e
        cases rr with
        | tup t1 r1 => exact ⟨_, _, rfl, t1.sq, by rw [r1.length]; exact hz, q ds env env' σ G _ Q S r1 e h⟩
      · rw [if_neg hz] at e; cases e
    | _ => cases e
  | _ => cases e
/-- target = e -/
def asgK (g : GF) (env : Env) (w : W) (m1 : Mem) : SRes := match w with
  | .fl _ => .bad
  | w => match g w env with
    | some e => .nx e m1
    | none => .bad
def sAsg (f : EF) (g : GF) (env : Env) (m : Mem) : SRes := eS (f env m) env fun w m1 => asgK g env w m1
theorem asgQ {g : GF} {t : TG} {is : List Nat} (q : ∀ w env env' σ (G : Wd) v (Q : St → Hp → Prop), RelS X.K G σ env → RepW X.K G v w → g w env = some env' → (∀ σ', Off is σ σ' → RelS X.K G σ' env' → Q σ' G.H) → t v σ G.H Q)
    {env : Env} {σ : St} {G G1 : Wd} {m1 : Mem} {w : W} {v : V} {E : Ends} {H0 : Hp} (S : RelS X.K G1 σ env) (R1 : RelM X.K G1 m1) (r : RepR X.K H0 G1 v w)
    (h : SPost X Wx G1 (asgK g env w m1) E) : t v σ G1.H E.nx := by
  have go : RepW X.K G1 v w → SPost X Wx G1 (match g w env with | some e => .nx e m1 | none => .bad) E → t v σ G1.H E.nx := fun r h => by
    cases e : g w env with
    | none => rw [e] at h; exact False.elim h
    | some e1 => rw [e] at h; exact q w env e1 σ G1 v _ S r e fun σ' _ S' => h σ' G1 (Le.refl R1) R1 S'
  cases w with
  | fl _ => exact False.elim h
  | d x => exact go r h
  | obj x => exact go r h
  | ro x => exact go r h
theorem ms_asg {tg e : Expr} {f : EF} {g : GF} {is : List Nat} {pos : Pos} (he : ME X Wx e f) (hg : MG X tg g is) (hs : swapsWithSole [tg] e pos.line X.env = pure false := by rfl) (hw : swappedStores [tg] e X.env = pure none := by rfl)
    (h1 : (assignEach [tg] X.env).map (·.2) = [assign tg X.env] := by rfl) : MS X Wx (.Assign [tg] e pos) (sAsg f g) := by
  obtain ⟨t, p, q⟩ := he
  obtain ⟨u, p2, q2⟩ := hg
  exact ⟨_, ps_asg p p2 hs hw h1, fun env m σ G E S R h => q env m σ G _ S R (SPost.ofE h S fun w m1 v G1 le R1 q1 h1 => asgQ (G := G) q2 (S.mono le) R1 q1 h1)⟩
/-- name = e -/
theorem ms_set (i : Nat) {x : Str} {e : Expr} {f : EF} {pos pos' : Pos} (hN : X.N.Nodup) (he : ME X Wx e f) (hi : X.N[i]? = some x := by rfl) (hx : Loc X.env.scope x := by first | exact .inl rfl | exact .inr rfl) (hs : swapsWith e (some (.Name x pos')) pos.line X.env = pure false := by rfl)
    (hf : X.fn x = true ∨ X.env.scope.names.lookup x = some .local := by first | exact .inl rfl | exact .inr rfl) : MS X Wx (.Assign [.Name x pos'] e pos) (sAsg f (gSet i)) := by
  obtain ⟨t, p, q⟩ := he
  exact ⟨_, ps_set hN hi hx p hs hf, fun env m σ G E S R h => q env m σ G _ S R (SPost.ofE h S fun w m1 v G1 le R1 q1 h1 => asgQ (G := G) (g := gSet i) (t := gName i) (is := [i]) (fun w env env' σ G v Q S r e h => by cases e; exact h _ (Off.set i) (S.set r)) (S.mono le) R1 q1 h1)⟩
/-- name op= e -/
def IpOk (X : Cx) (Wx : WX) (t : TIp) (g : W → W → Mem → Res W) : Prop := OpOk X Wx t g
def sAug (i : Nat) (g : W → W → Mem → Res W) (f : EF) (env : Env) (m : Mem) : SRes := match env[i]? with
  | some (some x) => eS ((f env m).bind fun y m1 => g x y m1) env fun w m1 => match w with
    | .fl _ => .bad
    | w => .nx (env.set i (some w)) m1
  | _ => .bad
theorem ms_aug (i : Nat) {x : Str} {e : Expr} {f : EF} {g : W → W → Mem → Res W} {op : Operator} {ti : TIp} {pos pos' : Pos} (hN : X.N.Nodup) (ho : PIp X op ti) (hg : IpOk X Wx ti g) (he : ME X Wx e f) (hi : X.N[i]? = some x := by rfl) (hx : Loc X.env.scope x := by first | exact .inl rfl | exact .inr rfl)
    (hf : X.fn x = true ∨ X.env.scope.names.lookup x = some .local := by first | exact .inl rfl | exact .inr rfl) : MS X Wx (.AugAssign (.Name x pos') op e pos) (sAug i g f) := by
  obtain ⟨t, p, q⟩ := he
  refine ⟨_, ps_aug hN hi hx p ho hf, fun env m σ G E S R h => ?_⟩
  unfold sAug at h
  cases e1 : env[i]? with
  | none => rw [e1] at h; exact False.elim h
  | some o =>
    cases o with
    | none => rw [e1] at h; exact False.elim h
    | some w0 =>
      rw [e1] at h
      obtain ⟨v0, h1, h2⟩ := S.get i w0 e1
      refine ⟨v0, h1, ?_⟩
      have h' : GPost X Wx σ G (RepR X.K) ((f env m).bind fun y m1 => g w0 y m1) (fun z H2 => E.nx (σ.set i (some z)) H2) := SPost.ofE h S fun w m1 v G1 le R1 q1 hq => by
        have go : RepW X.K G1 v w → SPost X Wx G1 (.nx (env.set i (some w)) m1) E → E.nx (σ.set i (some v)) G1.H := fun r hh => hh _ G1 (Le.refl R1) R1 ((S.mono le).set r)
        cases w with
        | fl _ => exact False.elim hq
        | d x => exact go q1 hq
        | obj x => exact go q1 hq
        | ro x => exact go q1 hq
      refine q env m σ G _ S R (GPost.bind weakR h' fun y m1 u G1 le1 R1 q1 hq => ?_)
      exact hg σ G1 m1 v0 u w0 y G.H _ _ R1 (h2.r.mono le1) q1 hq
theorem ip_addI : PIp X .Add (ipI fun i j => i + j) := ip_add
theorem ip_subI : PIp X .Sub (ipI fun i j => i - j) := ip_sub
def addIW := int0W fun i j => .int (i + j)
theorem addIW_ok : OpOk X Wx (ipI fun i j => i + j) addIW := int0W_ok (g := fun i j => .int (i + j)) fun _ _ _ _ _ => .int _
theorem subIW_ok : OpOk X Wx (ipI fun i j => i - j) subW := int0W_ok (g := fun i j => .int (i - j)) fun _ _ _ _ _ => .int _
/-! ### while -/
def whileM (c : TF) (b : SF) : Nat → Env → Mem → SRes
  | 0, _, _ => .bad
  | n + 1, env, m => eS (c env m) env fun t m1 => if t = true then (match b env m1 with
    | .nx e m2 => whileM c b n e m2
    | .ct e m2 => whileM c b n e m2
    | .bk e m2 => .nx e m2
    | r => r) else .nx env m1
theorem ms_while (n : Nat) {c : Expr} {body : List Stmt} {fc : TF} {fb : SF} {pos : Pos} (hp : PassesOwn (model X.prog X.w) X.A X.env X.xe) (hc : MT X Wx c fc) (hb : MB X Wx body fb) : MS X Wx (.While c body [] pos) (whileM fc fb n) := by
  obtain ⟨tc, pc, qc⟩ := hc
  obtain ⟨tb, pb, qb⟩ := hb
  refine ⟨_, ps_while hp pc pb, fun env m σ G E S R h => ?_⟩
  refine ⟨fun k σ' H' => ∃ env' m' G', G'.H = H' ∧ RelM X.K G' m' ∧ RelS X.K G' σ' env' ∧ SPost X Wx G' (whileM fc fb k env' m') E, ⟨n, env, m, G, rfl, R, S, h⟩, ?_⟩
  rintro k σ' H' ⟨env', m', G', rfl, R', S', h'⟩
  cases k with
  | zero => exact False.elim h'
  | succ k =>
    refine qc env' m' σ' G' _ S' R' (SPost.ofE h' S' fun b m1 v G1 le R1 q1 h1 => ?_)
    rw [show v = b from q1]
    cases b with
    | false => exact iteF (h1 σ' G1 (Le.refl R1) R1 (S'.mono le))
    | true =>
      refine iteT ⟨fun σ2 H2 => ∃ env' m' G', G'.H = H2 ∧ RelM X.K G' m' ∧ RelS X.K G' σ2 env' ∧ SPost X Wx G' (whileM fc fb k env' m') E, fun σ2 H2 z => ⟨k, Nat.lt_succ_self k, z⟩, ?_⟩
      refine qb env' m1 σ' G1 _ (S'.mono le) R1 ?_
      simp only [if_true] at h1
      cases e : fb env' m1 with
      | nx e1 m2 => rw [e] at h1; exact fun σ2 G2 le2 R2 S2 => ⟨e1, m2, G2, rfl, R2, S2, SPost.later h1 le2⟩
      | ct e1 m2 => rw [e] at h1; exact fun σ2 G2 le2 R2 S2 => ⟨e1, m2, G2, rfl, R2, S2, SPost.later h1 le2⟩
      | bk e1 m2 => rw [e] at h1; exact h1
      | rt w m2 => rw [e] at h1; exact h1
      | err x e1 m2 => rw [e] at h1; exact h1
      | bad => rw [e] at h1; exact h1
/-! ### what is walked -/
structure Its where
  xs : List W
  chk : Mem → Bool
def ItOk (K : PySem.W.Frag) (J : It) (I : Its) (G1 : Wd) : Prop := ∀ G2 m2, Le G1 G2 → RelM K G2 m2 → I.chk m2 = true → ∀ i, 
  (∀ w, I.xs[i]? = some w → J.go i G2.H ∧ ∀ x H', J.yld i G2.H x H' → ∃ G3, G3.H = H' ∧ Le G2 G3 ∧ RelM K G3 m2 ∧ RepW K G3 x w) ∧ (I.xs.length ≤ i → J.stop i G2.H)
def relI (K : PySem.W.Frag) : Hp → Wd → It → Its → Prop := fun _ G J I => ItOk K J I G
abbrev IF := Env → Mem → Res Its
def MI (X : Cx) (Wx : WX) (tg iter : Expr) (f : IF) : Prop :=
  ∃ wi, PI X tg iter wi ∧ ∀ env m σ G Q, RelS X.K G σ env → RelM X.K G m → GPost X Wx σ G (relI X.K) (f env m) Q → wi σ G.H Q
theorem weakI {K : PySem.W.Frag} : Weak (relI K) := fun _ _ _ _ _ _ h => h
def forM (chk : Mem → Bool) (b : W → SF) : List W → Env → Mem → SRes
  | [], env, m => if chk m = true then .nx env m else .bad
  | x :: r, env, m => if chk m = true then (match b x env m with
    | .nx e m1 => forM chk b r e m1
    | .ct e m1 => forM chk b r e m1
    | .bk e m1 => .nx e m1
    | r => r) else .bad
/-- the body behind the target -/
def sTg (g : GF) (b : SF) (w : W) (env : Env) (m : Mem) : SRes := match g w env with
  | some e => b e m
  | none => .bad
def sFor (it : IF) (g : GF) (b : SF) (env : Env) (m : Mem) : SRes := eS (it env m) env fun I m1 => forM I.chk (sTg g b) I.xs env m1
theorem ms_for {tg iter : Expr} {body : List Stmt} {fi : IF} {g : GF} {is : List Nat} {fb : SF} {pos : Pos} (hp : PassesOwn (model X.prog X.w) X.A X.env X.xe) (hc : X.calm = true) (hi : MI X Wx tg iter fi) (hg : MG X tg g is) (hb : MB X Wx body fb)
    (hs : ∀ x, foldedSetIterable iter X.env x = pure x := by intro _; rfl) : MS X Wx (.For tg iter body [] pos) (sFor fi g fb) := by
  obtain ⟨ti, pi, qi⟩ := hi
  obtain ⟨tg', pg, qg⟩ := hg
  obtain ⟨tb, pb, qb⟩ := hb
  refine ⟨_, ps_for hp hc pi pg pb hs, fun env m σ G E S R h => ?_⟩
  refine qi env m σ G _ S R (SPost.ofE h S fun I m1 J G1 le R1 hJ h1 => ?_)
  refine ⟨fun i k σ' H' => ∃ env' m' G', G'.H = H' ∧ k + i = I.xs.length ∧ Le G1 G' ∧ RelM X.K G' m' ∧ RelS X.K G' σ' env' ∧ SPost X Wx G' (forM I.chk (sTg g fb) (I.xs.drop i) env' m') E,
    ⟨I.xs.length, env, m1, G1, rfl, Nat.add_zero _, Le.refl R1, R1, S.mono le, h1⟩, ?_⟩
  rintro i k σ' H' ⟨env', m', G', rfl, hk, le', R', S', h'⟩
  cases ex : I.xs.drop i with
  | nil =>
    rw [ex] at h'
    have hl : I.xs.length ≤ i := List.drop_eq_nil_iff.mp ex
    by_cases hz : I.chk m' = true
    · simp only [forM, hz, if_true] at h'
      exact .inl ⟨(hJ G' m' le' R' hz i).2 hl, h' σ' G' (Le.refl R') R' S'⟩
    · simp only [forM, hz] at h'
      exact False.elim h'
  | cons w r =>
    rw [ex] at h'
    have hi : I.xs[i]? = some w := by
      have := congrArg (·[0]?) ex
      simpa using this
    have hr : I.xs.drop (i + 1) = r := by
      have := congrArg List.tail ex
      simpa using this
    by_cases hz : I.chk m' = true
    · simp only [forM, hz, if_true] at h'
      obtain ⟨go, yl⟩ := (hJ G' m' le' R' hz i).1 w hi
      have hlt : i < I.xs.length := (List.getElem?_eq_some_iff.mp hi).1
      refine .inr ⟨go, fun σ2 H2 => ∃ env' m' G', G'.H = H2 ∧ Le G1 G' ∧ RelM X.K G' m' ∧ RelS X.K G' σ2 env' ∧ SPost X Wx G' (forM I.chk (sTg g fb) r env' m') E, fun σ2 H2 ⟨e2, m2, G2, z1, z2, z3, z4, z5⟩ => ⟨k - 1, by omega, e2, m2, G2, z1, by omega, z2, z3, z4, by rw [hr]; exact z5⟩, fun x H3 hy => ?_⟩
      obtain ⟨G3, rfl, le3, R3, rw3⟩ := yl x H3 hy
      cases eg : g w env' with
      | none =>
        have hst : sTg g fb w env' m' = .bad := by simp only [sTg, eg]
        rw [hst] at h'
        exact False.elim h'
      | some e1 =>
        have hst : sTg g fb w env' m' = fb e1 m' := by simp only [sTg, eg]
        rw [hst] at h'
        refine qg w env' e1 σ' G3 x _ (S'.mono le3) rw3 eg fun σ4 _ S4 => ?_
        refine qb e1 m' σ4 G3 _ S4 R3 ?_
        have l4 : Le G1 G3 := le'.trans le3
        cases e : fb e1 m' with
        | nx e1 m2 => rw [e] at h'; exact fun σ2 G2 le2 R2 S2 => ⟨e1, m2, G2, rfl, l4.trans le2, R2, S2, SPost.later h' (le3.trans le2)⟩
        | ct e1 m2 => rw [e] at h'; exact fun σ2 G2 le2 R2 S2 => ⟨e1, m2, G2, rfl, l4.trans le2, R2, S2, SPost.later h' (le3.trans le2)⟩
        | bk e1 m2 => rw [e] at h'; exact SPost.later (r := .nx e1 m2) h' le3
        | rt w m2 => rw [e] at h'; exact SPost.later h' le3
        | err x e1 m2 => rw [e] at h'; exact SPost.later h' le3
        | bad => rw [e] at h'; exact h'
    · simp only [forM, hz] at h'
      exact False.elim h'
end
end M

set_option Elab.async false
set_option linter.all false
set_option maxRecDepth 100000
namespace M
open PySem L2
/-! ### data alike -/
mutual
def beqD : D → D → Bool
  | .none, .none => true
  | .bool a, .bool b => a == b
  | .int a, .int b => a == b
  | .str a, .str b => decide (a = b)
  | .list a, .list b => beqDs a b
  | .tuple a, .tuple b => beqDs a b
  | _, _ => false
def beqDs : List D → List D → Bool
  | [], [] => true
  | a :: r, b :: s => beqD a b && beqDs r s
  | _, _ => false
end
mutual
theorem beqD_eq : ∀ (a b : D), beqD a b = true → a = b
  | .none, b, h => by cases b <;> first | rfl | (simp [beqD] at h)
  | .bool a, b, h => by cases b <;> first | (simp [beqD] at h; rw [h]) | (simp [beqD] at h)
  | .int a, b, h => by cases b <;> first | (simp [beqD] at h; rw [h]) | (simp [beqD] at h)
  | .str a, b, h => by cases b <;> first | (simp [beqD] at h; rw [h]) | (simp [beqD] at h)
  | .list a, b, h => by cases b <;> first | (simp only [beqD] at h; rw [beqDs_eq a _ h]) | (simp [beqD] at h)
  | .tuple a, b, h => by cases b <;> first | (simp only [beqD] at h; rw [beqDs_eq a _ h]) | (simp [beqD] at h)
  | .dict a, b, h => by cases b <;> simp [beqD] at h
theorem beqDs_eq : ∀ (a b : List D), beqDs a b = true → a = b
  | [], b, h => by cases b <;> first | rfl | (simp [beqDs] at h)
  | a :: r, b, h => by
    cases b with
    | nil => simp [beqDs] at h
    | cons c s =>
      simp only [beqDs, Bool.and_eq_true] at h
      rw [beqD_eq a c h.1, beqDs_eq r s h.2]
end
section
variable {X : Cx} {Wx : WX}
/-! ### walking a list, a tuple, a text -/
def rWalk (K : PySem.W.Frag) (x : V) (H1 : Hp) (R : It → Hp → Prop) : Prop :=
  (∃ a, x = .ref a ∧ (∃ xs, SqL K H1 a xs) ∧ R (Itl K a) H1) ∨ (∃ a, x = .ref a ∧ (∃ xs, SqT K H1 a xs) ∧ R (Itt K a) H1) ∨ (∃ z, x = .str z ∧ R (L2.Its z) H1)
def iWalk (K : PySem.W.Frag) (tl : TE) : TI := fun σ H R => tl σ H fun x H1 => rWalk K x H1 R
theorem walk_it {pins : List (Addr × Obj)} {σ : St} {tg : Expr} {H1 : Hp} {s1 : Shared} {x : V} {v : Value} {R : It → Hp → Prop} (I1 : Inv X pins σ H1 s1) (r1 : RelV x v) (q1 : rWalk X.K x H1 R) : wpAny (model X.prog X.w) X.A (pyIter v) (PIE X pins σ tg R) X.xe s1 := by
  have hf : ∀ (b : Addr), b ∈ [s1.heap.objs.size] → FpOk X pins H1 b := fun b hb => by
    rw [List.mem_singleton.mp hb]
    exact I1.fpOk (Nat.le_refl _) (I1.hok.fresh (Nat.le_refl _))
  rcases q1 with ⟨a, rfl, ⟨xs, hq⟩, q⟩ | ⟨a, rfl, ⟨xs, hq⟩, q⟩ | ⟨z, rfl, q⟩
  · cases r1
    obtain ⟨its, rv, pl, hz⟩ := I1.list hq
    exact wpAny_pyIter_list pl.isList ⟨s1.heap.objs.size, [s1.heap.objs.size], _, _, H1, rfl, I1.kept (t' := s1.toks) (fun b o e => Heap.get?_push_of_some _ e), turn_list a _, ⟨_, Heap.get?_push_size _ rfl, rfl, rfl⟩, hf, q⟩
  · cases r1
    obtain ⟨its, rv, pl, hz⟩ := I1.tuple hq
    exact wpAny_pyIter_tuple (show s1.heap.IsTuple a its.toArray from pl) ⟨s1.heap.objs.size, [s1.heap.objs.size], _, _, H1, rfl, I1.kept (t' := s1.toks) (fun b o e => Heap.get?_push_of_some _ e), turn_tuple a _, ⟨_, Heap.get?_push_size _ rfl, rfl, rfl⟩, hf, q⟩
  · obtain ⟨t, rfl⟩ := r1
    cases ha : z.cps.all (· < 128) with
    | false => exact PySem.wpAny_pyIter_wide ha (pi_one (tk := s1.toks) I1 _ (turn_str _ z t "str_iterator" (.inr rfl)) ⟨_, Heap.get?_push_size _ rfl, rfl, rfl⟩ q)
    | true => exact PySem.wpAny_pyIter_ascii ha (pi_one (tk := s1.toks) I1 _ (turn_str _ z t "str_ascii_iterator" (.inl rfl)) ⟨_, Heap.get?_push_size _ rfl, rfl, rfl⟩ q)
theorem pi_walk {tg l : Expr} {tl : TE} (hl : PE X l tl) : PI X tg l (iWalk X.K tl) :=
  ⟨fun pins s σ H R I h => thn (hl.run pins s σ H _ I h) fun _ _ ⟨_, _, I1, r1, q1⟩ => walk_it I1 r1 q1⟩
def yesM (_ : Mem) : Bool := true
noncomputable def sameM (i : Nat) (ds : List D) (m : Mem) : Bool := match asL (.obj i) m with
  | some es => grd (ds = es)
  | none => false
def itsL (ds : List D) : Its := ⟨ds.map .d, yesM⟩
noncomputable def walkW (w : W) (m1 : Mem) : Res Its := match w with
  | .d (.tuple ds) => .ok (itsL ds) m1
  | .d (.str z) => .ok ⟨z.cps.toList.map fun c => .d (.str ⟨#[c]⟩), yesM⟩ m1
  | .d (.list ds) => .ok (itsL ds) m1
  | .fl ds => .ok (itsL ds) m1
  | .ro ds => .ok (itsL ds) m1
  | .obj i => match asL (.obj i) m1 with
    | some ds => .ok ⟨ds.map .d, sameM i ds⟩ m1
    | none => .bad
  | _ => .bad
noncomputable def iSeq (f : EF) (env : Env) (m : Mem) : Res Its := (f env m).bind walkW
theorem itL {K : PySem.W.Frag} {G1 : Wd} {a : Addr} {ds : List D} {chk : Mem → Bool} (h : ∀ G2 m2, Le G1 G2 → RelM K G2 m2 → chk m2 = true → ∃ vs, SqL K G2.H a vs ∧ Reps K G2.lv G2.H vs ds) : ItOk K (Itl K a) ⟨ds.map .d, chk⟩ G1 := by
  intro G2 m2 le R hz i
  obtain ⟨vs, hs, r⟩ := h G2 m2 le R hz
  refine ⟨fun w hw => ?_, fun hi => ⟨vs, hs, by rw [r.length]; simpa using hi⟩⟩
  have hw : (ds.map W.d)[i]? = some w := hw
  rw [List.getElem?_map] at hw
  cases e : ds[i]? with
  | none => rw [e] at hw; cases hw
  | some d =>
    rw [e] at hw
    cases hw
    obtain ⟨v, h1, h2⟩ := r.get e
    refine ⟨⟨vs, v, hs, h1⟩, fun x H' ⟨e1, e2⟩ => ⟨G2, e1.symm, Le.refl R, R, ?_⟩⟩
    have := e2 vs hs
    rw [h1] at this
    cases this
    exact h2
theorem itT {K : PySem.W.Frag} {G1 : Wd} {a : Addr} {ds : List D} {chk : Mem → Bool} (h : ∀ G2 m2, Le G1 G2 → RelM K G2 m2 → chk m2 = true → ∃ vs, SqT K G2.H a vs ∧ Reps K G2.lv G2.H vs ds) : ItOk K (Itt K a) ⟨ds.map .d, chk⟩ G1 := by
  intro G2 m2 le R hz i
  obtain ⟨vs, hs, r⟩ := h G2 m2 le R hz
  refine ⟨fun w hw => ?_, fun hi => ⟨vs, hs, by rw [r.length]; simpa using hi⟩⟩
  have hw : (ds.map W.d)[i]? = some w := hw
  rw [List.getElem?_map] at hw
  cases e : ds[i]? with
  | none => rw [e] at hw; cases hw
  | some d =>
    rw [e] at hw
    cases hw
    obtain ⟨v, h1, h2⟩ := r.get e
    refine ⟨⟨vs, v, hs, h1⟩, fun x H' ⟨e1, e2⟩ => ⟨G2, e1.symm, Le.refl R, R, ?_⟩⟩
    have := e2 vs hs
    rw [h1] at this
    cases this
    exact h2
theorem itStr {K : PySem.W.Frag} {G1 : Wd} {z : Str} : ItOk K (L2.Its z) ⟨z.cps.toList.map fun c => .d (.str ⟨#[c]⟩), yesM⟩ G1 := by
  intro G2 m2 le R hz i
  have ez : (z.cps.toList.map fun c => (W.d (.str ⟨#[c]⟩) : W)).length = z.cps.size := by simp
  refine ⟨fun w hw => ?_, fun hi => by
    have hi : (z.cps.toList.map fun c => (W.d (.str ⟨#[c]⟩) : W)).length ≤ i := hi
    rw [ez] at hi
    exact hi⟩
  have hw : (z.cps.toList.map fun c => (W.d (.str ⟨#[c]⟩) : W))[i]? = some w := hw
  rw [List.getElem?_map] at hw
  cases e : z.cps.toList[i]? with
  | none => rw [e] at hw; cases hw
  | some c =>
    rw [e] at hw
    cases hw
    refine ⟨by have := (List.getElem?_eq_some_iff.mp e).1; show i < z.cps.size; simpa using this, fun x H' ⟨e1, c', e2, e3⟩ => ⟨G2, e1.symm, Le.refl R, R, ?_⟩⟩
    rw [Array.getElem?_toList] at e
    rw [e] at e2
    cases e2
    rw [e3]
    exact .str _
theorem walkW_ok {σ : St} {G : Wd} {m : Mem} {v : V} {w : W} {H0 : Hp} {Q : It → Hp → Prop} (R : RelM X.K G m) (r : RepR X.K H0 G v w) (h : GPost X Wx σ G (relI X.K) (walkW w m) Q) : rWalk X.K v G.H Q := by
  cases w with
  | d x =>
    cases x with
    | tuple ds =>
      cases r with
      | tup t r => exact .inr (.inl ⟨_, rfl, ⟨_, t.sq⟩, h _ G (Le.refl R) R (itT fun G2 m2 le R2 _ => ⟨_, (t.mono le.mo).sq, r.mono le.mo⟩)⟩)
    | str z => cases r; exact .inr (.inr ⟨z, rfl, h _ G (Le.refl R) R itStr⟩)
    | list ds =>
      cases r with
      | lst t r => exact .inl ⟨_, rfl, ⟨_, t.sq⟩, h _ G (Le.refl R) R (itL fun G2 m2 le R2 _ => ⟨_, (t.mono le.mo).sq, r.mono le.mo⟩)⟩
    | _ => exact False.elim h
  | fl ds =>
    obtain ⟨p, vs, rfl, h0, h1, h2, h3, r⟩ := r
    exact .inl ⟨p, rfl, ⟨vs, .of h3⟩, h _ G (Le.refl R) R (itL fun G2 m2 le R2 _ => ⟨vs, .of (le.keep _ _ h3 fun z => h1 z.1), r.mono le.mo⟩)⟩
  | ro ds =>
    obtain ⟨p, vs, rfl, h1, r⟩ := r
    exact .inl ⟨p, rfl, ⟨vs, h1.sq⟩, h _ G (Le.refl R) R (itL fun G2 m2 le R2 _ => ⟨vs, (h1.mono le.mo).sq, r.mono le.mo⟩)⟩
  | obj i =>
    simp only [walkW] at h
    cases e : asL (.obj i) m with
    | none => rw [e] at h; exact False.elim h
    | some ds =>
      rw [e] at h
      obtain ⟨a, ha, rfl⟩ := id r
      obtain ⟨a', vs, e1, h1, _⟩ := asL_sq (w := .obj i) R r e
      cases e1
      refine .inl ⟨a, rfl, ⟨vs, h1⟩, h _ G (Le.refl R) R (itL fun G2 m2 le R2 hz => ?_)⟩
      unfold sameM at hz
      cases e2 : asL (.obj i) m2 with
      | none => rw [e2] at hz; cases hz
      | some es =>
        rw [e2] at hz
        have ee := grd_iff.mp hz
        subst ee
        obtain ⟨a2, vs2, e3, h3, r3⟩ := asL_sq (v := .ref a) (H0 := H0) (w := .obj i) R2 ⟨a, le.iget ha, rfl⟩ e2
        cases e3
        exact ⟨vs2, h3, r3⟩
theorem mi_seq {tg e : Expr} {f : EF} (h : ME X Wx e f) : MI X Wx tg e (iSeq f) := by
  obtain ⟨t, p, q⟩ := h
  exact ⟨_, pi_walk p, fun env m σ G Q S R h => q env m σ G _ S R (GPost.bind weakI h fun w m1 v G1 le1 R1 q1 h1 => walkW_ok R1 q1 h1)⟩
/-! ### range -/
def rngI (lo : Int) (n : Nat) : Its := ⟨(List.range n).map fun (k : Nat) => .d (.int (lo + (k : Int))), yesM⟩
theorem itR {K : PySem.W.Frag} {G1 : Wd} {lo : Int} {n : Nat} : ItOk K (Itr lo n) (rngI lo n) G1 := by
  intro G2 m2 le R hz i
  have ez : (rngI lo n).xs.length = n := by simp [rngI]
  refine ⟨fun w hw => ?_, fun hi => by rw [ez] at hi; exact hi⟩
  have hi : i < n := by
    have := (List.getElem?_eq_some_iff.mp hw).1
    rwa [ez] at this
  have hw : ((List.range n).map fun (k : Nat) => (W.d (.int (lo + (k : Int))) : W))[i]? = some w := hw
  rw [List.getElem?_map, List.getElem?_range hi] at hw
  cases hw
  refine ⟨hi, fun x H' ⟨e1, e2⟩ => ⟨G2, e1.symm, Le.refl R, R, ?_⟩⟩
  rw [e2]
  exact .int _
noncomputable def smallI (i : Int) : Bool := grd (-(2 ^ 62) ≤ i ∧ i < 2 ^ 62)
noncomputable def rng1 (ws : List W) (m : Mem) : Res Its := match ws with
  | [.d (.int j)] => if smallI j = true then .ok (rngI 0 j.toNat) m else .bad
  | _ => .bad
noncomputable def rng2 (ws : List W) (m : Mem) : Res Its := match ws with
  | [.d (.int i), .d (.int j)] => if (smallI i && smallI j) = true then .ok (rngI i (j - i).toNat) m else .bad
  | _ => .bad
noncomputable def iRange1 (a : AF) (env : Env) (m : Mem) : Res Its := (a env m).bind rng1
noncomputable def iRange2 (a : AF) (env : Env) (m : Mem) : Res Its := (a env m).bind rng2
theorem paired1 {α β : Type} {F : α → β → Prop} {vs : List α} {b : β} (h : Paired F vs [b]) : ∃ a, vs = [a] ∧ F a b := by
  cases h with
  | cons h t => cases t; exact ⟨_, rfl, h⟩
theorem paired2 {α β : Type} {F : α → β → Prop} {vs : List α} {b c : β} (h : Paired F vs [b, c]) : ∃ a d, vs = [a, d] ∧ F a b ∧ F d c := by
  cases h with
  | cons h t =>
    obtain ⟨d, rfl, q⟩ := paired1 t
    exact ⟨_, d, rfl, h, q⟩
theorem mi_range1 {tg a : Expr} {f : AF} {p pos : Pos} (hg : Gl X "range") (hm : X.mg "range" = none) (ha : MA X Wx [a] f) (hs : starEach [a] X.env = [(false, eval a X.env)] := by rfl) : MI X Wx tg (.Call (.Name "range" p) [a] [] pos) (iRange1 f) := by
  obtain ⟨t, pa, q⟩ := ha
  refine ⟨_, pi_range1 hg hm pa hs, fun env m σ G Q S R h => q env m σ G _ S R (GPost.bind weakI h fun ws m1 vs G1 le1 R1 q1 h1 => ?_)⟩
  unfold rng1 at h1
  split at h1
  · rename_i j
    obtain ⟨v, rfl, r⟩ := paired1 q1
    cases r
    by_cases hz : smallI j = true
    · simp only [hz, if_true] at h1
      have hz := grd_iff.mp hz
      exact ⟨j, rfl, hz.1, hz.2, h1 _ G1 (Le.refl R1) R1 itR⟩
    · simp only [hz] at h1
      exact False.elim h1
  · exact False.elim h1
theorem mi_range2 {tg a b : Expr} {f : AF} {p pos : Pos} (hg : Gl X "range") (hm : X.mg "range" = none) (ha : MA X Wx [a, b] f) (hs : starEach [a, b] X.env = [(false, eval a X.env), (false, eval b X.env)] := by rfl) (hs2 : starEach [b] X.env = [(false, eval b X.env)] := by rfl) :
    MI X Wx tg (.Call (.Name "range" p) [a, b] [] pos) (iRange2 f) := by
  obtain ⟨t, pa, q⟩ := ha
  refine ⟨_, pi_range2 hg hm pa hs hs2, fun env m σ G Q S R h => q env m σ G _ S R (GPost.bind weakI h fun ws m1 vs G1 le1 R1 q1 h1 => ?_)⟩
  unfold rng2 at h1
  split at h1
  · rename_i i j
    obtain ⟨v, u, rfl, r, r'⟩ := paired2 q1
    cases r
    cases r'
    by_cases hz : (smallI i && smallI j) = true
    · simp only [hz, if_true] at h1
      rw [Bool.and_eq_true] at hz
      have h1' := grd_iff.mp hz.1
      have h2' := grd_iff.mp hz.2
      exact ⟨i, j, rfl, ⟨h1'.1, h1'.2, h2'.1, h2'.2⟩, h1 _ G1 (Le.refl R1) R1 itR⟩
    · simp only [hz] at h1
      exact False.elim h1
  · exact False.elim h1
/-! ### enumerate, zip -/
theorem itPair {K : PySem.W.Frag} {G2 : Wd} {m2 : Mem} {T : Addr} {vs : List V} {ds : List D} (R : RelM K G2 m2) (hT : G2.H T = none) (r : Reps K G2.lv G2.H vs ds) :
    ∃ G3, G3.H = upd G2.H T (.tup vs) ∧ Le G2 G3 ∧ RelM K G3 m2 ∧ RepW K G3 (.ref T) (.d (.tuple ds)) := by
  have le : Le G2 ⟨G2.io, G2.lv, upd G2.H T (.tup vs)⟩ := Le.new R hT
  exact ⟨_, rfl, le, R.new hT, Rep.tup (.inl ⟨(R.ne hT).2, upd_same⟩) (Reps.mono le.mo r)⟩
/-- a list that stays: not an object -/
def asS (w : W) : Option (List D) := match w with
  | .d (.list ds) => some ds
  | .fl ds => some ds
  | .ro ds => some ds
  | _ => none
theorem asS_sq {G : Wd} {m : Mem} {v : V} {w : W} {H0 : Hp} {ds : List D} (R : RelM X.K G m) (r : RepR X.K H0 G v w) (e : asS w = some ds) : ∃ a vs, v = .ref a ∧ ∀ G2, Le G G2 → SqL X.K G2.H a vs ∧ Reps X.K G2.lv G2.H vs ds := by
  cases w with
  | d x =>
    cases x with
    | list es =>
      cases e
      cases r with
      | lst t r => exact ⟨_, _, rfl, fun G2 le => ⟨(t.mono le.mo).sq, r.mono le.mo⟩⟩
    | _ => cases e
  | fl es => cases e; obtain ⟨p, vs, rfl, h0, h1, h2, h3, r⟩ := r; exact ⟨p, vs, rfl, fun G2 le => ⟨.of (le.keep _ _ h3 fun z => h1 z.1), r.mono le.mo⟩⟩
  | ro es => cases e; obtain ⟨p, vs, rfl, h1, r⟩ := r; exact ⟨p, vs, rfl, fun G2 le => ⟨(h1.mono le.mo).sq, r.mono le.mo⟩⟩
  | obj i => cases e
def enumD (ds : List D) : List D := ds.zipIdx.map fun p => .tuple [.int (p.2 : Int), p.1]
def enumW (ws : List W) (m : Mem) : Res Its := match ws with
  | [w] => match asS w with
    | some ds => .ok (itsL (enumD ds)) m
    | none => .bad
  | _ => .bad
def iEnumF (a : AF) (env : Env) (m : Mem) : Res Its := (a env m).bind enumW
theorem mi_enum {e : Expr} {f : AF} {p pos tpos : Pos} {elts : List Expr} {kk : Nat} (hg : Gl X "enumerate") (hm : X.mg "enumerate" = none) (ha : MA X Wx [e] f) (hs : starEach [e] X.env = [(false, eval e X.env)] := by rfl) :
    MI X Wx (.Tuple elts kk tpos) (.Call (.Name "enumerate" p) [e] [] pos) (iEnumF f) := by
  obtain ⟨t, pa, q⟩ := ha
  refine ⟨_, pi_enum hg hm pa hs, fun env m σ G Q S R h => q env m σ G _ S R (GPost.bind weakI h fun ws m1 vs G1 le1 R1 q1 h1 => ?_)⟩
  unfold enumW at h1
  split at h1
  · rename_i w
    obtain ⟨v, rfl, r⟩ := paired1 q1
    cases e : asS w with
    | none => simp only [e] at h1; exact False.elim h1
    | some ds =>
      simp only [e] at h1
      obtain ⟨a, vs, rfl, hst⟩ := asS_sq R1 r e
      refine ⟨a, vs, rfl, (hst G1 (Le.refl R1)).1, h1 _ G1 (Le.refl R1) R1 ?_⟩
      intro G2 m2 le R2 hz i
      obtain ⟨hq, hr⟩ := hst G2 le
      refine ⟨fun w' hw => ?_, fun hi => ⟨vs, hq, by rw [hr.length]; simpa [itsL, enumD] using hi⟩⟩
      have hw : ((enumD ds).map W.d)[i]? = some w' := hw
      rw [List.getElem?_map] at hw
      unfold enumD at hw
      rw [List.getElem?_map, List.getElem?_zipIdx] at hw
      cases e2 : ds[i]? with
      | none => rw [e2] at hw; cases hw
      | some d =>
        rw [e2] at hw
        cases hw
        obtain ⟨v, g1, g2⟩ := hr.get e2
        refine ⟨⟨vs, v, hq, g1⟩, fun x H' ⟨T, y, ex, hT, eH, hy⟩ => ?_⟩
        have := hy vs hq
        rw [g1] at this
        cases this
        rw [ex, eH]
        have ei : ((0 + i : Nat) : Int) = ((i : Nat) : Int) := by rw [Nat.zero_add]
        show ∃ G3, G3.H = _ ∧ _ ∧ _ ∧ RepW X.K G3 (.ref T) (.d (.tuple [.int ((0 + i : Nat) : Int), d]))
        rw [ei]
        exact itPair R2 hT (.cons (.int _) (.cons g2 .nil))
  · exact False.elim h1
def zipD (ds es : List D) : List D := (ds.zip es).map fun p => .tuple [p.1, p.2]
def zipW (ws : List W) (m : Mem) : Res Its := match ws with
  | [w, u] => match asS w, asS u with
    | some ds, some es => .ok (itsL (zipD ds es)) m
    | _, _ => .bad
  | _ => .bad
def iZipF (a : AF) (env : Env) (m : Mem) : Res Its := (a env m).bind zipW
theorem mi_zip {e e2 : Expr} {f : AF} {p pos tpos : Pos} {elts : List Expr} {kk : Nat} (hg : Gl X "zip") (hm : X.mg "zip" = none) (ha : MA X Wx [e, e2] f)
    (hs : starEach [e, e2] X.env = (false, eval e X.env) :: starEach [e2] X.env := by rfl) (hpl : (backTo pos (starEach [e2] X.env)).any (·.1) = false := by rfl) :
    MI X Wx (.Tuple elts kk tpos) (.Call (.Name "zip" p) [e, e2] [] pos) (iZipF f) := by
  obtain ⟨t, pa, q⟩ := ha
  refine ⟨_, pi_zip hg hm pa hs hpl, fun env m σ G Q S R h => q env m σ G _ S R (GPost.bind weakI h fun ws m1 vs G1 le1 R1 q1 h1 => ?_)⟩
  unfold zipW at h1
  split at h1
  · rename_i w u
    obtain ⟨v, v', rfl, r, r'⟩ := paired2 q1
    cases e : asS w with
    | none => simp only [e] at h1; exact False.elim h1
    | some ds =>
      cases e' : asS u with
      | none => simp only [e, e'] at h1; exact False.elim h1
      | some es =>
        simp only [e, e'] at h1
        obtain ⟨a, vs, rfl, hst⟩ := asS_sq R1 r e
        obtain ⟨b, us, rfl, hst'⟩ := asS_sq R1 r' e'
        refine ⟨a, b, vs, us, rfl, (hst G1 (Le.refl R1)).1, (hst' G1 (Le.refl R1)).1, h1 _ G1 (Le.refl R1) R1 ?_⟩
        intro G2 m2 le R2 hz i
        obtain ⟨hq, hr⟩ := hst G2 le
        obtain ⟨hq', hr'⟩ := hst' G2 le
        refine ⟨fun w' hw => ?_, fun hi => ⟨vs, us, hq, hq', by
          rw [hr.length, hr'.length]
          have hi : ((zipD ds es).map W.d).length ≤ i := hi
          simp [zipD] at hi
          omega⟩⟩
        have hw : ((zipD ds es).map W.d)[i]? = some w' := hw
        rw [List.getElem?_map] at hw
        unfold zipD at hw
        rw [List.getElem?_map] at hw
        cases e2 : (ds.zip es)[i]? with
        | none => rw [e2] at hw; cases hw
        | some d =>
          rw [e2] at hw
          cases hw
          obtain ⟨x1, x2⟩ := List.getElem?_zip_eq_some.mp e2
          obtain ⟨v, g1, g2⟩ := hr.get x1
          obtain ⟨v', g1', g2'⟩ := hr'.get x2
          refine ⟨⟨vs, us, v, v', hq, hq', g1, g1'⟩, fun x H' ⟨T, y, y', ex, hT, eH, hy, hy'⟩ => ?_⟩
          have t1 := hy vs hq
          have t2 := hy' us hq'
          rw [g1] at t1
          rw [g1'] at t2
          cases t1
          cases t2
          rw [ex, eH]
          exact itPair R2 hT (.cons g2 (.cons g2' .nil))
  · exact False.elim h1
end
end M

set_option Elab.async false
set_option linter.all false
set_option maxRecDepth 100000
namespace M
open PySem L2
/-! ### a list that grows aside -/
section
variable {K : PySem.W.Frag} {G G0 : Wd} {m : Mem} {p : Addr} {o : HO}
theorem Mo.updL {lv : List Addr} {H : Hp} (h : p ∈ lv) : Mo lv H lv (upd H p o) := ⟨fun a u e n => by rw [upd_ne (fun z => n (by rw [z]; exact h))]; exact e, fun _ _ _ n => n⟩
theorem RepW.updL {v : V} {w : W} (h : RepW K G v w) (h1 : p ∈ G.lv) : RepW K ⟨G.io, G.lv, upd G.H p o⟩ v w := by
  cases w with
  | d x => exact Rep.mono (Mo.updL h1) h
  | obj i => exact h
  | fl _ => exact h
  | ro ds => obtain ⟨a, vs, e1, e2, e3⟩ := h; exact ⟨a, vs, e1, e2.mono (Mo.updL h1), e3.mono (Mo.updL h1)⟩
theorem RelS.updL {σ : St} {env : Env} (S : RelS K G σ env) (h1 : p ∈ G.lv) : RelS K ⟨G.io, G.lv, upd G.H p o⟩ σ env :=
  ⟨S.len, fun i w e => let ⟨v, a, b⟩ := S.get i w e; ⟨v, a, b.updL h1⟩⟩
theorem RelM.updL (R : RelM K G m) (h1 : p ∈ G.lv) (h2 : p ∉ G.io) : RelM K ⟨G.io, G.lv, upd G.H p o⟩ m := by
  have up : ∀ a, G.H a ≠ none → upd G.H p o a ≠ none := fun a z q => z (upd_none q)
  refine ⟨R.dw, R.len, R.nd, fun a z => up a (R.lt a z), fun a z => up a (R.it a z), fun i a ob e1 e2 => ?_⟩
  have q := R.ob i a ob e1 e2
  have ne : a ≠ p := fun e => h2 (e ▸ List.mem_of_getElem? e1)
  have ea : upd G.H p o a = G.H a := upd_ne ne
  cases ob with
  | lst ds => obtain ⟨z1, vs, z2, r⟩ := q; exact ⟨z1, vs, ea.trans z2, r.mono (Mo.updL h1)⟩
  | fz ds => obtain ⟨z1, vs, z2, r⟩ := q; exact ⟨z1, vs, ea.trans z2, r.mono (Mo.updL h1)⟩
  | dct kvs => obtain ⟨z1, ks, z2, r⟩ := q; exact ⟨z1, ks, ea.trans z2, Paired.mono (fun _ _ z => ⟨z.1, z.2.updL h1⟩) r⟩
  | lsw ws => obtain ⟨z1, vs, z2, r⟩ := q; exact ⟨z1, vs, ea.trans z2, Paired.mono (fun _ _ z => z.updL h1) r⟩
theorem Le.updF (le : Le G0 G) (h0 : G0.H p = none) : Le G0 ⟨G.io, G.lv, upd G.H p o⟩ :=
  ⟨le.lt, le.io, le.lv, le.stay, fun a u e n => by
    show upd G.H p o a = _
    rw [upd_ne (ne_of_none e h0)]; exact le.keep a u e n, fun a e => le.tr a (upd_none e)⟩
end
/-! ### readings that do not hang on the place -/
section
variable {X : Cx} {Wx : WX}
def cE (X : Cx) (Wx : WX) (f : EF) : TE := fun σ H Q => ∃ env m G, G.H = H ∧ RelS X.K G σ env ∧ RelM X.K G m ∧ GPost X Wx σ G (RepR X.K) (f env m) Q
def cT (X : Cx) (Wx : WX) (f : TF) : TT := fun σ H Q => ∃ env m G, G.H = H ∧ RelS X.K G σ env ∧ RelM X.K G m ∧ GPost X Wx σ G relEq (f env m) Q
def cG (X : Cx) (g : GF) (is : List Nat) : TG := fun v σ H Q => ∃ w env env' G, G.H = H ∧ RelS X.K G σ env ∧ RepW X.K G v w ∧ g w env = some env' ∧ ∀ σ', Off is σ σ' → RelS X.K G σ' env' → Q σ' G.H
theorem ME.pe {e : Expr} {f : EF} (h : ME X Wx e f) : PE X e (cE X Wx f) := by
  obtain ⟨t, p, q⟩ := h
  refine ⟨fun pins s σ H Q I ⟨env, m, G, eH, S, R, hq⟩ => ?_⟩
  subst eH
  exact p.run pins s σ G.H Q I (q env m σ G Q S R hq)
theorem MG.pg {e : Expr} {g : GF} {is : List Nat} (h : MG X e g is) : PG X e (cG X g is) := by
  obtain ⟨t, p, q⟩ := h
  refine ⟨fun pins s σ H v u Q I r ⟨w, env, env', G, eH, S, rr, eg, hq⟩ => ?_⟩
  subst eH
  exact p.run pins s σ G.H v u Q I r (q w env env' σ G v Q S rr eg hq)
def MTs (X : Cx) (Wx : WX) (es : List Expr) (f : TF) : Prop :=
  ∃ t, PTs X es t ∧ ∀ env m σ G Q, RelS X.K G σ env → RelM X.K G m → GPost X Wx σ G relEq (f env m) Q → t σ G.H Q
theorem MTs.pts {e : List Expr} {f : TF} (h : MTs X Wx e f) : PTs X e (cT X Wx f) := by
  obtain ⟨t, p, q⟩ := h
  refine ⟨fun pins s σ H Q I ⟨env, m, G, eH, S, R, hq⟩ => ?_⟩
  subst eH
  exact p.run pins s σ G.H Q I (q env m σ G Q S R hq)
def tYesF (_ : Env) (m : Mem) : Res Bool := .ok true m
theorem mts_nil : MTs X Wx [] tYesF := ⟨_, pts_nil, fun env m σ G Q S R h => h true G (Le.refl R) R rfl⟩
theorem mts_one {c : Expr} {f : TF} (h : MT X Wx c f) : MTs X Wx [c] f := let ⟨t, p, q⟩ := h; ⟨t, pts_one p, q⟩
/-! ### comprehensions -/
abbrev WF : WX := fun _ _ _ _ => False
def noErr {α : Type} (r : Res α) : Res α := match r with
  | .err _ _ => .bad
  | r => r
def wipeE (env : Env) : List Nat → Env
  | [] => env
  | v :: vs => (wipeE env vs).set v none
theorem wipe_get (σ : St) : ∀ (vs : List Nat) (j : Nat), (wipe σ vs)[j]? = if j ∈ vs then (σ[j]?).map (fun _ => none) else σ[j]?
  | [], j => by simp [wipe]
  | v :: vs, j => by
    unfold wipe
    by_cases hj : v = j
    · subst hj
      rw [List.getElem?_set]
      simp only [if_true, wipe_length, List.mem_cons, true_or, if_true]
      by_cases hv : v < σ.length
      · rw [if_pos hv, List.getElem?_eq_getElem hv]; rfl
      · rw [if_neg hv, List.getElem?_eq_none (by omega)]; rfl
    · rw [List.getElem?_set_ne hj, wipe_get σ vs j]
      have : (j ∈ v :: vs) ↔ j ∈ vs := by simp [List.mem_cons, Ne.symm hj]
      simp only [this]
theorem wipe_off {σ σ' : St} {is vs : List Nat} (h : Off is (wipe σ vs) σ') (hs : ∀ i ∈ is, i ∈ vs) : wipe σ' vs = wipe σ vs := by
  apply List.ext_getElem?
  intro j
  rw [wipe_get, wipe_get]
  by_cases hj : j ∈ vs
  · simp only [hj, if_true]
    have hl : σ'.length = σ.length := by rw [h.len, wipe_length]
    by_cases hz : j < σ.length
    · rw [List.getElem?_eq_getElem hz, List.getElem?_eq_getElem (by omega)]; rfl
    · rw [List.getElem?_eq_none (by omega), List.getElem?_eq_none (by omega)]
  · simp only [hj, if_false]
    rw [h.get j fun z => hj (hs j z), wipe_get]
    simp only [hj, if_false]
theorem wipeE_length (env : Env) : ∀ vs : List Nat, (wipeE env vs).length = env.length
  | [] => rfl
  | v :: vs => by unfold wipeE; rw [List.length_set, wipeE_length env vs]
theorem RelS.wipe {K : PySem.W.Frag} {G : Wd} {σ : St} {env : Env} (S : RelS K G σ env) : ∀ vs : List Nat, RelS K G (wipe σ vs) (wipeE env vs)
  | [] => S
  | v :: vs => by
    have S' := RelS.wipe S vs
    refine ⟨by unfold L2.wipe wipeE; rw [List.length_set, List.length_set]; exact S'.len, fun i w e => ?_⟩
    unfold wipeE at e
    unfold L2.wipe
    by_cases hj : v = i
    · subst hj
      rw [List.getElem?_set] at e
      simp only [if_true] at e
      split at e <;> cases e
    · rw [List.getElem?_set_ne hj] at e ⊢
      exact S'.get i w e
def lcM (chk : Mem → Bool) (b : W → Mem → Res (Option D)) : List W → List D → Mem → Res W
  | [], acc, m => if chk m = true then .ok (.fl acc) m else .bad
  | x :: r, acc, m => if chk m = true then (b x m).bind fun o m1 => match o with
    | none => lcM chk b r acc m1
    | some d => if acc.length < sizeLine then lcM chk b r (acc ++ [d]) m1 else .bad
    else .bad
def lcB (g : GF) (ft : TF) (fe : EF) (env : Env) (x : W) (m : Mem) : Res (Option D) := match g x env with
  | none => .bad
  | some e => (noErr (ft e m)).bind fun t m1 => if t = true then (noErr (fe e m1)).bind fun w m2 => match w with
      | .d x => .ok (some x) m2
      | _ => .bad
    else .ok none m1
def eLc (fi : IF) (g : GF) (ft : TF) (fe : EF) (vs : List Nat) (env : Env) (m : Mem) : Res W := (fi env m).bind fun I m1 => lcM I.chk (lcB g ft fe (wipeE env vs)) I.xs [] m1
theorem lcQ {fi : IF} {g : GF} {is : List Nat} {ft : TF} {fe : EF} {vs : List Nat} {wi : TI} (hsub : ∀ i ∈ is, i ∈ vs) (qi : ∀ env m σ G Q, RelS X.K G σ env → RelM X.K G m → GPost X Wx σ G (relI X.K) (fi env m) Q → wi σ G.H Q)
    (env : Env) (m : Mem) (σ : St) (G : Wd) (Q : VK) (S : RelS X.K G σ env) (R : RelM X.K G m) (h : GPost X Wx σ G (RepR X.K) (eLc fi g ft fe vs env m) Q) : tLc wi (cG X g is) (cT X WF ft) (cE X WF fe) vs σ G.H Q := by
  refine qi env m σ G _ S R (GPost.bind0 h fun I m1 J G1 le1 R1 hJ h1 => ?_)
  intro A hA
  refine ⟨fun i k H' => ∃ m' G' acc av, G'.H = H' ∧ k + i = I.xs.length ∧ Le G1 G' ∧ RelM X.K G' m' ∧ A ∈ G'.lv ∧ A ∉ G'.io ∧ G'.H A = some (.lst av) ∧ Reps X.K G'.lv G'.H av acc ∧ GPost X Wx σ G (RepR X.K) (lcM I.chk (lcB g ft fe (wipeE env vs)) (I.xs.drop i) acc m') Q,
    ⟨I.xs.length, m1, ⟨G1.io, A :: G1.lv, upd G1.H A (.lst [])⟩, [], [], rfl, Nat.add_zero _, Le.newL R1 hA, R1.newL hA, List.mem_cons_self, (R1.ne hA).1, upd_same, .nil, h1⟩, ?_⟩
  rintro i k H' ⟨m', G', acc, av, rfl, hk, le', R', l1, l2, l3, l4, h'⟩
  cases ex : I.xs.drop i with
  | nil =>
    rw [ex] at h'
    have hl : I.xs.length ≤ i := List.drop_eq_nil_iff.mp ex
    by_cases hz : I.chk m' = true
    · simp only [lcM, hz, if_true] at h'
      exact .inl ⟨(hJ G' m' le' R' hz i).2 hl, h' (.ref A) G' (le1.trans le') R' ⟨A, av, rfl, le1.tr A hA, l2, l1, l3, l4⟩⟩
    · simp only [lcM, hz] at h'
      exact False.elim h'
  | cons w r =>
    rw [ex] at h'
    have hi : I.xs[i]? = some w := by
      have := congrArg (·[0]?) ex
      simpa using this
    have hr : I.xs.drop (i + 1) = r := by
      have := congrArg List.tail ex
      simpa using this
    by_cases hz : I.chk m' = true
    · simp only [lcM, hz, if_true] at h'
      obtain ⟨go, yl⟩ := (hJ G' m' le' R' hz i).1 w hi
      have hlt : i < I.xs.length := (List.getElem?_eq_some_iff.mp hi).1
      refine .inr ⟨go, fun H2 => ∃ m' G' acc av, G'.H = H2 ∧ Le G1 G' ∧ RelM X.K G' m' ∧ A ∈ G'.lv ∧ A ∉ G'.io ∧ G'.H A = some (.lst av) ∧ Reps X.K G'.lv G'.H av acc ∧ GPost X Wx σ G (RepR X.K) (lcM I.chk (lcB g ft fe (wipeE env vs)) r acc m') Q,
        fun H2 ⟨m2, G2, ac, a2, z1, z2, z3, z4, z5, z6, z7, z8⟩ => ⟨k - 1, by omega, m2, G2, ac, a2, z1, by omega, z2, z3, z4, z5, z6, z7, by rw [hr]; exact z8⟩, fun x H3 hy => ?_⟩
      obtain ⟨G3, rfl, le3, R3, rw3⟩ := yl x H3 hy
      have S3 : RelS X.K G3 (L2.wipe σ vs) (wipeE env vs) := ((S.mono le1).mono (le'.trans le3)).wipe vs
      cases eg : g w (wipeE env vs) with
      | none => simp only [lcB, eg] at h'; exact False.elim h'
      | some e1 =>
        simp only [lcB, eg] at h'
        refine ⟨w, _, e1, G3, rfl, S3, rw3, eg, fun σ4 o4 S4 => ⟨wipe_off o4 hsub, e1, m', G3, rfl, S4, R3, ?_⟩⟩
        cases et : ft e1 m' with
        | bad => rw [et] at h'; exact False.elim h'
        | err _ _ => rw [et] at h'; exact False.elim h'
        | ok t m4 =>
          rw [et] at h'
          intro t' G4 le4 R4 q4
          rw [show t' = t from q4]
          have le34 := le3.trans le4
          have k1 : A ∈ G4.lv := le34.stay _ l1 l2
          have k2 : A ∉ G4.io := le34.nio (by rw [l3]; simp) l2
          have k3 : G4.H A = some (.lst av) := le34.keep _ _ l3 fun z => l2 z.1
          have k4 : Reps X.K G4.lv G4.H av acc := l4.mono le34.mo
          cases t with
          | false => exact iteF ⟨m4, G4, acc, av, rfl, le'.trans le34, R4, k1, k2, k3, k4, h'⟩
          | true =>
            refine iteT ⟨e1, m4, G4, rfl, S4.mono le4, R4, ?_⟩
            simp only [noErr, Res.bind_ok, if_true] at h'
            cases ee : fe e1 m4 with
            | bad => rw [ee] at h'; exact False.elim h'
            | err _ _ => rw [ee] at h'; exact False.elim h'
            | ok w5 m5 =>
              rw [ee] at h'
              intro v5 G5 le5 R5 q5
              cases w5 with
              | d x5 =>
                simp only [Res.bind_ok] at h'
                have c1 : A ∈ G5.lv := le5.stay _ k1 k2
                have c2 : A ∉ G5.io := le5.nio (by rw [k3]; simp) k2
                have c3 : G5.H A = some (.lst av) := le5.keep _ _ k3 fun z => k2 z.1
                have c4 : Reps X.K G5.lv G5.H av acc := k4.mono le5.mo
                by_cases hs : acc.length < sizeLine
                · simp only [hs, if_true] at h'
                  refine ⟨av, c3, by rw [c4.length]; exact hs, m5, ⟨G5.io, G5.lv, upd G5.H A (.lst (av ++ [v5]))⟩, acc ++ [x5], av ++ [v5], rfl, (le'.trans (le34.trans le5)).updF hA, R5.updL c1 c2, c1, c2, upd_same, ?_, h'⟩
                  exact (c4.append (.one q5)).mono (Mo.updL c1)
                · simp only [hs, if_false] at h'
                  exact False.elim h'
              | _ => exact False.elim h'
    · simp only [lcM, hz] at h'
      exact False.elim h'
theorem me_lc {elt tg iter : Expr} {ifs : List Expr} {scope : Scope} {own : List (Str × Nat)} {pos : Pos} {fi : IF} {g : GF} {is : List Nat} {ft : TF} {fe : EF} (hc : X.calm = true) (hN : X.N.Nodup) (hi : MI X Wx tg iter fi) (ok : BlkOk X.N X.env.scope scope own)
    (hg : ∀ (s : Shared) (H : Hp) (C : Addr) (cl : List (Str × Addr)) (fp : List Addr), MG (X.blk s H scope (compEnvC scope cl C X.env) fp) tg g is) (ht : ∀ (s : Shared) (H : Hp) (C : Addr) (cl : List (Str × Addr)) (fp : List Addr), MTs (X.blk s H scope (compEnvC scope cl C X.env) fp) WF ifs ft)
    (he : ∀ (s : Shared) (H : Hp) (C : Addr) (cl : List (Str × Addr)) (fp : List Addr), ME (X.blk s H scope (compEnvC scope cl C X.env) fp) WF elt fe) (hsub : ∀ i ∈ is, i ∈ own.map (·.2) := by decide) (hs : ∀ x, foldedSetIterable iter X.env x = pure x := by intro _; rfl) :
    ME X Wx (.ListComp elt [⟨tg, iter, ifs, 0⟩] scope pos) (eLc fi g ft fe (own.map (·.2))) := by
  obtain ⟨wi, pi, qi⟩ := hi
  exact ⟨_, pe_lc (g := cG X g is) (tt := cT X WF ft) (te := cE X WF fe) hc hN pi ok (fun s H C cl fp => (hg s H C cl fp).pg) (fun s H C cl fp => (ht s H C cl fp).pts) (fun s H C cl fp => (he s H C cl fp).pe) hs, fun env m σ G Q S R h => lcQ hsub qi env m σ G Q S R h⟩
/-- name = [..] on one line -/
theorem ms_setLc (i : Nat) {y : Str} {py : Pos} {elt tg iter : Expr} {ifs : List Expr} {scope : Scope} {own : List (Str × Nat)} {pos spos : Pos} {fi : IF} {g : GF} {is : List Nat} {ft : TF} {fe : EF} {cv : EF → EF} (hcv : ∀ {t : TE} {f : EF}, (∀ env m σ G Q, RelS X.K G σ env → RelM X.K G m → GPost X Wx σ G (RepR X.K) (f env m) Q → t σ G.H Q) → ∀ env m σ G Q, RelS X.K G σ env → RelM X.K G m → GPost X Wx σ G (RepR X.K) (cv f env m) Q → t σ G.H Q)
    (hc : X.calm = true) (hN : X.N.Nodup) (hi : MI X Wx tg iter fi) (ok : BlkOk X.N X.env.scope scope own)
    (hg : ∀ (s : Shared) (H : Hp) (C : Addr) (cl : List (Str × Addr)) (fp : List Addr), MG (X.blk s H scope (compEnvC scope cl C X.env) fp) tg g is) (ht : ∀ (s : Shared) (H : Hp) (C : Addr) (cl : List (Str × Addr)) (fp : List Addr), MTs (X.blk s H scope (compEnvC scope cl C X.env) fp) WF ifs ft)
    (he : ∀ (s : Shared) (H : Hp) (C : Addr) (cl : List (Str × Addr)) (fp : List Addr), ME (X.blk s H scope (compEnvC scope cl C X.env) fp) WF elt fe)
    (hsw : swapsWith (.ListComp elt [⟨tg, iter, ifs, 0⟩] scope pos) (some (.Name y py)) spos.line X.env = pure true) (hy : X.N[i]? = some y := by rfl) (hyl : X.env.scope.names.lookup y = some .local := by rfl)
    (hsub : ∀ i ∈ is, i ∈ own.map (·.2) := by decide) (hs : ∀ x, foldedSetIterable iter X.env x = pure x := by intro _; rfl) :
    MS X Wx (.Assign [.Name y py] (.ListComp elt [⟨tg, iter, ifs, 0⟩] scope pos) spos) (sAsg (cv (eLc fi g ft fe (own.map (·.2)))) (gSet i)) := by
  obtain ⟨wi, pi, qi⟩ := hi
  refine ⟨_, ps_setLc (g := cG X g is) (tt := cT X WF ft) (te := cE X WF fe) hc hN hy hyl hsw pi ok (fun s H C cl fp => (hg s H C cl fp).pg) (fun s H C cl fp => (ht s H C cl fp).pts) (fun s H C cl fp => (he s H C cl fp).pe) hs, fun env m σ G E S R h => ?_⟩
  exact hcv (lcQ hsub qi) env m σ G _ S R (SPost.ofE h S fun w m1 v G1 le R1 q1 h1 => asgQ (G := G) (g := gSet i) (t := gName i) (is := [i]) (fun w env env' σ G v Q S r e h => by cases e; exact h _ (Off.set i) (S.set r)) (S.mono le) R1 q1 h1)
theorem cvFrz {t : TE} {f : EF} (h : ∀ env m σ G Q, RelS X.K G σ env → RelM X.K G m → GPost X Wx σ G (RepR X.K) (f env m) Q → t σ G.H Q) : ∀ env m σ G Q, RelS X.K G σ env → RelM X.K G m → GPost X Wx σ G (RepR X.K) (eFrz f env m) Q → t σ G.H Q :=
  fun env m σ G Q S R q => h env m σ G Q S R (frzQ q)
theorem cvObj {t : TE} {f : EF} (h : ∀ env m σ G Q, RelS X.K G σ env → RelM X.K G m → GPost X Wx σ G (RepR X.K) (f env m) Q → t σ G.H Q) : ∀ env m σ G Q, RelS X.K G σ env → RelM X.K G m → GPost X Wx σ G (RepR X.K) (eObj f env m) Q → t σ G.H Q :=
  fun env m σ G Q S R q => h env m σ G Q S R (objQ q)
end
end M

set_option Elab.async false
set_option linter.all false
set_option maxRecDepth 100000
namespace M
open PySem L2
/-! ### what a def promises -/
def CPost (K : PySem.W.Frag) (mg : Str → Option Value) (G : Wd) (r : Res W) (Q : VK) (E : XK) : Prop :=
  match r with
  | .ok w m => ∀ v G', Le G G' → RelM K G' m → RepR K G.H G' v w → Q v G'.H
  | .err e m => ∀ c d G', Le G G' → RelM K G' m → ExRep mg K G' c d e → E c d G'.H
  | .bad => False
abbrev FF := List W → Mem → Res W
def SpM (K : PySem.W.Frag) (mg : Str → Option Value) (n : Nat) (F : FF) : Sp := fun vs H Q E => ∃ G ws m, G.H = H ∧ RelM K G m ∧ Paired (RepW K G) vs ws ∧ ws.length = n ∧ CPost K mg G (F ws m) Q E
/-! ### leaving a def: what it made goes -/
def clM (n : Nat) (m : Mem) : Bool := (m.take n).all (okO n)
def finM (n : Nat) (w : W) (m : Mem) : Res W := if clM n m = true then (match w with
  | .obj j => if j < n then .ok (.obj j) (m.take n) else match m[j]? with
    | some (.lst ds) => .ok (.fl ds) (m.take n)
    | some (.fz ds) => .ok (.d (.list ds)) (m.take n)
    | _ => .bad
  | w => .ok w (m.take n)) else .bad
def Wd.cut (G' G : Wd) (kp : Option Addr) : Wd := ⟨G.io, G'.lv.filter (fun a => decide (a ∈ G.lv ∨ some a = kp)), G'.H⟩
section
variable {K : PySem.W.Frag} {mg : Str → Option Value} {G G' : Wd} {m m' : Mem} {kp : Option Addr}
theorem mem_cut {a : Addr} : a ∈ (G'.cut G kp).lv ↔ a ∈ G'.lv ∧ (a ∈ G.lv ∨ some a = kp) := by
  show a ∈ G'.lv.filter _ ↔ _
  rw [List.mem_filter]
  simp
theorem Mo.cut : Mo G'.lv G'.H (G'.cut G kp).lv (G'.cut G kp).H := ⟨fun _ _ h _ => h, fun _ _ _ n z => n (mem_cut.mp z).1⟩
theorem Le.cut (le : Le G G') : Le G (G'.cut G kp) :=
  ⟨le.lt, ⟨[], by simp [Wd.cut], fun _ z => nomatch z⟩, fun a z => le.lv a (mem_cut.mp z).1, fun a z n => mem_cut.mpr ⟨le.stay a z n, .inl z⟩, le.keep, le.tr⟩
theorem Le.ioTake (le : Le G G') {i : Nat} (h : i < G.io.length) : G'.io[i]? = G.io[i]? := by
  obtain ⟨κ, e, _⟩ := le.io
  rw [e, List.getElem?_append_left h]
theorem RepW.cut {v : V} {w : W} (h : RepW K G' v w) (le : Le G G') (ok : okW G.io.length w = true) : RepW K (G'.cut G kp) v w := by
  cases w with
  | d x => exact Rep.mono Mo.cut h
  | obj j =>
    obtain ⟨a, h1, h2⟩ := h
    have hj : j < G.io.length := by simpa [okW] using ok
    exact ⟨a, by show G.io[j]? = _; rw [← le.ioTake hj]; exact h1, h2⟩
  | fl _ => cases ok
  | ro ds => obtain ⟨a, vs, e1, e2, e3⟩ := h; exact ⟨a, vs, e1, e2.mono Mo.cut, e3.mono Mo.cut⟩
theorem paired_all {α β : Type} {F F' : α → β → Prop} {p : β → Bool} (hm : ∀ a b, p b = true → F a b → F' a b) : ∀ {l₁ : List α} {l₂ : List β}, Paired F l₁ l₂ → l₂.all p = true → Paired F' l₁ l₂
  | _, _, .nil, _ => .nil
  | _, _, .cons h t, e => by
    rw [List.all_cons, Bool.and_eq_true] at e
    exact .cons (hm _ _ e.1 h) (paired_all hm t e.2)
theorem RelM.cut (R : RelM K G m) (R' : RelM K G' m') (le : Le G G') (hc : clM m.length m' = true) : RelM K (G'.cut G kp) (m'.take m.length) := by
  have hn : G.io.length = m.length := R.len
  have hl : m.length ≤ m'.length := by
    obtain ⟨κ, e, _⟩ := le.io
    rw [← R'.len, e, List.length_append, hn]; omega
  have hcl : ∀ i o, (m'.take m.length)[i]? = some o → okO m.length o = true := fun i o e => List.all_eq_true.mp hc o (List.mem_of_getElem? e)
  refine ⟨fun i o e => by
      rw [List.length_take, Nat.min_eq_left hl]
      exact hcl i o e, by show G.io.length = _; rw [List.length_take, hn]; omega, R.nd, fun a z => R'.lt a (mem_cut.mp z).1, fun a z => fun e => R.it a z (le.tr a e), fun i a ob e1 e2 => ?_⟩
  have e1 : G.io[i]? = some a := e1
  have hi : i < G.io.length := (List.getElem?_eq_some_iff.mp e1).1
  have hok : okO m.length ob = true := hcl i ob e2
  rw [List.getElem?_take_of_lt (by omega)] at e2
  have q := R'.ob i a ob (by rw [le.ioTake hi]; exact e1) e2
  have lv' : a ∈ G'.lv → a ∈ (G'.cut G kp).lv := fun z => mem_cut.mpr ⟨z, .inl (by
    rcases le.lv a z with y | y
    · exact y
    · exact absurd y (R.it a (List.mem_of_getElem? e1)))⟩
  cases ob with
  | lst ds => obtain ⟨z1, vs, z2, r⟩ := q; exact ⟨lv' z1, vs, z2, r.mono Mo.cut⟩
  | fz ds => obtain ⟨z1, vs, z2, r⟩ := q; exact ⟨fun z => z1 (mem_cut.mp z).1, vs, z2, r.mono Mo.cut⟩
  | dct kvs =>
    obtain ⟨z1, ks, z2, r⟩ := q
    exact ⟨lv' z1, ks, z2, paired_all (fun a b hb z => ⟨z.1, z.2.cut le (by rw [hn]; exact hb)⟩) r hok⟩
  | lsw ws =>
    obtain ⟨z1, vs, z2, r⟩ := q
    exact ⟨lv' z1, vs, z2, paired_all (fun a b hb z => z.cut le (by rw [hn]; exact hb)) r hok⟩
theorem finM_ok {Q : VK} {E : XK} {w : W} {v : V} (R : RelM K G m) (R' : RelM K G' m') (le : Le G G') (r : RepR K G.H G' v w) (h : CPost K mg G (finM m.length w m') Q E) : Q v G'.H := by
  unfold finM at h
  by_cases hc : clM m.length m' = true
  · rw [if_pos hc] at h
    have hn : G.io.length = m.length := R.len
    cases w with
    | d x => exact h v (G'.cut G none) le.cut (R.cut R' le hc) (Rep.mono Mo.cut r)
    | ro ds => exact h v (G'.cut G none) le.cut (R.cut R' le hc) (by obtain ⟨a, vs, e1, e2, e3⟩ := r; exact ⟨a, vs, e1, e2.mono Mo.cut, e3.mono Mo.cut⟩)
    | fl ds =>
      obtain ⟨p, vs, rfl, h0, h1, h2, h3, r⟩ := r
      refine h (.ref p) (G'.cut G (some p)) le.cut (R.cut R' le hc) ⟨p, vs, rfl, h0, fun z => R.it p z h0, mem_cut.mpr ⟨h2, .inr rfl⟩, h3, r.mono Mo.cut⟩
    | obj j =>
      obtain ⟨a, h1, rfl⟩ := r
      simp only at h
      by_cases hj : j < m.length
      · rw [if_pos hj] at h
        exact h (.ref a) (G'.cut G none) le.cut (R.cut R' le hc) ⟨a, by show G.io[j]? = _; rw [← le.ioTake (by omega)]; exact h1, rfl⟩
      · rw [if_neg hj] at h
        obtain ⟨κ, ek, nk⟩ := le.io
        have ha : a ∈ κ := by
          rw [ek, List.getElem?_append_right (by omega)] at h1
          exact List.mem_of_getElem? h1
        have h0 : G.H a = none := nk a ha
        cases eo : m'[j]? with
        | none => rw [eo] at h; exact False.elim h
        | some ob =>
          rw [eo] at h
          have q := R'.ob j a ob h1 eo
          cases ob with
          | lst ds =>
            obtain ⟨z1, vs, z2, r⟩ := q
            exact h (.ref a) (G'.cut G (some a)) le.cut (R.cut R' le hc) ⟨a, vs, rfl, h0, fun z => R.it a z h0, mem_cut.mpr ⟨z1, .inr rfl⟩, z2, r.mono Mo.cut⟩
          | fz ds =>
            obtain ⟨z1, vs, z2, r⟩ := q
            exact h (.ref a) (G'.cut G none) le.cut (R.cut R' le hc) (Rep.lst ⟨fun z => z1 (mem_cut.mp z).1, z2⟩ (r.mono Mo.cut))
          | dct kvs => exact False.elim h
          | lsw ws => exact False.elim h
  · rw [if_neg hc] at h
    exact False.elim h
end
/-! ### a def by its body -/
def env0 (N : Nat) (ws : List W) : Env := ws.map some ++ List.replicate (N - ws.length) none
def runF (N : Nat) (g : SF) (ws : List W) (m : Mem) : Res W := match g (env0 N ws) m with
  | .rt w m' => finM m.length w m'
  | .nx _ m' => finM m.length (.d .none) m'
  | .err e _ m' => if clM m.length m' = true then .err e (m'.take m.length) else .bad
  | _ => .bad
/-- what it made stays -/
def runA (N : Nat) (g : SF) (ws : List W) (m : Mem) : Res W := match g (env0 N ws) m with
  | .rt w m' => .ok w m'
  | .nx _ m' => .ok (.d .none) m'
  | .err e _ m' => .err e m'
  | _ => .bad
theorem Paired.get {α β : Type} {F : α → β → Prop} : ∀ {l₁ : List α} {l₂ : List β} {i : Nat} {b : β}, Paired F l₁ l₂ → l₂[i]? = some b → ∃ a, l₁[i]? = some a ∧ F a b
  | _, _, _, _, .nil, e => by simp at e
  | _, _, 0, _, .cons h t, e => by simp at e; subst e; exact ⟨_, rfl, h⟩
  | _, _, i + 1, b, .cons h t, e => by
    obtain ⟨a, h1, h2⟩ := Paired.get (i := i) (b := b) t (by simpa using e)
    exact ⟨a, by simpa using h1, h2⟩
theorem RelS.start {K : PySem.W.Frag} {G : Wd} {N : List Str} {vs : List V} {ws : List W} (h : Paired (RepW K G) vs ws) : RelS K G (L2.start N vs) (env0 N.length ws) := by
  have hl := Paired.length h
  refine ⟨by unfold L2.start env0; simp [hl], fun i w e => ?_⟩
  unfold env0 at e
  by_cases hi : i < ws.length
  · rw [List.getElem?_append_left (by simpa using hi), List.getElem?_map] at e
    cases q : ws[i]? with
    | none => rw [q] at e; cases e
    | some u =>
      rw [q] at e
      cases e
      obtain ⟨v, h1, h2⟩ := Paired.get h q
      exact ⟨v, by unfold L2.start; rw [List.getElem?_append_left (by simp [hl]; exact hi), List.getElem?_map, h1]; rfl, h2⟩
  · rw [List.getElem?_append_right (by simpa using hi), List.getElem?_replicate] at e
    split at e <;> cases e
section
variable {P : Program} {w : World} {K : PySem.W.Frag} {mg : Str → Option Value} {base : Heap}
abbrev cxM (P : Program) (w : World) (K : PySem.W.Frag) (mg : Str → Option Value) (base : Heap) (N : List Str) (qual : Str) (scope : Scope) (f : Addr) (cd : Value) (A : Around) (outer : List PySem.Env) (s : Shared) (H : Hp) (E : XK) : Cx :=
  cxOf (L2.CX P w) P w K mg base N qual scope f cd A outer s H E
theorem okF {x qual : Str} {st : Stmt} {f : Addr} {fd : FuncData} {N ps : List Str} {k : Nat} {g : SF} (F : Fun K x qual st f fd) (S : FnScope N ps (defScope st))
    (hbody : ∀ (cdv : Value) (A : Around) (outer : List PySem.Env) (s : Shared) (H : Hp) (E : XK), Room k (A.deeper (PyProof.Rows.envOfC qual (defScope st) s.heap.objs.size f cdv)) →
      MB (cxM P w K mg base N qual (defScope st) f cdv A outer s H E) (fun c d _ H' => E c d H') (defBody st) g) : FnOk P w K mg base (L2.CX P w) (k + 1) f fd ps (SpM K mg ps.length (runF N.length g)) := by
  refine F.okX S (fun vs H Q E ⟨G, ws, m, _, _, h, hl, _⟩ => (Paired.length h).trans hl) fun cdv A outer s H vs Q E hr ⟨G, ws, m, eH, R, hp, hl, hq⟩ => ?_
  subst eH
  obtain ⟨t, p, q⟩ := hbody cdv A outer s G.H E hr
  refine ⟨t, p, q (env0 N.length ws) m (L2.start N vs) G _ (RelS.start hp) R ?_⟩
  unfold runF at hq
  cases e : g (env0 N.length ws) m with
  | rt w' m' => rw [e] at hq; exact fun v G' le R' r => finM_ok R R' le r hq
  | nx e1 m' => rw [e] at hq; exact fun σ' G' le R' S' => finM_ok (w := .d .none) (v := .non) R R' le Rep.non hq
  | bk e1 m' => rw [e] at hq; exact False.elim hq
  | ct e1 m' => rw [e] at hq; exact False.elim hq
  | err x e1 m' =>
    rw [e] at hq
    intro c d σ' G' le R' S' hx
    by_cases hc : clM m.length m' = true
    rotate_left
    · dsimp only at hq
      rw [if_neg hc] at hq
      exact False.elim hq
    dsimp only at hq
    rw [if_pos hc] at hq
    refine hq c d (G'.cut G none) le.cut (R.cut R' le hc) ⟨hx.1, ?_⟩
    rcases hx.2 with z | ⟨dd, fs, z0, z1, z2, z3, z4⟩
    · exact .inl z
    · refine .inr ⟨dd, fs, z0, z1, z2, fun z => z3 ?_, Paired.mono (fun _ _ z => ⟨z.1, Rep.mono Mo.cut z.2⟩) z4⟩
      obtain ⟨κ, ek, _⟩ := le.io
      rw [ek]
      exact List.mem_append_left _ z
  | bad => rw [e] at hq; exact False.elim hq
theorem okA {x qual : Str} {st : Stmt} {f : Addr} {fd : FuncData} {N ps : List Str} {k : Nat} {g : SF} (F : Fun K x qual st f fd) (S : FnScope N ps (defScope st))
    (hbody : ∀ (cdv : Value) (A : Around) (outer : List PySem.Env) (s : Shared) (H : Hp) (E : XK), Room k (A.deeper (PyProof.Rows.envOfC qual (defScope st) s.heap.objs.size f cdv)) →
      MB (cxM P w K mg base N qual (defScope st) f cdv A outer s H E) (fun c d _ H' => E c d H') (defBody st) g) : FnOk P w K mg base (L2.CX P w) (k + 1) f fd ps (SpM K mg ps.length (runA N.length g)) := by
  refine F.okX S (fun vs H Q E ⟨G, ws, m, _, _, h, hl, _⟩ => (Paired.length h).trans hl) fun cdv A outer s H vs Q E hr ⟨G, ws, m, eH, R, hp, hl, hq⟩ => ?_
  subst eH
  obtain ⟨t, p, q⟩ := hbody cdv A outer s G.H E hr
  refine ⟨t, p, q (env0 N.length ws) m (L2.start N vs) G _ (RelS.start hp) R ?_⟩
  unfold runA at hq
  cases e : g (env0 N.length ws) m with
  | rt w' m' => rw [e] at hq; exact hq
  | nx e1 m' => rw [e] at hq; exact fun σ' G' le R' S' => hq .non G' le R' Rep.non
  | bk e1 m' => rw [e] at hq; exact False.elim hq
  | ct e1 m' => rw [e] at hq; exact False.elim hq
  | err x e1 m' => rw [e] at hq; exact fun c d σ' G' le R' S' hx => hq c d G' le R' hx
  | bad => rw [e] at hq; exact False.elim hq
/-- nothing is asked of it -/
def badF (_ : List W) (_ : Mem) : Res W := .bad
theorem okBad {f : Addr} {fd : FuncData} {ps : List Str} {k n : Nat} : FnOk P w K mg base (L2.CX P w) k f fd ps (SpM K mg n badF) := by
  have no : ∀ vs H Q E, ¬ SpM K mg n badF vs H Q E := fun vs H Q E ⟨_, _, _, _, _, _, _, h⟩ => h
  exact ⟨fun vs H Q E h => absurd h (no vs H Q E), fun A outer s H args us vs Q E _ _ _ _ h => absurd h (no vs H Q E)⟩
end
/-! ### calls of defs -/
section
variable {X : Cx} {Wx : WX}
def noFl : List W → Bool
  | [] => true
  | .fl _ :: _ => false
  | _ :: r => noFl r
theorem noFl_rep {K : PySem.W.Frag} {H0 : Hp} {G : Wd} : ∀ {vs : List V} {ws : List W}, RepRs K H0 G vs ws → noFl ws = true → Paired (RepW K G) vs ws
  | _, _, .nil, _ => .nil
  | _, .d x :: _, .cons h t, e => .cons h (noFl_rep t e)
  | _, .obj x :: _, .cons h t, e => .cons h (noFl_rep t e)
  | _, .ro x :: _, .cons h t, e => .cons h (noFl_rep t e)
  | _, .fl x :: _, .cons h t, e => by cases e
def callM (F : FF) (ws : List W) (m : Mem) : Res W := if noFl ws = true then F ws m else .bad
def eCallF (F : FF) (a : AF) (env : Env) (m : Mem) : Res W := (a env m).bind fun ws m1 => callM F ws m1
theorem callM_ok {F : FF} {σ : St} {G : Wd} {m : Mem} {vs : List V} {ws : List W} {H0 : Hp} {Q : VK} {n : Nat} (R : RelM X.K G m) (r : RepRs X.K H0 G vs ws) (hn : ws.length = n) (h : GPost X Wx σ G (RepR X.K) (callM F ws m) Q) : SpM X.K X.mg n F vs G.H Q (WE Wx σ) := by
  unfold callM at h
  by_cases hz : noFl ws = true
  · rw [if_pos hz] at h
    refine ⟨G, ws, m, rfl, R, noFl_rep r hz, hn, ?_⟩
    cases e : F ws m with
    | ok w m' => rw [e] at h; exact h
    | err x m' => rw [e] at h; exact h
    | bad => rw [e] at h; exact h
  · rw [if_neg hz] at h
    exact False.elim h
theorem me_call {k n : Nat} {f : Addr} {fd : FuncData} {ps : List Str} {x : Str} {p pos : Pos} {e : Expr} {es : List Expr} {F : FF} {g : AF} (tk : Takes X Wx) (hF : FnOk X.prog X.w X.K X.mg X.base (L2.CX X.prog X.w) k f fd ps (SpM X.K X.mg n F)) (hr : Room k X.A) (hm : X.mg x = some (.ref f)) (hk : PySem.W.keepIn X.K (.ref f) = true)
    (hb : Binds X.K fd ps []) (hg : Gl X x) (ha : MA X Wx (e :: es) g) (hn : ∀ env m ws m', g env m = .ok ws m' → ws.length = n) (hdb : (x == ("__debug__" : Str)) = false := by decide) (he : starEach (e :: es) X.env = (false, eval e X.env) :: starEach es X.env := by rfl) (hpl : (backTo pos (starEach es X.env)).any (·.1) = false := by rfl) :
    ME X Wx (.Call (.Name x p) (e :: es) [] pos) (eCallF F g) := by
  obtain ⟨t, pa, qa⟩ := ha
  refine ⟨_, pe_callS hF hr hg hm hk hb (fun σ => passAt tk σ) pa hdb he hpl, fun env m σ G Q S R h => ?_⟩
  unfold eCallF at h
  cases ew : g env m with
  | ok ws m1 =>
    have hl := hn env m ws m1 ew
    rw [ew] at h
    refine qa env m σ G _ S R ?_
    rw [ew]
    exact fun vs G1 le1 R1 q1 => callM_ok R1 q1 hl (GPost.later weakR h le1)
  | err x m1 => rw [ew] at h; refine qa env m σ G _ S R ?_; rw [ew]; exact h
  | bad => rw [ew] at h; exact False.elim h
theorem aNil_len : ∀ env m ws m', aNil env m = .ok ws m' → ws.length = 0 := fun env m ws m' h => by cases h; rfl
theorem aCons_len {f : EF} {g : AF} {n : Nat} (h : ∀ env m ws m', g env m = .ok ws m' → ws.length = n) : ∀ env m ws m', aCons f g env m = .ok ws m' → ws.length = n + 1 := fun env m ws m' e => by
  unfold aCons at e
  cases e1 : f env m with
  | ok x m1 =>
    rw [e1] at e
    simp only [Res.bind_ok] at e
    cases e2 : g env m1 with
    | ok xs m2 =>
      rw [e2] at e
      cases e
      rw [List.length_cons, h env m1 xs _ e2]
    | err _ _ => rw [e2] at e; cases e
    | bad => rw [e2] at e; cases e
  | err _ _ => rw [e1] at e; cases e
  | bad => rw [e1] at e; cases e
/-! ### methods of built-in types -/
def isTyW (T : String) (w : W) (m : Mem) : Bool :=
  match w with
  | .d (.str _) => T == "str"
  | .obj i => match m[i]? with
    | some (.dct _) => T == "dict"
    | some _ => T == "list"
    | none => false
  | w => (asL w m).isSome && T == "list"
theorem isTyW_ok {T : String} {G : Wd} {m : Mem} {v : V} {w : W} {H0 : Hp} (R : RelM X.K G m) (r : RepR X.K H0 G v w) (h : isTyW T w m = true) : tyV X.K T v G.H := by
  have lst : (asL w m).isSome = true → T = "list" → tyV X.K T v G.H := fun e eT => by
    obtain ⟨ds, e⟩ := Option.isSome_iff_exists.mp e
    obtain ⟨a, vs, rfl, h1, _⟩ := asL_sq R r e
    exact .inl ⟨eT, vs, h1⟩
  have go : ((asL w m).isSome && T == "list") = true → tyV X.K T v G.H := fun z => by
    rw [Bool.and_eq_true] at z
    exact lst z.1 (by simpa using z.2)
  cases w with
  | d x =>
    cases x with
    | str z => cases r; show T = "str"; simpa [isTyW] using h
    | _ => exact go h
  | obj i =>
    obtain ⟨a, h1, rfl⟩ := id r
    simp only [isTyW] at h
    cases e : m[i]? with
    | none => rw [e] at h; cases h
    | some o =>
      rw [e] at h
      cases o with
      | lst ds => exact lst (by simp [asL, e]) (by simpa using h)
      | fz ds => exact lst (by simp [asL, e]) (by simpa using h)
      | dct kvs =>
        obtain ⟨_, ks, h2, _⟩ := R.ob i a _ h1 e
        exact .inr (.inr (.inl ⟨by simpa using h, .inl ⟨ks, h2⟩⟩))
      | lsw ws =>
        obtain ⟨_, vs, h2, _⟩ := R.ob i a _ h1 e
        exact .inl ⟨by simpa using h, vs, SqL.of h2⟩
  | fl _ => exact go h
  | ro _ => exact go h
def MtOk (X : Cx) (Wx : WX) (r : V → List V → Hp → VK → Prop) (g : W → List W → Mem → Res W) : Prop :=
  ∀ (σ : St) (G : Wd) (m : Mem) (v : V) (x : W) (vs : List V) (ws : List W) (H0 H1 : Hp) (Q : VK), RelM X.K G m → RepR X.K H0 G v x → RepRs X.K H1 G vs ws → GPost X Wx σ G (RepR X.K) (g x ws m) Q → r v vs G.H Q
def eMt (T : String) (g : W → List W → Mem → Res W) (a : EF) (b : AF) (env : Env) (m : Mem) : Res W := (a env m).bind fun x m1 => if isTyW T x m1 = true then (b env m1).bind fun ws m2 => g x ws m2 else .bad
theorem me_bm {T id : String} {o e : Expr} {es : List Expr} {name : Str} {apos cpos : Pos} {r : V → List V → Hp → VK → Prop} {g : W → List W → Mem → Res W} {fa : EF} {fb : AF} (pa : PlainAttrs T) (slot : Slot T name id) (hty : typeOf (.builtin id) = pure (.type "method_descriptor")) (hm : MtR X id r) (hk : MtOk X Wx r g) (ho : ME X Wx o fa) (ha : MA X Wx (e :: es) fb)
    (hbase : attributeBase o name X.env (eval o X.env) = eval o X.env := by rfl)
    (hfew : ((backTo cpos (starEach (e :: es) X.env)).all (fun x => !x.1) && (backToKw cpos (keywordEach [] X.env)).all (fun x => x.1.isSome) && decide ((e :: es).length + ([] : List Keyword).length + (if ([] : List Keyword).isEmpty then 0 else 1) < 30)) = true := by rfl)
    (hline : (apos.endLine == cpos.line) = true := by rfl) (hs : starEach (e :: es) X.env = (false, eval e X.env) :: starEach es X.env := by rfl) (hplain : (backTo cpos (starEach es X.env)).any (·.1) = false := by rfl) :
    ME X Wx (.Call (.Attribute o name apos) (e :: es) [] cpos) (eMt T g fa fb) := by
  obtain ⟨ta, po, qo⟩ := ho
  obtain ⟨tb, pb, qb⟩ := ha
  refine ⟨_, pe_bm pa slot hty hm po pb hbase hfew hline hs hplain, fun env m σ G Q S R h => qo env m σ G _ S R (GPost.bind weakR h fun x m1 v G1 le1 R1 q1 h1 => ?_)⟩
  by_cases hz : isTyW T x m1 = true
  · simp only [hz, if_true] at h1
    exact ⟨isTyW_ok R1 q1 hz, qb env m1 σ G1 _ (S.mono le1) R1 (GPost.bind weakR h1 fun ws m2 vs G2 le2 R2 q2 h2 => hk σ G2 m2 v x vs ws _ _ Q R2 (q1.mono le2) q2 h2)⟩
  · simp only [hz] at h1
    exact False.elim h1
def eMt0 (T : String) (g : W → List W → Mem → Res W) (a : EF) (env : Env) (m : Mem) : Res W := (a env m).bind fun x m1 => if isTyW T x m1 = true then g x [] m1 else .bad
theorem me_bm0 {T id : String} {o : Expr} {name : Str} {apos cpos : Pos} {r : V → List V → Hp → VK → Prop} {g : W → List W → Mem → Res W} {fa : EF} (pa : PlainAttrs T) (slot : Slot T name id) (hty : typeOf (.builtin id) = pure (.type "method_descriptor")) (hm : MtR X id r) (hk : MtOk X Wx r g) (ho : ME X Wx o fa)
    (hbase : attributeBase o name X.env (eval o X.env) = eval o X.env := by rfl) (hline : (apos.endLine == cpos.line) = true := by rfl) : ME X Wx (.Call (.Attribute o name apos) [] [] cpos) (eMt0 T g fa) := by
  obtain ⟨ta, po, qo⟩ := ho
  refine ⟨_, pe_bm0 pa slot hty hm po hbase hline, fun env m σ G Q S R h => qo env m σ G _ S R (GPost.bind weakR h fun x m1 v G1 le1 R1 q1 h1 => ?_)⟩
  by_cases hz : isTyW T x m1 = true
  · simp only [hz, if_true] at h1
    exact ⟨isTyW_ok R1 q1 hz, hk σ G1 m1 v x [] [] _ G1.H Q R1 q1 .nil h1⟩
  · simp only [hz] at h1
    exact False.elim h1
end
end M

set_option Elab.async false
set_option linter.all false
set_option maxRecDepth 100000
namespace M
open PySem L2
section
variable {X : Cx} {Wx : WX}
/-! ### built-in functions -/
def lenW (ws : List W) (m : Mem) : Res W := match ws with
  | [.d (.str z)] => if z.length ≤ sizeLine then .ok (.d (.int (z.length : Int))) m else .bad
  | [.d (.tuple ds)] => .ok (.d (.int (ds.length : Int))) m
  | [w] => match asL w m with
    | some ds => .ok (.d (.int (ds.length : Int))) m
    | none => .bad
  | _ => .bad
theorem lenW_ok : CallOk X Wx (fun xs H Q => ∃ x n, xs = [x] ∧ LenV X.K x H n ∧ Q (.int n) H) lenW := by
  intro σ G m vs ws H0 Q R r h
  unfold lenW at h
  split at h
  · rename_i z
    obtain ⟨v, rfl, r0⟩ := paired1 r
    cases r0
    split at h
    · rename_i hz
      exact ⟨_, z.length, rfl, (show _ ∧ _ from ⟨hz, rfl⟩), finD R h (.int _)⟩
    · exact False.elim h
  · rename_i ds
    obtain ⟨v, rfl, r0⟩ := paired1 r
    cases r0 with
    | tup t r => exact ⟨_, _, rfl, .inr ⟨_, t.sq, r.length.symm⟩, finD R h (.int _)⟩
  · rename_i w _ _
    obtain ⟨v, rfl, r0⟩ := paired1 r
    cases e : asL w m with
    | none => simp only [e] at h; exact False.elim h
    | some ds =>
      simp only [e] at h
      obtain ⟨a, us, rfl, h1, r1⟩ := asL_sq R r0 e
      exact ⟨_, _, rfl, .inl ⟨us, h1, r1.length.symm⟩, finD R h (.int _)⟩
  · exact False.elim h
def intW1 (ws : List W) (m : Mem) : Res W := match ws with
  | [.d (.int i)] => .ok (.d (.int i)) m
  | [.d (.bool b)] => .ok (.d (.int (if b then 1 else 0))) m
  | _ => .bad
theorem intW1_ok : CallOk X Wx (fun xs H Q => (∃ i, xs = [.int i] ∧ Q (.int i) H) ∨ ∃ k, xs = [.bl k] ∧ Q (.int (if k then 1 else 0)) H) intW1 := by
  intro σ G m vs ws H0 Q R r h
  unfold intW1 at h
  split at h
  · obtain ⟨v, rfl, r0⟩ := paired1 r
    cases r0
    exact .inl ⟨_, rfl, finD R h (.int _)⟩
  · obtain ⟨v, rfl, r0⟩ := paired1 r
    cases r0
    exact .inr ⟨_, rfl, finD R h (.int _)⟩
  · exact False.elim h
def strW1 (ws : List W) (m : Mem) : Res W := match ws with
  | [.d (.int i)] => if i.natAbs.log2 < 1920 then .ok (.d (.str (Str.ofString (toString i)))) m else .bad
  | _ => .bad
theorem strW1_ok : CallOk X Wx (fun xs H Q => ∃ i, xs = [.int i] ∧ i.natAbs.log2 < 1920 ∧ Q (.str (toString i)) H) strW1 := by
  intro σ G m vs ws H0 Q R r h
  unfold strW1 at h
  split at h
  · obtain ⟨v, rfl, r0⟩ := paired1 r
    cases r0
    split at h
    · rename_i hz
      exact ⟨_, rfl, hz, finD R h (.str _)⟩
    · exact False.elim h
  · exact False.elim h
def dInts : List D → Option (List Int)
  | [] => some []
  | .int i :: r => (dInts r).map (i :: ·)
  | _ :: _ => none
theorem dInts_map : ∀ {ds : List D} {ns : List Int}, dInts ds = some ns → ds = ns.map PyData.int
  | [], ns, e => by cases e; rfl
  | .int i :: r, ns, e => by
    simp only [dInts] at e
    cases q : dInts r with
    | none => rw [q] at e; cases e
    | some es => rw [q] at e; cases e; rw [dInts_map q]; rfl
  | .none :: _, _, e => by cases e
  | .bool _ :: _, _, e => by cases e
  | .str _ :: _, _, e => by cases e
  | .list _ :: _, _, e => by cases e
  | .tuple _ :: _, _, e => by cases e
  | .dict _ :: _, _, e => by cases e
@[simp] theorem dInts_ints : ∀ ns : List Int, dInts (ns.map PyData.int) = some ns
  | [] => rfl
  | n :: ns => by simp only [List.map_cons, dInts, dInts_ints ns]; rfl
def dBools : List D → Option (List Bool)
  | [] => some []
  | .bool i :: r => (dBools r).map (i :: ·)
  | _ :: _ => none
theorem dBools_map : ∀ {ds : List D} {ns : List Bool}, dBools ds = some ns → ds = ns.map PyData.bool
  | [], ns, e => by cases e; rfl
  | .bool i :: r, ns, e => by
    simp only [dBools] at e
    cases q : dBools r with
    | none => rw [q] at e; cases e
    | some es => rw [q] at e; cases e; rw [dBools_map q]; rfl
  | .none :: _, _, e => by cases e
  | .int _ :: _, _, e => by cases e
  | .str _ :: _, _, e => by cases e
  | .list _ :: _, _, e => by cases e
  | .tuple _ :: _, _, e => by cases e
  | .dict _ :: _, _, e => by cases e
@[simp] theorem dBools_bools : ∀ ns : List Bool, dBools (ns.map PyData.bool) = some ns
  | [] => rfl
  | n :: ns => by simp only [List.map_cons, dBools, dBools_bools ns]; rfl
def dStrs : List D → Option (List Str)
  | [] => some []
  | .str i :: r => (dStrs r).map (i :: ·)
  | _ :: _ => none
theorem dStrs_map : ∀ {ds : List D} {ns : List Str}, dStrs ds = some ns → ds = ns.map PyData.str
  | [], ns, e => by cases e; rfl
  | .str i :: r, ns, e => by
    simp only [dStrs] at e
    cases q : dStrs r with
    | none => rw [q] at e; cases e
    | some es => rw [q] at e; cases e; rw [dStrs_map q]; rfl
  | .none :: _, _, e => by cases e
  | .int _ :: _, _, e => by cases e
  | .bool _ :: _, _, e => by cases e
  | .list _ :: _, _, e => by cases e
  | .tuple _ :: _, _, e => by cases e
  | .dict _ :: _, _, e => by cases e
@[simp] theorem dStrs_strs : ∀ ns : List Str, dStrs (ns.map PyData.str) = some ns
  | [] => rfl
  | n :: ns => by simp only [List.map_cons, dStrs, dStrs_strs ns]; rfl
def lst1 {α : Type} (g : List D → Option α) (k : α → D) (ws : List W) (m : Mem) : Res W := match ws with
  | [w] => match (asL w m).bind g with
    | some ns => .ok (.d (k ns)) m
    | none => .bad
  | _ => .bad
theorem lst1_get {α : Type} {g : List D → Option α} {k : α → D} {σ : St} {G : Wd} {m : Mem} {vs : List V} {ws : List W} {H0 : Hp} {Q : VK} (R : RelM X.K G m) (r : RepRs X.K H0 G vs ws) (h : GPost X Wx σ G (RepR X.K) (lst1 g k ws m) Q) :
    ∃ a us ds ns, vs = [.ref a] ∧ SqL X.K G.H a us ∧ Reps X.K G.lv G.H us ds ∧ g ds = some ns ∧ GPost X Wx σ G (RepR X.K) (.ok (.d (k ns)) m) Q := by
  unfold lst1 at h
  split at h
  · rename_i w
    obtain ⟨v, rfl, r0⟩ := paired1 r
    cases e : asL w m with
    | none => simp only [e, Option.bind_none] at h; exact False.elim h
    | some ds =>
      simp only [e, Option.bind_some] at h
      obtain ⟨a, us, rfl, h1, r1⟩ := asL_sq R r0 e
      cases eg : g ds with
      | none => simp only [eg] at h; exact False.elim h
      | some ns => simp only [eg] at h; exact ⟨a, us, ds, ns, rfl, h1, r1, eg, h⟩
  · exact False.elim h
def sumW := lst1 dInts fun ns => .int ns.sum
theorem sumW_ok : CallOk X Wx (rSum X.K) sumW := by
  intro σ G m vs ws H0 Q R r h
  obtain ⟨a, us, ds, ns, rfl, h1, r1, eg, h⟩ := lst1_get R r h
  rw [dInts_map eg] at r1
  rw [r1.vints] at h1
  exact ⟨a, ns, rfl, h1, finD R h (.int _)⟩
def allW := lst1 dBools fun ns => .bool (ns.all id)
theorem allW_ok : CallOk X Wx (rAll X.K) allW := by
  intro σ G m vs ws H0 Q R r h
  obtain ⟨a, us, ds, ns, rfl, h1, r1, eg, h⟩ := lst1_get R r h
  rw [dBools_map eg] at r1
  rw [r1.vbls] at h1
  exact ⟨a, ns, rfl, h1, finD R h (.bl _)⟩
def anyW := lst1 dBools fun ns => .bool (ns.any id)
theorem anyW_ok : CallOk X Wx (rAny X.K) anyW := by
  intro σ G m vs ws H0 Q R r h
  obtain ⟨a, us, ds, ns, rfl, h1, r1, eg, h⟩ := lst1_get R r h
  rw [dBools_map eg] at r1
  rw [r1.vbls] at h1
  exact ⟨a, ns, rfl, h1, finD R h (.bl _)⟩
def listW (ws : List W) (m : Mem) : Res W := match ws with
  | [.d (.tuple ds)] => .ok (.fl ds) m
  | [w] => match asL w m with
    | some ds => .ok (.fl ds) m
    | none => .bad
  | _ => .bad
theorem listW_ok : CallOk X Wx (fun xs H Q => ∃ p ys, xs = [.ref p] ∧ (SqL X.K H p ys ∨ SqT X.K H p ys) ∧ ∀ l, H l = none → Q (.ref l) (upd H l (.lst ys))) listW := by
  intro σ G m vs ws H0 Q R r h
  unfold listW at h
  split at h
  · obtain ⟨v, rfl, r0⟩ := paired1 r
    cases r0 with
    | tup t r => exact ⟨_, _, rfl, .inr t.sq, fun l hl => finL R h r hl⟩
  · rename_i w _
    obtain ⟨v, rfl, r0⟩ := paired1 r
    cases e : asL w m with
    | none => simp only [e] at h; exact False.elim h
    | some ds =>
      simp only [e] at h
      obtain ⟨a, us, rfl, h1, r1⟩ := asL_sq R r0 e
      exact ⟨a, us, rfl, .inl h1, fun l hl => finL R h r1 hl⟩
  · exact False.elim h
def tupleW (ws : List W) (m : Mem) : Res W := match ws with
  | [.d (.tuple ds)] => .ok (.d (.tuple ds)) m
  | [w] => match asL w m with
    | some ds => .ok (.d (.tuple ds)) m
    | none => .bad
  | _ => .bad
theorem tupleW_ok : CallOk X Wx (fun xs H Q => ∃ p ys, xs = [.ref p] ∧ ((SqL X.K H p ys ∧ ∀ l, H l = none → Q (.ref l) (upd H l (.tup ys))) ∨ (SqT X.K H p ys ∧ Q (.ref p) H))) tupleW := by
  intro σ G m vs ws H0 Q R r h
  unfold tupleW at h
  split at h
  · obtain ⟨v, rfl, r0⟩ := paired1 r
    cases r0 with
    | tup t r => exact ⟨_, _, rfl, .inr ⟨t.sq, finD R h (.tup t r)⟩⟩
  · rename_i w _
    obtain ⟨v, rfl, r0⟩ := paired1 r
    cases e : asL w m with
    | none => simp only [e] at h; exact False.elim h
    | some ds =>
      simp only [e] at h
      obtain ⟨a, us, rfl, h1, r1⟩ := asL_sq R r0 e
      exact ⟨a, us, rfl, .inl ⟨h1, fun l hl => finT R h r1 hl⟩⟩
  · exact False.elim h
/-! ### isinstance -/
inductive Tk where
  | non | bl | int | str | lst | tup | dct
def Tk.name : Tk → String
  | .non => "NoneType"
  | .bl => "bool"
  | .int => "int"
  | .str => "str"
  | .lst => "list"
  | .tup => "tuple"
  | .dct => "dict"
def Tk.sub : Tk → Tk → Bool
  | .non, .non => true
  | .bl, .bl => true
  | .bl, .int => true
  | .int, .int => true
  | .str, .str => true
  | .lst, .lst => true
  | .tup, .tup => true
  | .dct, .dct => true
  | _, _ => false
theorem Tk.kit : ∀ a b : Tk, kitB a.name b.name = some (a.sub b) := by
  intro a b
  cases a <;> cases b <;> decide +kernel
def tyW (w : W) (m : Mem) : Option Tk := match w with
  | .d .none => some .non
  | .d (.bool _) => some .bl
  | .d (.int _) => some .int
  | .d (.str _) => some .str
  | .d (.list _) => some .lst
  | .d (.tuple _) => some .tup
  | .fl _ => some .lst
  | .ro _ => some .lst
  | .obj i => match m[i]? with
    | some (.lst _) => some .lst
    | some (.fz _) => some .lst
    | some (.dct _) => some .dct
    | some (.lsw _) => some .lst
    | none => none
  | _ => none
theorem SqL.tyx {K : PySem.W.Frag} {H : Hp} {a : Addr} {vs : List V} (h : SqL K H a vs) : TyX K H (.ref a) (.type "list") := by
  rcases h with (h | ⟨o, h⟩) | ⟨o, its, n, h1, h2, _⟩
  · exact .base (.lst h)
  · exact .base (.frz h)
  · exact .kList h1 h2
theorem tyW_ok {G : Wd} {m : Mem} {v : V} {w : W} {H0 : Hp} {t : Tk} (R : RelM X.K G m) (r : RepR X.K H0 G v w) (e : tyW w m = some t) : TyX X.K G.H v (.type t.name) := by
  cases w with
  | d x =>
    cases x with
    | none => cases r; cases e; exact .base .non
    | bool b => cases r; cases e; exact .base (.bl _)
    | int b => cases r; cases e; exact .base (.int _)
    | str b => cases r; cases e; exact .base (.str _)
    | list ds =>
      cases e
      cases r with
      | lst t r => exact .base (.lst t.2)
    | tuple ds =>
      cases e
      cases r with
      | tup t r =>
        rcases t with t | ⟨o, its, n, h1, h2, _⟩
        · exact .base (.tup t.2)
        · exact .kTuple h1 h2
    | dict _ => cases e
  | fl ds => cases e; obtain ⟨p, vs, rfl, _, _, _, h3, _⟩ := r; exact .base (.lst h3)
  | ro ds => cases e; obtain ⟨p, vs, rfl, h1, _⟩ := r; exact SqL.tyx h1.sq
  | obj i =>
    obtain ⟨a, h1, rfl⟩ := r
    simp only [tyW] at e
    cases eo : m[i]? with
    | none => rw [eo] at e; cases e
    | some o =>
      rw [eo] at e
      have q := R.ob i a o h1 eo
      cases o with
      | lst ds => cases e; obtain ⟨_, vs, h3, _⟩ := q; exact .base (.lst h3)
      | fz ds => cases e; obtain ⟨_, vs, h3, _⟩ := q; exact .base (.lst h3)
      | dct ds => cases e; obtain ⟨_, vs, h3, _⟩ := q; exact .base (.dK h3)
      | lsw ws => cases e; obtain ⟨_, vs, h3, _⟩ := q; exact .base (.lst h3)
def eIsi (ts : List Tk) (f : EF) (env : Env) (m : Mem) : Res W := (f env m).bind fun w m1 => match tyW w m1 with
  | some t => .ok (.d (.bool (ts.any fun u => t.sub u))) m1
  | none => .bad
theorem me_isi (t : Tk) {e : Expr} {f : EF} {x : Str} {p p' pos : Pos} (hg : Gl X "isinstance") (hm : X.mg "isinstance" = none) (hgT : Gl X x) (hmT : X.mg x = none) (he : ME X Wx e f) (hx : bootBuiltins x = some (.type t.name) := by decide +kernel)
    (hn : x ≠ "__name__" := by decide) (hd : (x == ("__debug__" : Str)) = false := by decide)
    (h1 : starEach [e, .Name x p'] X.env = (false, eval e X.env) :: starEach [.Name x p'] X.env := by rfl) (hpl : (backTo pos (starEach [.Name x p'] X.env)).any (·.1) = false := by rfl) (h2 : starEach [.Name x p'] X.env = (false, eval (.Name x p') X.env) :: starEach [] X.env := by rfl) :
    ME X Wx (.Call (.Name "isinstance" p) [e, .Name x p'] [] pos) (eIsi [t] f) := by
  obtain ⟨te, pe, qe⟩ := he
  refine ⟨_, pe_callB call_isi hg hm (by decide +kernel) (pa_cons pe (pa_cons (pe_bltn (v := .ty t.name) hgT hmT hx rfl hn hd) pa_nil h2) h1) (by decide) (by decide) h1 hpl, fun env m σ G Q S R h => qe env m σ G _ S R (GPost.bind weakR h fun w m1 v G1 le1 R1 q1 h1 => ?_)⟩
  cases e : tyW w m1 with
  | none => simp only [e] at h1; exact False.elim h1
  | some t' =>
    simp only [e] at h1
    refine ⟨v, .ty t.name, .type t'.name, .type t.name, t'.sub t, rfl, .ty _, tyW_ok R1 q1 e, kit_ty (Tk.kit _ _), ?_⟩
    have h1 : GPost X Wx σ G1 (RepR X.K) (.ok (.d (.bool (t'.sub t || false))) m1) Q := h1
    rw [Bool.or_false] at h1
    exact finD R1 h1 (.bl _)
/-- isinstance(x, (A, B)) -/
theorem me_isi2 (t u : Tk) {e : Expr} {f : EF} {x y : Str} {p p1 p2 p3 pos : Pos} {x1} (hg : Gl X "isinstance") (hm : X.mg "isinstance" = none) (hgT : Gl X x) (hmT : X.mg x = none) (hgU : Gl X y) (hmU : X.mg y = none) (he : ME X Wx e f) (hx : bootBuiltins x = some (.type t.name) := by decide +kernel)
    (hy : bootBuiltins y = some (.type u.name) := by decide +kernel) (hn : x ≠ "__name__" := by decide) (hd : (x == ("__debug__" : Str)) = false := by decide) (hn' : y ≠ "__name__" := by decide) (hd' : (y == ("__debug__" : Str)) = false := by decide)
    (h1 : starEach [e, .Tuple [.Name x p1, .Name y p2] x1 p3] X.env = (false, eval e X.env) :: starEach [.Tuple [.Name x p1, .Name y p2] x1 p3] X.env := by rfl) (hpl : (backTo pos (starEach [.Tuple [.Name x p1, .Name y p2] x1 p3] X.env)).any (·.1) = false := by rfl)
    (h2 : starEach [.Tuple [.Name x p1, .Name y p2] x1 p3] X.env = (false, eval (.Tuple [.Name x p1, .Name y p2] x1 p3) X.env) :: starEach [] X.env := by rfl)
    (h3 : starEach [.Name x p1, .Name y p2] X.env = (false, eval (.Name x p1) X.env) :: starEach [.Name y p2] X.env := by rfl) (h4 : starEach [.Name y p2] X.env = (false, eval (.Name y p2) X.env) :: starEach [] X.env := by rfl) :
    ME X Wx (.Call (.Name "isinstance" p) [e, .Tuple [.Name x p1, .Name y p2] x1 p3] [] pos) (eIsi [t, u] f) := by
  obtain ⟨te, pe, qe⟩ := he
  refine ⟨_, pe_callB call_isiT hg hm (by decide +kernel) (pa_cons pe (pa_cons (pe_tup (pa_cons (pe_bltn (v := .ty t.name) hgT hmT hx rfl hn hd) (pa_cons (pe_bltn (v := .ty u.name) hgU hmU hy rfl hn' hd') pa_nil h4) h3)) pa_nil h2) h1) (by decide) (by decide) h1 hpl, fun env m σ G Q S R h => qe env m σ G _ S R (GPost.bind weakR h fun w m1 v G1 le1 R1 q1 h1 => ?_)⟩
  refine ⟨by show 2 ≤ sizeLine; decide, fun l hl => ?_⟩
  cases e : tyW w m1 with
  | none => simp only [e] at h1; exact False.elim h1
  | some t' =>
    simp only [e] at h1
    have le2 : Le G1 ⟨G1.io, G1.lv, upd G1.H l (.tup [.ty t.name, .ty u.name])⟩ := Le.new R1 hl
    have R2 := R1.new (o := .tup [.ty t.name, .ty u.name]) hl
    have h2 := GPost.later weakR h1 le2
    refine ⟨v, l, [.ty t.name, .ty u.name], .type t'.name, [.type t.name, .type u.name], t'.sub t || t'.sub u, rfl, upd_same, .cons (.ty _) (.cons (.ty _) .nil), tyW_ok R2 (q1.mono le2) e, ?_, ?_⟩
    · refine kitAny_cons (b := t'.sub t) (kit_ty (Tk.kit _ _)) (fun hb => kitAny_cons (b := t'.sub u) (kit_ty (Tk.kit _ _)) (fun hb' => ?_) (fun hb' => ?_)) (fun hb => ?_)
      · rw [hb, hb']; exact kitAny_nil
      · rw [hb']; simp
      · rw [hb]; simp
    · have h2 : GPost X Wx σ ⟨G1.io, G1.lv, upd G1.H l (.tup [.ty t.name, .ty u.name])⟩ (RepR X.K) (.ok (.d (.bool (t'.sub t || (t'.sub u || false)))) m1) Q := h2
      rw [Bool.or_false] at h2
      exact finD R2 h2 (.bl _)
/-! ### methods of lists -/
theorem obj_mut {i : Nat} {ds es : List D} {σ : St} {G : Wd} {m : Mem} {Q : VK} {v : V} {vs us : List V} {x : D} (R : RelM X.K G m) (h1 : G.io[i]? = some a) (hl : a ∈ G.lv) (r : Reps X.K G.lv G.H us es) (rx : Rep X.K G.lv G.H v x) (h : GPost X Wx σ G (RepR X.K) (.ok (.d x) (m.set i (.lst es))) Q) : Q v (upd G.H a (.lst us)) := by
  have le : Le G ⟨G.io, G.lv, upd G.H a (.lst us)⟩ := Le.mut R h1 hl
  exact h v _ le (R.mut h1 hl ⟨hl, us, upd_same, r.mono le.mo⟩ rfl) (Rep.mono le.mo rx)
/-- an object that is a list -/
def asO (w : W) (m : Mem) : Option (Nat × List D) := match w with
  | .obj i => match m[i]? with
    | some (.lst ds) => some (i, ds)
    | _ => none
  | _ => none
theorem asO_get {G : Wd} {m : Mem} {v : V} {w : W} {H0 : Hp} {i : Nat} {ds : List D} (R : RelM X.K G m) (r : RepR X.K H0 G v w) (e : asO w m = some (i, ds)) : ∃ a vs, v = .ref a ∧ G.io[i]? = some a ∧ a ∈ G.lv ∧ G.H a = some (.lst vs) ∧ Reps X.K G.lv G.H vs ds := by
  cases w with
  | obj j =>
    obtain ⟨a, h1, rfl⟩ := r
    simp only [asO] at e
    cases eo : m[j]? with
    | none => rw [eo] at e; cases e
    | some o =>
      rw [eo] at e
      cases o with
      | lst es => cases e; obtain ⟨h2, vs, h3, h4⟩ := R.ob _ a _ h1 eo; exact ⟨a, vs, rfl, h1, h2, h3, h4⟩
      | fz es => cases e
      | dct es => cases e
      | lsw es => cases e
  | _ => cases e
def appendW (x : W) (ws : List W) (m : Mem) : Res W := match asO x m, ws with
  | some (i, ds), [.d y] => if ds.length < sizeLine then .ok (.d .none) (m.set i (.lst (ds ++ [y]))) else .bad
  | _, _ => .bad
theorem appendW_ok : MtOk X Wx rAppend appendW := by
  intro σ G m v x vs ws H0 H1 Q R rx rs h
  unfold appendW at h
  split at h
  · rename_i i ds y e
    obtain ⟨a, us, rfl, h1, h2, h3, h4⟩ := asO_get R rx e
    obtain ⟨u, rfl, ru⟩ := paired1 rs
    split at h
    · rename_i hz
      exact ⟨a, us, u, rfl, rfl, h3, by rw [h4.length]; exact hz, obj_mut (a := a) (ds := ds) (vs := us) R h1 h2 (h4.append (.one ru)) .non h⟩
    · exact False.elim h
  · exact False.elim h
def popW (x : W) (ws : List W) (m : Mem) : Res W := match asO x m, ws with
  | some (i, ds), [] => match ds[ds.length - 1]? with
    | some y => .ok (.d y) (m.set i (.lst ds.dropLast))
    | none => .bad
  | _, _ => .bad
theorem popW_ok : MtOk X Wx rPop popW := by
  intro σ G m v x vs ws H0 H1 Q R rx rs h
  unfold popW at h
  split at h
  · rename_i i ds e
    obtain ⟨a, us, rfl, h1, h2, h3, h4⟩ := asO_get R rx e
    cases rs
    cases ey : ds[ds.length - 1]? with
    | none => simp only [ey] at h; exact False.elim h
    | some y =>
      simp only [ey] at h
      obtain ⟨u, g1, g2⟩ := h4.get ey
      exact ⟨a, us, u, rfl, rfl, h3, by rw [h4.length]; exact g1, obj_mut (a := a) (ds := ds) (vs := us) R h1 h2 h4.dropLast g2 h⟩
  · exact False.elim h
noncomputable def popAtW (x : W) (ws : List W) (m : Mem) : Res W := match asO x m, ws with
  | some (i, ds), [.d (.int k)] => if grd (-(2 ^ 63) ≤ k ∧ k < 2 ^ 63) = true then (match seqIndex? k ds.length with
    | some j => match ds[j]? with
      | some y => .ok (.d y) (m.set i (.lst (ds.eraseIdx j)))
      | none => .bad
    | none => .bad) else .bad
  | _, _ => .bad
theorem popAtW_ok : MtOk X Wx rPopAt popAtW := by
  intro σ G m v x vs ws H0 H1 Q R rx rs h
  unfold popAtW at h
  split at h
  · rename_i i ds k e
    obtain ⟨a, us, rfl, h1, h2, h3, h4⟩ := asO_get R rx e
    obtain ⟨u, rfl, ru⟩ := paired1 rs
    cases ru
    split at h
    · rename_i hz
      have hz := grd_iff.mp hz
      cases ej : seqIndex? k ds.length with
      | none => simp only [ej] at h; exact False.elim h
      | some j =>
        simp only [ej] at h
        cases ey : ds[j]? with
        | none => simp only [ey] at h; exact False.elim h
        | some y =>
          simp only [ey] at h
          obtain ⟨u, g1, g2⟩ := h4.get ey
          exact ⟨a, us, k, j, u, rfl, rfl, h3, hz.1, hz.2, by rw [h4.length]; exact ej, g1, obj_mut (a := a) (ds := ds) (vs := us) R h1 h2 (h4.eraseIdx j) g2 h⟩
    · exact False.elim h
  · exact False.elim h
def clearW (x : W) (ws : List W) (m : Mem) : Res W := match asO x m, ws with
  | some (i, _), [] => .ok (.d .none) (m.set i (.lst []))
  | _, _ => .bad
theorem clearW_ok : MtOk X Wx rClear clearW := by
  intro σ G m v x vs ws H0 H1 Q R rx rs h
  unfold clearW at h
  split at h
  · rename_i i ds e
    obtain ⟨a, us, rfl, h1, h2, h3, h4⟩ := asO_get R rx e
    cases rs
    exact ⟨a, us, rfl, rfl, h3, obj_mut (a := a) (ds := ds) (vs := us) R h1 h2 .nil .non h⟩
  · exact False.elim h
def extendW (x : W) (ws : List W) (m : Mem) : Res W := match asO x m, ws with
  | some (i, ds), [w] => match asT w m with
    | some es => if ds.length + es.length ≤ sizeLine then .ok (.d .none) (m.set i (.lst (ds ++ es))) else .bad
    | none => .bad
  | _, _ => .bad
theorem extendW_ok : MtOk X Wx rExtend extendW := by
  intro σ G m v x vs ws H0 H1 Q R rx rs h
  unfold extendW at h
  split at h
  · rename_i i ds w e
    obtain ⟨a, us, rfl, h1, h2, h3, h4⟩ := asO_get R rx e
    obtain ⟨u, rfl, ru⟩ := paired1 rs
    cases ew : asT w m with
    | none => simp only [ew] at h; exact False.elim h
    | some es =>
      simp only [ew] at h
      obtain ⟨b, ws, rfl, g1, g2⟩ := asT_sq R ru ew
      split at h
      · rename_i hz
        exact ⟨a, b, us, ws, rfl, rfl, h3, g1, by rw [h4.length, g2.length]; exact hz, obj_mut (a := a) (ds := ds) (vs := us) R h1 h2 (h4.append g2) .non h⟩
      · exact False.elim h
  · exact False.elim h
/-! ### methods of texts -/
def joinW (x : W) (ws : List W) (m : Mem) : Res W := match x, ws with
  | .d (.str a), [w] => match (match w with | .d (.tuple ds) => some ds | w => asL w m).bind dStrs with
    | some ys => if (ys.map (·.length)).sum + ys.length * a.length ≤ 16777216 then .ok (.d (.str (Txt.join a ys))) m else .bad
    | none => .bad
  | _, _ => .bad
theorem joinW_ok : MtOk X Wx (fun x xs H Q => ∃ a p, ∃ ys : List Str, x = .str a ∧ xs = [.ref p] ∧ (SqL X.K H p (ys.map V.str) ∨ SqT X.K H p (ys.map V.str)) ∧ (ys.map (·.length)).sum + ys.length * a.length ≤ 16777216 ∧ Q (.str (Txt.join a ys)) H) joinW := by
  intro σ G m v x vs ws H0 H1 Q R rx rs h
  unfold joinW at h
  split at h
  · rename_i a w
    cases rx
    obtain ⟨u, rfl, ru⟩ := paired1 rs
    have go : ∀ (ds : List D) (p : Addr) (us : List V), (SqL X.K G.H p us ∨ SqT X.K G.H p us) → Reps X.K G.lv G.H us ds → u = .ref p → GPost X Wx σ G (RepR X.K) (match dStrs ds with | some ys => if (ys.map (·.length)).sum + ys.length * a.length ≤ 16777216 then .ok (.d (.str (Txt.join a ys))) m else .bad | none => .bad) Q →
        ∃ a' p, ∃ ys : List Str, V.str a = .str a' ∧ [u] = [.ref p] ∧ (SqL X.K G.H p (ys.map V.str) ∨ SqT X.K G.H p (ys.map V.str)) ∧ (ys.map (·.length)).sum + ys.length * a'.length ≤ 16777216 ∧ Q (.str (Txt.join a' ys)) G.H := fun ds p us h1 r1 e h => by
      cases es : dStrs ds with
      | none => rw [es] at h; exact False.elim h
      | some ys =>
        simp only [es] at h
        rw [dStrs_map es] at r1
        rw [r1.vstrs] at h1
        split at h
        · rename_i hz
          exact ⟨a, p, ys, rfl, by rw [e], h1, hz, finD R h (.str _)⟩
        · exact False.elim h
    have lst : GPost X Wx σ G (RepR X.K) (match (asL w m).bind dStrs with | some ys => if (ys.map (·.length)).sum + ys.length * a.length ≤ 16777216 then .ok (.d (.str (Txt.join a ys))) m else .bad | none => .bad) Q →
        ∃ a' p, ∃ ys : List Str, V.str a = .str a' ∧ [u] = [.ref p] ∧ (SqL X.K G.H p (ys.map V.str) ∨ SqT X.K G.H p (ys.map V.str)) ∧ (ys.map (·.length)).sum + ys.length * a'.length ≤ 16777216 ∧ Q (.str (Txt.join a' ys)) G.H := fun h => by
      cases e : asL w m with
      | none => rw [e] at h; exact False.elim h
      | some ds =>
        rw [e] at h
        obtain ⟨p, us, e1, h1, r1⟩ := asL_sq R ru e
        exact go ds p us (.inl h1) r1 e1 h
    cases w with
    | d x =>
      cases x with
      | tuple ds =>
        cases ru with
        | tup t r => exact go ds _ _ (.inr t.sq) r rfl h
      | _ => exact lst h
    | _ => exact lst h
  · exact False.elim h
def sindexW (x : W) (ws : List W) (m : Mem) : Res W := match x, ws with
  | .d (.str a), [.d (.str b)] => match Builtin.Str.occurrences a b 0 a.length 1 with
    | i :: _ => .ok (.d (.int (i : Int))) m
    | [] => .bad
  | _, _ => .bad
theorem sindexW_ok : MtOk X Wx (fun x xs H Q => ∃ a b i rest, x = .str a ∧ xs = [.str b] ∧ Builtin.Str.occurrences a b 0 a.length 1 = i :: rest ∧ Q (.int (i : Nat)) H) sindexW := by
  intro σ G m v x vs ws H0 H1 Q R rx rs h
  unfold sindexW at h
  split at h
  · rename_i a b
    cases rx
    obtain ⟨u, rfl, ru⟩ := paired1 rs
    cases ru
    split at h
    · rename_i i r e
      exact ⟨a, b, i, r, rfl, rfl, e, finD R h (.int _)⟩
    · exact False.elim h
  · exact False.elim h
def splitW (x : W) (ws : List W) (m : Mem) : Res W := match x, ws with
  | .d (.str a), [.d (.str b)] => if ((b.length == 0) = false ∧ a.length + 2 ≤ sizeLine) then .ok (.fl ((Txt.split a b).map .str)) m else .bad
  | _, _ => .bad
theorem Reps.strs {K : PySem.W.Frag} {lv : List Addr} {H : Hp} : ∀ (ns : List Str), Reps K lv H (ns.map V.str) (ns.map PyData.str)
  | [] => .nil
  | n :: ns => .cons (.str n) (Reps.strs ns)
theorem splitW_ok : MtOk X Wx (fun x xs H Q => ∃ a b, x = .str a ∧ xs = [.str b] ∧ (b.length == 0) = false ∧ a.length + 2 ≤ sizeLine ∧ rNewStrs (Txt.split a b) H Q) splitW := by
  intro σ G m v x vs ws H0 H1 Q R rx rs h
  unfold splitW at h
  split at h
  · rename_i a b
    cases rx
    obtain ⟨u, rfl, ru⟩ := paired1 rs
    cases ru
    split at h
    · rename_i hz
      exact ⟨a, b, rfl, rfl, hz.1, hz.2, fun p hp => finL R h (Reps.strs _) hp⟩
    · exact False.elim h
  · exact False.elim h
def upperW (x : W) (ws : List W) (m : Mem) : Res W := match x, ws with
  | .d (.str a), [] => if a.length ≤ 5592405 then .ok (.d (.str (Txt.upper a))) m else .bad
  | _, _ => .bad
theorem upperW_ok : MtOk X Wx (fun x xs H Q => ∃ a, x = .str a ∧ xs = [] ∧ a.length ≤ 5592405 ∧ Q (.str (Txt.upper a)) H) upperW := by
  intro σ G m v x vs ws H0 H1 Q R rx rs h
  unfold upperW at h
  split at h
  · rename_i a
    cases rx
    cases rs
    split at h
    · rename_i hz
      exact ⟨a, rfl, rfl, hz, finD R h (.str _)⟩
    · exact False.elim h
  · exact False.elim h
/-! ### xs[i] = v -/
def sSetI (o i : EF) (f : EF) (env : Env) (m : Mem) : SRes := eS ((f env m).bind fun v m1 => (o env m1).bind fun x m2 => (i env m2).bind fun k m3 => match asO x m3, k, v with
  | some (j, ds), .d (.int k), .d y => (match ixN ds.length k with
    | some n => .ok () (m3.set j (.lst (ds.set n y)))
    | none => .bad)
  | _, _, _ => .bad) env fun _ m1 => .nx env m1
theorem ms_setI {o i e : Expr} {fo fi f : EF} {tpos pos : Pos} (ho : ME X Wx o fo) (hi : ME X Wx i fi) (he : ME X Wx e f)
    (ha : ∀ v, assign (.Subscript o i tpos) X.env v = (do
      let ov ← holding [v] (eval o X.env)
      let iv ← holding [v, ov] (eval i X.env)
      standAt tpos
      holding [v, ov, iv] (setItem ov iv v)
      release [v, ov, iv] []) := by intro _; rfl)
    (hs : swapsWithSole [.Subscript o i tpos] e pos.line X.env = pure false := by rfl) (hw : swappedStores [.Subscript o i tpos] e X.env = pure none := by rfl)
    (h1 : (assignEach [.Subscript o i tpos] X.env).map (·.2) = [assign (.Subscript o i tpos) X.env] := by rfl) : MS X Wx (.Assign [.Subscript o i tpos] e pos) (sSetI fo fi f) := by
  obtain ⟨to, po, qo⟩ := ho
  obtain ⟨ti, pi, qi⟩ := hi
  obtain ⟨t, p, q⟩ := he
  refine ⟨_, ps_asg p (pg_sub po pi set_list ha) hs hw h1, fun env m σ G E S R h => ?_⟩
  have h' : GPost X Wx σ G (fun _ _ (_ : Unit) (_ : Unit) => True) ((f env m).bind fun v m1 => (fo env m1).bind fun x m2 => (fi env m2).bind fun k m3 => match asO x m3, k, v with
      | some (j, ds), .d (.int k), .d y => (match ixN ds.length k with
        | some n => .ok () (m3.set j (.lst (ds.set n y)))
        | none => .bad)
      | _, _, _ => .bad) (fun _ H' => E.nx σ H') := SPost.ofE h S fun a m1 v G1 le R1 _ h1 => h1 σ G1 (Le.refl R1) R1 (S.mono le)
  have wk : Weak (fun (_ : Hp) (_ : Wd) (_ : Unit) (_ : Unit) => True) := fun _ _ _ _ _ _ _ => trivial
  refine q env m σ G _ S R (GPost.bind wk h' fun w m1 v G1 le1 R1 q1 h1 => ?_)
  refine qo env m1 σ G1 _ (S.mono le1) R1 (GPost.bind wk h1 fun x m2 u G2 le2 R2 q2 h2 => ?_)
  refine qi env m2 σ G2 _ ((S.mono le1).mono le2) R2 (GPost.bind wk h2 fun k m3 z G3 le3 R3 q3 h3 => ?_)
  split at h3
  · rename_i j ds kk y e
    obtain ⟨a, vs, e1, g1, g2, g3, g4⟩ := asO_get R3 (q2.mono le3) e
    cases q3
    cases en : ixN ds.length kk with
    | none => simp only [en] at h3; exact False.elim h3
    | some n =>
      simp only [en] at h3
      have rv : Rep X.K G3.lv G3.H v y := Rep.mono (le2.trans le3).mo q1
      have le : Le G3 ⟨G3.io, G3.lv, upd G3.H a (.lst (vs.set n v))⟩ := Le.mut R3 g1 g2
      refine ⟨a, vs, kk, n, e1, rfl, g3, by rw [g4.length]; exact en, ?_⟩
      exact h3 () _ le (R3.mut g1 g2 ⟨g2, _, upd_same, (g4.set rv n).mono le.mo⟩ rfl) trivial
  · exact False.elim h3
end
end M

set_option Elab.async false
set_option linter.all false
set_option maxRecDepth 100000
namespace M
open PySem L2
section
variable {X : Cx} {Wx : WX}
/-- a list, and whether it still stands -/
noncomputable def asC (w : W) (m : Mem) : Option (List D × (Mem → Bool)) := match w with
  | .obj i => (asL (.obj i) m).map fun ds => (ds, sameM i ds)
  | w => (asS w).map fun ds => (ds, yesM)
theorem asC_sq {G : Wd} {m : Mem} {v : V} {w : W} {H0 : Hp} {ds : List D} {chk : Mem → Bool} (R : RelM X.K G m) (r : RepR X.K H0 G v w) (e : asC w m = some (ds, chk)) : ∃ a, v = .ref a ∧ (∃ vs, SqL X.K G.H a vs) ∧ ∀ G2 m2, Le G G2 → RelM X.K G2 m2 → chk m2 = true → ∃ vs, SqL X.K G2.H a vs ∧ Reps X.K G2.lv G2.H vs ds := by
  have st : (asS w).map (fun ds => (ds, yesM)) = some (ds, chk) → ∃ a, v = .ref a ∧ (∃ vs, SqL X.K G.H a vs) ∧ ∀ G2 m2, Le G G2 → RelM X.K G2 m2 → chk m2 = true → ∃ vs, SqL X.K G2.H a vs ∧ Reps X.K G2.lv G2.H vs ds := fun e => by
    cases es : asS w with
    | none => rw [es] at e; cases e
    | some es' =>
      rw [es] at e
      cases e
      obtain ⟨a, vs, e1, h⟩ := asS_sq R r es
      exact ⟨a, e1, ⟨vs, (h G (Le.refl R)).1⟩, fun G2 m2 le _ _ => ⟨vs, h G2 le⟩⟩
  cases w with
  | obj i =>
    simp only [asC] at e
    cases el : asL (.obj i) m with
    | none => rw [el] at e; cases e
    | some es =>
      rw [el] at e
      cases e
      obtain ⟨a, ha, rfl⟩ := id r
      obtain ⟨a', vs, e1, h1, _⟩ := asL_sq (w := .obj i) R r el
      cases e1
      refine ⟨a, rfl, ⟨vs, h1⟩, fun G2 m2 le R2 hz => ?_⟩
      unfold sameM at hz
      cases e2 : asL (.obj i) m2 with
      | none => rw [e2] at hz; cases hz
      | some es =>
        rw [e2] at hz
        have ee := grd_iff.mp hz
        subst ee
        obtain ⟨a2, vs2, e3, h3, r3⟩ := asL_sq (v := .ref a) (H0 := H0) (w := .obj i) R2 ⟨a, le.iget ha, rfl⟩ e2
        cases e3
        exact ⟨vs2, h3, r3⟩
  | d x => exact st e
  | fl x => exact st e
  | ro x => exact st e
noncomputable def zipA (ws : List W) (m : Mem) : Res Its := match ws with
  | [.d (.tuple ds), .d (.tuple es)] => .ok (itsL (zipD ds es)) m
  | [w, u] => match asC w m, asC u m with
    | some (ds, c1), some (es, c2) => .ok ⟨(zipD ds es).map .d, fun m => c1 m && c2 m⟩ m
    | _, _ => .bad
  | _ => .bad
noncomputable def iZipA (a : AF) (env : Env) (m : Mem) : Res Its := (a env m).bind zipA
theorem zip_get {ds es : List D} {i : Nat} {w' : W} (hw : ((zipD ds es).map W.d)[i]? = some w') : ∃ d e, ds[i]? = some d ∧ es[i]? = some e ∧ w' = .d (.tuple [d, e]) := by
  rw [List.getElem?_map] at hw
  unfold zipD at hw
  rw [List.getElem?_map] at hw
  cases e2 : (ds.zip es)[i]? with
  | none => rw [e2] at hw; cases hw
  | some d =>
    rw [e2] at hw
    cases hw
    obtain ⟨x1, x2⟩ := List.getElem?_zip_eq_some.mp e2
    exact ⟨d.1, d.2, x1, x2, rfl⟩
theorem mi_zipA {e e2 : Expr} {f : AF} {p pos tpos : Pos} {elts : List Expr} {kk : Nat} (hg : Gl X "zip") (hm : X.mg "zip" = none) (ha : MA X Wx [e, e2] f)
    (hs : starEach [e, e2] X.env = (false, eval e X.env) :: starEach [e2] X.env := by rfl) (hpl : (backTo pos (starEach [e2] X.env)).any (·.1) = false := by rfl) :
    MI X Wx (.Tuple elts kk tpos) (.Call (.Name "zip" p) [e, e2] [] pos) (iZipA f) := by
  obtain ⟨t, pa, q⟩ := ha
  refine ⟨_, RZ.pi_zipA hg hm pa hs hpl, fun env m σ G Q S R h => q env m σ G _ S R (GPost.bind weakI h fun ws m1 vs G1 le1 R1 q1 h1 => ?_)⟩
  unfold zipA at h1
  split at h1
  · rename_i ds es
    obtain ⟨v, v', rfl, r, r'⟩ := paired2 q1
    cases r with
    | @tup a vs _ t1 r1 =>
      cases r' with
      | @tup b us _ t2 r2 =>
        refine ⟨a, b, vs, us, rfl, .inr ⟨t1.sq, t2.sq, h1 _ G1 (Le.refl R1) R1 ?_⟩⟩
        intro G2 m2 le R2 hz i
        have hq := (t1.mono le.mo).sq
        have hq' := (t2.mono le.mo).sq
        have hr := r1.mono le.mo
        have hr' := r2.mono le.mo
        refine ⟨fun w' hw => ?_, fun hi => ⟨vs, us, hq, hq', by
          rw [hr.length, hr'.length]
          have hi : ((zipD ds es).map W.d).length ≤ i := hi
          simp [zipD] at hi
          omega⟩⟩
        obtain ⟨d, e, x1, x2, rfl⟩ := zip_get hw
        obtain ⟨v, g1, g2⟩ := hr.get x1
        obtain ⟨v', g1', g2'⟩ := hr'.get x2
        refine ⟨⟨vs, us, v, v', hq, hq', g1, g1'⟩, fun x H' ⟨T, y, y', ex, hT, eH, hy, hy'⟩ => ?_⟩
        have t1 := hy vs hq
        have t2 := hy' us hq'
        rw [g1] at t1
        rw [g1'] at t2
        cases t1
        cases t2
        rw [ex, eH]
        exact itPair R2 hT (.cons g2 (.cons g2' .nil))
  · rename_i w u _
    obtain ⟨v, v', rfl, r, r'⟩ := paired2 q1
    split at h1
    · rename_i ds c1 es c2 e1 e2
      obtain ⟨a, rfl, ⟨vs0, hs0⟩, hst⟩ := asC_sq R1 r e1
      obtain ⟨b, rfl, ⟨us0, hs1⟩, hst'⟩ := asC_sq R1 r' e2
      refine ⟨a, b, vs0, us0, rfl, .inl ⟨hs0, hs1, h1 _ G1 (Le.refl R1) R1 ?_⟩⟩
      intro G2 m2 le R2 hz i
      have hz : (c1 m2 && c2 m2) = true := hz
      rw [Bool.and_eq_true] at hz
      obtain ⟨vs, hq, hr⟩ := hst G2 m2 le R2 hz.1
      obtain ⟨us, hq', hr'⟩ := hst' G2 m2 le R2 hz.2
      refine ⟨fun w' hw => ?_, fun hi => ⟨vs, us, hq, hq', by
        rw [hr.length, hr'.length]
        have hi : ((zipD ds es).map W.d).length ≤ i := hi
        simp [zipD] at hi
        omega⟩⟩
      obtain ⟨d, e, x1, x2, rfl⟩ := zip_get hw
      obtain ⟨v, g1, g2⟩ := hr.get x1
      obtain ⟨v', g1', g2'⟩ := hr'.get x2
      refine ⟨⟨vs, us, v, v', hq, hq', g1, g1'⟩, fun x H' ⟨T, y, y', ex, hT, eH, hy, hy'⟩ => ?_⟩
      have t1 := hy vs hq
      have t2 := hy' us hq'
      rw [g1] at t1
      rw [g1'] at t2
      cases t1
      cases t2
      rw [ex, eH]
      exact itPair R2 hT (.cons g2 (.cons g2' .nil))
    · exact False.elim h1
  · exact False.elim h1
/-! ### - n -/
def negW (w : W) (m : Mem) : Res W := match w with
  | .d (.int i) => .ok (.d (.int (-i))) m
  | _ => .bad
def eNeg (f : EF) (env : Env) (m : Mem) : Res W := (f env m).bind negW
theorem me_neg {e : Expr} {f : EF} {pos : Pos} (h : ME X Wx e f) : ME X Wx (.UnaryOp .USub e pos) (eNeg f) := by
  obtain ⟨t, p, q⟩ := h
  refine ⟨_, pe_un un_neg p, fun env m σ G Q S R h => q env m σ G _ S R (GPost.bind weakR h fun w m1 v G1 le1 R1 q1 h1 => ?_)⟩
  cases w with
  | d x =>
    cases x with
    | int i => cases q1; exact ⟨i, rfl, finD R1 h1 (.int _)⟩
    | _ => exact False.elim h1
  | _ => exact False.elim h1
theorem hu65 {A : Around} {k : Nat} (hr : Room k A) : A.units + 65 < cLine := by have := hr.un; omega
theorem takesF : Takes X WF := takes0
/-! ### the law -/
def spLaw (K : PySem.W.Frag) : Sp := fun vs H Q _ => ∃ (a : Addr) (ns : List Int), vs = [.ref a] ∧ SqL K H a (ns.map V.int) ∧ ns.length ≤ 63 ∧ ∀ H', Q (.bl true) H'
theorem law_imp {P : Program} {w : World} {K : PySem.W.Frag} {mg : Str → Option Value} {base : Heap} {k : Nat} {f : Addr} {fd : FuncData} {x : Str} {F : FF} (h : FnOk P w K mg base (L2.CX P w) k f fd [x] (SpM K mg 1 F))
    (ht : ∀ ns : List Int, ns.length ≤ 63 → ∃ m, F [.ro (ns.map .int)] [] = .ok (.d (.bool true)) m) : FnOk P w K mg base (L2.CX P w) k f fd [x] (spLaw K) := by
  refine h.imp fun vs H Q E ⟨a, ns, e, hs, hl, hq⟩ => ?_
  subst e
  obtain ⟨m, hm⟩ := ht ns hl
  refine ⟨⟨[], [], H⟩, [.ro (ns.map .int)], [], rfl, ⟨fun i o e => by simp at e, rfl, List.nodup_nil, fun _ z => (nomatch z), fun _ z => (nomatch z), fun i a o e1 e2 => by simp at e2⟩, .cons ⟨a, _, rfl, ?_, Reps.ints ns⟩ .nil, rfl, ?_⟩
  · rcases hs with h | h
    · exact .inl ⟨fun z => (nomatch z), h⟩
    · exact .inr h
  · rw [hm]
    intro v G' le R r
    cases r
    exact hq _
theorem cx_no {P : Program} {w : World} {H : Hp} {s : Shared} {e : Value} {s' : Shared} (h : L2.CX P w [] H s (fun _ _ _ => False) e s') : False := by
  obtain ⟨_, _, _, _, _, _, _, _, _, _, _, _, z⟩ := h
  exact z
end
end M

set_option Elab.async false
set_option linter.all false
set_option maxRecDepth 100000
set_option maxHeartbeats 4000000
namespace M
open PySem PySem.Spec PyProof.Rows L2
/-! ### list.extend of a tuple, whichever the tuple's object is -/
theorem ext_tup (l b : Addr) (xs ys : Array Value) (n k : Nat) (dd : Option Addr) (sl : Array (Option Value)) (h0 : ¬(!xs.isEmpty && Builtin.List.listTooLong (xs.size + ys.size)) = true) (h1 : xs.size ≤ sizeLine) (h2 : xs.size + ys.size ≤ sizeLine + 1) :
    Meets (Builtin.«list.extend» ⟨[.ref l, .ref b], []⟩) (fun _ R s => s.heap.get? l = some { cls := .type "list", data := .seq xs n } ∧ s.heap.get? b = some { cls := .type "tuple", dict := dd, data := .seq ys k, slots := sl } ∧
      R (.ok (.ret Value.none)) { s with heap := s.heap.update l (Obj.mapSeq fun x => x ++ ys) }) :=
  .of_wp fun prog w A R s h => by
    obtain ⟨hp, g, d, tk, os⟩ := s
    obtain ⟨hl, hb, h⟩ := h
    have f1 := AutoSeq1.idx_int
    have f2 := AutoSeq1.sub_tuple_tuple
    have f3 := AutoSeq1.sub_list_list
    have f4 := AutoSeq1.sub_tuple_list
    have f5 := AutoSeq1.sub_list_tuple
    have hz : (xs ++ ys).size ≤ sizeLine + 1 := by rw [Array.size_append]; exact h2
    wp_walk using (wpAny_updateSeq hl rfl (hz := h1) (_hz' := hz)), wpAny_loadPart' hl, wpAny_loadPart' hb
    exact ⟨_, rfl, h⟩
section
variable {X : Cx} {Wx : WX}
/-! ### is True, is False -/
def isBW (neg : Bool) (x y : W) (m : Mem) : Res W := match x, y with
  | .d (.bool a), .d (.bool b) => .ok (.d (.bool (ngB neg (decide (a = b))))) m
  | _, _ => .bad
def rIsBA (neg : Bool) : R2 := fun x y H Q => ∃ a b : Bool, x = .bl a ∧ y = .bl b ∧ Q (.bl (ngB neg (decide (a = b)))) H
theorem op_isB : OpR X (compareOp .Is) (rIsBA false) := op_isBl
theorem op_isBN : OpR X (compareOp .IsNot) (rIsBA true) := op_notBl
theorem isBW_ok {neg : Bool} : OpOk X Wx (rIsBA neg) (isBW neg) := by
  intro σ G m v u x y H0 H1 Q R rx ry h
  unfold isBW at h
  split at h
  · cases rx; cases ry
    exact ⟨_, _, rfl, rfl, finD R h (.bl _)⟩
  · exact False.elim h
/-! ### extend by a list or a tuple -/
def rExtA (K : PySem.W.Frag) : V → List V → Hp → VK → Prop := fun x vs H Q => rExtend x vs H Q ∨ ∃ l b xs zs, x = .ref l ∧ vs = [.ref b] ∧ H l = some (.lst xs) ∧ SqT K H b zs ∧ xs.length + zs.length ≤ sizeLine ∧ Q .non (upd H l (.lst (xs ++ zs)))
theorem mt_extendA : MtM X "list.extend" (rExtA X.K) := by
  intro pins s σ H x vs v us Q I rx rv h
  rcases h with h | ⟨l, b, xs, zs, rfl, rfl, hH, hB, hz, q⟩
  · exact mt_extend pins s σ H x vs v us Q I rx rv h
  cases rx
  obtain ⟨u, rfl, ru⟩ := rv.one
  cases ru
  obtain ⟨z, its, n, r, hl, e⟩ := I.lstM hH
  obtain ⟨ts, r2, ⟨o, e2, hc, k, hd⟩, _⟩ := I.tuple hB
  obtain ⟨oc, od, oda, osl⟩ := o
  cases hc
  cases hd
  have e3 := r2.length
  have hsz : its.toArray.size + ts.toArray.size ≤ sizeLine := by rw [List.size_toArray, List.size_toArray]; omega
  have hlong : ¬ (!its.toArray.isEmpty && Builtin.List.listTooLong (its.toArray.size + ts.toArray.size)) = true := by
    rw [notLongL hsz, Bool.and_false]
    exact Bool.false_ne_true
  refine call_meets F.slot_list_extend ⟨_, e, rfl⟩ F.entry_list_extend (F.args_list_extend_2 _ _) (ext_tup l b its.toArray ts.toArray n k od osl hlong (by rw [List.size_toArray]; omega) (by omega)) ⟨e, e2, ?_⟩
  refine ⟨.non, _, I.lset (its' := its ++ ts) hH e (by simp) (r.append r2) ?_, rfl, q⟩
  rw [List.length_append]
  omega
def extendAW (x : W) (ws : List W) (m : Mem) : Res W := match ws with
  | [.d (.tuple es)] => match asO x m with
    | some (i, ds) => if ds.length + es.length ≤ sizeLine then .ok (.d .none) (m.set i (.lst (ds ++ es))) else .bad
    | none => .bad
  | ws => extendW x ws m
theorem extendAW_ok : MtOk X Wx (rExtA X.K) extendAW := by
  intro σ G m v x vs ws H0 H1 Q R rx rs h
  unfold extendAW at h
  split at h
  · rename_i es
    cases e : asO x m with
    | none => simp only [e] at h; exact False.elim h
    | some p =>
      obtain ⟨i, ds⟩ := p
      simp only [e] at h
      obtain ⟨a, us, rfl, h1, h2, h3, h4⟩ := asO_get R rx e
      obtain ⟨u, rfl, ru⟩ := paired1 rs
      cases ru with
      | tup hq hr =>
        split at h
        · rename_i hz
          exact .inr ⟨a, _, us, _, rfl, rfl, h3, hq.sq, by rw [h4.length, hr.length]; exact hz, obj_mut (a := a) (ds := ds) (vs := us) R h1 h2 (h4.append hr) .non h⟩
        · exact False.elim h
  · exact .inl (extendW_ok σ G m v x vs ws H0 H1 Q R rx rs h)
end
end M

set_option Elab.async false
set_option linter.all false
set_option maxRecDepth 100000
set_option maxHeartbeats 4000000
namespace M
open PySem L2
/-! ### dicts with texts as keys -/
def dlook (kvs : List (Str × W)) (k : Str) : Option W := (kvs.find? fun kv => decide (kv.1 = k)).map (·.2)
def dput (kvs : List (Str × W)) (k : Str) (v : W) : List (Str × W) :=
  if (kvs.any fun kv => decide (kv.1 = k)) = true then kvs.map (fun kv => if kv.1 = k then (kv.1, v) else kv) else kvs ++ [(k, v)]
def dgetW (x y : W) (m : Mem) : Res W := match x, y with
  | .obj i, .d (.str k) => match m[i]? with
    | some (.dct kvs) => (match dlook kvs k with | some w => .ok w m | none => .bad)
    | _ => .bad
  | _, _ => .bad
section
variable {K : PySem.W.Frag} {G : Wd}
abbrev DRel (K : PySem.W.Frag) (G : Wd) : List (Key × V) → List (Str × W) → Prop := Paired (fun (p : Key × V) (q : Str × W) => p.1 = Sum.inr q.1 ∧ RepW K G p.2 q.2)
theorem dlook_rep {ks : List (Key × V)} {kvs : List (Str × W)} {k : Str} {w : W} (r : DRel K G ks kvs) (e : dlook kvs k = some w) : ∃ v, valV ks (Sum.inr k : Key) = some v ∧ RepW K G v w := by
  induction r with
  | nil => cases e
  | @cons p q ps qs h t ih =>
    by_cases hk : q.1 = k
    · have e1 : dlook (q :: qs) k = some q.2 := by simp [dlook, List.find?_cons, hk]
      rw [e1] at e
      cases e
      exact ⟨p.2, valV_pos (by rw [h.1, hk]), h.2⟩
    · have e1 : dlook (q :: qs) k = dlook qs k := by simp [dlook, List.find?_cons, hk]
      rw [e1] at e
      obtain ⟨v, h1, h2⟩ := ih e
      exact ⟨v, by rw [valV_neg (by rw [h.1]; exact fun z => hk (Sum.inr.inj z))]; exact h1, h2⟩
theorem dput_any {ks : List (Key × V)} {kvs : List (Str × W)} {k : Str} (r : DRel K G ks kvs) : (ks.any fun kv => decide (kv.1 = (Sum.inr k : Key))) = (kvs.any fun kv => decide (kv.1 = k)) := by
  induction r with
  | nil => rfl
  | @cons p q ps qs h t ih =>
    have e : decide (p.1 = (Sum.inr k : Key)) = decide (q.1 = k) := by
      rw [h.1]
      congr 1
      exact propext ⟨fun z => Sum.inr.inj z, fun z => by rw [z]⟩
    simp only [List.any_cons, e, ih]
theorem dput_map {ks : List (Key × V)} {kvs : List (Str × W)} {k : Str} {v : V} {w : W} (r : DRel K G ks kvs) (rv : RepW K G v w) : DRel K G (ks.map fun kv => if kv.1 = (Sum.inr k : Key) then (kv.1, v) else kv) (kvs.map fun kv => if kv.1 = k then (kv.1, w) else kv) := by
  induction r with
  | nil => exact .nil
  | @cons p q ps qs h t ih =>
    refine .cons ?_ ih
    by_cases hk : q.1 = k
    · have e1 : p.1 = (Sum.inr k : Key) := by rw [h.1, hk]
      dsimp only
      rw [if_pos e1, if_pos hk]
      exact ⟨h.1, rv⟩
    · have e1 : ¬ p.1 = (Sum.inr k : Key) := by rw [h.1]; exact fun z => hk (Sum.inr.inj z)
      dsimp only
      rw [if_neg e1, if_neg hk]
      exact h
theorem dput_rep {ks : List (Key × V)} {kvs : List (Str × W)} {k : Str} {v : V} {w : W} (r : DRel K G ks kvs) (rv : RepW K G v w) : DRel K G (putK ks (Sum.inr k : Key) v) (dput kvs k w) := by
  unfold putK dput
  rw [dput_any r]
  split
  · exact dput_map r rv
  · exact Paired.snoc r ⟨rfl, rv⟩
theorem DRel.length {ks : List (Key × V)} {kvs : List (Str × W)} (r : DRel K G ks kvs) : ks.length = kvs.length := by
  induction r with
  | nil => rfl
  | cons _ _ ih => rw [List.length_cons, List.length_cons, ih]
end
section
variable {X : Cx} {Wx : WX}
theorem me_dget {o i : Expr} {fo fi : EF} {pos : Pos} (hu : X.A.units + 65 < cLine) (ho : ME X Wx o fo) (hi : ME X Wx i fi) (hs : NoSl i := by intro _ _; rfl) : ME X Wx (.Subscript o i pos) (eOp dgetW fo fi) := by
  obtain ⟨to, po, qo⟩ := ho
  obtain ⟨ti, pi, qi⟩ := hi
  refine ⟨_, pe_dget (by omega) po pi hs, fun env m σ G Q S R h => qo env m σ G _ S R (GPost.bind weakR h fun x m1 v G1 le1 R1 q1 h1 => ?_)⟩
  refine qi env m1 σ G1 _ (S.mono le1) R1 (GPost.bind weakR h1 fun y m2 u G2 le2 R2 q2 h2 => ?_)
  unfold dgetW at h2
  split at h2
  · rename_i j k
    obtain ⟨a, g1, rfl⟩ := q1.mono le2
    cases q2
    split at h2
    · rename_i kvs e
      obtain ⟨_, ks, g2, g3⟩ := R2.ob j a _ g1 e
      split at h2
      · rename_i w ew
        obtain ⟨z, z1, z2⟩ := dlook_rep g3 ew
        exact ⟨a, z, rfl, .inl ⟨ks, Sum.inr k, .inl g2, rfl, z1.symm⟩, h2 z G2 (Le.refl R2) R2 z2.r⟩
      · exact False.elim h2
    · exact False.elim h2
  · exact False.elim h2
/-! ### d[k] = v -/
def sSetD (o i : EF) (f : EF) (env : Env) (m : Mem) : SRes := eS ((f env m).bind fun v m1 => (o env m1).bind fun x m2 => (i env m2).bind fun k m3 => match x, k with
  | .obj j, .d (.str k) => (match m3[j]? with
    | some (.dct kvs) => if (decide (kvs.length < 1000) && okW m3.length v) = true then .ok () (m3.set j (.dct (dput kvs k v))) else .bad
    | _ => .bad)
  | _, _ => .bad) env fun _ m1 => .nx env m1
theorem okO_dput {j : Nat} {kvs : List (Str × W)} {k : Str} {v : W} (h : okO j (.dct kvs) = true) (hv : okW j v = true) : okO j (.dct (dput kvs k v)) = true := by
  have h : ∀ p ∈ kvs, okW j p.2 = true := by simpa [okO] using h
  show (dput kvs k v).all (fun p => okW j p.2) = true
  rw [List.all_eq_true]
  intro p hp
  unfold dput at hp
  split at hp
  · obtain ⟨q, hq, rfl⟩ := List.mem_map.mp hp
    split
    · exact hv
    · exact h q hq
  · rcases List.mem_append.mp hp with hp | hp
    · exact h p hp
    · rw [List.mem_singleton.mp hp]; exact hv
theorem okW_rep {n : Nat} {H0 : Hp} {G : Wd} {v : V} {w : W} (h : RepR X.K H0 G v w) (ok : okW n w = true) : RepW X.K G v w := by
  cases w with
  | fl ds => cases ok
  | _ => exact h
theorem ms_setD {o i e : Expr} {fo fi f : EF} {tpos pos : Pos} (hu : X.A.units + 65 < cLine) (ho : ME X Wx o fo) (hi : ME X Wx i fi) (he : ME X Wx e f)
    (hs : swapsWith e (some (.Subscript o i tpos)) pos.line X.env = pure false := by rfl) : MS X Wx (.Assign [.Subscript o i tpos] e pos) (sSetD fo fi f) := by
  obtain ⟨to, po, qo⟩ := ho
  obtain ⟨ti, pi, qi⟩ := hi
  obtain ⟨t, p, q⟩ := he
  refine ⟨_, ps_dput (by omega) po pi p hs, fun env m σ G E S R h => ?_⟩
  have h' : GPost X Wx σ G (fun _ _ (_ : Unit) (_ : Unit) => True) ((f env m).bind fun v m1 => (fo env m1).bind fun x m2 => (fi env m2).bind fun k m3 => match x, k with
      | .obj j, .d (.str k) => (match m3[j]? with
        | some (.dct kvs) => if (decide (kvs.length < 1000) && okW m3.length v) = true then .ok () (m3.set j (.dct (dput kvs k v))) else .bad
        | _ => .bad)
      | _, _ => .bad) (fun _ H' => E.nx σ H') := SPost.ofE h S fun a m1 v G1 le R1 _ h1 => h1 σ G1 (Le.refl R1) R1 (S.mono le)
  have wk : Weak (fun (_ : Hp) (_ : Wd) (_ : Unit) (_ : Unit) => True) := fun _ _ _ _ _ _ _ => trivial
  refine q env m σ G _ S R (GPost.bind wk h' fun w m1 v G1 le1 R1 q1 h1 => ?_)
  refine qo env m1 σ G1 _ (S.mono le1) R1 (GPost.bind wk h1 fun x m2 u G2 le2 R2 q2 h2 => ?_)
  refine qi env m2 σ G2 _ ((S.mono le1).mono le2) R2 (GPost.bind wk h2 fun k m3 z G3 le3 R3 q3 h3 => ?_)
  split at h3
  · rename_i j kk
    obtain ⟨a, g1, rfl⟩ := q2.mono le3
    cases q3
    split at h3
    · rename_i kvs e
      obtain ⟨gl, ks, g2, g3⟩ := R3.ob j a _ g1 e
      split at h3
      · rename_i hz
        rw [Bool.and_eq_true] at hz
        have hl := of_decide_eq_true hz.1
        have le : Le G3 ⟨G3.io, G3.lv, upd G3.H a (.dK (putK ks (Sum.inr kk : Key) v))⟩ := Le.mut R3 g1 gl
        have rv : RepW X.K G3 v w := okW_rep ((q1.mono le2).mono le3) hz.2
        have rd := dput_rep (k := kk) g3 rv
        refine ⟨a, _, rfl, .inl ⟨ks, Sum.inr kk, g2, rfl, by rw [g3.length, sizeLine_eq]; omega, rfl⟩, ?_⟩
        exact h3 () _ le (R3.mut g1 gl ⟨gl, _, upd_same, Paired.mono (fun _ _ z => ⟨z.1, z.2.mono le⟩) rd⟩ (okO_dput (R3.dw j _ e) hz.2)) trivial
      · exact False.elim h3
    · exact False.elim h3
  · exact False.elim h3
/-! ### {k: v, ..} -/
def relPs (K : PySem.W.Frag) (ks : List Str) (H0 : Hp) (G : Wd) (ps : List (V × V)) (ws : List W) : Prop := ps.map (·.1) = ks.map V.str ∧ RepRs K H0 G (ps.map (·.2)) ws
def MPs (X : Cx) (Wx : WX) (pos : Pos) (keys : List (Option Expr)) (values : List Expr) (ks : List Str) (f : AF) : Prop :=
  ∃ trs, PPs X pos keys values trs ∧ ∀ env m σ G Q, RelS X.K G σ env → RelM X.K G m → GPost X Wx σ G (relPs X.K ks) (f env m) Q → tPairs trs σ G.H Q
theorem mps_nil {pos : Pos} : MPs X Wx pos [] [] [] aNil := ⟨[], pps_nil, fun env m σ G Q S R h => h [] G (Le.refl R) R ⟨rfl, .nil⟩⟩
theorem mps_cons {pos : Pos} {k v : Expr} {s : Str} {keys : List (Option Expr)} {values : List Expr} {ks : List Str} {f : EF} {g : AF} (hk : ME X Wx k (eC (.str s))) (hv : ME X Wx v f) (hr : MPs X Wx pos keys values ks g) :
    MPs X Wx pos (some k :: keys) (v :: values) (s :: ks) (aCons f g) := by
  obtain ⟨tk, pk, qk⟩ := hk
  obtain ⟨tv, pv, qv⟩ := hv
  obtain ⟨trs, pr, qr⟩ := hr
  refine ⟨_, pps_cons pk pv pr, fun env m σ G Q S R h => ?_⟩
  refine qk env m σ G _ S R (fun kv Gk lek Rk rk => ?_)
  cases rk
  refine qv env m σ Gk _ (S.mono lek) Rk (GPost.bind1 h lek fun x m1 w G1 le1 R1 q1 h1 => ?_)
  refine qr env m1 σ G1 _ ((S.mono lek).mono le1) R1 (GPost.bind1 h1 (lek.trans le1) fun xs m2 ps G2 le2 R2 q2 h2 => ?_)
  refine h2 ((.str s, w) :: ps) G2 ((lek.trans le1).trans le2) R2 ⟨by rw [List.map_cons, q2.1]; rfl, ?_⟩
  exact .cons ((q1.weak lek.tr).mono le2) (Paired.mono (fun _ _ z => z.weak (lek.trans le1).tr) q2.2)
def eDict (ks : List Str) (f : AF) (env : Env) (m : Mem) : Res W := (f env m).bind fun ws m1 => if ws.all (okW m1.length) = true then .ok (.obj m1.length) (m1 ++ [.dct (ks.zip ws)]) else .bad
theorem merge_nodup : ∀ {kvs acc : List (Key × V)}, ((acc ++ kvs).map (·.1)).Nodup → mergeK acc kvs = acc ++ kvs
  | [], acc, _ => by rw [List.append_nil]; rfl
  | p :: kvs, acc, h => by
    have h1 : (acc.any fun kv => decide (kv.1 = p.1)) = false := by
      rw [Bool.eq_false_iff]
      intro z
      obtain ⟨q, hq, e⟩ := List.any_eq_true.mp z
      rw [List.map_append, List.map_cons, List.nodup_append] at h
      exact h.2.2 q.1 (List.mem_map.mpr ⟨q, hq, rfl⟩) p.1 List.mem_cons_self (of_decide_eq_true e)
    have e : putK acc p.1 p.2 = acc ++ [p] := by
      unfold putK
      rw [h1, if_neg (by decide)]
    show mergeK (putK acc p.1 p.2) kvs = _
    rw [e, merge_nodup (by rw [List.append_assoc]; exact h), List.append_assoc]
    rfl
theorem zip_rel {K : PySem.W.Frag} {G : Wd} : ∀ {ks : List Str} {ps : List (V × V)} {ws : List W}, ps.map (·.1) = ks.map V.str → Paired (fun v w => RepW K G v w) (ps.map (·.2)) ws → DRel K G ((ks.map fun k => (Sum.inr k : Key)).zip (ps.map (·.2))) (ks.zip ws)
  | [], ps, ws, _, _ => .nil
  | k :: ks, [], ws, e, _ => by cases e
  | k :: ks, p :: ps, ws, e, r => by
    rw [List.map_cons, List.map_cons] at e
    rw [List.map_cons] at r
    cases r with
    | cons h t => exact .cons ⟨rfl, h⟩ (zip_rel (List.cons.inj e).2 t)
theorem zip_ps : ∀ {ks : List Str} {ps : List (V × V)}, ps.map (·.1) = ks.map V.str → ps = (((ks.map fun k => (Sum.inr k : Key)).zip (ps.map (·.2))).map fun kv => (kV kv.1, kv.2))
  | [], [], _ => rfl
  | [], _ :: _, e => by cases e
  | k :: ks, [], e => by cases e
  | k :: ks, p :: ps, e => by
    rw [List.map_cons, List.map_cons] at e
    have e1 : p.1 = V.str k := (List.cons.inj e).1
    have e2 := zip_ps (List.cons.inj e).2
    simp only [List.map_cons, List.zip_cons_cons]
    rw [← e2]
    congr 1
    obtain ⟨p1, p2⟩ := p
    have e1 : p1 = V.str k := e1
    rw [e1]
    rfl
theorem all_repW {n : Nat} {H0 : Hp} {G : Wd} : ∀ {vs : List V} {ws : List W}, RepRs X.K H0 G vs ws → ws.all (okW n) = true → Paired (fun v w => RepW X.K G v w) vs ws
  | _, _, .nil, _ => .nil
  | _, _, .cons h t, e => by
    rw [List.all_cons, Bool.and_eq_true] at e
    exact .cons (okW_rep h e.1) (all_repW t e.2)
theorem me_dict {pos : Pos} {keys : List (Option Expr)} {values : List Expr} {ks : List Str} {f : AF} (h : MPs X Wx pos keys values ks f) (hnd : ks.Nodup := by decide +kernel) (hall : keys.all (·.isSome) = true := by rfl) (hl : keys.length = values.length := by rfl) (h0 : keys ≠ [] := by exact fun h => nomatch h) (h15 : keys.length ≤ 15 := by decide) (hk : ks.length ≤ 15 := by decide) :
    ME X Wx (.Dict keys values pos) (eDict ks f) := by
  obtain ⟨trs, pr, qr⟩ := h
  refine ⟨_, pe_disp pr hall hl h0 h15, fun env m σ G Q S R h p hp => ?_⟩
  have le0 : Le G ⟨G.io, p :: G.lv, upd G.H p (.dK [])⟩ := Le.newL R hp
  have R0 : RelM X.K ⟨G.io, p :: G.lv, upd G.H p (.dK [])⟩ m := R.newL hp
  refine qr env m σ ⟨G.io, p :: G.lv, upd G.H p (.dK [])⟩ _ (S.mono le0) R0 (GPost.bind1 h le0 fun ws m1 ps G2 le2 R2 q2 h2 => ?_)
  have np : p ∉ G.io := (R.ne hp).1
  have hz : (⟨G.io, p :: G.lv, upd G.H p (.dK [])⟩ : Wd).H p = some (.dK []) := upd_same
  have k1 : G2.H p = some (.dK []) := le2.keep p _ hz fun z => np z.1
  have k2 : p ∈ G2.lv := le2.stay p List.mem_cons_self np
  have k3 : p ∉ G2.io := le2.nio (by rw [hz]; simp) np
  refine ⟨k1, _, zip_ps q2.1, ?_, ?_⟩
  · rw [List.length_zip, List.length_map]; omega
  · split at h2
    · rename_i ha
      have e : mergeK [] ((ks.map fun k => (Sum.inr k : Key)).zip (ps.map (·.2))) = (ks.map fun k => (Sum.inr k : Key)).zip (ps.map (·.2)) := by
        rw [merge_nodup, List.nil_append]
        rw [List.nil_append]
        have hs : ∀ (as : List Key) (bs : List V), as.Nodup → ((as.zip bs).map (·.1)).Nodup := by
          intro as
          induction as with
          | nil => intro bs _; exact List.nodup_nil
          | cons a as ih =>
            intro bs hn
            cases bs with
            | nil => exact List.nodup_nil
            | cons b bs =>
              rw [List.nodup_cons] at hn
              rw [List.zip_cons_cons, List.map_cons, List.nodup_cons]
              refine ⟨fun z => hn.1 ?_, ih bs hn.2⟩
              obtain ⟨q, hq, e⟩ := List.mem_map.mp z
              have e : q.1 = a := e
              rw [← e]
              exact (List.of_mem_zip hq).1
        refine hs _ _ ?_
        rw [List.Nodup, List.pairwise_map]
        exact List.Pairwise.imp (fun hne z => hne (Sum.inr.inj z)) hnd
      rw [e]
      have rd := zip_rel q2.1 (all_repW q2.2 ha)
      have R3 : RelM X.K ⟨G2.io, G2.lv, upd G2.H p (.dK ((ks.map fun k => (Sum.inr k : Key)).zip (ps.map (·.2))))⟩ m1 := R2.updL k2 k3
      have le3 : Le G ⟨G2.io, G2.lv, upd G2.H p (.dK ((ks.map fun k => (Sum.inr k : Key)).zip (ps.map (·.2))))⟩ := (le0.trans le2).updF hp
      have hko : okO m1.length (.dct (ks.zip ws)) = true := by
        show (ks.zip ws).all (fun q => okW m1.length q.2) = true
        rw [List.all_eq_true] at ha ⊢
        exact fun q hq => ha q.2 (List.of_mem_zip hq).2
      have R4 := R3.own (p := p) (ob := .dct (ks.zip ws)) k3 (by show upd _ _ _ _ ≠ none; rw [upd_same]; simp) ⟨k2, _, upd_same, Paired.mono (fun _ _ z => ⟨z.1, z.2.updL k2⟩) rd⟩ hko
      refine h2 (.ref p) _ (le3.own hp) R4 ⟨p, ?_, rfl⟩
      show (G2.io ++ [p])[m1.length]? = some p
      rw [← R2.len]
      simp
    · exact False.elim h2
end
end M

set_option Elab.async false
set_option linter.all false
set_option maxRecDepth 100000
/-! plain laws of the mirrors' operations -/
namespace M
open PySem L2
abbrev En := M.Env
/-! ### texts as lists of codes -/
def S (l : List Nat) : Str := ⟨l.toArray⟩
@[simp] theorem S_cps (l : List Nat) : (S l).cps.toList = l := rfl
@[simp] theorem S_len (l : List Nat) : (S l).length = l.length := rfl
@[simp] theorem S_app (a b : List Nat) : S a ++ S b = S (a ++ b) := by
  show Str.mk (a.toArray ++ b.toArray) = Str.mk (a ++ b).toArray
  rw [List.append_toArray]
theorem S_eta (x : Str) : x = S x.cps.toList := rfl
theorem S_inj {a b : List Nat} : S a = S b ↔ a = b := ⟨fun h => by have := congrArg (fun x : Str => x.cps.toList) h; exact this, fun h => by rw [h]⟩
@[simp] theorem S_beq (a b : List Nat) : (S a == S b) = decide (a = b) := by
  by_cases h : a = b
  · subst h; simp
  · rw [decide_eq_false h]
    exact beq_eq_false_iff_ne.mpr fun z => h (S_inj.mp z)
theorem S_one (c : Nat) : (⟨#[c]⟩ : Str) = S [c] := rfl
def okC (l : List Nat) : Bool := l.all (· < 0x110000)
theorem strOk_S (l : List Nat) : PyData.strOk (S l) = okC l := by
  unfold PyData.strOk S okC
  simp
@[simp] theorem shaped_str (l : List Nat) : SeqAt.shaped (.str (S l)) = okC l := by
  show ((PyData.str (S l)).canLay0 && decide ((PyData.str (S l)).depth ≤ 64)) = _
  simp [PyData.canLay0, PyData.depth, strOk_S]
@[simp] theorem shaped_int (i : Int) : SeqAt.shaped (.int i) = true := by
  show ((PyData.int i).canLay0 && decide ((PyData.int i).depth ≤ 64)) = _
  simp [PyData.canLay0, PyData.depth]
@[simp] theorem shaped_bool (i : Bool) : SeqAt.shaped (.bool i) = true := by
  show ((PyData.bool i).canLay0 && decide ((PyData.bool i).depth ≤ 64)) = _
  simp [PyData.canLay0, PyData.depth]
@[simp] theorem shaped_none : SeqAt.shaped .none = true := by
  show (PyData.none.canLay0 && decide (PyData.none.depth ≤ 64)) = _
  simp [PyData.canLay0, PyData.depth]
@[simp] theorem shaped_nil : SeqAt.shaped (.list []) = true := by
  show ((PyData.list []).canLay0 && decide ((PyData.list []).depth ≤ 64)) = _
  simp [PyData.canLay0, PyData.canLayAll0, PyData.depth, PyData.depthAll]
@[simp] theorem eqv_str (a b : Str) : PyData.eqv (.str a) (.str b) = (a == b) := by simp [PyData.eqv]
@[simp] theorem eqv_int (a b : Int) : PyData.eqv (.int a) (.int b) = (a == b) := by simp [PyData.eqv]
@[simp] theorem eqv_bool (a b : Bool) : PyData.eqv (.bool a) (.bool b) = (a == b) := by simp [PyData.eqv]
theorem canLayAll0_ints : ∀ ns : List Int, PyData.canLayAll0 (ns.map PyData.int) = true
  | [] => by simp [PyData.canLayAll0]
  | n :: ns => by simp [PyData.canLayAll0, PyData.canLay0, canLayAll0_ints ns]
theorem depthAll_ints : ∀ ns : List Int, PyData.depthAll (ns.map PyData.int) = 0
  | [] => by simp [PyData.depthAll]
  | n :: ns => by simp [PyData.depthAll, PyData.depth, depthAll_ints ns]
@[simp] theorem shaped_ints (ns : List Int) : SeqAt.shaped (.list (ns.map PyData.int)) = true := by
  show ((PyData.list (ns.map PyData.int)).canLay0 && decide ((PyData.list (ns.map PyData.int)).depth ≤ 64)) = _
  simp [PyData.canLay0, PyData.depth, canLayAll0_ints, depthAll_ints]
/-! ### operations -/
section
variable {m : Mem}
@[simp] theorem addW_int (i j : Int) : addW (.d (.int i)) (.d (.int j)) m = .ok (.d (.int (i + j))) m := rfl
@[simp] theorem subW_int (i j : Int) : subW (.d (.int i)) (.d (.int j)) m = .ok (.d (.int (i - j))) m := rfl
theorem mulW_r {i j : Int} (h : -(2 ^ 64) < j) (h' : j < 2 ^ 64) : mulW (.d (.int i)) (.d (.int j)) m = .ok (.d (.int (i * j))) m := by
  have e : mulOk i j = true := grd_t (.inl (.inr ⟨h, h'⟩))
  show (if mulOk i j = true then _ else _) = _
  rw [if_pos e]
theorem divW_lit {i j : Int} (h : divOk 0 j = true) : divW (.d (.int i)) (.d (.int j)) m = .ok (.d (.int (i / j))) m := by
  show (if divOk i j = true then _ else _) = _
  rw [if_pos (show divOk i j = true from h)]
theorem modW_pos {i j : Int} (h : 0 < j) : modW (.d (.int i)) (.d (.int j)) m = .ok (.d (.int (i % j))) m := by
  show (if modOk i j = true then _ else _) = _
  rw [if_pos (show modOk i j = true from grd_t h)]
@[simp] theorem ltW_int (i j : Int) : ltW (.d (.int i)) (.d (.int j)) m = .ok (.d (.bool (decide (i < j)))) m := rfl
@[simp] theorem leW_int (i j : Int) : leW (.d (.int i)) (.d (.int j)) m = .ok (.d (.bool (decide (i ≤ j)))) m := rfl
@[simp] theorem gtW_int (i j : Int) : gtW (.d (.int i)) (.d (.int j)) m = .ok (.d (.bool (decide (j < i)))) m := rfl
@[simp] theorem geW_int (i j : Int) : geW (.d (.int i)) (.d (.int j)) m = .ok (.d (.bool (decide (j ≤ i)))) m := rfl
@[simp] theorem addIW_int (i j : Int) : addIW (.d (.int i)) (.d (.int j)) m = .ok (.d (.int (i + j))) m := rfl
@[simp] theorem eqW_int (n : Bool) (i j : Int) : eqW n (.d (.int i)) (.d (.int j)) m = .ok (.d (.bool (ngB n (decide (i = j))))) m := by
  unfold eqW asD
  simp only [shaped_int, Bool.and_self, if_true, eqv_int]
  rfl
theorem eqW_str {n : Bool} {a b : List Nat} (ha : okC a = true) (hb : okC b = true) : eqW n (.d (.str (S a))) (.d (.str (S b))) m = .ok (.d (.bool (ngB n (decide (a = b))))) m := by
  unfold eqW asD
  simp only [shaped_str, ha, hb, Bool.and_self, if_true, eqv_str, S_beq]
  rfl
theorem addW_str {a b : List Nat} (h : a.length + b.length ≤ sizeLine) : addW (.d (.str (S a))) (.d (.str (S b))) m = .ok (.d (.str (S (a ++ b)))) m := by
  show (if (S a).length + (S b).length ≤ sizeLine then _ else _) = _
  rw [if_pos (show (S a).length + (S b).length ≤ sizeLine from h), S_app]
theorem atI_of {α : Type} {xs : List α} {i : Int} (h0 : 0 ≤ i) : L2.atI xs i = xs[i.toNat]? := by
  unfold L2.atI ixN
  rw [if_pos h0]
  by_cases h : i < xs.length
  · rw [if_pos h]; rfl
  · rw [if_neg h, List.getElem?_eq_none (by omega)]; rfl
@[simp] theorem atI_cast {α : Type} (xs : List α) (k : Nat) : L2.atI xs (k : Int) = xs[k]? := by rw [atI_of (by omega)]; simp
@[simp] theorem atI_zero {α : Type} (xs : List α) : L2.atI xs 0 = xs[0]? := atI_cast xs 0
@[simp] theorem atI_one {α : Type} (xs : List α) : L2.atI xs 1 = xs[1]? := atI_cast xs 1
@[simp] theorem atI_two {α : Type} (xs : List α) : L2.atI xs 2 = xs[2]? := atI_cast xs 2
theorem ixW_str {l : List Nat} {i : Int} {c : Nat} (hl : l.length ≤ sizeLine) (h : L2.atI l i = some c) : ixW (.d (.str (S l))) (.d (.int i)) m = .ok (.d (.str (S [c]))) m := by
  show (if (S l).length ≤ sizeLine then (match L2.atI (S l).cps.toList i with | some c => Res.ok (W.d (.str ⟨#[c]⟩)) m | none => .bad) else .bad) = _
  rw [if_pos (show (S l).length ≤ sizeLine from hl), S_cps, h]
  rfl
theorem ixW_tup {ds : List D} {i : Int} {c : D} (h : L2.atI ds i = some c) : ixW (.d (.tuple ds)) (.d (.int i)) m = .ok (.d c) m := by
  show (match L2.atI ds i with | some c => Res.ok (W.d c) m | none => .bad) = _
  rw [h]
end
section
variable {m : Mem}
@[simp] theorem divW_s {i j : Int} (h : 0 < j) (h' : j < 18446744073709551616) : divW (.d (.int i)) (.d (.int j)) m = .ok (.d (.int (i / j))) m := by
  refine divW_lit ?_
  refine grd_t ⟨h, ?_⟩
  have h2 : j.natAbs < 2 ^ 64 := by omega
  have := PySem.Flt.log2_lt_of (show 0 < 64 by decide) h2
  omega
@[simp] theorem modW_s {i j : Int} (h : 0 < j) : modW (.d (.int i)) (.d (.int j)) m = .ok (.d (.int (i % j))) m := modW_pos h
@[simp] theorem mulW_s {i j : Int} (h : -18446744073709551616 < j) (h' : j < 18446744073709551616) : mulW (.d (.int i)) (.d (.int j)) m = .ok (.d (.int (i * j))) m := mulW_r (by omega) (by omega)
theorem mulW_l {i j : Int} (h : -18446744073709551616 < i) (h' : i < 18446744073709551616) : mulW (.d (.int i)) (.d (.int j)) m = .ok (.d (.int (i * j))) m := by
  have e : mulOk i j = true := grd_t (.inl (.inl ⟨by omega, by omega⟩))
  show (if mulOk i j = true then _ else _) = _
  rw [if_pos e]
end
section
variable {m : Mem}
@[simp] theorem powW_s {i j : Int} (h : 0 ≤ j) (h' : j ≤ 1000000) (h2 : i.natAbs < 18446744073709551616) : powW (.d (.int i)) (.d (.int j)) m = .ok (.d (.int (i ^ j.toNat))) m := by
  have e : powOk i j = true := grd_t ⟨h, h', by omega⟩
  show (if powOk i j = true then _ else _) = _
  rw [if_pos e]
theorem popAt0 {i : Nat} {d : D} {ds : List D} (h : m[i]? = some (.lst (d :: ds))) : popAtW (.obj i) [.d (.int 0)] m = .ok (.d d) (m.set i (.lst ds)) := by
  have e : grd (-(2 ^ 63) ≤ (0 : Int) ∧ (0 : Int) < 2 ^ 63) = true := grd_t ⟨by decide, by decide⟩
  have e2 : asO (.obj i) m = some (i, d :: ds) := by simp [asO, h]
  have e3 : seqIndex? 0 (d :: ds).length = some 0 := by
    have := (ixN_seq (n := (d :: ds).length) (i := 0) (j := 0) (by unfold ixN; simp)).1
    exact this
  simp only [popAtW, e2]
  rw [if_pos e, e3]
  rfl
@[simp] theorem isTy_d_list (ds : List D) : isTyW "list" (.d (.list ds)) m = true := rfl
end
/-! ### cuts -/
@[simp] theorem sIx_none' (n d : Nat) : HT.sIx n d none = d := rfl
@[simp] theorem sIx_cast (n d k : Nat) : HT.sIx n d (some (k : Int)) = min k n := HT.sIx_nat n d k
theorem sIx_of {n d : Nat} {i : Int} (h : 0 ≤ i) : HT.sIx n d (some i) = min i.toNat n := by
  unfold HT.sIx
  dsimp only
  rw [if_neg (by omega)]
theorem cutD_take {xs : List D} {i : Int} (h : 0 ≤ i) : cutD xs none (some i) = xs.take i.toNat := by
  unfold cutD
  rw [sIx_none', sIx_of h, List.drop_zero, Nat.sub_zero, Nat.min_def]
  split
  · rfl
  · rw [List.take_length, List.take_of_length_le (by omega)]
theorem cutD_drop {xs : List D} {i : Int} (h : 0 ≤ i) : cutD xs (some i) none = xs.drop i.toNat := by
  unfold cutD
  rw [sIx_none', sIx_of h, Nat.min_def]
  split
  · exact List.take_of_length_le (by rw [List.length_drop]; omega)
  · rw [List.drop_eq_nil_of_le (by omega), List.drop_eq_nil_of_le (by omega)]
    simp
theorem cutD_mid {xs : List D} {i j : Int} (h : 0 ≤ i) (h' : 0 ≤ j) : cutD xs (some i) (some j) = (xs.take j.toNat).drop i.toNat := by
  unfold cutD
  rw [sIx_of h, sIx_of h']
  rw [List.drop_take]
  by_cases h1 : i.toNat ≤ xs.length
  · rw [Nat.min_eq_left h1]
    by_cases h2 : j.toNat ≤ xs.length
    · rw [Nat.min_eq_left h2]
    · rw [Nat.min_eq_right (by omega), List.take_of_length_le (by rw [List.length_drop]; omega), List.take_of_length_le (by rw [List.length_drop]; omega)]
  · rw [List.drop_eq_nil_of_le (by omega), List.drop_eq_nil_of_le (by omega)]
    simp
theorem cutS_S (l : List Nat) (lo hi : Option Int) : cutS (S l) lo hi = S ((l.drop (HT.sIx l.length 0 lo)).take (HT.sIx l.length l.length hi - HT.sIx l.length 0 lo)) := rfl
theorem cutS_take {l : List Nat} {i : Int} (h : 0 ≤ i) : cutS (S l) none (some i) = S (l.take i.toNat) := by
  rw [cutS_S, sIx_none', sIx_of h, List.drop_zero, Nat.sub_zero, Nat.min_def]
  split
  · rfl
  · rw [List.take_length, List.take_of_length_le (by omega)]
theorem cutS_drop {l : List Nat} {i : Int} (h : 0 ≤ i) : cutS (S l) (some i) none = S (l.drop i.toNat) := by
  rw [cutS_S, sIx_none', sIx_of h, Nat.min_def]
  split
  · rw [List.take_of_length_le (by rw [List.length_drop]; omega)]
  · rw [List.drop_eq_nil_of_le (by omega), List.drop_eq_nil_of_le (by omega)]
    simp
theorem cutS_mid {l : List Nat} {i j : Int} (h : 0 ≤ i) (h' : 0 ≤ j) : cutS (S l) (some i) (some j) = S ((l.take j.toNat).drop i.toNat) := by
  rw [cutS_S, sIx_of h, sIx_of h', List.drop_take]
  congr 1
  by_cases h1 : i.toNat ≤ l.length
  · rw [Nat.min_eq_left h1]
    by_cases h2 : j.toNat ≤ l.length
    · rw [Nat.min_eq_left h2]
    · rw [Nat.min_eq_right (by omega), List.take_of_length_le (by rw [List.length_drop]; omega), List.take_of_length_le (by rw [List.length_drop]; omega)]
  · rw [List.drop_eq_nil_of_le (by omega), List.drop_eq_nil_of_le (by omega)]
    simp
theorem cutS_last {l : List Nat} : cutS (S l) none (some (-1)) = S l.dropLast := by
  rw [cutS_S, sIx_none', List.drop_zero, Nat.sub_zero, List.dropLast_eq_take]
  congr 2
  unfold HT.sIx
  dsimp only
  rw [if_pos (by decide)]
  omega
theorem atI_neg1 {α : Type} {xs : List α} {x : α} : L2.atI (xs ++ [x]) (-1) = some x := atI_last xs x
/-! ### join, index -/
theorem join_nil : ∀ ls : List (List Nat), Txt.join (S []) (ls.map S) = S ls.flatten := by
  have : ∀ ls : List (List Nat), Str.join (S []) (ls.map S) = S ls.flatten := by
    intro ls
    induction ls with
    | nil => rfl
    | cons a r ih =>
      cases r with
      | nil => show S a = S (List.flatten [a]); simp
      | cons b r => show S a ++ S [] ++ Str.join (S []) ((b :: r).map S) = _; rw [ih, S_app, S_app]; simp
  intro ls
  show Builtin.Str.glued (S []) (ls.map S) = _
  rw [StrLaws.glued_eq_join]
  exact this ls
theorem joinW_nil {m : Mem} {w : W} {ls : List (List Nat)} (h : asL w m = some (ls.map fun l => .str (S l))) (ht : ∀ ds, w ≠ .d (.tuple ds)) (hl : ls.flatten.length ≤ 16777216) : joinW (.d (.str (S []))) [w] m = .ok (.d (.str (S ls.flatten))) m := by
  have e : dStrs (ls.map fun l => .str (S l)) = some (ls.map S) := by
    have := dStrs_strs (ls.map S)
    rwa [List.map_map] at this
  have hz : ((ls.map S).map (·.length)).sum + (ls.map S).length * (S []).length ≤ 16777216 := by
    have e2 : ((ls.map S).map (·.length)).sum = ls.flatten.length := by
      rw [List.map_map, List.length_flatten]
      rfl
    rw [e2]
    simpa using hl
  have go : ∀ w : W, asL w m = some (ls.map fun l => .str (S l)) → (∀ ds, w ≠ .d (.tuple ds)) → joinW (.d (.str (S []))) [w] m = match (asL w m).bind dStrs with
      | some ys => if (ys.map (·.length)).sum + ys.length * (S []).length ≤ 16777216 then .ok (.d (.str (Txt.join (S []) ys))) m else .bad
      | none => .bad := fun w _ ht => by
    cases w with
    | d x =>
      cases x with
      | tuple ds => exact absurd rfl (ht ds)
      | _ => rfl
    | _ => rfl
  rw [go w h ht, h, Option.bind_some, e]
  show (if _ then _ else _) = _
  rw [if_pos hz, join_nil]
theorem sindexW_one {m : Mem} {l : List Nat} {c i : Nat} (h : l[i]? = some c) (hu : ∀ k, k < i → l[k]? ≠ some c) : sindexW (.d (.str (S l))) [.d (.str (S [c]))] m = .ok (.d (.int (i : Int))) m := by
  have key : ∃ r, Builtin.Str.occurrences (S l) (S [c]) 0 (S l).length 1 = i :: r := by
    rcases StrLaws.occ_head (S l) (S [c]) 1 (Nat.le_refl _) with ⟨_, hn⟩ | ⟨j, r, e, ha, hn⟩
    · exact absurd ((StrLaws.subAt_one (S l) c i).mpr h) (hn i)
    · have hj : l[j]? = some c := (StrLaws.subAt_one (S l) c j).mp ha
      have hji : ¬ j < i := fun z => hu j z hj
      have hij : ¬ i < j := fun z => hn i z ((StrLaws.subAt_one (S l) c i).mpr h)
      have : j = i := by omega
      subst this
      exact ⟨r, e⟩
  obtain ⟨r, e⟩ := key
  show (match Builtin.Str.occurrences (S l) (S [c]) 0 (S l).length 1 with | i :: _ => Res.ok (W.d (.int (i : Int))) m | [] => .bad) = _
  rw [e]
/-! ### memory: a list of objects -/
@[simp] theorem mem_last (m : Mem) (o : O) : (m ++ [o])[m.length]? = some o := by simp
@[simp] theorem mem_set_last (m : Mem) (o p : O) : (m ++ [o]).set m.length p = m ++ [p] := by simp
@[simp] theorem mem_take (m : Mem) (l : List O) : (m ++ l).take m.length = m := by simp
/-! ### loops -/
theorem forM_inv {chk : Mem → Bool} {b : W → SF} (P : Nat → Env → Mem → Prop) : ∀ {xs : List W} {env : Env} {m : Mem} (k : Nat),
    (∀ i w env m, xs[i]? = some w → P (k + i) env m → chk m = true ∧ ∃ env' m', (b w env m = .nx env' m' ∨ b w env m = .ct env' m') ∧ P (k + i + 1) env' m') →
    (∀ env m, P (k + xs.length) env m → chk m = true) → P k env m → ∃ env' m', forM chk b xs env m = .nx env' m' ∧ P (k + xs.length) env' m'
  | [], env, m, k, _, he, h => ⟨env, m, by
      have := he env m h
      simp only [forM, this, if_true], h⟩
  | x :: xs, env, m, k, hs, he, h => by
    obtain ⟨hc, env', m', hb, h'⟩ := hs 0 x env m rfl h
    have ih := forM_inv P (xs := xs) (env := env') (m := m') (k + 1) (fun i w e1 m1 hi hp => by
      have := hs (i + 1) w e1 m1 hi (by rw [← Nat.add_assoc, Nat.add_right_comm]; exact hp)
      rw [← Nat.add_assoc, Nat.add_right_comm k i 1] at this
      exact this) (fun e1 m1 hp => he e1 m1 (by rw [List.length_cons, Nat.add_comm xs.length 1, ← Nat.add_assoc]; exact hp)) h'
    obtain ⟨e2, m2, h1, h2⟩ := ih
    refine ⟨e2, m2, ?_, by rw [List.length_cons, Nat.add_comm xs.length 1, ← Nat.add_assoc]; exact h2⟩
    rcases hb with hb | hb
    · simp only [forM, hc, if_true, hb]; exact h1
    · simp only [forM, hc, if_true, hb]; exact h1
/-- a loop over a list that stays: what holds between the turns -/
theorem for_inv {b : W → SF} {xs : List W} {env : Env} {m : Mem} (P : Nat → Env → Mem → Prop) (h0 : P 0 env m)
    (hs : ∀ i w env m, xs[i]? = some w → P i env m → ∃ env' m', (b w env m = .nx env' m' ∨ b w env m = .ct env' m') ∧ P (i + 1) env' m') : ∃ env' m', forM yesM b xs env m = .nx env' m' ∧ P xs.length env' m' := by
  have := forM_inv (chk := yesM) (b := b) P (xs := xs) (env := env) (m := m) 0 (fun i w e m hi hp => ⟨rfl, by rw [Nat.zero_add] at hp ⊢; exact hs i w e m hi hp⟩) (fun _ _ _ => rfl) h0
  rwa [Nat.zero_add] at this
theorem rng_get {lo : Int} {n i : Nat} {w : W} (h : (rngI lo n).xs[i]? = some w) : i < n ∧ w = .d (.int (lo + (i : Int))) := by
  have hi : i < n := by
    have := (List.getElem?_eq_some_iff.mp h).1
    simpa [rngI] using this
  have h : ((List.range n).map fun (k : Nat) => (W.d (.int (lo + (k : Int))) : W))[i]? = some w := h
  rw [List.getElem?_map, List.getElem?_range hi] at h
  cases h
  exact ⟨hi, rfl⟩
@[simp] theorem rng_len (lo : Int) (n : Nat) : (rngI lo n).xs.length = n := by simp [rngI]
/-- for k in range(..) -/
theorem forR_inv {b : W → SF} {lo : Int} {n : Nat} {env : Env} {m : Mem} (P : Nat → Env → Mem → Prop) (h0 : P 0 env m)
    (hs : ∀ (i : Nat) env m, i < n → P i env m → ∃ env' m', (b (.d (.int (lo + (i : Int)))) env m = .nx env' m' ∨ b (.d (.int (lo + (i : Int)))) env m = .ct env' m') ∧ P (i + 1) env' m') : ∃ env' m', forM (rngI lo n).chk b (rngI lo n).xs env m = .nx env' m' ∧ P n env' m' := by
  have := for_inv (b := b) (xs := (rngI lo n).xs) P h0 fun i w e m hi hp => by
    obtain ⟨h1, rfl⟩ := rng_get hi
    exact hs i e m h1 hp
  rwa [rng_len] at this
theorem while_inv {c : TF} {b : SF} (P : Nat → Env → Mem → Prop) (Z : Env → Mem → Prop)
    (hs : ∀ k env m, P k env m → (∃ m1, c env m = .ok false m1 ∧ Z env m1) ∨ (∃ m1 env' m' k', c env m = .ok true m1 ∧ (b env m1 = .nx env' m' ∨ b env m1 = .ct env' m') ∧ k' < k ∧ P k' env' m')) :
    ∀ (n k : Nat) (env : Env) (m : Mem), k < n → P k env m → ∃ env' m', whileM c b n env m = .nx env' m' ∧ Z env' m'
  | 0, k, env, m, hk, _ => absurd hk (Nat.not_lt_zero _)
  | n + 1, k, env, m, hk, h => by
    rcases hs k env m h with ⟨m1, h1, h2⟩ | ⟨m1, env', m', k', h1, h2, h3, h4⟩
    · exact ⟨env, m1, by simp only [whileM, h1, eS_ok]; rfl, h2⟩
    · obtain ⟨e2, m2, h5, h6⟩ := while_inv P Z hs n k' env' m' (by omega) h4
      refine ⟨e2, m2, ?_, h6⟩
      rcases h2 with h2 | h2
      · simp only [whileM, h1, eS_ok, if_true, h2]; exact h5
      · simp only [whileM, h1, eS_ok, if_true, h2]; exact h5
def stepOk (r : SRes) (Q : Env → Mem → Prop) : Prop := match r with
  | .nx e m => Q e m
  | .ct e m => Q e m
  | _ => False
@[simp] theorem stepOk_nx (e : Env) (m : Mem) (Q : Env → Mem → Prop) : stepOk (.nx e m) Q = Q e m := rfl
@[simp] theorem stepOk_ct (e : Env) (m : Mem) (Q : Env → Mem → Prop) : stepOk (.ct e m) Q = Q e m := rfl
theorem stepOk_ex {r : SRes} {Q : Env → Mem → Prop} (h : stepOk r Q) : ∃ env' m', (r = .nx env' m' ∨ r = .ct env' m') ∧ Q env' m' := by
  cases r with
  | nx e m => exact ⟨e, m, .inl rfl, h⟩
  | ct e m => exact ⟨e, m, .inr rfl, h⟩
  | _ => exact False.elim h
def Res.wp {α : Type} (r : Res α) (Q : α → Mem → Prop) : Prop := match r with
  | .ok a m => Q a m
  | _ => False
@[simp] theorem Res.wp_ok {α : Type} (a : α) (m : Mem) (Q : α → Mem → Prop) : (Res.ok a m).wp Q = Q a m := rfl
theorem Res.wp_ex {α : Type} {r : Res α} {Q : α → Mem → Prop} (h : r.wp Q) : ∃ a m, r = .ok a m ∧ Q a m := by
  cases r with
  | ok a m => exact ⟨a, m, rfl, h⟩
  | _ => exact False.elim h
theorem for_ex {b : W → SF} {xs : List W} {env : Env} {m : Mem} {res : SRes} (hx : forM yesM b xs env m = res) (P : Nat → Env → Mem → Prop) (h0 : P 0 env m)
    (hs : ∀ i w env m, xs[i]? = some w → P i env m → stepOk (b w env m) (P (i + 1))) : ∃ env' m', res = .nx env' m' ∧ P xs.length env' m' := by
  obtain ⟨e, m', h1, h2⟩ := for_inv P h0 fun i w e m hi hp => stepOk_ex (hs i w e m hi hp)
  exact ⟨e, m', hx.symm.trans h1, h2⟩
theorem forR_ex {b : W → SF} {lo : Int} {n : Nat} {env : Env} {m : Mem} {res : SRes} (hx : forM (rngI lo n).chk b (rngI lo n).xs env m = res) (P : Nat → Env → Mem → Prop) (h0 : P 0 env m)
    (hs : ∀ (i : Nat) env m, i < n → P i env m → stepOk (b (.d (.int (lo + (i : Int)))) env m) (P (i + 1))) : ∃ env' m', res = .nx env' m' ∧ P n env' m' := by
  obtain ⟨e, m', h1, h2⟩ := forR_inv P h0 fun i e m hi hp => stepOk_ex (hs i e m hi hp)
  exact ⟨e, m', hx.symm.trans h1, h2⟩
theorem while_ex {c : TF} {b : SF} {n k : Nat} {env : Env} {m : Mem} {res : SRes} (hx : whileM c b n env m = res) (P : Nat → Env → Mem → Prop) (Z : Env → Mem → Prop) (h0 : P k env m) (hk : k < n)
    (hs : ∀ k env m, P k env m → (c env m).wp fun t m1 => if t = true then stepOk (b env m1) (fun e m' => ∃ k', k' < k ∧ P k' e m') else Z env m1) : ∃ env' m', res = .nx env' m' ∧ Z env' m' := by
  obtain ⟨e, m', h1, h2⟩ := while_inv (c := c) (b := b) P Z (fun k env m hp => by
    obtain ⟨t, m1, e1, h1⟩ := Res.wp_ex (hs k env m hp)
    cases t with
    | false => exact .inl ⟨m1, e1, by simpa using h1⟩
    | true =>
      simp only [if_true] at h1
      obtain ⟨e2, m2, h2, k', h3, h4⟩ := stepOk_ex h1
      exact .inr ⟨m1, e2, m2, k', e1, h2, h3, h4⟩) n k env m hk h0
  exact ⟨e, m', hx.symm.trans h1, h2⟩
theorem rng1_ok {j : Int} {m : Mem} (h : -1000000 ≤ j) (h' : j ≤ 1000000) : rng1 [.d (.int j)] m = .ok (rngI 0 j.toNat) m := by
  have e : smallI j = true := grd_t ⟨by omega, by omega⟩
  simp only [rng1, e, if_true]
theorem rng2_ok {i j : Int} {m : Mem} (h : -1000000 ≤ i) (h' : i ≤ 1000000) (h1 : -1000000 ≤ j) (h2 : j ≤ 1000000) : rng2 [.d (.int i), .d (.int j)] m = .ok (rngI i (j - i).toNat) m := by
  have e : (smallI i && smallI j) = true := by
    rw [Bool.and_eq_true]
    exact ⟨grd_t ⟨by omega, by omega⟩, grd_t ⟨by omega, by omega⟩⟩
  simp only [rng2, e, if_true]
/-! ### statement by statement -/
def WP (Z : SRes → Prop) (r : SRes) : Prop := Z r
def thenZ (b : SF) (Z : SRes → Prop) (r : SRes) : Prop := match r with
  | .nx e m => WP Z (b e m)
  | r => Z r
section
variable {Z : SRes → Prop} {a b : SF} {env e : En} {m m1 : Mem}
theorem wp_seq (h : WP (thenZ b Z) (a env m)) : WP Z (sSeq a b env m) := by
  have h : thenZ b Z (a env m) := h
  unfold WP sSeq
  cases q : a env m with
  | nx e m1 => rw [q] at h; exact h
  | bk e m1 => rw [q] at h; exact h
  | ct e m1 => rw [q] at h; exact h
  | rt w m1 => rw [q] at h; exact h
  | err x e m1 => rw [q] at h; exact h
  | bad => rw [q] at h; exact h
/-- a statement that goes on -/
theorem wp_go (h : a env m = .nx e m1) (k : WP Z (b e m1)) : WP Z (sSeq a b env m) := by
  unfold WP sSeq
  rw [h]
  exact k
theorem wp_nx (k : WP Z (b env m)) : WP (thenZ b Z) (sNx env m) := k
theorem wp_then (h : a env m = .nx e m1) (k : WP Z (b e m1)) : WP (thenZ b Z) (a env m) := by
  unfold WP
  rw [h]
  exact k
theorem wp_eq (h : a env m = r) (k : Z r) : WP Z (a env m) := by
  unfold WP
  rw [h]
  exact k
theorem wp_ret {f : EF} {w : W} (h : f env m = .ok w m1) (k : Z (.rt w m1)) : WP Z (sRet f env m) := by
  unfold WP sRet
  rw [h]
  exact k
theorem wp_ifT {c : TF} (h : c env m = .ok true m1) (k : WP Z (a env m1)) : WP Z (sIf c a b env m) := by
  unfold WP sIf
  rw [h]
  exact k
theorem wp_ifF {c : TF} (h : c env m = .ok false m1) (k : WP Z (b env m1)) : WP Z (sIf c a b env m) := by
  unfold WP sIf
  rw [h]
  exact k
theorem wp_if {c : TF} {t : Bool} (h : c env m = .ok t m1) (k : t = true → WP Z (a env m1)) (k' : t = false → WP Z (b env m1)) : WP Z (sIf c a b env m) := by
  cases t with
  | true => exact wp_ifT h (k rfl)
  | false => exact wp_ifF h (k' rfl)
theorem wp_forR {it : IF} {g : GF} {lo : Int} {n : Nat} (hi : it env m = .ok (rngI lo n) m1) (P : Nat → En → Mem → Prop) (h0 : P 0 env m1) (hs : ∀ (i : Nat) env m, i < n → P i env m → stepOk (sTg g b (.d (.int (lo + (i : Int)))) env m) (P (i + 1)))
    (k : ∀ e m', P n e m' → Z (.nx e m')) : WP Z (sFor it g b env m) := by
  unfold WP sFor
  rw [hi, eS_ok]
  obtain ⟨e, m', h1, h2⟩ := forR_ex rfl P h0 hs
  rw [h1]
  exact k e m' h2
theorem wp_forL {it : IF} {g : GF} {ds : List D} (hi : it env m = .ok (itsL ds) m1) (P : Nat → En → Mem → Prop) (h0 : P 0 env m1) (hs : ∀ (i : Nat) d env m, ds[i]? = some d → P i env m → stepOk (sTg g b (.d d) env m) (P (i + 1)))
    (k : ∀ e m', P ds.length e m' → Z (.nx e m')) : WP Z (sFor it g b env m) := by
  unfold WP sFor
  rw [hi, eS_ok]
  obtain ⟨e, m', h1, h2⟩ := for_ex (b := sTg g b) (xs := (itsL ds).xs) rfl P h0 fun i w env m hw hp => by
    have hw : (ds.map W.d)[i]? = some w := hw
    rw [List.getElem?_map] at hw
    cases q : ds[i]? with
    | none => rw [q] at hw; cases hw
    | some d => rw [q] at hw; cases hw; exact hs i d env m q hp
  have h1 : M.forM (itsL ds).chk (sTg g b) (itsL ds).xs env m1 = .nx e m' := h1
  rw [h1]
  refine k e m' ?_
  have hl : (itsL ds).xs.length = ds.length := by simp [itsL]
  rw [hl] at h2
  exact h2
theorem wp_while {c : TF} {n k0 : Nat} (P : Nat → En → Mem → Prop) (Y : En → Mem → Prop) (h0 : P k0 env m) (hk : k0 < n)
    (hs : ∀ k env m, P k env m → (c env m).wp fun t m1 => if t = true then stepOk (b env m1) (fun e m' => ∃ k', k' < k ∧ P k' e m') else Y env m1)
    (k : ∀ e m', Y e m' → Z (.nx e m')) : WP Z (whileM c b n env m) := by
  obtain ⟨e, m', h1, h2⟩ := while_ex rfl P Y h0 hk hs
  unfold WP
  rw [h1]
  exact k e m' h2
theorem wp_sForR {c : SF} {it : IF} {g : GF} {lo : Int} {n : Nat} (hi : it env m = .ok (rngI lo n) m1) (P : Nat → En → Mem → Prop) (h0 : P 0 env m1) (hs : ∀ (i : Nat) env m, i < n → P i env m → stepOk (sTg g b (.d (.int (lo + (i : Int)))) env m) (P (i + 1)))
    (k : ∀ e m', P n e m' → WP Z (c e m')) : WP Z (sSeq (sFor it g b) c env m) := wp_seq (wp_forR hi P h0 hs k)
theorem wp_sForL {c : SF} {it : IF} {g : GF} {ds : List D} (hi : it env m = .ok (itsL ds) m1) (P : Nat → En → Mem → Prop) (h0 : P 0 env m1) (hs : ∀ (i : Nat) d env m, ds[i]? = some d → P i env m → stepOk (sTg g b (.d d) env m) (P (i + 1)))
    (k : ∀ e m', P ds.length e m' → WP Z (c e m')) : WP Z (sSeq (sFor it g b) c env m) := wp_seq (wp_forL hi P h0 hs k)
theorem wp_sWhile {d : SF} {c : TF} {n k0 : Nat} (P : Nat → En → Mem → Prop) (Y : En → Mem → Prop) (h0 : P k0 env m) (hk : k0 < n)
    (hs : ∀ k env m, P k env m → (c env m).wp fun t m1 => if t = true then stepOk (b env m1) (fun e m' => ∃ k', k' < k ∧ P k' e m') else Y env m1)
    (k : ∀ e m', Y e m' → WP Z (d e m')) : WP Z (sSeq (whileM c b n) d env m) := wp_seq (wp_while P Y h0 hk hs k)
theorem wp_sIfT {c : TF} {d : SF} (h : c env m = .ok true m1) (k : WP (thenZ d Z) (a env m1)) : WP Z (sSeq (sIf c a b) d env m) := wp_seq (wp_ifT h k)
theorem wp_sIfF {c : TF} {d : SF} (h : c env m = .ok false m1) (k : WP (thenZ d Z) (b env m1)) : WP Z (sSeq (sIf c a b) d env m) := wp_seq (wp_ifF h k)
/-- if c: return .. -/
theorem wp_sIfN {c : TF} {d : SF} (h : c env m = .ok false m1) (k : WP Z (d env m1)) : WP Z (sSeq (sIf c a sNx) d env m) := wp_seq (wp_ifF h (wp_nx k))
theorem wp_sIfR {c : TF} {d : SF} {f : EF} {w : W} {m2 : Mem} (h : c env m = .ok true m1) (hf : f env m1 = .ok w m2) (k : Z (.rt w m2)) : WP Z (sSeq (sIf c (sRet f) b) d env m) := wp_seq (wp_ifT h (wp_ret hf k))
mutual
theorem beqD_refl : ∀ (d : D), d.canLay0 = true → beqD d d = true
  | .none, _ => by simp [beqD]
  | .bool a, _ => by simp [beqD]
  | .int a, _ => by simp [beqD]
  | .str a, _ => by simp [beqD]
  | .list a, h => by
    simp only [beqD]
    exact beqDs_refl a (by simpa [PyData.canLay0] using h)
  | .tuple a, h => by
    simp only [beqD]
    exact beqDs_refl a (by simpa [PyData.canLay0] using h)
  | .dict a, h => by simp [PyData.canLay0] at h
theorem beqDs_refl : ∀ (ds : List D), PyData.canLayAll0 ds = true → beqDs ds ds = true
  | [], _ => by simp [beqDs]
  | d :: ds, h => by
    simp only [PyData.canLayAll0, Bool.and_eq_true] at h
    simp only [beqDs, Bool.and_eq_true]
    exact ⟨beqD_refl d h.1, beqDs_refl ds h.2⟩
end
theorem sameM_of {i : Nat} {ds : List D} {m : Mem} (h : asL (.obj i) m = some ds) (hc : PyData.canLayAll0 ds = true) : sameM i ds m = true := by
  unfold sameM
  rw [h]
  exact grd_t rfl
/-- a loop over an object that stays as it is -/
theorem wp_sForO {c : SF} {it : IF} {g : GF} {o : Nat} {ds : List D} (hi : it env m = .ok ⟨ds.map .d, sameM o ds⟩ m1) (hc : PyData.canLayAll0 ds = true) (P : Nat → En → Mem → Prop) (h0 : P 0 env m1) (ho : ∀ i env m, P i env m → asL (.obj o) m = some ds)
    (hs : ∀ (i : Nat) d env m, ds[i]? = some d → P i env m → stepOk (sTg g b (.d d) env m) (P (i + 1)))
    (k : ∀ e m', P ds.length e m' → WP Z (c e m')) : WP Z (sSeq (sFor it g b) c env m) := by
  refine wp_seq ?_
  unfold WP sFor
  rw [hi, eS_ok]
  obtain ⟨e, m', h1, h2⟩ := forM_inv (chk := sameM o ds) (b := sTg g b) P (xs := ds.map .d) (env := env) (m := m1) 0 (fun i w env m hw hp => by
    rw [Nat.zero_add] at hp ⊢
    refine ⟨sameM_of (ho i env m hp) hc, ?_⟩
    rw [List.getElem?_map] at hw
    cases q : ds[i]? with
    | none => rw [q] at hw; cases hw
    | some d => rw [q] at hw; cases hw; exact stepOk_ex (hs i d env m q hp)) (fun env m hp => sameM_of (ho _ env m hp) hc) h0
  have h1 : M.forM (sameM o ds) (sTg g b) (ds.map .d) env m1 = .nx e m' := h1
  show thenZ c Z (M.forM (sameM o ds) (sTg g b) (ds.map .d) env m1)
  rw [h1]
  refine k e m' ?_
  rw [Nat.zero_add, List.length_map] at h2
  exact h2
def outF (n : Nat) (r : SRes) : Res W := match r with
  | .rt w m' => finM n w m'
  | .nx _ m' => finM n (.d .none) m'
  | .err e _ m' => if clM n m' = true then .err e (m'.take n) else .bad
  | _ => .bad
theorem clM_app {m : Mem} {l : List O} (h : clM m.length m = true) : clM m.length (m ++ l) = true := by
  unfold clM at h ⊢
  rw [List.take_left]
  rwa [List.take_length] at h
theorem run_wp {Q : Res W → Prop} {N : Nat} {g : SF} {ws : List W} (h : WP (fun r => Q (outF m.length r)) (g (env0 N ws) m)) : Q (runF N g ws m) := by
  have h : Q (outF m.length (g (env0 N ws) m)) := h
  unfold outF at h
  unfold runF
  exact h
/-- a value handed back, nothing kept -/
theorem outF_d (x : D) (l : List O) (h : clM m.length m = true) : outF m.length (.rt (.d x) (m ++ l)) = .ok (.d x) m := by simp [outF, finM, clM_app h]
theorem outF_d0 (x : D) (h : clM m.length m = true) : outF m.length (.rt (.d x) m) = .ok (.d x) m := by simp [outF, finM, h]
theorem outF_fl (x : List D) (l : List O) (h : clM m.length m = true) : outF m.length (.rt (.fl x) (m ++ l)) = .ok (.fl x) m := by simp [outF, finM, clM_app h]
theorem outF_fl0 (x : List D) (h : clM m.length m = true) : outF m.length (.rt (.fl x) m) = .ok (.fl x) m := by simp [outF, finM, h]
theorem outF_obj {i : Nat} {l : List O} {ds : List D} (hc : clM m.length m = true) (h : l[i]? = some (.lst ds)) : outF m.length (.rt (.obj (m.length + i)) (m ++ l)) = .ok (.fl ds) m := by
  have e : (m ++ l)[m.length + i]? = some (.lst ds) := by rw [List.getElem?_append_right (by omega), Nat.add_sub_cancel_left]; exact h
  simp only [outF, finM]
  rw [if_pos (clM_app hc), if_neg (by omega), e]
  simp
end
/-! ### comprehensions -/
theorem lcM_pure {b : W → Mem → Res (Option D)} {f : W → Option D} {m : Mem} : ∀ {xs : List W} {acc : List D}, (∀ w ∈ xs, b w m = .ok (f w) m) → acc.length + xs.length ≤ sizeLine → lcM yesM b xs acc m = .ok (.fl (acc ++ xs.filterMap f)) m
  | [], acc, _, _ => by simp [lcM, yesM]
  | x :: xs, acc, h, hl => by
    have hx := h x List.mem_cons_self
    simp only [List.length_cons] at hl
    simp only [lcM, yesM, if_true, hx, Res.bind_ok]
    cases e : f x with
    | none =>
      simp only [List.filterMap_cons, e]
      exact lcM_pure (fun w hw => h w (List.mem_cons_of_mem _ hw)) (by omega)
    | some d =>
      simp only [List.filterMap_cons, e]
      rw [if_pos (by omega)]
      have := lcM_pure (b := b) (f := f) (m := m) (xs := xs) (acc := acc ++ [d]) (fun w hw => h w (List.mem_cons_of_mem _ hw)) (by rw [List.length_append, List.length_singleton]; omega)
      rw [show acc ++ d :: xs.filterMap f = (acc ++ [d]) ++ xs.filterMap f by simp]
      exact this
theorem lc_map {b : W → Mem → Res (Option D)} {m : Mem} {ds : List D} {f : D → D} (h : ∀ d ∈ ds, b (.d d) m = .ok (some (f d)) m) (hl : ds.length ≤ sizeLine) : lcM yesM b (ds.map .d) [] m = .ok (.fl (ds.map f)) m := by
  have := lcM_pure (b := b) (f := fun w => match w with | .d d => some (f d) | _ => none) (m := m) (xs := ds.map .d) (acc := []) (fun w hw => by
    obtain ⟨d, hd, rfl⟩ := List.mem_map.mp hw
    exact h d hd) (by simpa using hl)
  rw [this, List.nil_append, List.filterMap_map]
  congr 2
  clear this h hl
  induction ds with
  | nil => rfl
  | cons d ds ih => simp [List.filterMap_cons, ih]
end M

set_option Elab.async false
set_option linter.all false
set_option maxRecDepth 100000
/-! M: exceptions -/
namespace M
open PySem L2
/-- an exception class of the program's own over ValueError, made with a text -/
structure XC (K : PySem.W.Frag) (mg : Str → Option Value) (x : Str) where
  C : Addr
  g : mg x = some (.ref C)
  q : PySem.W.excIn K C [.type "ValueError", .type "Exception", .type "BaseException", .type "object"] "ValueError.__new__" = true
  k : PySem.W.keepIn K (.ref C) = true
  b : PySem.W.subIn K (.ref C) (.type "BaseException") = some true
  t : PySem.W.typeIn K (.ref C) = some (.type "type")
def tabOf : List (Str × Bool) → Str → Option Bool
  | [], _ => none
  | (n, b) :: r, x => if x = n then some b else tabOf r x
inductive TabOk (K : PySem.W.Frag) (mg : Str → Option Value) (c : Value) : List (Str × Bool) → Prop
  | nil : TabOk K mg c []
  | cons {n : Str} {b : Bool} {cls : Value} {l : List (Str × Bool)} : mg n = some cls → PySem.W.exmOne K cls c = some b → TabOk K mg c l → TabOk K mg c ((n, b) :: l)
theorem tab_ok {K : PySem.W.Frag} {mg : Str → Option Value} {c : Value} : ∀ {l : List (Str × Bool)}, TabOk K mg c l → ∀ n b cls, tabOf l n = some b → mg n = some cls → PySem.W.exmOne K cls c = some b
  | _, .nil, n, b, cls, h, _ => by cases h
  | _, .cons (n := n') (b := b') g e t, n, b, cls, h, hm => by
    unfold tabOf at h
    by_cases q : n = n'
    · rw [if_pos q] at h
      cases h
      rw [q, g] at hm
      cases hm
      exact e
    · rw [if_neg q] at h
      exact tab_ok t n b cls h hm
section
variable {X : Cx} {Wx : WX}
def sRaise (x : Str) (env : Env) (m : Mem) : SRes := .err ⟨x, []⟩ env m
theorem ms_raise {x m : Str} {j : Nat} {p p2 pos pos' : Pos} (hc : X.calm = true) (tk : Takes X Wx) (c : XC X.K X.mg x) (hg : Gl X x) (hdb : (x == ("__debug__" : Str)) = false := by decide) :
    MS X Wx (.Raise (some (.Call (.Name x p) [.Constant (.str m) j p2] [] pos)) none pos') (sRaise x) :=
  ⟨_, ps_raise hc tk (pmk_own PySem.F.excBase_ValueError c.q c.g c.k (raises_own c.b c.t) hg hdb), fun env m σ G E S R h => h _ _ σ G (Le.refl R) R S ⟨c.g, .inl ⟨rfl, rfl⟩⟩⟩
/-- readings of blocks that do not hang on the place -/
def cB (X : Cx) (Wx : WX) (f : SF) : TS := fun E σ H => ∃ env m G, G.H = H ∧ RelS X.K G σ env ∧ RelM X.K G m ∧ SPost X Wx G (f env m) E
theorem MB.pss {st : List Stmt} {f : SF} (h : MB X Wx st f) : PSs X st (cB X Wx f) := by
  obtain ⟨t, p, q⟩ := h
  refine ⟨fun pins s σ H D I ⟨env, m, G, e, S, R, h⟩ => p.run pins s σ H D I ?_⟩
  subst e
  exact q env m σ G D S R h
def noErrS (r : SRes) : SRes := match r with
  | .err _ _ _ => .bad
  | r => r
def sTry (tab : Str → Option Bool) (fb fs : SF) (env : Env) (m : Mem) : SRes := match fb env m with
  | .err e env' m' => (match tab e.cls with
    | some true => noErrS (fs env' m')
    | some false => .err e env' m'
    | none => .bad)
  | r => r
theorem ms_try {x : Str} {c : Value} {body suite : List Stmt} {b₀ : Stmt} {np pos pos' : Pos} {tab : Str → Option Bool} {fb fs : SF} (hs : X.stack = X.env :: X.outer) (hf : X.env.frame = some X.env.locals) (hc : Names X x c) (tk : Takes X Wx)
    (htab : ∀ n b cls, tab n = some b → X.mg n = some cls → PySem.W.exmOne X.K cls c = some b)
    (hb : ∀ (W : WX) (pn : List (Addr × Obj)) (xe : Value → Shared → Prop), Takes (X.tr pn xe) W → PassesOwn (model X.prog X.w) X.A X.env xe → MB (X.tr pn xe) W body fb)
    (hsu : ∀ (a : Addr) (oe : Obj) (cls : Value) (d : Option Addr) (pn : List (Addr × Obj)), Zc cls d oe → (∃ vs, oe.data = .fields vs) → MB (X.suite a ((a, oe) :: pn)) WF (b₀ :: suite) fs) :
    MS X Wx (.Try body [.ExceptHandler (some (.Name x np)) none (b₀ :: suite) pos'] [] [] pos) (sTry tab fb fs) := by
  refine ⟨_, ps_try_only (tb := fun W => cB X W fb) (ts := fun _ _ _ => cB X WF fs) hs hf hc tk (fun W pn xe tk' po => (hb W pn xe tk' po).pss) (fun a oe cls d pn hz hf => (hsu a oe cls d pn hz hf).pss), fun env m σ G E S R h => ?_⟩
  refine ⟨env, m, G, rfl, S, R, ?_⟩
  unfold sTry at h
  cases q : fb env m with
  | nx e m1 => rw [q] at h; exact h
  | bk e m1 => rw [q] at h; exact h
  | ct e m1 => rw [q] at h; exact h
  | rt w m1 => rw [q] at h; exact h
  | bad => rw [q] at h; exact h
  | err e env' m1 =>
    rw [q] at h
    dsimp only at h
    intro c' d σ' G' le R' S' ex
    cases t : tab e.cls with
    | none => rw [t] at h; exact False.elim h
    | some b =>
      rw [t] at h
      refine ⟨b, htab _ b c' t ex.1, fun hb a ha => ?_, fun hb => ?_⟩
      · subst hb
        dsimp only at h
        refine ⟨env', m1, G', rfl, S', R', ?_⟩
        cases r : fs env' m1 with
        | nx e2 m2 => rw [r] at h; exact SPost.later (X := X) (Wx := WF) (r := .nx e2 m2) h le
        | bk e2 m2 => rw [r] at h; exact SPost.later (X := X) (Wx := WF) (r := .bk e2 m2) h le
        | ct e2 m2 => rw [r] at h; exact SPost.later (X := X) (Wx := WF) (r := .ct e2 m2) h le
        | rt w2 m2 => rw [r] at h; exact SPost.later (X := X) (Wx := WF) (r := .rt w2 m2) h le
        | err e2 v2 m2 => rw [r] at h; exact False.elim h
        | bad => rw [r] at h; exact False.elim h
      · subst hb
        exact h c' d σ' G' le R' S' ex
end
end M

set_option Elab.async false
set_option linter.all false
set_option maxRecDepth 100000
/-! M: list + list, whichever lists; list * int -/
namespace M
open PySem L2 PyProof.Rows
section
variable {X : Cx} {Wx : WX}
def rCatS (K : PySem.W.Frag) : R2 := fun x y H Q => ∃ l b xs zs, x = .ref l ∧ y = .ref b ∧ SqL K H l xs ∧ SqL K H b zs ∧ xs.length + zs.length ≤ sizeLine ∧ ∀ p, H p = none → Q (.ref p) (upd H p (.lst (xs ++ zs)))
theorem op_catS : OpR X (binaryOp .Add) (rCatS X.K) := by
  intro pins s σ H x y v u Q I rx ry h
  obtain ⟨l, b, xs, zs, rfl, rfl, hH, hB, hz, q⟩ := h
  cases rx
  cases ry
  obtain ⟨its, r, ht, hz1⟩ := I.list hH
  obtain ⟨its2, r2, ht2, hz2⟩ := I.list hB
  have hlen := r.length
  have hlen2 := r2.length
  obtain ⟨⟨cls, dd, data, sl⟩, ho, hc, n, hd⟩ := id ht.isList
  obtain ⟨⟨cls2, dd2, data2, sl2⟩, ho2, hc2, n2, hd2⟩ := id ht2.isList
  simp only at hc hd hc2 hd2
  subst hc hd hc2 hd2
  have e : its.toArray ++ its2.toArray = (its ++ its2).toArray := by simp
  refine concat_meets ⟨_, ho, rfl⟩ ⟨_, ho2, rfl⟩ noFill_list_add seq_list_add PySem.F.slot_list_add PySem.F.entry_list_add (PySem.F.args_list_add_2 _ _) (list_addW l b its.toArray its2.toArray n n2 dd dd2 sl sl2 (by rw [List.size_toArray, List.size_toArray]; omega)) ⟨ho, ho2, ?_⟩
  rw [e]
  exact ⟨.ref _, _, I.lnew (t' := s.toks) (r.append r2) (by rw [List.length_append]; omega), rfl, q _ I.fresh⟩
def addAW (x y : W) (m : Mem) : Res W :=
  match x, y with
  | .d (.int i), .d (.int j) => .ok (.d (.int (i + j))) m
  | .d (.str a), .d (.str b) => if a.length + b.length ≤ sizeLine then .ok (.d (.str (a ++ b))) m else .bad
  | .d (.tuple a), .d (.tuple b) => if a.length + b.length ≤ sizeLine then .ok (.d (.tuple (a ++ b))) m else .bad
  | x, y => match asL x m, asL y m with
    | some a, some b => if a.length + b.length ≤ sizeLine then .ok (.fl (a ++ b)) m else .bad
    | _, _ => .bad
def rAddS (K : PySem.W.Frag) : R2 := fun x y H Q => (rI0 (fun i j => .int (i + j)) x y H Q ∨ (∃ i j, x = .str i ∧ y = .str j ∧ i.length + j.length ≤ sizeLine ∧ Q (.str (i ++ j)) H)) ∨ (rCatA K x y H Q ∨ rCatS K x y H Q)
theorem op_addS : OpR X (binaryOp .Add) (rAddS X.K) := (op_add.or op_add_str).or (op_catA.or op_catS)
theorem addLS_ok {σ : L2.St} {G : Wd} {m : Mem} {v u : V} {x y : W} {H0 H1 : Hp} {Q : VK} (R : RelM X.K G m) (rx : RepR X.K H0 G v x) (ry : RepR X.K H1 G u y)
    (h : GPost X Wx σ G (RepR X.K) (match asL x m, asL y m with | some a, some b => if a.length + b.length ≤ sizeLine then .ok (.fl (a ++ b)) m else .bad | _, _ => .bad) Q) : rAddS X.K v u G.H Q := by
  cases ex : asL x m with
  | none => rw [ex] at h; exact False.elim h
  | some a =>
    cases ey : asL y m with
    | none => rw [ex, ey] at h; exact False.elim h
    | some b =>
      rw [ex, ey] at h
      obtain ⟨p, vs, rfl, h1, r1⟩ := asL_sq R rx ex
      obtain ⟨q, us, rfl, h2, r2⟩ := asL_sq R ry ey
      by_cases hz : a.length + b.length ≤ sizeLine
      · simp only [hz, if_true] at h
        exact .inr (.inr ⟨p, q, vs, us, rfl, rfl, h1, h2, by rw [r1.length, r2.length]; exact hz, fun l hl => finL R h (r1.append r2) hl⟩)
      · simp only [hz, if_false] at h
        exact False.elim h
theorem addAW_ok : OpOk X Wx (rAddS X.K) addAW := by
  intro σ G m v u x y H0 H1 Q R rx ry h
  cases x with
  | d x =>
    cases y with
    | d y =>
      cases x with
      | int i =>
        cases y with
        | int j => cases rx; cases ry; exact .inl (.inl ⟨i, j, rfl, rfl, finD R h (.int _)⟩)
        | _ => exact addLS_ok R rx ry h
      | str a =>
        cases y with
        | str b =>
          cases rx; cases ry
          simp only [addAW] at h
          by_cases hz : a.length + b.length ≤ sizeLine
          · simp only [hz, if_true] at h
            exact .inl (.inr ⟨a, b, rfl, rfl, hz, finD R h (.str _)⟩)
          · simp only [hz, if_false] at h
            exact False.elim h
        | _ => exact addLS_ok R rx ry h
      | tuple a =>
        cases y with
        | tuple b =>
          simp only [addAW] at h
          by_cases hz : a.length + b.length ≤ sizeLine
          · simp only [hz, if_true] at h
            cases rx with
            | @tup p vs _ t1 r1 =>
              cases ry with
              | @tup q us _ t2 r2 =>
                refine .inr (.inl ⟨p, q, vs, us, rfl, rfl, t1.sq, t2.sq, by rw [r1.length, r2.length]; exact hz, fun e => ?_, fun e1 e2 => ?_, fun e1 e2 l hl => finT R h (r1.append r2) hl⟩)
                · have ea := r1.nil_iff.mp e
                  subst ea
                  exact finD R h (.tup t2 r2)
                · have eb := r2.nil_iff.mp e2
                  subst eb
                  rw [List.append_nil] at h
                  exact finD R h (.tup t1 r1)
          · simp only [hz, if_false] at h
            exact False.elim h
        | _ => exact addLS_ok R rx ry h
      | _ => exact addLS_ok R rx ry h
    | obj j => cases x <;> exact addLS_ok R rx ry h
    | fl j => cases x <;> exact addLS_ok R rx ry h
    | ro j => cases x <;> exact addLS_ok R rx ry h
  | obj i => exact addLS_ok R rx ry h
  | fl i => exact addLS_ok R rx ry h
  | ro i => exact addLS_ok R rx ry h
/-! list * int -/
noncomputable def repW (x y : W) (m : Mem) : Res W := match asT x m, y with
  | some ds, .d (.int k) => if grd (-(2 ^ 63) ≤ k ∧ k < 2 ^ 63 ∧ ds.length * k.toNat ≤ sizeLine) = true then .ok (.fl (List.replicate k.toNat ds).flatten) m else .bad
  | _, _ => .bad
theorem Reps.rep {K : PySem.W.Frag} {lv : List Addr} {H : Hp} {vs : List V} {ds : List D} (r : Reps K lv H vs ds) : ∀ n : Nat, Reps K lv H (List.replicate n vs).flatten (List.replicate n ds).flatten
  | 0 => .nil
  | n + 1 => by rw [List.replicate_succ, List.replicate_succ, List.flatten_cons, List.flatten_cons]; exact r.append (Reps.rep r n)
theorem repW_ok : OpOk X Wx rRep repW := by
  intro σ G m v u x y H0 H1 Q R rx ry h
  unfold repW at h
  split at h
  · rename_i ds k e
    obtain ⟨p, vs, rfl, h1, r1⟩ := asT_sq R rx e
    cases ry
    by_cases hg : grd (-(2 ^ 63) ≤ k ∧ k < 2 ^ 63 ∧ ds.length * k.toNat ≤ sizeLine) = true
    · rw [if_pos hg] at h
      obtain ⟨g1, g2, g3⟩ := grd_iff.mp hg
      exact ⟨p, k, vs, rfl, rfl, h1, g1, g2, by rw [r1.length]; exact g3, fun l hl => finL R h (r1.rep k.toNat) hl⟩
    · rw [if_neg hg] at h
      exact False.elim h
  · exact False.elim h
theorem op_repA : OpR X (binaryOp .Mult) rRep := op_rep
end
end M

set_option Elab.async false
set_option linter.all false
set_option maxRecDepth 100000
/-! P: defs as pure functions. PR: ends; PV: what a slot holds, by value; GV: a value or a slot's object -/
namespace M
open PySem L2
@[irreducible] def fuelW : Nat := 100000
@[irreducible] def fuelR : Nat := 40
theorem fuelR_eq : fuelR = 40 := by unfold fuelR; rfl
theorem fuelW_eq : fuelW = 100000 := by unfold fuelW; rfl
inductive PR (α : Type) where
  | ok (a : α)
  | err (e : Exn)
  | bad
def PR.bind {α β : Type} (r : PR α) (k : α → PR β) : PR β := match r with
  | .ok a => k a
  | .err e => .err e
  | .bad => .bad
@[simp] theorem PR.bind_ok {α β : Type} (a : α) (k : α → PR β) : (PR.ok a).bind k = k a := rfl
@[simp] theorem PR.bind_err {α β : Type} (e : Exn) (k : α → PR β) : (PR.err e : PR α).bind k = .err e := rfl
@[simp] theorem PR.bind_bad {α β : Type} (k : α → PR β) : (PR.bad : PR α).bind k = .bad := rfl
theorem PR.bind_ne {α β : Type} {r : PR α} {k : α → PR β} (h : r.bind k ≠ .bad) : (∃ a, r = .ok a ∧ r.bind k = k a) ∨ (∃ e, r = .err e ∧ r.bind k = .err e) := by
  cases r with
  | ok a => exact .inl ⟨a, rfl, rfl⟩
  | err e => exact .inr ⟨e, rfl, rfl⟩
  | bad => exact absurd rfl h
/-- the numbers' deck -/
structure Dk where
  cs : List Int
  l : Int
  t : Int
  s : Int
  x : Bool
  ne : cs ≠ []
  le : cs.length ≤ 100
  s0 : 0 ≤ s
  s1 : s < 2147483647
inductive PV where
  | x
  | d (v : D)
  | b (xs : List D)
  | l (p : Bool) (xs : List D)
  | k (p : Bool) (q : Dk)
  | m (kvs : List (Str × D))
  | n (kvs : List (Str × D))
inductive GV where
  | v (x : D)
  | r (i : Nat)
def kC : Str := Str.ofString "cells"
def kL : Str := Str.ofString "left"
def kA : Str := Str.ofString "at"
def kS : Str := Str.ofString "seed"
def kM : Str := Str.ofString "mixed"
def dk (a : Nat) (l t s : Int) (x : Bool) : List (Str × W) := [(kC, .obj a), (kL, .d (.int l)), (kA, .d (.int t)), (kS, .d (.int s)), (kM, .d (.bool x))]
structure DkAt (m : Mem) (a b : Nat) (q : Dk) : Prop where
  ab : a < b
  ca : m[a]? = some (.lst (q.cs.map .int))
  cb : m[b]? = some (.dct (dk a q.l q.t q.s q.x))
structure Fr where
  m0 : Mem
  pin : Nat → List Nat
/-- a dict of data in the memory -/
def kvW (kvs : List (Str × D)) : List (Str × W) := kvs.map fun p => (p.1, .d p.2)
theorem okO_kv (n : Nat) (kvs : List (Str × D)) : okO n (.dct (kvW kvs)) = true := by
  simp [okO, kvW, okW]
/-- a list that is only read: data, the script, an object of an outer def -/
def BW (fr : Fr) (w : W) (xs : List D) : Prop := w = .d (.list xs) ∨ w = .ro xs ∨ ∃ j, w = .obj j ∧ fr.m0[j]? = some (.lst xs) ∧ ∀ i, j ∉ fr.pin i
def SlotOk (fr : Fr) (m : Mem) (i : Nat) (js : List Nat) (e : Option (Option W)) : Option PV → Prop
  | none => js = []
  | some .x => js = []
  | some (.d v) => js = [] ∧ e = some (some (.d v))
  | some (.b xs) => js = [] ∧ ∃ w, e = some (some w) ∧ BW fr w xs
  | some (.l p xs) => ∃ j, js = [j] ∧ e = some (some (.obj j)) ∧ m[j]? = some (.lst xs) ∧ ((p = true ∧ fr.pin i = [j]) ∨ (p = false ∧ fr.m0.length ≤ j))
  | some (.k p q) => ∃ b a, js = [b, a] ∧ e = some (some (.obj b)) ∧ DkAt m a b q ∧ ((p = true ∧ fr.pin i = [b, a]) ∨ (p = false ∧ fr.m0.length ≤ a))
  | some (.m kvs) => ∃ j, js = [j, j] ∧ e = some (some (.obj j)) ∧ m[j]? = some (.dct (kvW kvs)) ∧ fr.m0.length ≤ j
  | some (.n kvs) => js = [] ∧ ∃ j, e = some (some (.obj j)) ∧ fr.m0[j]? = some (.dct (kvW kvs)) ∧ ∀ i, j ∉ fr.pin i
structure Rel (fr : Fr) (ρ : List PV) (env : Env) (m : Mem) : Prop where
  pok : ∀ i j, j ∈ fr.pin i → j < fr.m0.length
  len : fr.m0.length ≤ m.length
  fix : ∀ j, j < fr.m0.length → (∀ i, j ∉ fr.pin i) → m[j]? = fr.m0[j]?
  c0 : ∀ (j : Nat) (o : O), fr.m0[j]? = some o → okO fr.m0.length o = true
  cp : ∀ (i j : Nat), j ∈ fr.pin i → ∀ o : O, m[j]? = some o → okO j o = true
  cn : ∀ (j : Nat) (o : O), fr.m0.length ≤ j → m[j]? = some o → okO m.length o = true
  el : env.length = ρ.length
  ex : ∃ J : Nat → List Nat, (∀ i i' j, j ∈ J i → j ∈ J i' → i = i') ∧ ∀ i, SlotOk fr m i (J i) env[i]? ρ[i]?
section
variable {fr : Fr} {ρ ρ' : List PV} {env env' : Env} {m m' : Mem}
theorem Rel.cpA (R : Rel fr ρ env m) (l : List O) : ∀ (i j : Nat), j ∈ fr.pin i → ∀ o : O, (m ++ l)[j]? = some o → okO j o = true := fun i j hj o e => by
  have := R.pok i j hj
  have := R.len
  rw [List.getElem?_append_left (by omega)] at e
  exact R.cp i j hj o e
theorem Rel.cnA (R : Rel fr ρ env m) {l : List O} (hl : ∀ o ∈ l, okO (m ++ l).length o = true) : ∀ (j : Nat) (o : O), fr.m0.length ≤ j → (m ++ l)[j]? = some o → okO (m ++ l).length o = true := fun j o hj e => by
  by_cases h : j < m.length
  · rw [List.getElem?_append_left h] at e
    exact okO.le (R.cn j o hj e) (by simp)
  · rw [List.getElem?_append_right (by omega)] at e
    exact hl o (List.mem_of_getElem? e)
theorem Rel.cpS (R : Rel fr ρ env m) (k : Nat) (ys : List D) : ∀ (i j : Nat), j ∈ fr.pin i → ∀ o : O, (m.set k (.lst ys))[j]? = some o → okO j o = true := fun i j hj o e => by
  by_cases h : k = j
  · subst h
    have hl := (List.getElem?_eq_some_iff.mp e).1
    rw [List.length_set] at hl
    rw [List.getElem?_set_self hl] at e
    cases e
    rfl
  · rw [List.getElem?_set_ne h] at e
    exact R.cp i j hj o e
theorem Rel.cnS (R : Rel fr ρ env m) (k : Nat) (ys : List D) : ∀ (j : Nat) (o : O), fr.m0.length ≤ j → (m.set k (.lst ys))[j]? = some o → okO (m.set k (.lst ys)).length o = true := fun j o hj e => by
  rw [List.length_set]
  by_cases h : k = j
  · subst h
    have hl := (List.getElem?_eq_some_iff.mp e).1
    rw [List.length_set] at hl
    rw [List.getElem?_set_self hl] at e
    cases e
    rfl
  · rw [List.getElem?_set_ne h] at e
    exact R.cn j o hj e
/-- what was there tells of nothing that is not -/
theorem Rel.cl (R : Rel fr ρ env m) : clM fr.m0.length m = true := by
  unfold clM
  rw [List.all_eq_true]
  intro o ho
  obtain ⟨j, e⟩ := List.getElem?_of_mem ho
  have hl := (List.getElem?_eq_some_iff.mp e).1
  rw [List.length_take] at hl
  rw [List.getElem?_take_of_lt (by omega)] at e
  by_cases hp : ∃ i, j ∈ fr.pin i
  · obtain ⟨i, hi⟩ := hp
    exact okO.le (R.cp i j hi o e) (by omega)
  · exact R.c0 j o (by rw [← R.fix j (by omega) fun i hi => hp ⟨i, hi⟩]; exact e)
theorem Rel.cm (R : Rel fr ρ env m) : ∀ (j : Nat) (o : O), m[j]? = some o → okO m.length o = true := fun j o e => by
  have hl := R.len
  by_cases h : j < fr.m0.length
  · by_cases hp : ∃ i, j ∈ fr.pin i
    · obtain ⟨i, hi⟩ := hp
      exact okO.le (R.cp i j hi o e) (by omega)
    · exact okO.le (R.c0 j o (by rw [← R.fix j h fun i hi => hp ⟨i, hi⟩]; exact e)) hl
  · exact R.cn j o (by omega) e
theorem SlotOk.lt {i : Nat} {js : List Nat} {e : Option (Option W)} {v : Option PV} (h : SlotOk fr m i js e v) : ∀ j ∈ js, j < m.length := by
  intro j hj
  match v, h with
  | none, h => rw [show js = [] from h] at hj; cases hj
  | some .x, h => rw [show js = [] from h] at hj; cases hj
  | some (.d v), h => rw [h.1] at hj; cases hj
  | some (.b v), h => rw [h.1] at hj; cases hj
  | some (.l p xs), ⟨k, e1, e2, e3, _⟩ =>
    rw [e1] at hj
    rw [List.mem_singleton.mp hj]
    exact (List.getElem?_eq_some_iff.mp e3).1
  | some (.k p q), ⟨b, a, e1, e2, e3, _⟩ =>
    have hb := (List.getElem?_eq_some_iff.mp e3.cb).1
    have := e3.ab
    rw [e1] at hj
    rcases List.mem_cons.mp hj with rfl | hj
    · exact hb
    · rw [List.mem_singleton.mp hj]; omega
  | some (.m kvs), ⟨k, e1, e2, e3, _⟩ =>
    rw [e1] at hj
    have : j = k := by simpa using hj
    rw [this]
    exact (List.getElem?_eq_some_iff.mp e3).1
  | some (.n v), h => rw [h.1] at hj; cases hj
/-- a slot's thing stands while its places stand -/
theorem SlotOk.mem {i : Nat} {js : List Nat} {e : Option (Option W)} {v : Option PV} (h : SlotOk fr m i js e v) (hm : ∀ j ∈ js, m'[j]? = m[j]?) : SlotOk fr m' i js e v := by
  match v, h with
  | none, h => exact h
  | some .x, h => exact h
  | some (.d v), h => exact h
  | some (.b v), h => exact h
  | some (.l p xs), ⟨k, e1, e2, e3, e4⟩ => exact ⟨k, e1, e2, by rw [hm k (by rw [e1]; exact List.mem_singleton.mpr rfl)]; exact e3, e4⟩
  | some (.k p q), ⟨b, a, e1, e2, e3, e4⟩ =>
    exact ⟨b, a, e1, e2, ⟨e3.ab, by rw [hm a (by rw [e1]; simp)]; exact e3.ca, by rw [hm b (by rw [e1]; simp)]; exact e3.cb⟩, e4⟩
  | some (.m kvs), ⟨k, e1, e2, e3, e4⟩ => exact ⟨k, e1, e2, by rw [hm k (by rw [e1]; simp)]; exact e3, e4⟩
  | some (.n v), h => exact h
/-- where a slot's places lie: pinned, or behind the frame -/
theorem SlotOk.own {i : Nat} {js : List Nat} {e : Option (Option W)} {v : Option PV} (h : SlotOk fr m i js e v) : ∀ j ∈ js, j ∈ fr.pin i ∨ fr.m0.length ≤ j := by
  intro j hj
  match v, h with
  | none, h => rw [show js = [] from h] at hj; cases hj
  | some .x, h => rw [show js = [] from h] at hj; cases hj
  | some (.d v), h => rw [h.1] at hj; cases hj
  | some (.b v), h => rw [h.1] at hj; cases hj
  | some (.l p xs), ⟨k, e1, e2, e3, e4⟩ =>
    rw [e1] at hj
    have := List.mem_singleton.mp hj
    subst this
    rcases e4 with ⟨_, e4⟩ | ⟨_, e4⟩
    · exact .inl (by rw [e4]; exact List.mem_singleton.mpr rfl)
    · exact .inr e4
  | some (.k p q), ⟨b, a, e1, e2, e3, e4⟩ =>
    have := e3.ab
    rcases e4 with ⟨_, e4⟩ | ⟨_, e4⟩
    · exact .inl (by rw [e4, ← e1]; exact hj)
    · rw [e1] at hj
      rcases List.mem_cons.mp hj with rfl | hj
      · exact .inr (by omega)
      · rw [List.mem_singleton.mp hj]; exact .inr e4
  | some (.m kvs), ⟨k, e1, e2, e3, e4⟩ =>
    rw [e1] at hj
    have : j = k := by simpa using hj
    rw [this]
    exact .inr e4
  | some (.n v), h => rw [h.1] at hj; cases hj
theorem SlotOk.nil (h : SlotOk fr m i js e none) : js = [] := h
/-- fewer things known; slots that nothing is known of may change -/
theorem Rel.sub (R : Rel fr ρ env m) (hl : ρ'.length = ρ.length) (he : env'.length = env.length) (h : ∀ (i : Nat) (v : PV), ρ'[i]? = some v → v = PV.x ∨ (ρ[i]? = some v ∧ env'[i]? = env[i]?)) : Rel fr ρ' env' m := by
  obtain ⟨J, hd, hs⟩ := R.ex
  refine ⟨R.pok, R.len, R.fix, R.c0, R.cp, R.cn, by rw [he, hl]; exact R.el, fun i => (match ρ'[i]? with | some .x => [] | _ => J i), fun i i' j h1 h2 => ?_, fun i => ?_⟩
  · refine hd i i' j ?_ ?_
    · dsimp only at h1
      split at h1
      · cases h1
      · exact h1
    · dsimp only at h2
      split at h2
      · cases h2
      · exact h2
  · dsimp only
    cases q : ρ'[i]? with
    | none =>
      have : ρ[i]? = none := by
        rw [List.getElem?_eq_none_iff] at q ⊢
        omega
      have z := hs i
      rw [this] at z
      exact z
    | some v =>
      rcases h i v q with rfl | ⟨h1, h2⟩
      · exact (rfl : ([] : List Nat) = [])
      · have z := hs i
        rw [h1, ← h2] at z
        cases v with
        | x => exact (rfl : ([] : List Nat) = [])
        | _ => exact z
/-- data in a slot -/
theorem Rel.setD (R : Rel fr ρ env m) (i : Nat) (x : D) : Rel fr (ρ.set i (.d x)) (env.set i (some (.d x))) m := by
  obtain ⟨J, hd, hs⟩ := R.ex
  refine ⟨R.pok, R.len, R.fix, R.c0, R.cp, R.cn, by simpa using R.el, fun k => if k = i then [] else J k, fun k k' j h1 h2 => ?_, fun k => ?_⟩
  · dsimp only at h1 h2
    by_cases hk : k = i
    · rw [if_pos hk] at h1; cases h1
    · by_cases hk' : k' = i
      · rw [if_pos hk'] at h2; cases h2
      · rw [if_neg hk] at h1; rw [if_neg hk'] at h2; exact hd k k' j h1 h2
  · dsimp only
    by_cases hk : k = i
    · subst hk
      rw [if_pos rfl]
      by_cases hl : k < ρ.length
      · rw [List.getElem?_set_self hl, List.getElem?_set_self (by rw [R.el]; exact hl)]
        exact ⟨rfl, rfl⟩
      · have e : (ρ.set k (.d x))[k]? = none := List.getElem?_eq_none (by simpa using hl)
        rw [e]
        exact (rfl : ([] : List Nat) = [])
    · rw [if_neg hk, List.getElem?_set_ne (Ne.symm hk), List.getElem?_set_ne (Ne.symm hk)]
      exact hs k
/-- a new list in a slot -/
theorem Rel.setL (R : Rel fr ρ env m) (i : Nat) (xs : List D) : Rel fr (ρ.set i (.l false xs)) (env.set i (some (.obj m.length))) (m ++ [.lst xs]) := by
  obtain ⟨J, hd, hs⟩ := R.ex
  have lt : ∀ k, ∀ j ∈ J k, j < m.length := fun k => (hs k).lt
  refine ⟨R.pok, by rw [List.length_append]; have := R.len; omega, fun j h1 h2 => by rw [List.getElem?_append_left (by have := R.len; omega)]; exact R.fix j h1 h2, R.c0, R.cpA _, R.cnA (fun o ho => by rw [List.mem_singleton.mp ho]; rfl), by simpa using R.el, fun k => if k = i then (if i < ρ.length then [m.length] else []) else J k, fun k k' j h1 h2 => ?_, fun k => ?_⟩
  · dsimp only at h1 h2
    by_cases hk : k = i
    · by_cases hk' : k' = i
      · rw [hk, hk']
      · rw [if_pos hk] at h1; rw [if_neg hk'] at h2
        have := lt k' j h2
        split at h1
        · rw [List.mem_singleton.mp h1] at this; omega
        · cases h1
    · by_cases hk' : k' = i
      · rw [if_neg hk] at h1; rw [if_pos hk'] at h2
        have := lt k j h1
        split at h2
        · rw [List.mem_singleton.mp h2] at this; omega
        · cases h2
      · rw [if_neg hk] at h1; rw [if_neg hk'] at h2; exact hd k k' j h1 h2
  · dsimp only
    by_cases hk : k = i
    · subst hk
      rw [if_pos rfl]
      by_cases hl : k < ρ.length
      · rw [List.getElem?_set_self hl, List.getElem?_set_self (by rw [R.el]; exact hl), if_pos hl]
        exact ⟨_, rfl, rfl, by simp, .inr ⟨rfl, R.len⟩⟩
      · have e : (ρ.set k (.l false xs))[k]? = none := List.getElem?_eq_none (by simpa using hl)
        rw [if_neg hl, e]
        exact (rfl : ([] : List Nat) = [])
    · rw [if_neg hk, List.getElem?_set_ne (Ne.symm hk), List.getElem?_set_ne (Ne.symm hk)]
      exact (hs k).mem fun j hj => List.getElem?_append_left (lt k j hj)
/-- a slot's list changes -/
theorem Rel.mutL (R : Rel fr ρ env m) {i : Nat} {p : Bool} {xs : List D} (h : ρ[i]? = some (.l p xs)) (ys : List D) : ∃ j, env[i]? = some (some (.obj j)) ∧ m[j]? = some (.lst xs) ∧ Rel fr (ρ.set i (.l p ys)) env (m.set j (.lst ys)) := by
  obtain ⟨J, hd, hs⟩ := R.ex
  have hi := hs i
  rw [h] at hi
  obtain ⟨j, e1, e2, e3, e4⟩ := hi
  have hj : j < m.length := (List.getElem?_eq_some_iff.mp e3).1
  refine ⟨j, e2, e3, R.pok, by rw [List.length_set]; exact R.len, fun k h1 h2 => ?_, R.c0, R.cpS _ _, R.cnS _ _, by rw [List.length_set]; exact R.el, J, hd, fun k => ?_⟩
  · rw [List.getElem?_set_ne]
    · exact R.fix k h1 h2
    · rintro rfl
      rcases e4 with ⟨_, e4⟩ | ⟨_, e4⟩
      · exact h2 i (by rw [e4]; simp)
      · omega
  · by_cases hk : k = i
    · subst hk
      have hl : k < ρ.length := (List.getElem?_eq_some_iff.mp h).1
      rw [List.getElem?_set_self hl]
      exact ⟨j, e1, e2, List.getElem?_set_self hj, e4⟩
    · rw [List.getElem?_set_ne (Ne.symm hk)]
      refine (hs k).mem fun j' hj' => List.getElem?_set_ne ?_
      rintro rfl
      exact hk (hd k i j hj' (by rw [e1]; simp))
theorem Rel.getL (R : Rel fr ρ env m) {i : Nat} {p : Bool} {xs : List D} (h : ρ[i]? = some (.l p xs)) : ∃ j, env[i]? = some (some (.obj j)) ∧ m[j]? = some (.lst xs) := by
  obtain ⟨J, hd, hs⟩ := R.ex
  have hi := hs i
  rw [h] at hi
  obtain ⟨j, e1, e2, e3, e4⟩ := hi
  exact ⟨j, e2, e3⟩
theorem Rel.getD (R : Rel fr ρ env m) {i : Nat} {x : D} (h : ρ[i]? = some (.d x)) : env[i]? = some (some (.d x)) := by
  obtain ⟨J, hd, hs⟩ := R.ex
  have hi := hs i
  rw [h] at hi
  exact hi.2
theorem Rel.getB (R : Rel fr ρ env m) {i : Nat} {xs : List D} (h : ρ[i]? = some (.b xs)) : ∃ w, env[i]? = some (some w) ∧ BW fr w xs := by
  obtain ⟨J, hd, hs⟩ := R.ex
  have hi := hs i
  rw [h] at hi
  exact hi.2
end
/-! ### masks -/
def wip : List Bool → List PV → List PV
  | true :: bs, _ :: r => .x :: wip bs r
  | false :: bs, v :: r => v :: wip bs r
  | [], r => r
  | _ :: _, [] => []
def isM (ms : List Bool) (i : Nat) : Bool := ms[i]?.getD false
theorem wip_length : ∀ (ms : List Bool) (ρ : List PV), (wip ms ρ).length = ρ.length
  | true :: bs, _ :: r => by simp [wip, wip_length bs r]
  | false :: bs, v :: r => by simp [wip, wip_length bs r]
  | [], r => by cases r <;> rfl
  | _ :: _, [] => by simp [wip]
theorem wip_get : ∀ (ms : List Bool) (ρ : List PV) (i : Nat), (wip ms ρ)[i]? = if isM ms i = true then ρ[i]?.map (fun _ => PV.x) else ρ[i]?
  | true :: bs, v :: r, 0 => by simp [wip, isM]
  | false :: bs, v :: r, 0 => by simp [wip, isM]
  | true :: bs, v :: r, i + 1 => by
    have := wip_get bs r i
    show (wip bs r)[i]? = _
    rw [this]
    rfl
  | false :: bs, v :: r, i + 1 => by
    have := wip_get bs r i
    show (wip bs r)[i]? = _
    rw [this]
    rfl
  | [], r, i => by cases r <;> simp [wip, isM]
  | b :: bs, [], i => by cases b <;> simp [wip]
structure Ag (ms : List Bool) (ρ ρ' : List PV) : Prop where
  len : ρ'.length = ρ.length
  get : ∀ i, isM ms i = false → ρ'[i]? = ρ[i]?
theorem Ag.refl (ms : List Bool) (ρ : List PV) : Ag ms ρ ρ := ⟨rfl, fun _ _ => rfl⟩
theorem Ag.trans {ms : List Bool} {ρ ρ1 ρ2 : List PV} (a : Ag ms ρ ρ1) (b : Ag ms ρ1 ρ2) : Ag ms ρ ρ2 := ⟨b.len.trans a.len, fun i h => (b.get i h).trans (a.get i h)⟩
theorem Ag.set {ms : List Bool} {ρ : List PV} {i : Nat} {v : PV} (h : isM ms i = true) : Ag ms ρ (ρ.set i v) := ⟨by simp, fun k hk => List.getElem?_set_ne (by rintro rfl; rw [h] at hk; cases hk)⟩
theorem Ag.wip {ms : List Bool} {ρ ρ' : List PV} (a : Ag ms ρ ρ') : wip ms ρ' = wip ms ρ := by
  apply List.ext_getElem?
  intro i
  rw [wip_get, wip_get]
  by_cases h : isM ms i = true
  · rw [if_pos h, if_pos h]
    by_cases hi : i < ρ.length
    · rw [List.getElem?_eq_getElem hi, List.getElem?_eq_getElem (by rw [a.len]; exact hi)]; rfl
    · have hl := a.len
      rw [List.getElem?_eq_none (show ρ.length ≤ i by omega), List.getElem?_eq_none (show ρ'.length ≤ i by omega)]
  · rw [if_neg h, if_neg h]
    exact a.get i (by simpa using h)
structure AgE (ms : List Bool) (env env' : Env) : Prop where
  len : env'.length = env.length
  get : ∀ i, isM ms i = false → env'[i]? = env[i]?
theorem AgE.refl (ms : List Bool) (ρ : Env) : AgE ms ρ ρ := ⟨rfl, fun _ _ => rfl⟩
theorem AgE.trans {ms : List Bool} {ρ ρ1 ρ2 : Env} (a : AgE ms ρ ρ1) (b : AgE ms ρ1 ρ2) : AgE ms ρ ρ2 := ⟨b.len.trans a.len, fun i h => (b.get i h).trans (a.get i h)⟩
theorem AgE.set {ms : List Bool} {ρ : Env} {i : Nat} {v : Option W} (h : isM ms i = true) : AgE ms ρ (ρ.set i v) := ⟨by simp, fun k hk => List.getElem?_set_ne (by rintro rfl; rw [h] at hk; cases hk)⟩
/-- what is known outside the mask -/
theorem Rel.wip {fr : Fr} {ρ : List PV} {env env' : Env} {m : Mem} {ms : List Bool} (R : Rel fr ρ env m) (a : AgE ms env env') : Rel fr (wip ms ρ) env' m := by
  refine R.sub (wip_length _ _) a.len fun i v h => ?_
  rw [wip_get] at h
  by_cases q : isM ms i = true
  · rw [if_pos q] at h
    cases z : ρ[i]? with
    | none => rw [z] at h; cases h
    | some u => rw [z] at h; cases h; exact .inl rfl
  · rw [if_neg q] at h
    exact .inr ⟨h, a.get i (by simpa using q)⟩
theorem wip_wip (ms : List Bool) (ρ : List PV) : Ag ms ρ (wip ms ρ) := ⟨wip_length _ _, fun i h => by rw [wip_get, if_neg (by rw [h]; simp)]⟩
/-! ### values -/
def VW (fr : Fr) (s : Nat) (w : W) (x : D) : Prop := match s with
  | 0 => w = .d x
  | 1 => match x with
    | .list ds => w = .fl ds
    | x => w = .d x
  | 2 => w = .d x ∨ ∃ ds, x = .list ds ∧ w = .fl ds
  | 4 => w = .d x ∨ ∃ ds, x = .list ds ∧ BW fr w ds
  | 7 => w = .d x ∨ ∃ ds, x = .list ds ∧ w = .fl ds
  | 8 => match x with
    | .list ds => w = .fl ds
    | x => w = .d x
  | _ => w = .d x ∨ ∃ ds, x = .list ds ∧ (w = .fl ds ∨ BW fr w ds)
def isO (s : Nat) : Bool := match s with
  | 3 => true
  | 4 => true
  | 7 => true
  | 8 => true
  | _ => false
def RVal (fr : Fr) (s : Nat) (env : Env) (w : W) : GV → Prop
  | .v x => VW fr s w x
  | .r i => isO s = true ∧ env[i]? = some (some w)
def up (s s' : Nat) : Bool := match s, s' with
  | 0, 2 => true
  | 0, 4 => true
  | 1, 2 => true
  | _, 3 => true
  | 0, 0 => true
  | 1, 1 => true
  | 2, 2 => true
  | 4, 4 => true
  | 0, 7 => true
  | 1, 7 => true
  | 2, 7 => true
  | 7, 7 => true
  | 1, 8 => true
  | 8, 8 => true
  | 8, 7 => true
  | _, _ => false
theorem VW.dfl {fr : Fr} {w : W} {x : D} (h : VW fr 1 w x) : VW fr 2 w x := by
  cases x with
  | list ds => exact .inr ⟨ds, rfl, h⟩
  | _ => exact .inl h
theorem VW.dfl8 {fr : Fr} {w : W} {x : D} (h : VW fr 8 w x) : VW fr 2 w x := by
  cases x with
  | list ds => exact .inr ⟨ds, rfl, h⟩
  | _ => exact .inl h
theorem VW.any {fr : Fr} {s : Nat} {w : W} {x : D} (h : VW fr s w x) : VW fr 3 w x := by
  match s, h with
  | 0, h => exact .inl h
  | 1, h =>
    rcases VW.dfl h with h | ⟨ds, e, h⟩
    · exact .inl h
    · exact .inr ⟨ds, e, .inl h⟩
  | 2, .inl h => exact .inl h
  | 2, .inr ⟨ds, e, h⟩ => exact .inr ⟨ds, e, .inl h⟩
  | 3, h => exact h
  | 4, .inl h => exact .inl h
  | 4, .inr ⟨ds, e, h⟩ => exact .inr ⟨ds, e, .inr h⟩
  | 5, h => exact h
  | 6, h => exact h
  | 7, .inl h => exact .inl h
  | 7, .inr ⟨ds, e, h⟩ => exact .inr ⟨ds, e, .inl h⟩
  | 8, h =>
    rcases VW.dfl8 h with h | ⟨ds, e, h⟩
    · exact .inl h
    · exact .inr ⟨ds, e, .inl h⟩
  | n + 9, h => exact h
theorem RVal.up {fr : Fr} {s s' : Nat} {env : Env} {w : W} {v : GV} (h : RVal fr s env w v) (u : M.up s s' = true) : RVal fr s' env w v := by
  unfold M.up at u
  split at u <;> first | cases u | skip
  · cases v with
    | v x => exact .inl h
    | r i => exact absurd h.1 (by decide)
  · cases v with
    | v x => exact .inl h
    | r i => exact absurd h.1 (by decide)
  · cases v with
    | v x => exact VW.dfl (fr := fr) h
    | r i => exact absurd h.1 (by decide)
  · cases v with
    | v x => exact VW.any h
    | r i => exact ⟨rfl, h.2⟩
  all_goals first
    | exact h
    | (cases v with
      | v x => first | exact .inl h | exact VW.dfl (fr := fr) h | exact VW.dfl8 (fr := fr) h | exact h
      | r i => first | exact absurd h.1 (by decide) | exact ⟨rfl, h.2⟩)
def gres (ρ : List PV) : GV → Option D
  | .v x => some x
  | .r i => match ρ[i]? with
    | some (.l _ xs) => some (.list xs)
    | _ => none
def See (m : Mem) (w : W) (x : D) : Prop := w = .d x ∨ ∃ ds, x = .list ds ∧ (w = .fl ds ∨ w = .ro ds ∨ ∃ j, w = .obj j ∧ m[j]? = some (.lst ds))
/-- an owned list, data, or a fresh one -/
def SeeN (m : Mem) (w : W) (x : D) : Prop := w = .d x ∨ ∃ ds, x = .list ds ∧ (w = .fl ds ∨ ∃ j, w = .obj j ∧ m[j]? = some (.lst ds))
theorem BW.see {fr : Fr} {ρ : List PV} {env : Env} {m : Mem} (R : Rel fr ρ env m) {w : W} {xs : List D} (h : BW fr w xs) : See m w (.list xs) := by
  rcases h with h | h | ⟨j, e, h1, h2⟩
  · exact .inl h
  · exact .inr ⟨xs, rfl, .inr (.inl h)⟩
  · exact .inr ⟨xs, rfl, .inr (.inr ⟨j, e, by rw [R.fix j (List.getElem?_eq_some_iff.mp h1).1 h2]; exact h1⟩)⟩
theorem Rel.see {fr : Fr} {ρ : List PV} {env : Env} {m : Mem} {s : Nat} {w : W} {v : GV} {x : D} (R : Rel fr ρ env m) (h : RVal fr s env w v) (e : gres ρ v = some x) : See m w x := by
  cases v with
  | v y =>
    cases e
    have h : VW fr s w x := h
    rcases VW.any h with z | ⟨ds, e, z | z⟩
    · exact .inl z
    · exact .inr ⟨ds, e, .inl z⟩
    · subst e; exact BW.see R z
  | r i =>
    have h2 := h.2
    simp only [gres] at e
    split at e
    · rename_i q
      cases e
      obtain ⟨j, e1, e2⟩ := R.getL q
      rw [e1] at h2
      cases h2
      exact .inr ⟨_, rfl, .inr (.inr ⟨j, rfl, e2⟩)⟩
    · cases e
theorem Rel.seeN {fr : Fr} {ρ : List PV} {env : Env} {m : Mem} {w : W} {v : GV} {x : D} (R : Rel fr ρ env m) (h : RVal fr 7 env w v) (e : gres ρ v = some x) : SeeN m w x := by
  cases v with
  | v y =>
    cases e
    rcases h with h | ⟨ds, e, h⟩
    · exact .inl h
    · exact .inr ⟨ds, e, .inl h⟩
  | r i =>
    have h2 := h.2
    simp only [gres] at e
    split at e
    · rename_i q
      cases e
      obtain ⟨j, e1, e2⟩ := R.getL q
      rw [e1] at h2
      cases h2
      exact .inr ⟨_, rfl, .inr ⟨j, rfl, e2⟩⟩
    · cases e
end M

set_option Elab.async false
set_option linter.all false
set_option maxRecDepth 100000
/-! P: operations -/
namespace M
open PySem L2
def liftD (r : Res W) : PR D := match r with
  | .ok (.d z) _ => .ok z
  | .ok (.fl ds) _ => .ok (.list ds)
  | .err e _ => .err e
  | _ => .bad
def lift2 (g : W → W → Mem → Res W) (x y : D) : PR D := liftD (g (.d x) (.d y) [])
def lift1 (g : W → Mem → Res W) (x : D) : PR D := liftD (g (.d x) [])
def liftL (g : List W → Mem → Res W) (xs : List D) : PR D := liftD (g (xs.map .d) [])
def Out (s : Nat) (m : Mem) (r : Res W) (p : PR D) : Prop := match p with
  | .ok z => ∃ w, r = .ok w m ∧ ∀ fr, VW fr s w z
  | .err e => r = .err e m
  | .bad => True
/-- li: 3 whatever stands there, 7 no list that is only read -/
def SeeL (li : Nat) (m : Mem) (w : W) (x : D) : Prop := if li = 7 then SeeN m w x else See m w x
def OpP (li s : Nat) (g : W → W → Mem → Res W) (p : D → D → PR D) : Prop := ∀ m w1 w2 x y, SeeL li m w1 x → SeeL li m w2 y → Out s m (g w1 w2 m) (p x y)
def UnP (s : Nat) (g : W → Mem → Res W) (p : D → PR D) : Prop := ∀ m w x, See m w x → Out s m (g w m) (p x)
inductive Sees (m : Mem) : List W → List D → Prop
  | nil : Sees m [] []
  | cons {w : W} {x : D} {ws : List W} {xs : List D} : See m w x → Sees m ws xs → Sees m (w :: ws) (x :: xs)
def CaP (s : Nat) (g : List W → Mem → Res W) (p : List D → PR D) : Prop := ∀ m ws xs, Sees m ws xs → Out s m (g ws m) (p xs)
theorem see_flat {m : Mem} {w : W} {x : D} (h : See m w x) (hx : ∀ ds, x ≠ .list ds) : w = .d x := by
  rcases h with h | ⟨ds, e, _⟩
  · exact h
  · exact absurd e (hx ds)
theorem see_asL {m : Mem} {w : W} {ds : List D} (h : See m w (.list ds)) : asL w m = some ds := by
  rcases h with rfl | ⟨es, e, rfl | rfl | ⟨j, rfl, hj⟩⟩
  · rfl
  · cases e; rfl
  · cases e; rfl
  · cases e; simp [asL, hj]
theorem see_asD {m : Mem} {w : W} {x : D} (h : See m w x) : asD w m = some x := by
  rcases h with rfl | ⟨es, rfl, rfl | rfl | ⟨j, rfl, hj⟩⟩
  · rfl
  · rfl
  · rfl
  · simp [asD, asL, hj]
theorem see_asT {m : Mem} {w : W} {ds : List D} (h : SeeN m w (.list ds)) : asT w m = some ds := by
  rcases h with rfl | ⟨es, e, rfl | ⟨j, rfl, hj⟩⟩
  · rfl
  · cases e; rfl
  · cases e; simp [asT, asL, hj]
theorem seeN_flat {m : Mem} {w : W} {x : D} (h : SeeN m w x) (hx : ∀ ds, x ≠ .list ds) : w = .d x := by
  rcases h with h | ⟨ds, e, _⟩
  · exact h
  · exact absurd e (hx ds)
/-- a list is never seen as something else -/
theorem see_nd {m : Mem} {w : W} {ds : List D} (h : See m w (.list ds)) : ∀ x, w = .d x → x = .list ds := by
  intro x e
  subst e
  rcases h with h | ⟨es, e, h | h | ⟨j, h, hj⟩⟩
  · cases h; rfl
  · cases h
  · cases h
  · cases h
theorem out_d {m : Mem} {z : D} : Out 0 m (.ok (.d z) m) (.ok z) := ⟨_, rfl, fun _ => rfl⟩
noncomputable section
def intP (C : Int → Int → Bool) (g : Int → Int → D) (x y : D) : PR D := match x, y with
  | .int i, .int j => if C i j = true then .ok (g i j) else .bad
  | _, _ => .bad
theorem intP_ok {C : Int → Int → Bool} {g : Int → Int → D} : OpP 3 0 (intW C g) (intP C g) := by
  intro m w1 w2 x y h1 h2
  replace h1 : See m w1 x := h1
  replace h2 : See m w2 y := h2
  unfold intP
  split
  · rw [see_flat h1 (by intro ds e; cases e), see_flat h2 (by intro ds e; cases e)]
    simp only [intW]
    split
    · exact out_d
    · trivial
  · trivial
def int0P (g : Int → Int → D) (x y : D) : PR D := match x, y with
  | .int i, .int j => .ok (g i j)
  | _, _ => .bad
theorem int0P_ok {g : Int → Int → D} : OpP 3 0 (int0W g) (int0P g) := by
  intro m w1 w2 x y h1 h2
  replace h1 : See m w1 x := h1
  replace h2 : See m w2 y := h2
  unfold int0P
  split
  · rw [see_flat h1 (by intro ds e; cases e), see_flat h2 (by intro ds e; cases e)]
    exact out_d
  · trivial
def subP := int0P fun i j => .int (i - j)
def mulP := intP mulOk fun i j => .int (i * j)
def divP := intP divOk fun i j => .int (i / j)
def modP := intP modOk fun i j => .int (i % j)
def powP := intP powOk fun i j => .int (i ^ j.toNat)
def ltP := int0P fun i j => .bool (decide (i < j))
def leP := int0P fun i j => .bool (decide (i ≤ j))
def gtP := int0P fun i j => .bool (decide (j < i))
def geP := int0P fun i j => .bool (decide (j ≤ i))
def addIP := int0P fun i j => .int (i + j)
theorem subP_ok : OpP 3 0 subW subP := int0P_ok
theorem mulP_ok : OpP 3 0 mulW mulP := intP_ok
theorem divP_ok : OpP 3 0 divW divP := intP_ok
theorem modP_ok : OpP 3 0 modW modP := intP_ok
theorem powP_ok : OpP 3 0 powW powP := intP_ok
theorem ltP_ok : OpP 3 0 ltW ltP := int0P_ok
theorem leP_ok : OpP 3 0 leW leP := int0P_ok
theorem gtP_ok : OpP 3 0 gtW gtP := int0P_ok
theorem geP_ok : OpP 3 0 geW geP := int0P_ok
theorem addIP_ok : OpP 3 0 addIW addIP := int0P_ok
def addP (x y : D) : PR D := match x, y with
  | .int i, .int j => .ok (.int (i + j))
  | .str a, .str b => if a.length + b.length ≤ sizeLine then .ok (.str (a ++ b)) else .bad
  | .tuple a, .tuple b => if a.length + b.length ≤ sizeLine then .ok (.tuple (a ++ b)) else .bad
  | .list a, .list b => if a.length + b.length ≤ sizeLine then .ok (.list (a ++ b)) else .bad
  | _, _ => .bad
theorem addW_list {m : Mem} {w1 w2 : W} {a b : List D} (h1 : SeeN m w1 (.list a)) (h2 : SeeN m w2 (.list b)) : addW w1 w2 m = if a.length + b.length ≤ sizeLine then .ok (.fl (a ++ b)) m else .bad := by
  have e1 := see_asT h1
  have e2 := see_asT h2
  rcases h1 with rfl | ⟨es, e, rfl | ⟨j, rfl, hj⟩⟩ <;> rcases h2 with rfl | ⟨fs, e', rfl | ⟨k, rfl, hk⟩⟩ <;> simp [addW, e1, e2]
theorem addP_ok : OpP 7 1 addW addP := by
  intro m w1 w2 x y h1 h2
  replace h1 : SeeN m w1 x := h1
  replace h2 : SeeN m w2 y := h2
  unfold addP
  split
  · rw [seeN_flat h1 (by intro ds e; cases e), seeN_flat h2 (by intro ds e; cases e)]
    exact ⟨_, rfl, fun _ => rfl⟩
  · rw [seeN_flat h1 (by intro ds e; cases e), seeN_flat h2 (by intro ds e; cases e)]
    split
    · rename_i h; exact ⟨_, by simp only [addW]; rw [if_pos h], fun _ => rfl⟩
    · trivial
  · rw [seeN_flat h1 (by intro ds e; cases e), seeN_flat h2 (by intro ds e; cases e)]
    split
    · rename_i h; exact ⟨_, by simp only [addW]; rw [if_pos h], fun _ => rfl⟩
    · trivial
  · rw [addW_list h1 h2]
    split
    · exact ⟨_, rfl, fun _ => rfl⟩
    · trivial
  · trivial
def eqP (neg : Bool) (x y : D) : PR D := if (SeqAt.shaped x && SeqAt.shaped y) = true then .ok (.bool (if neg then !PyData.eqv x y else PyData.eqv x y)) else .bad
theorem eqP_ok {neg : Bool} : OpP 3 0 (eqW neg) (eqP neg) := by
  intro m w1 w2 x y h1 h2
  unfold eqP eqW
  rw [see_asD h1, see_asD h2]
  dsimp only
  split
  · exact out_d
  · trivial
def inP (neg : Bool) (x y : D) : PR D := match x, y with
  | .str a, .str b => .ok (.bool (ngB neg (inS a b)))
  | x, .tuple ds => if (flatD x && ds.all flatD) = true then .ok (.bool (ngB neg (ds.any fun z => PyData.eqv z x))) else .bad
  | x, .list ds => if (SeqAt.shaped x && SeqAt.shaped (.list ds)) = true then .ok (.bool (ngB neg (ds.any fun z => PyData.eqv z x))) else .bad
  | _, _ => .bad
theorem inP_ok {neg : Bool} : OpP 3 0 (inW neg) (inP neg) := by
  intro m w1 w2 x y h1 h2
  replace h1 : See m w1 x := h1
  replace h2 : See m w2 y := h2
  unfold inP
  split
  · rw [see_flat h1 (by intro ds e; cases e), see_flat h2 (by intro ds e; cases e)]
    exact out_d
  · rw [see_flat h2 (by intro ds e; cases e)]
    split
    · rename_i h
      have hf : flatD x = true := by simp only [Bool.and_eq_true] at h; exact h.1
      rw [see_flat h1 (by intro ds e; subst e; cases hf)]
      simp only [inW]
      rw [if_pos h]
      exact out_d
    · trivial
  · rename_i ds
    split
    · rename_i h
      have e1 := see_asD h1
      have e2 := see_asL h2
      have e : inW neg w1 w2 m = .ok (.d (.bool (ngB neg (ds.any fun z => PyData.eqv z x)))) m := by
        have k2 := see_nd h2
        unfold inW
        split
        · rename_i b
          exact absurd (k2 _ rfl) (by intro z; cases z)
        · exact absurd (k2 _ rfl) (by intro z; cases z)
        · rw [e1, e2]
          dsimp only
          rw [if_pos h]
      rw [e]
      exact out_d
    · trivial
  · trivial
def isNP (neg : Bool) (x y : D) : PR D := match x, y with
  | .none, .none => .ok (.bool (ngB neg true))
  | _, .none => .ok (.bool (ngB neg false))
  | _, _ => .bad
theorem isNP_ok {neg : Bool} : OpP 3 0 (isNW neg) (isNP neg) := by
  intro m w1 w2 x y h1 h2
  replace h1 : See m w1 x := h1
  replace h2 : See m w2 y := h2
  unfold isNP
  split
  · rw [see_flat h1 (by intro ds e; cases e), see_flat h2 (by intro ds e; cases e)]
    exact out_d
  · rename_i hx
    rw [see_flat h2 (by intro ds e; cases e)]
    have : w1 ≠ .d .none := by
      rintro rfl
      rcases h1 with h | ⟨ds, e, h | h | ⟨j, h, _⟩⟩
      · cases h; exact hx rfl
      all_goals cases h
    have e : isNW neg w1 (.d .none) m = .ok (.d (.bool (ngB neg false))) m := by
      unfold isNW
      dsimp only
      split
      · exact absurd rfl this
      · rfl
    rw [e]
    exact out_d
  · trivial
def isBP (neg : Bool) (x y : D) : PR D := match x, y with
  | .bool a, .bool b => .ok (.bool (ngB neg (decide (a = b))))
  | _, _ => .bad
theorem isBP_ok {neg : Bool} : OpP 3 0 (isBW neg) (isBP neg) := by
  intro m w1 w2 x y h1 h2
  replace h1 : See m w1 x := h1
  replace h2 : See m w2 y := h2
  unfold isBP
  split
  · rw [see_flat h1 (by intro ds e; cases e), see_flat h2 (by intro ds e; cases e)]
    exact out_d
  · trivial
def ixP (x y : D) : PR D := match x, y with
  | .str z, .int i => if z.length ≤ sizeLine then (match L2.atI z.cps.toList i with | some c => .ok (.str ⟨#[c]⟩) | none => .bad) else .bad
  | .tuple ds, .int i => (match L2.atI ds i with | some c => .ok c | none => .bad)
  | .list ds, .int i => (match L2.atI ds i with | some c => .ok c | none => .bad)
  | _, _ => .bad
theorem ixP_ok : OpP 3 0 ixW ixP := by
  intro m w1 w2 x y h1 h2
  replace h1 : See m w1 x := h1
  replace h2 : See m w2 y := h2
  unfold ixP
  split
  · rw [see_flat h1 (by intro ds e; cases e), see_flat h2 (by intro ds e; cases e)]
    rename_i z i
    split
    · rename_i h
      simp only [ixW]
      rw [if_pos h]
      cases q : L2.atI z.cps.toList i with
      | none => trivial
      | some c => exact out_d
    · trivial
  · rename_i ds i
    rw [see_flat h1 (by intro ds e; cases e), see_flat h2 (by intro ds e; cases e)]
    simp only [ixW]
    cases q : L2.atI ds i with
    | none => trivial
    | some c => exact out_d
  · rename_i ds i
    rw [see_flat h2 (by intro ds e; cases e)]
    have e1 := see_asL h1
    have k1 := see_nd h1
    have e : ixW w1 (.d (.int i)) m = (match L2.atI ds i with | some c => .ok (.d c) m | none => .bad) := by
      unfold ixW
      split
      · exact absurd (k1 _ rfl) (by intro z; cases z)
      · exact absurd (k1 _ rfl) (by intro z; cases z)
      · rename_i q
        cases q
        rw [e1]
        rfl
      · rename_i q1 q2 q3
        first | exact absurd rfl (q3 i) | exact absurd rfl (q2 i) | exact absurd rfl (q1 i) | simp_all
    rw [e]
    cases q : L2.atI ds i with
    | none => trivial
    | some c => exact out_d
  · trivial
def slP (x : D) (lo hi : Option Int) : PR D := match x with
  | .str z => if z.length ≤ sizeLine then .ok (.str (cutS z lo hi)) else .bad
  | .tuple ds => .ok (.tuple (cutD ds lo hi))
  | .list ds => .ok (.list (cutD ds lo hi))
  | _ => .bad
theorem slP_ok (m : Mem) (w : W) (x : D) (lo hi : Option Int) (h : See m w x) : Out 1 m (slW w lo hi m) (slP x lo hi) := by
  unfold slP
  split
  · rw [see_flat h (by intro ds e; cases e)]
    split
    · rename_i q
      exact ⟨_, by simp only [slW]; rw [if_pos q], fun _ => rfl⟩
    · trivial
  · rw [see_flat h (by intro ds e; cases e)]
    exact ⟨_, rfl, fun _ => rfl⟩
  · rename_i ds
    have e1 := see_asL h
    have k1 := see_nd h
    have e : slW w lo hi m = .ok (.fl (cutD ds lo hi)) m := by
      unfold slW
      split
      · exact absurd (k1 _ rfl) (by intro z; cases z)
      · exact absurd (k1 _ rfl) (by intro z; cases z)
      · rw [e1]
    rw [e]
    exact ⟨_, rfl, fun _ => rfl⟩
  · trivial
end
end M

set_option Elab.async false
set_option linter.all false
set_option maxRecDepth 100000
/-! P: built-ins -/
namespace M
open PySem L2
noncomputable section
theorem sees1 {m : Mem} {ws : List W} {x : D} (h : Sees m ws [x]) : ∃ w, ws = [w] ∧ See m w x := by
  cases h with
  | cons h t => cases t with
    | nil => exact ⟨_, rfl, h⟩
theorem sees0 {m : Mem} {ws : List W} (h : Sees m ws []) : ws = [] := by cases h; rfl
theorem sees2 {m : Mem} {ws : List W} {x y : D} (h : Sees m ws [x, y]) : ∃ w u, ws = [w, u] ∧ See m w x ∧ See m u y := by
  cases h with
  | cons h t => cases t with
    | cons h' t => cases t with
      | nil => exact ⟨_, _, rfl, h, h'⟩
def lenP (xs : List D) : PR D := match xs with
  | [.str z] => if z.length ≤ sizeLine then .ok (.int (z.length : Int)) else .bad
  | [.tuple ds] => .ok (.int (ds.length : Int))
  | [.list ds] => .ok (.int (ds.length : Int))
  | _ => .bad
theorem lenP_ok : CaP 0 lenW lenP := by
  intro m ws xs h
  unfold lenP
  split
  · obtain ⟨w, rfl, hw⟩ := sees1 h
    replace h := hw
    rw [see_flat h (by intro ds e; cases e)]
    split
    · rename_i q
      simp only [lenW]
      rw [if_pos q]
      exact out_d
    · trivial
  · obtain ⟨w, rfl, hw⟩ := sees1 h
    replace h := hw
    rw [see_flat h (by intro ds e; cases e)]
    exact out_d
  · rename_i ds
    obtain ⟨w, rfl, hw⟩ := sees1 h
    replace h := hw
    have e1 := see_asL h
    have k1 := see_nd h
    have e : lenW [w] m = .ok (.d (.int (ds.length : Int))) m := by
      rcases h with rfl | ⟨es, e, rfl | rfl | ⟨j, rfl, hj⟩⟩
      · rfl
      · cases e; rfl
      · cases e; rfl
      · simp only [lenW, e1]
    rw [e]
    exact out_d
  · trivial
def intP1 (xs : List D) : PR D := match xs with
  | [.int i] => .ok (.int i)
  | [.bool b] => .ok (.int (if b then 1 else 0))
  | _ => .bad
theorem intP1_ok : CaP 0 intW1 intP1 := by
  intro m ws xs h
  unfold intP1
  split
  · obtain ⟨w, rfl, hw⟩ := sees1 h
    replace h := hw
    rw [see_flat h (by intro ds e; cases e)]
    exact out_d
  · obtain ⟨w, rfl, hw⟩ := sees1 h
    replace h := hw
    rw [see_flat h (by intro ds e; cases e)]
    exact out_d
  · trivial
def strP1 (xs : List D) : PR D := match xs with
  | [.int i] => if i.natAbs.log2 < 1920 then .ok (.str (Str.ofString (toString i))) else .bad
  | _ => .bad
theorem strP1_ok : CaP 0 strW1 strP1 := by
  intro m ws xs h
  unfold strP1
  split
  · obtain ⟨w, rfl, hw⟩ := sees1 h
    replace h := hw
    rw [see_flat h (by intro ds e; cases e)]
    split
    · rename_i q
      simp only [strW1]
      rw [if_pos q]
      exact out_d
    · trivial
  · trivial
def lst1P {α : Type} (g : List D → Option α) (k : α → D) (xs : List D) : PR D := match xs with
  | [.list ds] => match g ds with
    | some ns => .ok (k ns)
    | none => .bad
  | _ => .bad
theorem lst1P_ok {α : Type} {g : List D → Option α} {k : α → D} : CaP 0 (lst1 g k) (lst1P g k) := by
  intro m ws xs h
  unfold lst1P
  split
  · rename_i ds
    obtain ⟨w, rfl, hw⟩ := sees1 h
    replace h := hw
    have e1 := see_asL h
    simp only [lst1, e1, Option.bind_some]
    cases g ds with
    | none => trivial
    | some ns => exact out_d
  · trivial
def sumP := lst1P dInts fun ns => .int ns.sum
def allP := lst1P dBools fun ns => .bool (ns.all id)
def anyP := lst1P dBools fun ns => .bool (ns.any id)
theorem sumP_ok : CaP 0 sumW sumP := lst1P_ok
theorem allP_ok : CaP 0 allW allP := lst1P_ok
theorem anyP_ok : CaP 0 anyW anyP := lst1P_ok
def listP (xs : List D) : PR D := match xs with
  | [.tuple ds] => .ok (.list ds)
  | [.list ds] => .ok (.list ds)
  | _ => .bad
theorem listP_ok : CaP 1 listW listP := by
  intro m ws xs h
  unfold listP
  split
  · obtain ⟨w, rfl, hw⟩ := sees1 h
    replace h := hw
    rw [see_flat h (by intro ds e; cases e)]
    exact ⟨_, rfl, fun _ => rfl⟩
  · rename_i ds
    obtain ⟨w, rfl, hw⟩ := sees1 h
    replace h := hw
    have e1 := see_asL h
    have e : listW [w] m = .ok (.fl ds) m := by
      rcases h with rfl | ⟨es, e, rfl | rfl | ⟨j, rfl, hj⟩⟩
      · rfl
      · cases e; rfl
      · cases e; rfl
      · simp only [listW, e1]
    exact ⟨_, e, fun _ => rfl⟩
  · trivial
def tupleP (xs : List D) : PR D := match xs with
  | [.tuple ds] => .ok (.tuple ds)
  | [.list ds] => .ok (.tuple ds)
  | _ => .bad
theorem tupleP_ok : CaP 0 tupleW tupleP := by
  intro m ws xs h
  unfold tupleP
  split
  · obtain ⟨w, rfl, hw⟩ := sees1 h
    replace h := hw
    rw [see_flat h (by intro ds e; cases e)]
    exact out_d
  · rename_i ds
    obtain ⟨w, rfl, hw⟩ := sees1 h
    replace h := hw
    have e1 := see_asL h
    have e : tupleW [w] m = .ok (.d (.tuple ds)) m := by
      rcases h with rfl | ⟨es, e, rfl | rfl | ⟨j, rfl, hj⟩⟩
      · rfl
      · cases e; rfl
      · cases e; rfl
      · simp only [tupleW, e1]
    exact ⟨_, e, fun _ => rfl⟩
  · trivial
/-! methods of texts -/
def SmP (s : Nat) (g : W → List W → Mem → Res W) (p : Str → List D → PR D) : Prop := ∀ m x ws xs, Sees m ws xs → Out s m (g (.d (.str x)) ws m) (p x xs)
def joinP (a : Str) (xs : List D) : PR D := match xs with
  | [.tuple ds] => match dStrs ds with
    | some ys => if (ys.map (·.length)).sum + ys.length * a.length ≤ 16777216 then .ok (.str (Txt.join a ys)) else .bad
    | none => .bad
  | [.list ds] => match dStrs ds with
    | some ys => if (ys.map (·.length)).sum + ys.length * a.length ≤ 16777216 then .ok (.str (Txt.join a ys)) else .bad
    | none => .bad
  | _ => .bad
theorem joinP_ok : SmP 0 joinW joinP := by
  intro m x ws xs h
  unfold joinP
  split
  · rename_i ds
    obtain ⟨w, rfl, hw⟩ := sees1 h
    replace h := hw
    rw [see_flat h (by intro ds e; cases e)]
    simp only [joinW, Option.bind_some]
    cases dStrs ds with
    | none => trivial
    | some ys =>
      dsimp only
      split
      · exact out_d
      · trivial
  · rename_i ds
    obtain ⟨w, rfl, hw⟩ := sees1 h
    replace h := hw
    have e1 := see_asL h
    have e : joinW (.d (.str x)) [w] m = (match dStrs ds with
      | some ys => if (ys.map (·.length)).sum + ys.length * x.length ≤ 16777216 then .ok (.d (.str (Txt.join x ys))) m else .bad
      | none => .bad) := by
      rcases h with rfl | ⟨es, e, rfl | rfl | ⟨j, rfl, hj⟩⟩
      · rfl
      · cases e; rfl
      · cases e; rfl
      · simp only [joinW, e1, Option.bind_some]
        try rfl
    rw [e]
    cases dStrs ds with
    | none => trivial
    | some ys =>
      dsimp only
      split
      · exact out_d
      · trivial
  · trivial
def sindexP (a : Str) (xs : List D) : PR D := match xs with
  | [.str b] => match Builtin.Str.occurrences a b 0 a.length 1 with
    | i :: _ => .ok (.int (i : Int))
    | [] => .bad
  | _ => .bad
theorem sindexP_ok : SmP 0 sindexW sindexP := by
  intro m x ws xs h
  unfold sindexP
  split
  · rename_i b
    obtain ⟨w, rfl, hw⟩ := sees1 h
    replace h := hw
    rw [see_flat h (by intro ds e; cases e)]
    simp only [sindexW]
    cases Builtin.Str.occurrences x b 0 x.length 1 with
    | nil => trivial
    | cons i r => exact out_d
  · trivial
def splitP (a : Str) (xs : List D) : PR D := match xs with
  | [.str b] => if ((b.length == 0) = false ∧ a.length + 2 ≤ sizeLine) then .ok (.list ((Txt.split a b).map .str)) else .bad
  | _ => .bad
theorem splitP_ok : SmP 1 splitW splitP := by
  intro m x ws xs h
  unfold splitP
  split
  · rename_i b
    obtain ⟨w, rfl, hw⟩ := sees1 h
    replace h := hw
    rw [see_flat h (by intro ds e; cases e)]
    split
    · rename_i q
      exact ⟨_, by simp only [splitW]; rw [if_pos q], fun _ => rfl⟩
    · trivial
  · trivial
def upperP (a : Str) (xs : List D) : PR D := match xs with
  | [] => if a.length ≤ 5592405 then .ok (.str (Txt.upper a)) else .bad
  | _ => .bad
theorem upperP_ok : SmP 0 upperW upperP := by
  intro m x ws xs h
  unfold upperP
  split
  · rw [sees0 h]
    split
    · rename_i q
      exact ⟨_, by simp only [upperW]; rw [if_pos q], fun _ => rfl⟩
    · trivial
  · trivial
/-! types, truth -/
def tyP (x : D) : Option Tk := match x with
  | .none => some .non
  | .bool _ => some .bl
  | .int _ => some .int
  | .str _ => some .str
  | .list _ => some .lst
  | .tuple _ => some .tup
  | _ => none
theorem tyP_ok {m : Mem} {w : W} {x : D} {t : Tk} (h : See m w x) (e : tyP x = some t) : tyW w m = some t := by
  rcases h with rfl | ⟨ds, rfl, rfl | rfl | ⟨j, rfl, hj⟩⟩
  · cases x <;> exact e
  · exact e
  · exact e
  · simp only [tyW, hj]; exact e
def truP (x : D) : Option Bool := match x with
  | .none => some false
  | .bool b => some b
  | .int i => some (i != 0)
  | .str x => if x.length ≤ sizeLine then some ((x.length : Int) != 0) else none
  | .tuple ds => some (!ds.isEmpty)
  | .list ds => some (!ds.isEmpty)
  | _ => none
theorem truP_ok {m : Mem} {w : W} {x : D} {t : Bool} (h : See m w x) (e : truP x = some t) : truW w m = some t := by
  rcases h with rfl | ⟨ds, rfl, rfl | rfl | ⟨j, rfl, hj⟩⟩
  · cases x <;> exact e
  · exact e
  · exact e
  · simp only [truW, asL, hj, Option.map_some]; exact e
def negP (x : D) : PR D := match x with
  | .int i => .ok (.int (-i))
  | _ => .bad
/-! ### judgements -/
abbrev GEx := (γ : Type) → List PV → (GV → List PV → PR γ) → PR γ
def EPost (fr : Fr) (s : Nat) (ms : List Bool) (ρ : List PV) (env : Env) {γ : Type} (r : Res W) (p : PR γ) (K : GV → List PV → PR γ) : Prop :=
  (∃ w m' v ρ', r = .ok w m' ∧ Rel fr ρ' env m' ∧ RVal fr s env w v ∧ p = K v ρ' ∧ Ag ms ρ ρ') ∨ (∃ e m', r = .err e m' ∧ p = .err e ∧ Rel fr (wip ms ρ) env m')
def RE (s : Nat) (ms : List Bool) (f : EF) (g : GEx) : Prop := ∀ (γ : Type) (fr : Fr) (ρ : List PV) (env : Env) (m : Mem) (K : GV → List PV → PR γ), Rel fr ρ env m → g γ ρ K ≠ .bad → EPost fr s ms ρ env (f env m) (g γ ρ K) K
abbrev GTx := (γ : Type) → List PV → (Bool → List PV → PR γ) → PR γ
def TPost (fr : Fr) (ms : List Bool) (ρ : List PV) (env : Env) {γ : Type} (r : Res Bool) (p : PR γ) (K : Bool → List PV → PR γ) : Prop :=
  (∃ b m' ρ', r = .ok b m' ∧ Rel fr ρ' env m' ∧ p = K b ρ' ∧ Ag ms ρ ρ') ∨ (∃ e m', r = .err e m' ∧ p = .err e ∧ Rel fr (wip ms ρ) env m')
def RT (ms : List Bool) (f : TF) (g : GTx) : Prop := ∀ (γ : Type) (fr : Fr) (ρ : List PV) (env : Env) (m : Mem) (K : Bool → List PV → PR γ), Rel fr ρ env m → g γ ρ K ≠ .bad → TPost fr ms ρ env (f env m) (g γ ρ K) K
inductive RVals (fr : Fr) (env : Env) : List Nat → List W → List GV → Prop
  | nil : RVals fr env [] [] []
  | cons {s : Nat} {ss : List Nat} {w : W} {ws : List W} {v : GV} {vs : List GV} : RVal fr s env w v → RVals fr env ss ws vs → RVals fr env (s :: ss) (w :: ws) (v :: vs)
abbrev GAx := (γ : Type) → List PV → (List GV → List PV → PR γ) → PR γ
def APost (fr : Fr) (ss : List Nat) (ms : List Bool) (ρ : List PV) (env : Env) {γ : Type} (r : Res (List W)) (p : PR γ) (K : List GV → List PV → PR γ) : Prop :=
  (∃ ws m' vs ρ', r = .ok ws m' ∧ Rel fr ρ' env m' ∧ RVals fr env ss ws vs ∧ p = K vs ρ' ∧ Ag ms ρ ρ') ∨ (∃ e m', r = .err e m' ∧ p = .err e ∧ Rel fr (wip ms ρ) env m')
def RA (ss : List Nat) (ms : List Bool) (f : AF) (g : GAx) : Prop := ∀ (γ : Type) (fr : Fr) (ρ : List PV) (env : Env) (m : Mem) (K : List GV → List PV → PR γ), Rel fr ρ env m → g γ ρ K ≠ .bad → APost fr ss ms ρ env (f env m) (g γ ρ K) K
section
variable {s s' : Nat} {ms : List Bool} {f f' : EF} {g g' : GEx} {fr : Fr} {ρ ρ1 : List PV} {env : Env} {m : Mem}
theorem RE.up (h : RE s ms f g) (u : M.up s s' = true) : RE s' ms f g := by
  intro γ fr ρ env m K R nb
  rcases h γ fr ρ env m K R nb with ⟨w, m', v, ρ', h1, h2, h3, h4, h5⟩ | h
  · exact .inl ⟨w, m', v, ρ', h1, h2, h3.up u, h4, h5⟩
  · exact .inr h
theorem EPost.ok {γ : Type} {K : GV → List PV → PR γ} {w : W} {m' : Mem} {v : GV} {p : PR γ} (R : Rel fr ρ env m') (h : RVal fr s env w v) (hp : p = K v ρ) : EPost fr s ms ρ env (.ok w m') p K := .inl ⟨w, m', v, ρ, rfl, R, h, hp, Ag.refl _ _⟩
theorem EPost.later {γ : Type} {K : GV → List PV → PR γ} {r : Res W} {p : PR γ} (a : Ag ms ρ ρ1) (h : EPost fr s ms ρ1 env r p K) : EPost fr s ms ρ env r p K := by
  rcases h with ⟨w, m', v, ρ', h1, h2, h3, h4, h5⟩ | ⟨e, m', h1, h2, h3⟩
  · exact .inl ⟨w, m', v, ρ', h1, h2, h3, h4, a.trans h5⟩
  · exact .inr ⟨e, m', h1, h2, by rw [a.wip] at h3; exact h3⟩
/-- a step ahead -/
theorem EPost.bind {γ : Type} {K0 K : GV → List PV → PR γ} {r : Res W} {p : PR γ} {k : W → Mem → Res W} (nb : p ≠ .bad) (h : EPost fr s ms ρ env r p K0)
    (hk : ∀ w m' v ρ', Rel fr ρ' env m' → RVal fr s env w v → Ag ms ρ ρ' → K0 v ρ' ≠ .bad → EPost fr s' ms ρ' env (k w m') (K0 v ρ') K) : EPost fr s' ms ρ env (r.bind k) p K := by
  rcases h with ⟨w, m', v, ρ', h1, h2, h3, h4, h5⟩ | ⟨e, m', h1, h2, h3⟩
  · rw [h1, Res.bind_ok, h4]
    exact (hk w m' v ρ' h2 h3 h5 (by rw [← h4]; exact nb)).later h5
  · rw [h1, Res.bind_err]
    exact .inr ⟨e, m', rfl, h2, h3⟩
theorem EPost.bindT {γ : Type} {K0 : GV → List PV → PR γ} {K : Bool → List PV → PR γ} {r : Res W} {p : PR γ} {k : W → Mem → Res Bool} (nb : p ≠ .bad) (h : EPost fr s ms ρ env r p K0)
    (hk : ∀ w m' v ρ', Rel fr ρ' env m' → RVal fr s env w v → Ag ms ρ ρ' → K0 v ρ' ≠ .bad → ∃ b, k w m' = .ok b m' ∧ K0 v ρ' = K b ρ') : TPost fr ms ρ env (r.bind k) p K := by
  rcases h with ⟨w, m', v, ρ', h1, h2, h3, h4, h5⟩ | ⟨e, m', h1, h2, h3⟩
  · rw [h1, Res.bind_ok, h4]
    obtain ⟨b, e1, e2⟩ := hk w m' v ρ' h2 h3 h5 (by rw [← h4]; exact nb)
    exact .inl ⟨b, m', ρ', e1, h2, e2, h5⟩
  · rw [h1, Res.bind_err]
    exact .inr ⟨e, m', rfl, h2, h3⟩
theorem TPost.bindE {γ : Type} {K0 : Bool → List PV → PR γ} {K : GV → List PV → PR γ} {r : Res Bool} {p : PR γ} {k : Bool → Mem → Res W} (nb : p ≠ .bad) (h : TPost fr ms ρ env r p K0)
    (hk : ∀ b m' ρ', Rel fr ρ' env m' → Ag ms ρ ρ' → K0 b ρ' ≠ .bad → EPost fr s ms ρ' env (k b m') (K0 b ρ') K) : EPost fr s ms ρ env (r.bind k) p K := by
  rcases h with ⟨b, m', ρ', h1, h2, h4, h5⟩ | ⟨e, m', h1, h2, h3⟩
  · rw [h1, Res.bind_ok, h4]
    exact (hk b m' ρ' h2 h5 (by rw [← h4]; exact nb)).later h5
  · rw [h1, Res.bind_err]
    exact .inr ⟨e, m', rfl, h2, h3⟩
theorem TPost.later {γ : Type} {K : Bool → List PV → PR γ} {r : Res Bool} {p : PR γ} (a : Ag ms ρ ρ1) (h : TPost fr ms ρ1 env r p K) : TPost fr ms ρ env r p K := by
  rcases h with ⟨w, m', ρ', h1, h2, h4, h5⟩ | ⟨e, m', h1, h2, h3⟩
  · exact .inl ⟨w, m', ρ', h1, h2, h4, a.trans h5⟩
  · exact .inr ⟨e, m', h1, h2, by rw [a.wip] at h3; exact h3⟩
theorem TPost.bind {γ : Type} {K0 K : Bool → List PV → PR γ} {r : Res Bool} {p : PR γ} {k : Bool → Mem → Res Bool} (nb : p ≠ .bad) (h : TPost fr ms ρ env r p K0)
    (hk : ∀ b m' ρ', Rel fr ρ' env m' → Ag ms ρ ρ' → K0 b ρ' ≠ .bad → TPost fr ms ρ' env (k b m') (K0 b ρ') K) : TPost fr ms ρ env (r.bind k) p K := by
  rcases h with ⟨b, m', ρ', h1, h2, h4, h5⟩ | ⟨e, m', h1, h2, h3⟩
  · rw [h1, Res.bind_ok, h4]
    exact (hk b m' ρ' h2 h5 (by rw [← h4]; exact nb)).later h5
  · rw [h1, Res.bind_err]
    exact .inr ⟨e, m', rfl, h2, h3⟩
/-- the end of an operation -/
theorem EPost.out {γ : Type} {K : GV → List PV → PR γ} {r : Res W} {p : PR D} (R : Rel fr ρ env m) (o : Out s m r p) (nb : (p.bind fun z => K (.v z) ρ) ≠ .bad) : EPost fr s ms ρ env r (p.bind fun z => K (.v z) ρ) K := by
  cases p with
  | ok z =>
    obtain ⟨w, e, h⟩ := o
    rw [e]
    exact EPost.ok (v := .v z) R (h fr) rfl
  | err e =>
    have o : r = .err e m := o
    rw [o]
    exact .inr ⟨e, m, rfl, rfl, R.wip (AgE.refl _ _)⟩
  | bad => exact absurd rfl nb
end
end
end M

set_option Elab.async false
set_option linter.all false
set_option maxRecDepth 100000
/-! P: expressions -/
namespace M
open PySem L2
noncomputable section
section
variable {s s' : Nat} {ms : List Bool} {f f' fa fb : EF} {g g' ga gb : GEx}
def gVarD (i : Nat) : GEx := fun γ ρ K => match ρ[i]? with
  | some (.d x) => K (.v x) ρ
  | _ => .bad
theorem re_varD (i : Nat) : RE 0 ms (eVar i) (gVarD i) := by
  intro γ fr ρ env m K R nb
  unfold gVarD at nb ⊢
  split at nb
  · rename_i x h
    have e := R.getD h
    simp only [eVar, e]
    exact EPost.ok (v := .v x) R rfl rfl
  · exact absurd rfl nb
def gVarB (i : Nat) : GEx := fun γ ρ K => match ρ[i]? with
  | some (.b xs) => K (.v (.list xs)) ρ
  | _ => .bad
theorem re_varB (i : Nat) : RE 4 ms (eVar i) (gVarB i) := by
  intro γ fr ρ env m K R nb
  unfold gVarB at nb ⊢
  split at nb
  · rename_i xs h
    obtain ⟨w, e, hw⟩ := R.getB h
    simp only [eVar, e]
    exact EPost.ok (v := .v (.list xs)) R (.inr ⟨xs, rfl, hw⟩) rfl
  · exact absurd rfl nb
def gVarO (i : Nat) : GEx := fun γ ρ K => match ρ[i]? with
  | some (.l _ _) => K (.r i) ρ
  | some (.k _ _) => K (.r i) ρ
  | _ => .bad
theorem re_varO (i : Nat) (hs : isO s = true) : RE s ms (eVar i) (gVarO i) := by
  intro γ fr ρ env m K R nb
  unfold gVarO at nb ⊢
  split at nb
  · rename_i p xs h
    obtain ⟨j, e, _⟩ := R.getL h
    simp only [eVar, e]
    exact EPost.ok (v := .r i) R ⟨hs, e⟩ rfl
  · rename_i p q h
    obtain ⟨J, hd, hJ⟩ := R.ex
    have z := hJ i
    rw [h] at z
    obtain ⟨b, a, _, e, _⟩ := z
    simp only [eVar, e]
    exact EPost.ok (v := .r i) R ⟨hs, e⟩ rfl
  · exact absurd rfl nb
def gC (x : D) : GEx := fun γ ρ K => K (.v x) ρ
theorem re_c (x : D) : RE 0 ms (eC x) (gC x) := fun γ fr ρ env m K R nb => EPost.ok (v := .v x) R rfl rfl
def gOp (p : D → D → PR D) (a b : GEx) : GEx := fun γ ρ K => a γ ρ fun x ρ1 => b γ ρ1 fun y ρ2 => match gres ρ2 x, gres ρ2 y with
  | some x, some y => (p x y).bind fun z => K (.v z) ρ2
  | _, _ => .bad
theorem Rel.seeL {fr : Fr} {ρ : List PV} {env : Env} {m : Mem} {li : Nat} {w : W} {v : GV} {x : D} (R : Rel fr ρ env m) (hl : li = 3 ∨ li = 7) (h : RVal fr li env w v) (e : gres ρ v = some x) : SeeL li m w x := by
  rcases hl with rfl | rfl
  · exact R.see h e
  · exact R.seeN h e
theorem re_op {li : Nat} {o : W → W → Mem → Res W} {p : D → D → PR D} (hp : OpP li s o p) (ha : RE li ms fa ga) (hb : RE li ms fb gb) (hl : li = 3 ∨ li = 7 := by decide) : RE s ms (eOp o fa fb) (gOp p ga gb) := by
  intro γ fr ρ env m K R nb
  refine EPost.bind nb (ha γ fr ρ env m _ R nb) fun w m1 v ρ1 R1 h1 a1 nb1 => ?_
  refine EPost.bind nb1 (hb γ fr ρ1 env m1 _ R1 nb1) fun w2 m2 v2 ρ2 R2 h2 a2 nb2 => ?_
  cases e1 : gres ρ2 v with
  | none => rw [e1] at nb2; exact absurd rfl nb2
  | some x =>
    cases e2 : gres ρ2 v2 with
    | none => rw [e1, e2] at nb2; exact absurd rfl nb2
    | some y =>
      rw [e1, e2] at nb2
      exact EPost.out R2 (hp m2 w w2 x y (R2.seeL hl h1 e1) (R2.seeL hl h2 e2)) nb2

def ptb {γ : Type} (z : D) (k : Bool → PR γ) : PR γ := match z with
  | .bool t => k t
  | _ => .bad
def ptt {γ : Type} (z : D) (k : Bool → PR γ) : PR γ := match truP z with
  | some t => k t
  | none => .bad
def pti {γ : Type} (z : D) (k : Int → PR γ) : PR γ := match z with
  | .int t => k t
  | _ => .bad
def pts {γ : Type} (z : D) (k : Str → PR γ) : PR γ := match z with
  | .str t => k t
  | _ => .bad
def pisi {γ : Type} (ts : List Tk) (z : D) (k : D → PR γ) : PR γ := match tyP z with
  | some t => k (.bool (ts.any fun u => t.sub u))
  | none => .bad
@[simp] theorem ptb_bool {γ : Type} (t : Bool) (k : Bool → PR γ) : ptb (.bool t) k = k t := rfl
@[simp] theorem pti_int {γ : Type} (t : Int) (k : Int → PR γ) : pti (.int t) k = k t := rfl
@[simp] theorem pts_str {γ : Type} (t : Str) (k : Str → PR γ) : pts (.str t) k = k t := rfl
theorem ptb_ne {γ : Type} {z : D} {k : Bool → PR γ} (h : ptb z k ≠ .bad) : ∃ t, z = .bool t := by
  unfold ptb at h
  split at h
  · exact ⟨_, rfl⟩
  · exact absurd rfl h
theorem pti_ne {γ : Type} {z : D} {k : Int → PR γ} (h : pti z k ≠ .bad) : ∃ t, z = .int t := by
  unfold pti at h
  split at h
  · exact ⟨_, rfl⟩
  · exact absurd rfl h
theorem pts_ne {γ : Type} {z : D} {k : Str → PR γ} (h : pts z k ≠ .bad) : ∃ t, z = .str t := by
  unfold pts at h
  split at h
  · exact ⟨_, rfl⟩
  · exact absurd rfl h
/-- data that is no list -/
theorem RVal.flat {fr : Fr} {env : Env} {w : W} {x : D} (h : RVal fr s env w (.v x)) (hx : ∀ ds, x ≠ .list ds) : w = .d x := by
  have h : VW fr s w x := h
  rcases h.any with h | ⟨ds, e, _⟩
  · exact h
  · exact absurd e (hx ds)
/-- x op y op' z -/
def gChain (p p' : D → D → PR D) (a b c : GEx) : GEx := fun γ ρ K => a γ ρ fun x ρ1 => b γ ρ1 fun y ρ2 => match gres ρ2 x, gres ρ2 y with
  | some x, some y1 => (p x y1).bind fun z => ptb z fun t => if t = true then c γ ρ2 fun u ρ3 => (match gres ρ3 y, gres ρ3 u with
      | some y, some u => (p' y u).bind fun z => K (.v z) ρ3
      | _, _ => .bad)
    else K (.v (.bool false)) ρ2
  | _, _ => .bad
theorem re_chain {fc : EF} {gc : GEx} {o o' : W → W → Mem → Res W} {p p' : D → D → PR D} (hp : OpP 3 0 o p) (hp' : OpP 3 0 o' p') (ha : RE 3 ms fa ga) (hb : RE 3 ms fb gb) (hc : RE 3 ms fc gc) : RE 0 ms (eChain o o' fa fb fc) (gChain p p' ga gb gc) := by
  intro γ fr ρ env m K R nb
  refine EPost.bind nb (ha γ fr ρ env m _ R nb) fun w m1 v ρ1 R1 h1 a1 nb1 => ?_
  refine EPost.bind nb1 (hb γ fr ρ1 env m1 _ R1 nb1) fun w2 m2 v2 ρ2 R2 h2 a2 nb2 => ?_
  cases e1 : gres ρ2 v with
  | none => rw [e1] at nb2; exact absurd rfl nb2
  | some x =>
    cases e2 : gres ρ2 v2 with
    | none => rw [e1, e2] at nb2; exact absurd rfl nb2
    | some y =>
      rw [e1, e2] at nb2
      have o1 := hp m2 w w2 x y (R2.see h1 e1) (R2.see h2 e2)
      dsimp only at nb2 ⊢
      cases q : p x y with
      | bad => rw [q] at nb2; exact absurd rfl nb2
      | err e =>
        rw [q] at o1 nb2
        have o1 : o w w2 m2 = .err e m2 := o1
        rw [o1]
        exact .inr ⟨e, m2, rfl, rfl, R2.wip (AgE.refl _ _)⟩
      | ok z =>
        rw [q] at o1 nb2
        obtain ⟨wz, ez, hz⟩ := o1
        have hz : wz = .d z := hz fr
        subst hz
        rw [ez, Res.bind_ok, PR.bind_ok]
        rw [PR.bind_ok] at nb2
        obtain ⟨t, rfl⟩ := ptb_ne nb2
        rw [ptb_bool] at nb2 ⊢
        cases t with
        | false =>
          rw [if_neg (by simp)]
          exact EPost.ok (v := .v (.bool false)) R2 rfl rfl
        | true =>
          rw [if_pos rfl] at nb2 ⊢
          dsimp only
          refine EPost.bind nb2 (hc γ fr ρ2 env m2 _ R2 nb2) fun w3 m3 v3 ρ3 R3 h3 a3 nb3 => ?_
          cases e3 : gres ρ3 v2 with
          | none => rw [e3] at nb3; exact absurd rfl nb3
          | some y' =>
            cases e4 : gres ρ3 v3 with
            | none => rw [e3, e4] at nb3; exact absurd rfl nb3
            | some u =>
              rw [e3, e4] at nb3
              exact EPost.out R3 (hp' m3 w2 w3 y' u (R3.see h2 e3) (R3.see h3 e4)) nb3
/-! tests -/
def gBool (a : GEx) : GTx := fun γ ρ K => a γ ρ fun v ρ1 => match v with
  | .v z => ptb z fun t => K t ρ1
  | .r _ => .bad
theorem rt_bool (ha : RE 3 ms fa ga) : RT ms (tBool fa) (gBool ga) := by
  intro γ fr ρ env m K R nb
  refine EPost.bindT nb (ha γ fr ρ env m _ R nb) fun w m1 v ρ1 R1 h1 a1 nb1 => ?_
  cases v with
  | r i => exact absurd rfl nb1
  | v z =>
    obtain ⟨t, rfl⟩ := ptb_ne nb1
    rw [RVal.flat h1 (by intro ds e; cases e)]
    exact ⟨t, rfl, rfl⟩
def gTru (a : GEx) : GTx := fun γ ρ K => a γ ρ fun v ρ1 => match gres ρ1 v with
  | some z => ptt z fun t => K t ρ1
  | none => .bad
theorem rt_tru (ha : RE 3 ms fa ga) : RT ms (tTru fa) (gTru ga) := by
  intro γ fr ρ env m K R nb
  refine EPost.bindT nb (ha γ fr ρ env m _ R nb) fun w m1 v ρ1 R1 h1 a1 nb1 => ?_
  cases e1 : gres ρ1 v with
  | none => rw [e1] at nb1; exact absurd rfl nb1
  | some z =>
    rw [e1] at nb1
    dsimp only [ptt] at nb1 ⊢
    cases q : truP z with
    | none => rw [q] at nb1; exact absurd rfl nb1
    | some t =>
      rw [truP_ok (R1.see h1 e1) q]
      exact ⟨t, rfl, rfl⟩
variable {fp fq : TF} {gp gq : GTx}
def gtAnd (a b : GTx) : GTx := fun γ ρ K => a γ ρ fun t ρ1 => if t = true then b γ ρ1 K else K false ρ1
def gtOr (a b : GTx) : GTx := fun γ ρ K => a γ ρ fun t ρ1 => if t = true then K true ρ1 else b γ ρ1 K
def gtNot (a : GTx) : GTx := fun γ ρ K => a γ ρ fun t ρ1 => K (!t) ρ1
theorem TPost.ok {γ : Type} {fr : Fr} {ρ : List PV} {env : Env} {K : Bool → List PV → PR γ} {m' : Mem} {t : Bool} {p : PR γ} (R : Rel fr ρ env m') (hp : p = K t ρ) : TPost fr ms ρ env (.ok t m') p K := .inl ⟨t, m', ρ, rfl, R, hp, Ag.refl _ _⟩
theorem rt_and (ha : RT ms fp gp) (hb : RT ms fq gq) : RT ms (tAndF fp fq) (gtAnd gp gq) := by
  intro γ fr ρ env m K R nb
  refine TPost.bind nb (ha γ fr ρ env m _ R nb) fun t m1 ρ1 R1 a1 nb1 => ?_
  cases t with
  | true => rw [if_pos rfl] at nb1 ⊢; rw [if_pos rfl]; exact hb γ fr ρ1 env m1 K R1 nb1
  | false => rw [if_neg (by simp), if_neg (by simp)]; exact TPost.ok R1 rfl
theorem rt_or (ha : RT ms fp gp) (hb : RT ms fq gq) : RT ms (tOrF fp fq) (gtOr gp gq) := by
  intro γ fr ρ env m K R nb
  refine TPost.bind nb (ha γ fr ρ env m _ R nb) fun t m1 ρ1 R1 a1 nb1 => ?_
  cases t with
  | false => rw [if_neg (by simp)] at nb1 ⊢; rw [if_neg (by simp)]; exact hb γ fr ρ1 env m1 K R1 nb1
  | true => rw [if_pos rfl, if_pos rfl]; exact TPost.ok R1 rfl
theorem rt_not (ha : RT ms fp gp) : RT ms (tNotF fp) (gtNot gp) := by
  intro γ fr ρ env m K R nb
  refine TPost.bind nb (ha γ fr ρ env m _ R nb) fun t m1 ρ1 R1 a1 nb1 => ?_
  exact TPost.ok R1 rfl
def gAnd (a b : GEx) : GEx := fun γ ρ K => gBool a γ ρ fun t ρ1 => if t = true then b γ ρ1 K else K (.v (.bool false)) ρ1
def gOr (a b : GEx) : GEx := fun γ ρ K => gBool a γ ρ fun t ρ1 => if t = true then K (.v (.bool true)) ρ1 else b γ ρ1 K
def gNot (a : GEx) : GEx := fun γ ρ K => gBool a γ ρ fun t ρ1 => K (.v (.bool (!t))) ρ1
def gIfE (c : GTx) (a b : GEx) : GEx := fun γ ρ K => c γ ρ fun t ρ1 => if t = true then a γ ρ1 K else b γ ρ1 K
theorem VW.bool {fr : Fr} (s : Nat) (b : Bool) : VW fr s (.d (.bool b)) (.bool b) := by
  unfold VW
  split <;> first | rfl | exact .inl rfl
theorem re_and (ha : RE 3 ms fa ga) (hb : RE s ms fb gb) : RE s ms (eAnd fa fb) (gAnd ga gb) := by
  intro γ fr ρ env m K R nb
  refine TPost.bindE nb (rt_bool ha γ fr ρ env m _ R nb) fun t m1 ρ1 R1 a1 nb1 => ?_
  cases t with
  | true => rw [if_pos rfl] at nb1 ⊢; rw [if_pos rfl]; exact hb γ fr ρ1 env m1 K R1 nb1
  | false => rw [if_neg (by simp), if_neg (by simp)]; exact EPost.ok (v := .v (.bool false)) R1 (VW.bool s false) rfl
theorem re_or (ha : RE 3 ms fa ga) (hb : RE s ms fb gb) : RE s ms (eOr fa fb) (gOr ga gb) := by
  intro γ fr ρ env m K R nb
  refine TPost.bindE nb (rt_bool ha γ fr ρ env m _ R nb) fun t m1 ρ1 R1 a1 nb1 => ?_
  cases t with
  | false => rw [if_neg (by simp)] at nb1 ⊢; rw [if_neg (by simp)]; exact hb γ fr ρ1 env m1 K R1 nb1
  | true => rw [if_pos rfl, if_pos rfl]; exact EPost.ok (v := .v (.bool true)) R1 (VW.bool s true) rfl
theorem re_not (ha : RE 3 ms fa ga) : RE 0 ms (eNot fa) (gNot ga) := by
  intro γ fr ρ env m K R nb
  refine TPost.bindE nb (rt_bool ha γ fr ρ env m _ R nb) fun t m1 ρ1 R1 a1 nb1 => ?_
  exact EPost.ok (v := .v (.bool (!t))) R1 rfl rfl
theorem re_if (hc : RT ms fp gp) (ha : RE s ms fa ga) (hb : RE s ms fb gb) : RE s ms (eIf fp fa fb) (gIfE gp ga gb) := by
  intro γ fr ρ env m K R nb
  refine TPost.bindE nb (hc γ fr ρ env m _ R nb) fun t m1 ρ1 R1 a1 nb1 => ?_
  cases t with
  | true => rw [if_pos rfl] at nb1 ⊢; rw [if_pos rfl]; exact ha γ fr ρ1 env m1 K R1 nb1
  | false => rw [if_neg (by simp)] at nb1 ⊢; rw [if_neg (by simp)]; exact hb γ fr ρ1 env m1 K R1 nb1
def gIsi (ts : List Tk) (a : GEx) : GEx := fun γ ρ K => a γ ρ fun v ρ1 => match gres ρ1 v with
  | some z => pisi ts z fun t => K (.v t) ρ1
  | none => .bad
theorem re_isi {ts : List Tk} (ha : RE 3 ms fa ga) : RE 0 ms (eIsi ts fa) (gIsi ts ga) := by
  intro γ fr ρ env m K R nb
  refine EPost.bind nb (ha γ fr ρ env m _ R nb) fun w m1 v ρ1 R1 h1 a1 nb1 => ?_
  cases e1 : gres ρ1 v with
  | none => rw [e1] at nb1; exact absurd rfl nb1
  | some z =>
    rw [e1] at nb1
    dsimp only [pisi] at nb1 ⊢
    cases q : tyP z with
    | none => rw [q] at nb1; exact absurd rfl nb1
    | some t =>
      rw [tyP_ok (R1.see h1 e1) q]
      exact EPost.ok (v := .v (.bool _)) R1 rfl rfl
def gNeg (a : GEx) : GEx := fun γ ρ K => a γ ρ fun v ρ1 => match v with
  | .v z => (negP z).bind fun z => K (.v z) ρ1
  | .r _ => .bad
theorem re_neg (ha : RE 3 ms fa ga) : RE 0 ms (eNeg fa) (gNeg ga) := by
  intro γ fr ρ env m K R nb
  refine EPost.bind nb (ha γ fr ρ env m _ R nb) fun w m1 v ρ1 R1 h1 a1 nb1 => ?_
  cases v with
  | r i => exact absurd rfl nb1
  | v z =>
    cases z with
    | int i =>
      rw [RVal.flat h1 (by intro ds e; cases e)]
      exact EPost.ok (v := .v (.int (-i))) R1 rfl rfl
    | _ => exact absurd rfl nb1
def gFrz (a : GEx) : GEx := a
theorem re_frz (ha : RE 2 ms fa ga) : RE 0 ms (eFrz fa) ga := by
  intro γ fr ρ env m K R nb
  refine EPost.bind nb (ha γ fr ρ env m K R nb) fun w m1 v ρ1 R1 h1 a1 nb1 => ?_
  cases v with
  | r i => exact absurd h1.1 (by decide)
  | v z =>
    rcases h1 with rfl | ⟨ds, rfl, rfl⟩
    · exact EPost.ok (v := .v z) R1 rfl rfl
    · exact EPost.ok (v := .v (.list ds)) R1 rfl rfl
/-! argument lists -/
variable {ss : List Nat} {h : AF} {k : GAx}
def gaNil : GAx := fun γ ρ K => K [] ρ
def gaCons (a : GEx) (r : GAx) : GAx := fun γ ρ K => a γ ρ fun v ρ1 => r γ ρ1 fun vs ρ2 => K (v :: vs) ρ2
theorem ra_nil : RA [] ms aNil gaNil := fun γ fr ρ env m K R nb => .inl ⟨[], m, [], ρ, rfl, R, .nil, rfl, Ag.refl _ _⟩
theorem ra_cons (ha : RE s ms fa ga) (hr : RA ss ms h k) : RA (s :: ss) ms (aCons fa h) (gaCons ga k) := by
  intro γ fr ρ env m K R nb
  rcases ha γ fr ρ env m _ R nb with ⟨w, m1, v, ρ1, h1, R1, h3, h4, h5⟩ | ⟨e, m1, h1, h2, h3⟩
  · rcases hr γ fr ρ1 env m1 (fun vs ρ2 => K (v :: vs) ρ2) R1 (fun z => nb (h4.trans z)) with ⟨ws, m2, vs, ρ2, q1, R2, q3, q4, q5⟩ | ⟨e, m2, q1, q2, q3⟩
    · exact .inl ⟨w :: ws, m2, v :: vs, ρ2, by simp only [aCons, h1, q1, Res.bind_ok], R2, .cons h3 q3, h4.trans q4, h5.trans q5⟩
    · exact .inr ⟨e, m2, by simp only [aCons, h1, q1, Res.bind_ok, Res.bind_err], h4.trans q2, by rw [h5.wip] at q3; exact q3⟩
  · exact .inr ⟨e, m1, by simp only [aCons, h1, Res.bind_err], h2, h3⟩
theorem APost.bind {γ : Type} {fr : Fr} {ρ : List PV} {env : Env} {K0 : List GV → List PV → PR γ} {K : GV → List PV → PR γ} {r : Res (List W)} {p : PR γ} {kk : List W → Mem → Res W} (nb : p ≠ .bad) (h : APost fr ss ms ρ env r p K0)
    (hk : ∀ ws m' vs ρ', Rel fr ρ' env m' → RVals fr env ss ws vs → Ag ms ρ ρ' → K0 vs ρ' ≠ .bad → EPost fr s ms ρ' env (kk ws m') (K0 vs ρ') K) : EPost fr s ms ρ env (r.bind kk) p K := by
  rcases h with ⟨ws, m', vs, ρ', h1, h2, h3, h4, h5⟩ | ⟨e, m', h1, h2, h3⟩
  · rw [h1, Res.bind_ok, h4]
    exact (hk ws m' vs ρ' h2 h3 h5 (by rw [← h4]; exact nb)).later h5
  · rw [h1, Res.bind_err]
    exact .inr ⟨e, m', rfl, h2, h3⟩
def allZ : List Nat → Bool
  | [] => true
  | 0 :: r => allZ r
  | _ :: _ => false
def gvs : List GV → Option (List D)
  | [] => some []
  | .v x :: r => match gvs r with
    | some xs => some (x :: xs)
    | none => none
  | .r _ :: _ => none
theorem rvals_z {fr : Fr} {env : Env} : ∀ {ss : List Nat} {ws : List W} {vs : List GV}, RVals fr env ss ws vs → allZ ss = true → ∃ xs, gvs vs = some xs ∧ asDs ws = some xs ∧ xs.length = ss.length ∧ ws = xs.map .d
  | _, _, _, .nil, _ => ⟨[], rfl, rfl, rfl, rfl⟩
  | 0 :: ss, w :: ws, .v x :: vs, .cons h t, z => by
    obtain ⟨xs, e1, e2, e3, e4⟩ := rvals_z t z
    have h : w = .d x := h
    subst h
    exact ⟨x :: xs, by simp only [gvs, e1], by simp only [asDs, e2]; rfl, by simp [e3], by simp [e4]⟩
  | 0 :: ss, w :: ws, .r x :: vs, .cons h t, z => absurd h.1 (by decide)
  | (n + 1) :: ss, _, _, .cons h t, z => by cases z
def gTup (a : GAx) : GEx := fun γ ρ K => a γ ρ fun vs ρ1 => match gvs vs with
  | some ds => K (.v (.tuple ds)) ρ1
  | none => .bad
def gLst (a : GAx) : GEx := fun γ ρ K => a γ ρ fun vs ρ1 => match gvs vs with
  | some ds => K (.v (.list ds)) ρ1
  | none => .bad
theorem small_line {n : Nat} (h : n ≤ 64) : n ≤ sizeLine := Nat.le_trans h (by decide)
theorem re_tup (ha : RA ss ms h k) (hz : allZ ss = true := by rfl) (hl : ss.length ≤ 64 := by decide) : RE 0 ms (eTup h) (gTup k) := by
  intro γ fr ρ env m K R nb
  refine APost.bind nb (ha γ fr ρ env m _ R nb) fun ws m1 vs ρ1 R1 h1 a1 nb1 => ?_
  obtain ⟨xs, e1, e2, e3, e4⟩ := rvals_z h1 hz
  simp only [e1, e2]
  rw [if_pos (small_line (by omega))]
  exact EPost.ok (v := .v (.tuple xs)) R1 rfl rfl
theorem re_lst (ha : RA ss ms h k) (hz : allZ ss = true := by rfl) (hl : ss.length ≤ 64 := by decide) : RE 1 ms (eLst h) (gLst k) := by
  intro γ fr ρ env m K R nb
  refine APost.bind nb (ha γ fr ρ env m _ R nb) fun ws m1 vs ρ1 R1 h1 a1 nb1 => ?_
  obtain ⟨xs, e1, e2, e3, e4⟩ := rvals_z h1 hz
  simp only [e1, e2]
  rw [if_pos (small_line (by omega))]
  exact EPost.ok (v := .v (.list xs)) R1 rfl rfl
def gress (ρ : List PV) : List GV → Option (List D)
  | [] => some []
  | v :: r => match gres ρ v, gress ρ r with
    | some x, some xs => some (x :: xs)
    | _, _ => none
theorem rvals_see {fr : Fr} {ρ : List PV} {env : Env} {m : Mem} (R : Rel fr ρ env m) : ∀ {ss : List Nat} {ws : List W} {vs : List GV} {xs : List D}, RVals fr env ss ws vs → gress ρ vs = some xs → Sees m ws xs
  | _, _, _, xs, .nil, e => by cases e; exact .nil
  | _, _, v :: vs, xs, .cons h t, e => by
    simp only [gress] at e
    cases q : gres ρ v with
    | none => rw [q] at e; cases e
    | some y =>
      cases q2 : gress ρ vs with
      | none => rw [q, q2] at e; cases e
      | some ys =>
        rw [q, q2] at e
        cases e
        exact .cons (R.see h q) (rvals_see R t q2)
def gCa (p : List D → PR D) (a : GAx) : GEx := fun γ ρ K => a γ ρ fun vs ρ1 => match gress ρ1 vs with
  | some xs => (p xs).bind fun z => K (.v z) ρ1
  | none => .bad
theorem re_ca {o : List W → Mem → Res W} {p : List D → PR D} (hp : CaP s o p) (ha : RA ss ms h k) : RE s ms (eCall o h) (gCa p k) := by
  intro γ fr ρ env m K R nb
  refine APost.bind nb (ha γ fr ρ env m _ R nb) fun ws m1 vs ρ1 R1 h1 a1 nb1 => ?_
  cases e1 : gress ρ1 vs with
  | none => rw [e1] at nb1; exact absurd rfl nb1
  | some xs =>
    rw [e1] at nb1
    exact EPost.out R1 (hp m1 ws xs (rvals_see R1 h1 e1)) nb1
/-! slices -/
abbrev GOx := (γ : Type) → List PV → (Option Int → List PV → PR γ) → PR γ
def RO (ms : List Bool) (f : OF) (g : GOx) : Prop := ∀ (γ : Type) (fr : Fr) (ρ : List PV) (env : Env) (m : Mem) (K : Option Int → List PV → PR γ), Rel fr ρ env m → g γ ρ K ≠ .bad →
  (∃ b m' ρ', f env m = .ok b m' ∧ Rel fr ρ' env m' ∧ g γ ρ K = K b ρ' ∧ Ag ms ρ ρ') ∨ (∃ e m', f env m = .err e m' ∧ g γ ρ K = .err e ∧ Rel fr (wip ms ρ) env m')
def goNone : GOx := fun γ ρ K => K none ρ
def goSome (a : GEx) : GOx := fun γ ρ K => a γ ρ fun v ρ1 => match v with
  | .v z => pti z fun i => K (some i) ρ1
  | .r _ => .bad
theorem ro_none : RO ms oNone goNone := fun γ fr ρ env m K R nb => .inl ⟨none, m, ρ, rfl, R, rfl, Ag.refl _ _⟩
theorem ro_some (ha : RE 3 ms fa ga) : RO ms (oSome fa) (goSome ga) := by
  intro γ fr ρ env m K R nb
  rcases ha γ fr ρ env m _ R nb with ⟨w, m1, v, ρ1, h1, R1, h3, h4, h5⟩ | ⟨e, m1, h1, h2, h3⟩
  · have nb1 := nb
    rw [show goSome ga γ ρ K = _ from h4] at nb1
    cases v with
    | r i => exact absurd rfl nb1
    | v z =>
      obtain ⟨t, rfl⟩ := pti_ne nb1
      rw [RVal.flat h3 (by intro ds e; cases e)] at h1
      exact .inl ⟨some t, m1, ρ1, by simp only [oSome, h1, Res.bind_ok], R1, h4, h5⟩
  · exact .inr ⟨e, m1, by simp only [oSome, h1, Res.bind_err], h2, h3⟩
def gSl (a : GEx) (lo hi : GOx) : GEx := fun γ ρ K => a γ ρ fun v ρ1 => lo γ ρ1 fun l ρ2 => hi γ ρ2 fun h ρ3 => match gres ρ3 v with
  | some x => (slP x l h).bind fun z => K (.v z) ρ3
  | none => .bad
theorem re_sl {lo hi : OF} {gl gh : GOx} (ha : RE 3 ms fa ga) (hl : RO ms lo gl) (hh : RO ms hi gh) : RE 1 ms (eSl slW fa lo hi) (gSl ga gl gh) := by
  intro γ fr ρ env m K R nb
  refine EPost.bind nb (ha γ fr ρ env m _ R nb) fun w m1 v ρ1 R1 h1 a1 nb1 => ?_
  rcases hl γ fr ρ1 env m1 _ R1 nb1 with ⟨l, m2, ρ2, q1, R2, q3, q4⟩ | ⟨e, m2, q1, q2, q3⟩
  · rw [q1, Res.bind_ok, q3]
    have nb2 := nb1
    rw [q3] at nb2
    refine EPost.later q4 ?_
    rcases hh γ fr ρ2 env m2 _ R2 nb2 with ⟨r, m3, ρ3, z1, R3, z3, z4⟩ | ⟨e, m3, z1, z2, z3⟩
    · rw [z1, Res.bind_ok, z3]
      have nb3 := nb2
      rw [z3] at nb3
      refine EPost.later z4 ?_
      cases e1 : gres ρ3 v with
      | none => rw [e1] at nb3; exact absurd rfl nb3
      | some x =>
        rw [e1] at nb3
        exact EPost.out R3 (slP_ok m3 w x l r (R3.see h1 e1)) nb3
    · rw [z1, Res.bind_err]
      exact .inr ⟨e, m3, rfl, z2, z3⟩
  · rw [q1, Res.bind_err]
    exact .inr ⟨e, m2, rfl, q2, q3⟩
/-! methods of texts -/
def gSm (p : Str → List D → PR D) (a : GEx) (b : GAx) : GEx := fun γ ρ K => a γ ρ fun v ρ1 => match v with
  | .v z => pts z fun t => b γ ρ1 fun vs ρ2 => match gress ρ2 vs with
    | some xs => (p t xs).bind fun z => K (.v z) ρ2
    | none => .bad
  | .r _ => .bad
theorem re_sm {o : W → List W → Mem → Res W} {p : Str → List D → PR D} (hp : SmP s o p) (ha : RE 3 ms fa ga) (hb : RA ss ms h k) : RE s ms (eMt "str" o fa h) (gSm p ga k) := by
  intro γ fr ρ env m K R nb
  refine EPost.bind nb (ha γ fr ρ env m _ R nb) fun w m1 v ρ1 R1 h1 a1 nb1 => ?_
  cases v with
  | r i => exact absurd rfl nb1
  | v z =>
    obtain ⟨t, rfl⟩ := pts_ne nb1
    rw [RVal.flat h1 (by intro ds e; cases e)]
    rw [if_pos (by rfl)]
    refine APost.bind nb1 (hb γ fr ρ1 env m1 _ R1 nb1) fun ws m2 vs ρ2 R2 h2 a2 nb2 => ?_
    cases e1 : gress ρ2 vs with
    | none => rw [e1] at nb2; exact absurd rfl nb2
    | some xs =>
      rw [e1] at nb2
      exact EPost.out R2 (hp m2 t ws xs (rvals_see R2 h2 e1)) nb2
def gSm0 (p : Str → List D → PR D) (a : GEx) : GEx := fun γ ρ K => a γ ρ fun v ρ1 => match v with
  | .v z => pts z fun t => (p t []).bind fun z => K (.v z) ρ1
  | .r _ => .bad
theorem re_sm0 {o : W → List W → Mem → Res W} {p : Str → List D → PR D} (hp : SmP s o p) (ha : RE 3 ms fa ga) : RE s ms (eMt0 "str" o fa) (gSm0 p ga) := by
  intro γ fr ρ env m K R nb
  refine EPost.bind nb (ha γ fr ρ env m _ R nb) fun w m1 v ρ1 R1 h1 a1 nb1 => ?_
  cases v with
  | r i => exact absurd rfl nb1
  | v z =>
    obtain ⟨t, rfl⟩ := pts_ne nb1
    rw [RVal.flat h1 (by intro ds e; cases e)]
    rw [if_pos (by rfl)]
    exact EPost.out R1 (hp m1 t [] [] .nil) nb1
/-! methods of a slot's list -/
def MuP (zs : Bool) (o : W → List W → Mem → Res W) (p : List D → List D → PR (D × List D)) : Prop := (∀ xs ds e, p xs ds ≠ .err e) ∧ ∀ m j xs ws ds r, m[j]? = some (.lst xs) → Sees m ws ds → (zs = true → ws = ds.map .d) → p xs ds = .ok r → o (.obj j) ws m = .ok (.d r.1) (m.set j (.lst r.2))
def gMu (p : List D → List D → PR (D × List D)) (i : Nat) (b : GAx) : GEx := fun γ ρ K => match ρ[i]? with
  | some (.l _ _) => b γ ρ fun vs ρ1 => match gress ρ1 vs, ρ1[i]? with
    | some ds, some (.l p' xs) => (p xs ds).bind fun r => K (.v r.1) (ρ1.set i (.l p' r.2))
    | _, _ => .bad
  | _ => .bad
theorem gvs_gress {ρ : List PV} : ∀ {vs : List GV} {xs : List D}, gvs vs = some xs → gress ρ vs = some xs
  | [], xs, e => e
  | .v x :: r, xs, e => by
    simp only [gvs] at e
    cases q : gvs r with
    | none => rw [q] at e; cases e
    | some ys =>
      rw [q] at e
      simp only [gress, gres, gvs_gress (ρ := ρ) q]
      exact e
  | .r _ :: _, xs, e => by cases e
theorem re_mu {zs : Bool} {o : W → List W → Mem → Res W} {p : List D → List D → PR (D × List D)} (hp : MuP zs o p) (i : Nat) (hb : RA ss ms h k) (hz : (!zs || allZ ss) = true := by rfl) (hi : isM ms i = true := by rfl) : RE 0 ms (eMt "list" o (eVar i) h) (gMu p i k) := by
  intro γ fr ρ env m K R nb
  simp only [gMu] at nb ⊢
  cases q : ρ[i]? with
  | none => rw [q] at nb; exact absurd rfl nb
  | some v =>
    cases v with
    | l p0 xs0 =>
      rw [q] at nb
      dsimp only at nb ⊢
      obtain ⟨j, e, ej⟩ := R.getL q
      simp only [eMt, eVar, e, Res.bind_ok]
      rw [if_pos (by simp [isTyW, ej])]
      refine APost.bind nb (hb γ fr ρ env m _ R nb) fun ws m1 vs ρ1 R1 h1 a1 nb1 => ?_
      cases e1 : gress ρ1 vs with
      | none => rw [e1] at nb1; exact absurd rfl nb1
      | some ds =>
        cases q1 : ρ1[i]? with
        | none => rw [e1, q1] at nb1; exact absurd rfl nb1
        | some v1 =>
          cases v1 with
          | l p1 xs =>
            rw [e1, q1] at nb1
            dsimp only at nb1 ⊢
            obtain ⟨j', f1, f2⟩ := R1.getL q1
            rw [e] at f1
            cases f1
            have hz' : zs = true → ws = ds.map .d := fun z => by
              have hz : allZ ss = true := by rw [z] at hz; simpa using hz
              obtain ⟨xs', z1, z2, z3, z4⟩ := rvals_z h1 hz
              have := gvs_gress (ρ := ρ1) z1
              rw [e1] at this
              cases this
              exact z4
            cases r0 : p xs ds with
            | bad => rw [r0] at nb1; exact absurd rfl nb1
            | err e => exact absurd r0 (hp.1 xs ds e)
            | ok r =>
              have w := hp.2 m1 j xs ws ds r f2 (rvals_see R1 h1 e1) hz' r0
              rw [w]
              obtain ⟨j2, g1, g2, R2⟩ := R1.mutL q1 r.2
              rw [e] at g1
              cases g1
              exact .inl ⟨_, _, .v r.1, _, rfl, R2, rfl, rfl, Ag.set hi⟩
          | _ => rw [e1, q1] at nb1; exact absurd rfl nb1
    | _ => rw [q] at nb; exact absurd rfl nb
def gMu0 (p : List D → List D → PR (D × List D)) (i : Nat) : GEx := fun γ ρ K => match ρ[i]? with
  | some (.l p' xs) => (p xs []).bind fun r => K (.v r.1) (ρ.set i (.l p' r.2))
  | _ => .bad
theorem re_mu0 {zs : Bool} {o : W → List W → Mem → Res W} {p : List D → List D → PR (D × List D)} (hp : MuP zs o p) (i : Nat) (hi : isM ms i = true := by rfl) : RE 0 ms (eMt0 "list" o (eVar i)) (gMu0 p i) := by
  intro γ fr ρ env m K R nb
  simp only [gMu0] at nb ⊢
  cases q : ρ[i]? with
  | none => rw [q] at nb; exact absurd rfl nb
  | some v =>
    cases v with
    | l p0 xs =>
      rw [q] at nb
      dsimp only at nb ⊢
      obtain ⟨j, e, ej⟩ := R.getL q
      simp only [eMt0, eVar, e, Res.bind_ok]
      rw [if_pos (by simp [isTyW, ej])]
      cases r0 : p xs [] with
      | bad => rw [r0] at nb; exact absurd rfl nb
      | err e => exact absurd r0 (hp.1 xs [] e)
      | ok r =>
        have w := hp.2 m j xs [] [] r ej .nil (fun _ => rfl) r0
        rw [w]
        obtain ⟨j2, g1, g2, R2⟩ := R.mutL q r.2
        rw [e] at g1
        cases g1
        exact .inl ⟨_, _, .v r.1, _, rfl, R2, rfl, rfl, Ag.set hi⟩
    | _ => rw [q] at nb; exact absurd rfl nb
def appendP (xs ds : List D) : PR (D × List D) := match ds with
  | [y] => if xs.length < sizeLine then .ok (.none, xs ++ [y]) else .bad
  | _ => .bad
theorem appendP_ok : MuP true appendW appendP := by
  refine ⟨fun xs ds e z => ?_, fun m j xs ws ds r hj hs hz z => ?_⟩
  · unfold appendP at z
    split at z
    · split at z <;> cases z
    · cases z
  · rw [hz rfl]
    unfold appendP at z
    split at z
    · rename_i y
      by_cases q : xs.length < sizeLine
      · rw [if_pos q] at z
        cases z
        simp [appendW, asO, hj, q]
      · rw [if_neg q] at z; cases z
    · cases z
def popP (xs ds : List D) : PR (D × List D) := match ds with
  | [] => match xs[xs.length - 1]? with
    | some y => .ok (y, xs.dropLast)
    | none => .bad
  | _ => .bad
theorem popP_ok : MuP true popW popP := by
  refine ⟨fun xs ds e z => ?_, fun m j xs ws ds r hj hs hz z => ?_⟩
  · unfold popP at z
    split at z
    · split at z <;> cases z
    · cases z
  · rw [hz rfl]
    unfold popP at z
    split at z
    · split at z
      · rename_i y q
        cases z
        simp [popW, asO, hj, q]
      · cases z
    · cases z
def popAtP (xs ds : List D) : PR (D × List D) := match ds with
  | [.int k] => if grd (-(2 ^ 63) ≤ k ∧ k < 2 ^ 63) = true then (match seqIndex? k xs.length with
    | some j => match xs[j]? with
      | some y => .ok (y, xs.eraseIdx j)
      | none => .bad
    | none => .bad) else .bad
  | _ => .bad
theorem popAtP_ok : MuP true popAtW popAtP := by
  refine ⟨fun xs ds e z => ?_, fun m j xs ws ds r hj hs hz z => ?_⟩
  · unfold popAtP at z
    split at z
    · split at z
      · split at z
        · split at z <;> cases z
        · cases z
      · cases z
    · cases z
  · rw [hz rfl]
    have e : asO (.obj j) m = some (j, xs) := by simp [asO, hj]
    unfold popAtP at z
    split at z
    · rename_i k
      by_cases q : grd (-(2 ^ 63) ≤ k ∧ k < 2 ^ 63) = true
      · rw [if_pos q] at z
        simp only [List.map_cons, List.map_nil, popAtW, e]
        rw [if_pos q]
        cases q1 : seqIndex? k xs.length with
        | none => simp only [q1] at z; cases z
        | some i =>
          simp only [q1] at z
          cases q2 : xs[i]? with
          | none => simp only [q2] at z; cases z
          | some y =>
            simp only [q2] at z
            cases z
            simp only [q1, q2]
      · rw [if_neg q] at z; cases z
    · cases z
def clearP (_ ds : List D) : PR (D × List D) := match ds with
  | [] => .ok (.none, [])
  | _ => .bad
theorem clearP_ok : MuP true clearW clearP := by
  refine ⟨fun xs ds e z => ?_, fun m j xs ws ds r hj hs hz z => ?_⟩
  · unfold clearP at z
    split at z <;> cases z
  · rw [hz rfl]
    unfold clearP at z
    split at z
    · cases z
      simp [clearW, asO, hj]
    · cases z
def extendP (xs ds : List D) : PR (D × List D) := match ds with
  | [.list es] => if xs.length + es.length ≤ sizeLine then .ok (.none, xs ++ es) else .bad
  | [.tuple es] => if xs.length + es.length ≤ sizeLine then .ok (.none, xs ++ es) else .bad
  | _ => .bad
end
end
end M

set_option Elab.async false
set_option linter.all false
set_option maxRecDepth 100000
/-! P: statements -/
namespace M
open PySem L2
noncomputable section
abbrev GSx := (γ : Type) → List PV → (List PV → PR γ) → (List PV → PR γ) → (List PV → PR γ) → (GV → List PV → PR γ) → PR γ
inductive SPo {γ : Type} (fr : Fr) (sr : Nat) (ms : List Bool) (ρ : List PV) (env : Env) (p : PR γ) (kn kb kc : List PV → PR γ) (kr : GV → List PV → PR γ) : SRes → Prop
  | nx (env' : Env) (m' : Mem) (ρ' : List PV) : Rel fr ρ' env' m' → p = kn ρ' → Ag ms ρ ρ' → AgE ms env env' → SPo fr sr ms ρ env p kn kb kc kr (.nx env' m')
  | bk (env' : Env) (m' : Mem) (ρ' : List PV) : Rel fr ρ' env' m' → p = kb ρ' → Ag ms ρ ρ' → AgE ms env env' → SPo fr sr ms ρ env p kn kb kc kr (.bk env' m')
  | ct (env' : Env) (m' : Mem) (ρ' : List PV) : Rel fr ρ' env' m' → p = kc ρ' → Ag ms ρ ρ' → AgE ms env env' → SPo fr sr ms ρ env p kn kb kc kr (.ct env' m')
  | rt (w : W) (m' : Mem) (v : GV) (ρ' : List PV) (env' : Env) : Rel fr ρ' env' m' → RVal fr sr env' w v → p = kr v ρ' → Ag ms ρ ρ' → SPo fr sr ms ρ env p kn kb kc kr (.rt w m')
  | err (e : Exn) (env' : Env) (m' : Mem) : Rel fr (wip ms ρ) env' m' → p = .err e → AgE ms env env' → SPo fr sr ms ρ env p kn kb kc kr (.err e env' m')
def RS (sr : Nat) (ms : List Bool) (f : SF) (g : GSx) : Prop := ∀ (γ : Type) (fr : Fr) (ρ : List PV) (env : Env) (m : Mem) (kn kb kc : List PV → PR γ) (kr : GV → List PV → PR γ), Rel fr ρ env m → g γ ρ kn kb kc kr ≠ .bad → SPo fr sr ms ρ env (g γ ρ kn kb kc kr) kn kb kc kr (f env m)
section
variable {s sr : Nat} {ms : List Bool} {f fa fb : EF} {g ga gb : GEx} {sa sb : SF} {xa xb : GSx} {fp : TF} {gp : GTx} {γ : Type} {fr : Fr} {ρ ρ1 : List PV} {env env1 : Env} {p : PR γ} {kn kb kc : List PV → PR γ} {kr : GV → List PV → PR γ}
theorem SPo.later {r : SRes} (a : Ag ms ρ ρ1) (b : AgE ms env env1) (h : SPo fr sr ms ρ1 env1 p kn kb kc kr r) : SPo fr sr ms ρ env p kn kb kc kr r := by
  cases h with
  | nx e m q h1 h2 h3 h4 => exact .nx e m q h1 h2 (a.trans h3) (b.trans h4)
  | bk e m q h1 h2 h3 h4 => exact .bk e m q h1 h2 (a.trans h3) (b.trans h4)
  | ct e m q h1 h2 h3 h4 => exact .ct e m q h1 h2 (a.trans h3) (b.trans h4)
  | rt w m v q e h1 h2 h3 h4 => exact .rt w m v q e h1 h2 h3 (a.trans h4)
  | err e v m h1 h2 h3 => exact .err e v m (by rw [a.wip] at h1; exact h1) h2 (b.trans h3)
def gsNx : GSx := fun γ ρ kn _ _ _ => kn ρ
def gsBk : GSx := fun γ ρ _ kb _ _ => kb ρ
def gsCt : GSx := fun γ ρ _ _ kc _ => kc ρ
def gsBad : GSx := fun γ ρ _ _ _ _ => .bad
theorem rs_nx : RS sr ms sNx gsNx := fun γ fr ρ env m kn kb kc kr R nb => .nx env m ρ R rfl (Ag.refl _ _) (AgE.refl _ _)
theorem rs_bk : RS sr ms sBk gsBk := fun γ fr ρ env m kn kb kc kr R nb => .bk env m ρ R rfl (Ag.refl _ _) (AgE.refl _ _)
theorem rs_ct : RS sr ms sCt gsCt := fun γ fr ρ env m kn kb kc kr R nb => .ct env m ρ R rfl (Ag.refl _ _) (AgE.refl _ _)
theorem rs_bad : RS sr ms sBad gsBad := fun γ fr ρ env m kn kb kc kr R nb => absurd rfl nb
def gsSeq (a b : GSx) : GSx := fun γ ρ kn kb kc kr => a γ ρ (fun ρ' => b γ ρ' kn kb kc kr) kb kc kr
theorem rs_seq (ha : RS sr ms sa xa) (hb : RS sr ms sb xb) : RS sr ms (sSeq sa sb) (gsSeq xa xb) := by
  intro γ fr ρ env m kn kb kc kr R nb
  have h := ha γ fr ρ env m (fun ρ' => xb γ ρ' kn kb kc kr) kb kc kr R nb
  have e : gsSeq xa xb γ ρ kn kb kc kr = xa γ ρ (fun ρ' => xb γ ρ' kn kb kc kr) kb kc kr := rfl
  rw [e] at nb ⊢
  unfold sSeq
  generalize sa env m = r at h
  cases h with
  | nx e1 m1 q h1 h2 h3 h4 =>
    rw [h2] at nb ⊢
    exact SPo.later h3 h4 (hb γ fr q e1 m1 kn kb kc kr h1 nb)
  | bk e1 m1 q h1 h2 h3 h4 => exact .bk e1 m1 q h1 h2 h3 h4
  | ct e1 m1 q h1 h2 h3 h4 => exact .ct e1 m1 q h1 h2 h3 h4
  | rt w m1 v q e1 h1 h2 h3 h4 => exact .rt w m1 v q e1 h1 h2 h3 h4
  | err x e1 m1 h1 h2 h3 => exact .err x e1 m1 h1 h2 h3
/-- an expression ahead -/
theorem EPost.stmt {K0 : GV → List PV → PR γ} {r : Res W} {k : W → Mem → SRes} (nb : p ≠ .bad) (h : EPost fr s ms ρ env r p K0)
    (hk : ∀ w m' v ρ', Rel fr ρ' env m' → RVal fr s env w v → Ag ms ρ ρ' → K0 v ρ' ≠ .bad → SPo fr sr ms ρ' env (K0 v ρ') kn kb kc kr (k w m')) : SPo fr sr ms ρ env p kn kb kc kr (eS r env k) := by
  rcases h with ⟨w, m', v, ρ', h1, h2, h3, h4, h5⟩ | ⟨e, m', h1, h2, h3⟩
  · rw [h1, eS_ok, h4]
    exact SPo.later h5 (AgE.refl _ _) (hk w m' v ρ' h2 h3 h5 (by rw [← h4]; exact nb))
  · rw [h1, eS_err]
    exact .err e env m' h3 h2 (AgE.refl _ _)
theorem TPost.stmt {K0 : Bool → List PV → PR γ} {r : Res Bool} {k : Bool → Mem → SRes} (nb : p ≠ .bad) (h : TPost fr ms ρ env r p K0)
    (hk : ∀ b m' ρ', Rel fr ρ' env m' → Ag ms ρ ρ' → K0 b ρ' ≠ .bad → SPo fr sr ms ρ' env (K0 b ρ') kn kb kc kr (k b m')) : SPo fr sr ms ρ env p kn kb kc kr (eS r env k) := by
  rcases h with ⟨b, m', ρ', h1, h2, h4, h5⟩ | ⟨e, m', h1, h2, h3⟩
  · rw [h1, eS_ok, h4]
    exact SPo.later h5 (AgE.refl _ _) (hk b m' ρ' h2 h5 (by rw [← h4]; exact nb))
  · rw [h1, eS_err]
    exact .err e env m' h3 h2 (AgE.refl _ _)
def gsIf (c : GTx) (a b : GSx) : GSx := fun γ ρ kn kb kc kr => c γ ρ fun t ρ1 => if t = true then a γ ρ1 kn kb kc kr else b γ ρ1 kn kb kc kr
theorem rs_if (hc : RT ms fp gp) (ha : RS sr ms sa xa) (hb : RS sr ms sb xb) : RS sr ms (sIf fp sa sb) (gsIf gp xa xb) := by
  intro γ fr ρ env m kn kb kc kr R nb
  refine TPost.stmt nb (hc γ fr ρ env m _ R nb) fun t m1 ρ1 R1 a1 nb1 => ?_
  cases t with
  | true => rw [if_pos rfl] at nb1 ⊢; rw [if_pos rfl]; exact ha γ fr ρ1 env m1 kn kb kc kr R1 nb1
  | false => rw [if_neg (by simp)] at nb1 ⊢; rw [if_neg (by simp)]; exact hb γ fr ρ1 env m1 kn kb kc kr R1 nb1
def gsRet (a : GEx) : GSx := fun γ ρ kn kb kc kr => a γ ρ kr
theorem rs_ret (ha : RE sr ms fa ga) : RS sr ms (sRet fa) (gsRet ga) := by
  intro γ fr ρ env m kn kb kc kr R nb
  refine EPost.stmt nb (ha γ fr ρ env m _ R nb) fun w m1 v ρ1 R1 h1 a1 nb1 => ?_
  exact .rt w m1 v ρ1 env R1 h1 rfl (Ag.refl _ _)
def gsDrop (a : GEx) : GSx := fun γ ρ kn kb kc kr => a γ ρ fun _ ρ1 => kn ρ1
theorem rs_drop (ha : RE s ms fa ga) : RS sr ms (sDrop fa) (gsDrop ga) := by
  intro γ fr ρ env m kn kb kc kr R nb
  refine EPost.stmt nb (ha γ fr ρ env m _ R nb) fun w m1 v ρ1 R1 h1 a1 nb1 => ?_
  exact .nx env m1 ρ1 R1 rfl (Ag.refl _ _) (AgE.refl _ _)
/-! targets -/
def ptup {γ : Type} (x : D) (k : List D → PR γ) : PR γ := match x with
  | .tuple ds => k ds
  | _ => .bad
def pcons {γ : Type} (ds : List D) (k : D → List D → PR γ) : PR γ := match ds with
  | d :: r => k d r
  | [] => .bad
def pnil {γ : Type} (ds : List D) (k : PR γ) : PR γ := match ds with
  | [] => k
  | _ :: _ => .bad
abbrev GTg := (γ : Type) → D → List PV → (List PV → PR γ) → PR γ
def RG (ms : List Bool) (g : GF) (k : GTg) : Prop := ∀ (γ : Type) (fr : Fr) (ρ : List PV) (env : Env) (m : Mem) (x : D) (K : List PV → PR γ), Rel fr ρ env m → k γ x ρ K ≠ .bad →
  ∃ env' ρ', g (.d x) env = some env' ∧ Rel fr ρ' env' m ∧ k γ x ρ K = K ρ' ∧ Ag ms ρ ρ' ∧ AgE ms env env'
def gtSet (i : Nat) : GTg := fun γ x ρ K => K (ρ.set i (.d x))
theorem rg_set (i : Nat) (hi : isM ms i = true := by rfl) : RG ms (gSet i) (gtSet i) := fun γ fr ρ env m x K R nb => ⟨_, _, rfl, R.setD i x, rfl, Ag.set hi, AgE.set hi⟩
abbrev GTs := (γ : Type) → List D → List PV → (List PV → PR γ) → PR γ
def RGs (ms : List Bool) (g : GsF) (k : GTs) (n : Nat) : Prop := ∀ (γ : Type) (fr : Fr) (ρ : List PV) (env : Env) (m : Mem) (x : List D) (K : List PV → PR γ), Rel fr ρ env m → k γ x ρ K ≠ .bad →
  ∃ env' ρ', x.length = n ∧ g x env = some env' ∧ Rel fr ρ' env' m ∧ k γ x ρ K = K ρ' ∧ Ag ms ρ ρ' ∧ AgE ms env env'
def gtsNil : GTs := fun γ ds ρ K => pnil ds (K ρ)
def gtsCons (t : GTg) (r : GTs) : GTs := fun γ ds ρ K => pcons ds fun d ds => t γ d ρ fun ρ1 => r γ ds ρ1 K
theorem rgs_nil : RGs ms gsNil gtsNil 0 := by
  intro γ fr ρ env m x K R nb
  cases x with
  | nil => exact ⟨env, ρ, rfl, rfl, R, rfl, Ag.refl _ _, AgE.refl _ _⟩
  | cons a b => exact absurd rfl nb
theorem rgs_cons {t : GF} {r : GsF} {gt : GTg} {gr : GTs} {n : Nat} (ht : RG ms t gt) (hr : RGs ms r gr n) : RGs ms (gsCons t r) (gtsCons gt gr) (n + 1) := by
  intro γ fr ρ env m x K R nb
  cases x with
  | nil => exact absurd rfl nb
  | cons a b =>
    have nb : gt γ a ρ (fun ρ1 => gr γ b ρ1 K) ≠ .bad := nb
    obtain ⟨e1, ρ1, h1, h2, h3, h4, h5⟩ := ht γ fr ρ env m a _ R nb
    obtain ⟨e2, ρ2, q0, q1, q2, q3, q4, q5⟩ := hr γ fr ρ1 e1 m b K h2 (fun z => nb (h3.trans z))
    exact ⟨e2, ρ2, by simp [q0], by simp only [gsCons, h1, Option.bind_some]; exact q1, q2, h3.trans q3, h4.trans q4, h5.trans q5⟩
def gtTup (r : GTs) : GTg := fun γ x ρ K => ptup x fun ds => r γ ds ρ K
theorem rg_tup {r : GsF} {gr : GTs} {n : Nat} (hr : RGs ms r gr n) : RG ms (gTupF n r) (gtTup gr) := by
  intro γ fr ρ env m x K R nb
  cases x with
  | tuple ds =>
    have nb : gr γ ds ρ K ≠ .bad := nb
    obtain ⟨e2, ρ2, q0, q1, q2, q3, q4, q5⟩ := hr γ fr ρ env m ds K R nb
    exact ⟨e2, ρ2, by simp only [gTupF]; rw [if_pos q0]; exact q1, q2, q3, q4, q5⟩
  | _ => exact absurd rfl nb
def gsAsg (a : GEx) (t : GTg) : GSx := fun γ ρ kn kb kc kr => a γ ρ fun v ρ1 => match v with
  | .v x => t γ x ρ1 kn
  | .r _ => .bad
theorem rs_asg {t : GF} {gt : GTg} (ha : RE 0 ms fa ga) (ht : RG ms t gt) : RS sr ms (sAsg fa t) (gsAsg ga gt) := by
  intro γ fr ρ env m kn kb kc kr R nb
  refine EPost.stmt nb (ha γ fr ρ env m _ R nb) fun w m1 v ρ1 R1 h1 a1 nb1 => ?_
  cases v with
  | r i => exact absurd rfl nb1
  | v x =>
    have h1 : w = .d x := h1
    subst h1
    obtain ⟨e1, ρ2, q1, q2, q3, q4, q5⟩ := ht γ fr ρ1 env m1 x kn R1 nb1
    simp only [asgK, q1]
    exact .nx e1 m1 ρ2 q2 q3 q4 q5
def ptl {γ : Type} (x : D) (k : List D → PR γ) : PR γ := match x with
  | .list ds => k ds
  | _ => .bad
@[simp] theorem ptl_list {γ : Type} (ds : List D) (k : List D → PR γ) : ptl (.list ds) k = k ds := rfl
@[simp] theorem ptup_tuple {γ : Type} (ds : List D) (k : List D → PR γ) : ptup (.tuple ds) k = k ds := rfl
@[simp] theorem pcons_cons {γ : Type} (d : D) (ds : List D) (k : D → List D → PR γ) : pcons (d :: ds) k = k d ds := rfl
@[simp] theorem pnil_nil {γ : Type} (k : PR γ) : pnil [] k = k := rfl
def gsAsgL (a : GEx) (i : Nat) : GSx := fun γ ρ kn kb kc kr => a γ ρ fun v ρ1 => match v with
  | .v x => ptl x fun xs => kn (ρ1.set i (.l false xs))
  | .r _ => .bad
theorem rs_asgL (i : Nat) (ha : RE 1 ms fa ga) (hi : isM ms i = true := by rfl) : RS sr ms (sAsg (eObj fa) (gSet i)) (gsAsgL ga i) := by
  intro γ fr ρ env m kn kb kc kr R nb
  have h := ha γ fr ρ env m _ R nb
  rcases h with ⟨w, m1, v, ρ1, h1, R1, h3, h4, h5⟩ | ⟨e, m1, h1, h2, h3⟩
  · have e0 : gsAsgL ga i γ ρ kn kb kc kr = _ := h4
    rw [e0] at nb ⊢
    cases v with
    | r i => exact absurd rfl nb
    | v x =>
      cases x with
      | list xs =>
        have h3 : w = .fl xs := h3
        subst h3
        simp only [sAsg, eObj, h1, Res.bind_ok, eS_ok, asgK, gSet]
        exact .nx _ _ (ρ1.set i (.l false xs)) (R1.setL i xs) rfl (h5.trans (Ag.set hi)) (AgE.set hi)
      | _ => exact absurd rfl nb
  · simp only [sAsg, eObj, h1, Res.bind_err, eS_err]
    exact .err e env m1 h3 h2 (AgE.refl _ _)
def gsAug (p : D → D → PR D) (i : Nat) (a : GEx) : GSx := fun γ ρ kn kb kc kr => match ρ[i]? with
  | some (.d x) => a γ ρ fun v ρ1 => match gres ρ1 v with
    | some y => (p x y).bind fun z => kn (ρ1.set i (.d z))
    | none => .bad
  | _ => .bad
theorem rs_aug (i : Nat) {o : W → W → Mem → Res W} {q : D → D → PR D} (hp : OpP 3 0 o q) (ha : RE 3 ms fa ga) (hi : isM ms i = true := by rfl) : RS sr ms (sAug i o fa) (gsAug q i ga) := by
  intro γ fr ρ env m kn kb kc kr R nb
  simp only [gsAug] at nb ⊢
  cases h0 : ρ[i]? with
  | none => rw [h0] at nb; exact absurd rfl nb
  | some v0 =>
    cases v0 with
    | d x =>
      rw [h0] at nb
      dsimp only at nb ⊢
      have e := R.getD h0
      simp only [sAug, e]
      rcases ha γ fr ρ env m _ R nb with ⟨w, m1, v, ρ1, h1, R1, h3, h4, h5⟩ | ⟨e1, m1, h1, h2, h3⟩
      · rw [h4] at nb ⊢
        dsimp only at nb ⊢
        cases e1 : gres ρ1 v with
        | none => rw [e1] at nb; exact absurd rfl nb
        | some y =>
          rw [e1] at nb
          dsimp only at nb ⊢
          have o1 := hp m1 (.d x) w x y (.inl rfl) (R1.see h3 e1)
          rw [h1, Res.bind_ok]
          cases r : q x y with
          | bad => rw [r] at nb; exact absurd rfl nb
          | err ex =>
            rw [r] at o1
            have o1 : o (.d x) w m1 = .err ex m1 := o1
            rw [o1, eS_err]
            exact .err ex env m1 (by rw [← h5.wip]; exact R1.wip (AgE.refl _ _)) rfl (AgE.refl _ _)
          | ok z =>
            rw [r] at o1
            obtain ⟨wz, ez, hz⟩ := o1
            have hz : wz = .d z := hz fr
            subst hz
            rw [ez, eS_ok]
            exact .nx _ _ (ρ1.set i (.d z)) (R1.setD i z) rfl (h5.trans (Ag.set hi)) (AgE.set hi)
      · rw [h1, Res.bind_err, eS_err]
        exact .err e1 env m1 h3 h2 (AgE.refl _ _)
    | _ => rw [h0] at nb; exact absurd rfl nb
def gsSetI (i : Nat) (ix a : GEx) : GSx := fun γ ρ kn kb kc kr => a γ ρ fun v ρ1 => match ρ1[i]? with
  | some (.l _ _) => ix γ ρ1 fun u ρ2 => match v, u, ρ2[i]? with
    | .v y, .v z, some (.l p xs) => pti z fun k => match ixN xs.length k with
      | some n => kn (ρ2.set i (.l p (xs.set n y)))
      | none => .bad
    | _, _, _ => .bad
  | _ => .bad
theorem rs_setI (i : Nat) {fi : EF} {gi : GEx} (ha : RE 0 ms fa ga) (hx : RE 3 ms fi gi) (hi : isM ms i = true := by rfl) : RS sr ms (sSetI (eVar i) fi fa) (gsSetI i gi ga) := by
  intro γ fr ρ env m kn kb kc kr R nb
  rcases ha γ fr ρ env m _ R nb with ⟨w, m1, v, ρ1, h1, R1, h3, h4, h5⟩ | ⟨e1, m1, h1, h2, h3⟩
  · have e0 : gsSetI i gi ga γ ρ kn kb kc kr = _ := h4
    rw [e0] at nb ⊢
    dsimp only at nb ⊢
    cases q1 : ρ1[i]? with
    | none => rw [q1] at nb; exact absurd rfl nb
    | some v1 =>
      cases v1 with
      | l p1 xs1 =>
        rw [q1] at nb
        dsimp only at nb ⊢
        obtain ⟨j, ej, ej2⟩ := R1.getL q1
        rcases hx γ fr ρ1 env m1 _ R1 nb with ⟨w2, m2, v2, ρ2, z1, R2, z3, z4, z5⟩ | ⟨e2, m2, z1, z2, z3⟩
        · rw [z4] at nb ⊢
          dsimp only at nb ⊢
          cases v with
          | r k => exact absurd h3.1 (by decide)
          | v y =>
            have h3 : w = .d y := h3
            subst h3
            cases v2 with
            | r k => exact absurd rfl nb
            | v z =>
              cases q2 : ρ2[i]? with
              | none => rw [q2] at nb; exact absurd rfl nb
              | some u2 =>
                cases u2 with
                | l p2 xs =>
                  rw [q2] at nb
                  dsimp only at nb ⊢
                  obtain ⟨k, rfl⟩ := pti_ne nb
                  rw [pti_int] at nb ⊢
                  have := RVal.flat z3 (by intro ds e; cases e)
                  subst this
                  cases q3 : ixN xs.length k with
                  | none => rw [q3] at nb; exact absurd rfl nb
                  | some n =>
                    obtain ⟨j2, f1, f2, R3⟩ := R2.mutL q2 (xs.set n y)
                    have f1' := f1
                    rw [ej] at f1'
                    cases f1'
                    simp only [sSetI, h1, Res.bind_ok, eVar, ej, z1, asO, f2, q3, eS_ok]
                    exact .nx _ _ _ R3 rfl (h5.trans (z5.trans (Ag.set hi))) (AgE.refl _ _)
                | _ => rw [q2] at nb; exact absurd rfl nb
        · simp only [sSetI, h1, Res.bind_ok, eVar, ej, z1, Res.bind_err, eS_err]
          exact .err e2 env m2 (by rw [← h5.wip]; exact z3) z2 (AgE.refl _ _)
      | _ => rw [q1] at nb; exact absurd rfl nb
  · simp only [sSetI, h1, Res.bind_err, eS_err]
    exact .err e1 env m1 h3 h2 (AgE.refl _ _)
end
end
end M

set_option Elab.async false
set_option linter.all false
set_option maxRecDepth 100000
/-! P: loops, comprehensions -/
namespace M
open PySem L2
noncomputable section
inductive Kd where
  | d
  | l (p : Bool)
  | k (p : Bool)
  | m
@[reducible] def St : List (Nat × Kd) → Type
  | [] => Unit
  | (_, .d) :: r => D × St r
  | (_, .l _) :: r => List D × St r
  | (_, .k _) :: r => Dk × St r
  | (_, .m) :: r => List (Str × D) × St r
def un : (ds : List (Nat × Kd)) → List PV → Option (St ds)
  | [], _ => some ()
  | (i, .d) :: r, ρ => match ρ[i]? with
    | some (.d x) => (match un r ρ with | some s => some (x, s) | none => none)
    | _ => none
  | (i, .l true) :: r, ρ => match ρ[i]? with
    | some (.l true x) => (match un r ρ with | some s => some (x, s) | none => none)
    | _ => none
  | (i, .l false) :: r, ρ => match ρ[i]? with
    | some (.l false x) => (match un r ρ with | some s => some (x, s) | none => none)
    | _ => none
  | (i, .k true) :: r, ρ => match ρ[i]? with
    | some (.k true x) => (match un r ρ with | some s => some (x, s) | none => none)
    | _ => none
  | (i, .k false) :: r, ρ => match ρ[i]? with
    | some (.k false x) => (match un r ρ with | some s => some (x, s) | none => none)
    | _ => none
  | (i, .m) :: r, ρ => match ρ[i]? with
    | some (.m x) => (match un r ρ with | some s => some (x, s) | none => none)
    | _ => none
def put : (ds : List (Nat × Kd)) → List PV → St ds → List PV
  | [], ρ, _ => ρ
  | (i, .d) :: r, ρ, s => put r (ρ.set i (.d s.1)) s.2
  | (i, .l p) :: r, ρ, s => put r (ρ.set i (.l p s.1)) s.2
  | (i, .k p) :: r, ρ, s => put r (ρ.set i (.k p s.1)) s.2
  | (i, .m) :: r, ρ, s => put r (ρ.set i (.m s.1)) s.2
theorem put_length : ∀ (ds : List (Nat × Kd)) (ρ : List PV) (s : St ds), (put ds ρ s).length = ρ.length
  | [], ρ, _ => rfl
  | (i, .d) :: r, ρ, s => by simp [put, put_length r]
  | (i, .l p) :: r, ρ, s => by simp [put, put_length r]
  | (i, .k p) :: r, ρ, s => by simp [put, put_length r]
  | (i, .m) :: r, ρ, s => by simp [put, put_length r]
/-- σ knows no more than ρ' -/
def Less (σ ρ' : List PV) : Prop := ∀ (i : Nat) (v : PV), σ[i]? = some v → v = PV.x ∨ ρ'[i]? = some v
theorem Less.set {σ ρ' : List PV} (h : Less σ ρ') {i : Nat} {v : PV} (e : ρ'[i]? = some v) : Less (σ.set i v) ρ' := by
  intro k u hk
  by_cases hi : k = i
  · subst hi
    have hl : k < σ.length := by
      have := (List.getElem?_eq_some_iff.mp hk).1
      simpa using this
    rw [List.getElem?_set_self hl] at hk
    cases hk
    exact .inr e
  · rw [List.getElem?_set_ne (Ne.symm hi)] at hk
    exact h k u hk
theorem put_less : ∀ (ds : List (Nat × Kd)) {σ ρ' : List PV} {s : St ds}, Less σ ρ' → un ds ρ' = some s → Less (put ds σ s) ρ'
  | [], σ, ρ', s, h, _ => h
  | (i, .d) :: r, σ, ρ', s, h, e => by
    simp only [un] at e
    split at e
    · rename_i x hx
      split at e
      · rename_i s' hs
        cases e
        exact put_less r (h.set hx) hs
      · cases e
    · cases e
  | (i, .l true) :: r, σ, ρ', s, h, e => by
    simp only [un] at e
    split at e
    · rename_i x hx
      split at e
      · rename_i s' hs
        cases e
        exact put_less r (h.set hx) hs
      · cases e
    · cases e
  | (i, .l false) :: r, σ, ρ', s, h, e => by
    simp only [un] at e
    split at e
    · rename_i x hx
      split at e
      · rename_i s' hs
        cases e
        exact put_less r (h.set hx) hs
      · cases e
    · cases e
  | (i, .k true) :: r, σ, ρ', s, h, e => by
    simp only [un] at e
    split at e
    · rename_i x hx
      split at e
      · rename_i s' hs
        cases e
        exact put_less r (h.set hx) hs
      · cases e
    · cases e
  | (i, .k false) :: r, σ, ρ', s, h, e => by
    simp only [un] at e
    split at e
    · rename_i x hx
      split at e
      · rename_i s' hs
        cases e
        exact put_less r (h.set hx) hs
      · cases e
    · cases e
  | (i, .m) :: r, σ, ρ', s, h, e => by
    simp only [un] at e
    split at e
    · rename_i x hx
      split at e
      · rename_i s' hs
        cases e
        exact put_less r (h.set hx) hs
      · cases e
    · cases e
def inM (ms : List Bool) : List (Nat × Kd) → Bool
  | [] => true
  | (i, _) :: r => isM ms i && inM ms r
def outM (ms : List Bool) : List (Nat × Kd) → Bool
  | [] => true
  | (i, _) :: r => !isM ms i && outM ms r
theorem put_ag {ms : List Bool} : ∀ (ds : List (Nat × Kd)) {ρ σ : List PV} {s : St ds}, Ag ms ρ σ → inM ms ds = true → Ag ms ρ (put ds σ s)
  | [], ρ, σ, s, h, _ => h
  | (i, .d) :: r, ρ, σ, s, h, e => by
    simp only [inM, Bool.and_eq_true] at e
    exact put_ag r (h.trans (Ag.set e.1)) e.2
  | (i, .l p) :: r, ρ, σ, s, h, e => by
    simp only [inM, Bool.and_eq_true] at e
    exact put_ag r (h.trans (Ag.set e.1)) e.2
  | (i, .k p) :: r, ρ, σ, s, h, e => by
    simp only [inM, Bool.and_eq_true] at e
    exact put_ag r (h.trans (Ag.set e.1)) e.2
  | (i, .m) :: r, ρ, σ, s, h, e => by
    simp only [inM, Bool.and_eq_true] at e
    exact put_ag r (h.trans (Ag.set e.1)) e.2
theorem wip_less {ms : List Bool} {ρ ρ' : List PV} (a : Ag ms ρ ρ') : Less (wip ms ρ) ρ' := by
  intro i v h
  rw [wip_get] at h
  by_cases q : isM ms i = true
  · rw [if_pos q] at h
    cases z : ρ[i]? with
    | none => rw [z] at h; cases h
    | some u => rw [z] at h; cases h; exact .inl rfl
  · rw [if_neg q] at h
    exact .inr (by rw [a.get i (by simpa using q)]; exact h)
/-- the state of a loop from what is known behind a turn -/
theorem Rel.shape {fr : Fr} {ρ1 ρ' : List PV} {env : Env} {m : Mem} {ms : List Bool} {ds : List (Nat × Kd)} {s : St ds} (R : Rel fr ρ' env m) (a : Ag ms ρ1 ρ') (e : un ds ρ' = some s) : Rel fr (put ds (M.wip ms ρ1) s) env m := by
  refine R.sub (by rw [put_length, wip_length, a.len]) rfl fun i v h => ?_
  rcases put_less ds (wip_less a) e i v h with h | h
  · exact .inl h
  · exact .inr ⟨h, rfl⟩
theorem shape_ag {ρ1 : List PV} {ms : List Bool} {ds : List (Nat × Kd)} (hd : inM ms ds = true) (s : St ds) : Ag ms ρ1 (put ds (wip ms ρ1) s) := put_ag ds (wip_wip ms ρ1) hd
/-! ### what is walked -/
abbrev GIx := (γ : Type) → List PV → (List D → Option Nat → List PV → PR γ) → PR γ
def ItC (fr : Fr) (ρ' : List PV) (env : Env) (I : Its) (src : Option Nat) : Prop := ∀ ρ2 env2 m2, Rel fr ρ2 env2 m2 → (∀ i, src = some i → ρ2[i]? = ρ'[i]? ∧ env2[i]? = env[i]?) → I.chk m2 = true
def RI (ms : List Bool) (f : IF) (g : GIx) : Prop := ∀ (γ : Type) (fr : Fr) (ρ : List PV) (env : Env) (m : Mem) (K : List D → Option Nat → List PV → PR γ), Rel fr ρ env m → g γ ρ K ≠ .bad →
  (∃ I m' xs src ρ', f env m = .ok I m' ∧ Rel fr ρ' env m' ∧ g γ ρ K = K xs src ρ' ∧ Ag ms ρ ρ' ∧ I.xs = xs.map .d ∧ ItC fr ρ' env I src) ∨ (∃ e m', f env m = .err e m' ∧ g γ ρ K = .err e ∧ Rel fr (wip ms ρ) env m')
def itemsP (x : D) : PR (List D) := match x with
  | .tuple ds => .ok ds
  | .list ds => .ok ds
  | .str z => .ok (z.cps.toList.map fun c => .str ⟨#[c]⟩)
  | _ => .bad
section
variable {s sr : Nat} {ms : List Bool} {f fa fb : EF} {g ga gb : GEx} {sa sb : SF} {xa xb : GSx} {fp : TF} {gp : GTx}
def giSeq (a : GEx) : GIx := fun γ ρ K => a γ ρ fun v ρ1 => match v with
  | .v x => (itemsP x).bind fun xs => K xs none ρ1
  | .r i => match ρ1[i]? with
    | some (.l _ xs) => K xs (some i) ρ1
    | _ => .bad
theorem ri_seq (ha : RE 3 ms fa ga) : RI ms (iSeq fa) (giSeq ga) := by
  intro γ fr ρ env m K R nb
  rcases ha γ fr ρ env m _ R nb with ⟨w, m1, v, ρ1, h1, R1, h3, h4, h5⟩ | ⟨e1, m1, h1, h2, h3⟩
  · have e0 : giSeq ga γ ρ K = _ := h4
    rw [e0] at nb ⊢
    dsimp only at nb ⊢
    simp only [iSeq, h1, Res.bind_ok]
    cases v with
    | r i =>
      have hw := h3.2
      cases q : ρ1[i]? with
      | none => simp only [q] at nb; exact absurd rfl nb
      | some u =>
        cases u with
        | l p xs =>
          simp only [q]
          obtain ⟨j, e1, e2⟩ := R1.getL q
          rw [e1] at hw
          cases hw
          have e3 : asL (.obj j) m1 = some xs := by simp [asL, e2]
          refine .inl ⟨⟨xs.map .d, sameM j xs⟩, m1, xs, some i, ρ1, by simp only [walkW, e3], R1, rfl, h5, rfl, fun ρ2 env2 m2 R2 hs => ?_⟩
          obtain ⟨hs1, hs2⟩ := hs i rfl
          rw [q] at hs1
          obtain ⟨j2, g1, g2⟩ := R2.getL hs1
          rw [hs2, e1] at g1
          cases g1
          simp only [sameM, asL, g2]
          exact grd_t trivial
        | _ => simp only [q] at nb; exact absurd rfl nb
    | v x =>
      have h3 : VW fr 3 w x := h3
      cases x with
      | tuple ds =>
        have := RVal.flat (s := 3) (env := env) (x := .tuple ds) h3 (by intro ds e; cases e)
        subst this
        exact .inl ⟨itsL ds, m1, ds, none, ρ1, rfl, R1, rfl, h5, rfl, fun _ _ _ _ _ => rfl⟩
      | str z =>
        have := RVal.flat (s := 3) (env := env) (x := .str z) h3 (by intro ds e; cases e)
        subst this
        exact .inl ⟨⟨z.cps.toList.map fun c => .d (.str ⟨#[c]⟩), yesM⟩, m1, z.cps.toList.map fun c => .str ⟨#[c]⟩, none, ρ1, rfl, R1, rfl, h5, by simp, fun _ _ _ _ _ => rfl⟩
      | list ds =>
        rcases h3 with rfl | ⟨es, e, rfl | rfl | rfl | ⟨j, rfl, hj, hp⟩⟩
        · exact .inl ⟨itsL ds, m1, ds, none, ρ1, rfl, R1, rfl, h5, rfl, fun _ _ _ _ _ => rfl⟩
        · cases e; exact .inl ⟨itsL ds, m1, ds, none, ρ1, rfl, R1, rfl, h5, rfl, fun _ _ _ _ _ => rfl⟩
        · cases e; exact .inl ⟨itsL ds, m1, ds, none, ρ1, rfl, R1, rfl, h5, rfl, fun _ _ _ _ _ => rfl⟩
        · cases e; exact .inl ⟨itsL ds, m1, ds, none, ρ1, rfl, R1, rfl, h5, rfl, fun _ _ _ _ _ => rfl⟩
        · cases e
          have hl := (List.getElem?_eq_some_iff.mp hj).1
          have e3 : asL (.obj j) m1 = some ds := by simp [asL, R1.fix j hl hp, hj]
          refine .inl ⟨⟨ds.map .d, sameM j ds⟩, m1, ds, none, ρ1, by simp only [walkW, e3], R1, rfl, h5, rfl, fun ρ2 env2 m2 R2 _ => ?_⟩
          simp only [sameM, asL, R2.fix j hl hp, hj]
          exact grd_t trivial
      | _ => exact absurd rfl nb
  · exact .inr ⟨e1, m1, by simp only [iSeq, h1, Res.bind_err], h2, h3⟩
def rng1P (xs : List D) : PR (List D) := match xs with
  | [.int j] => if smallI j = true then .ok ((List.range j.toNat).map fun (k : Nat) => .int (0 + (k : Int))) else .bad
  | _ => .bad
def rng2P (xs : List D) : PR (List D) := match xs with
  | [.int i, .int j] => if (smallI i && smallI j) = true then .ok ((List.range (j - i).toNat).map fun (k : Nat) => .int (i + (k : Int))) else .bad
  | _ => .bad
def ItP (o : List W → Mem → Res Its) (p : List D → PR (List D)) : Prop := (∀ xs e, p xs ≠ .err e) ∧ ∀ m ws ds xs, Sees m ws ds → p ds = .ok xs → ∃ I, o ws m = .ok I m ∧ I.xs = xs.map .d ∧ ∀ m2, I.chk m2 = true
theorem rng1P_ok : ItP rng1 rng1P := by
  refine ⟨fun xs e z => ?_, fun m ws ds xs h e => ?_⟩
  · unfold rng1P at z
    split at z
    · split at z <;> cases z
    · cases z
  · unfold rng1P at e
    split at e
    · rename_i j
      obtain ⟨w, rfl, hw⟩ := sees1 h
      rw [see_flat hw (by intro ds e; cases e)]
      by_cases q : smallI j = true
      · rw [if_pos q] at e
        cases e
        exact ⟨rngI 0 j.toNat, by simp only [rng1]; rw [if_pos q], by simp [rngI], fun _ => rfl⟩
      · rw [if_neg q] at e; cases e
    · cases e
theorem rng2P_ok : ItP rng2 rng2P := by
  refine ⟨fun xs e z => ?_, fun m ws ds xs h e => ?_⟩
  · unfold rng2P at z
    split at z
    · split at z <;> cases z
    · cases z
  · unfold rng2P at e
    split at e
    · rename_i i j
      obtain ⟨w, u, rfl, hw, hu⟩ := sees2 h
      rw [see_flat hw (by intro ds e; cases e), see_flat hu (by intro ds e; cases e)]
      by_cases q : (smallI i && smallI j) = true
      · rw [if_pos q] at e
        cases e
        exact ⟨rngI i (j - i).toNat, by simp only [rng2]; rw [if_pos q], by simp [rngI], fun _ => rfl⟩
      · rw [if_neg q] at e; cases e
    · cases e
/-- lists as they are (data or fresh), told by strict values -/
def ItZ (o : List W → Mem → Res Its) (p : List D → PR (List D)) : Prop := (∀ xs e, p xs ≠ .err e) ∧ ∀ m ds xs, p ds = .ok xs → ∃ I, o (ds.map .d) m = .ok I m ∧ I.xs = xs.map .d ∧ ∀ m2, I.chk m2 = true
def enumP (xs : List D) : PR (List D) := match xs with
  | [.list ds] => .ok (enumD ds)
  | _ => .bad
def zipP (xs : List D) : PR (List D) := match xs with
  | [.list ds, .list es] => .ok (zipD ds es)
  | [.tuple ds, .tuple es] => .ok (zipD ds es)
  | _ => .bad
theorem enumP_ok : ItZ enumW enumP := by
  refine ⟨fun xs e z => ?_, fun m ds xs e => ?_⟩
  · unfold enumP at z
    split at z <;> cases z
  · unfold enumP at e
    split at e
    · cases e
      exact ⟨itsL (enumD _), rfl, rfl, fun _ => rfl⟩
    · cases e
theorem zipP_ok : ItZ zipA zipP := by
  refine ⟨fun xs e z => ?_, fun m ds xs e => ?_⟩
  · unfold zipP at z
    split at z <;> cases z
  · unfold zipP at e
    split at e
    · cases e
      exact ⟨⟨(zipD _ _).map .d, fun m => yesM m && yesM m⟩, rfl, rfl, fun _ => rfl⟩
    · cases e
      exact ⟨itsL (zipD _ _), rfl, rfl, fun _ => rfl⟩
    · cases e
def giCa (p : List D → PR (List D)) (a : GAx) : GIx := fun γ ρ K => a γ ρ fun vs ρ1 => match gress ρ1 vs with
  | some xs => (p xs).bind fun ys => K ys none ρ1
  | none => .bad
theorem ri_ca0 {o : List W → Mem → Res Its} {p : List D → PR (List D)} {ss : List Nat} {h : AF} {k : GAx} (he : ∀ xs e, p xs ≠ .err e) (hp : ∀ fr ρ env m ws vs ds xs, Rel fr ρ env m → RVals fr env ss ws vs → gress ρ vs = some ds → p ds = .ok xs → ∃ I, o ws m = .ok I m ∧ I.xs = xs.map .d ∧ ∀ m2, I.chk m2 = true) (ha : RA ss ms h k) : RI ms (fun env m => (h env m).bind o) (giCa p k) := by
  intro γ fr ρ env m K R nb
  rcases ha γ fr ρ env m _ R nb with ⟨ws, m1, vs, ρ1, h1, R1, h3, h4, h5⟩ | ⟨e1, m1, h1, h2, h3⟩
  · have e0 : giCa p k γ ρ K = _ := h4
    rw [e0] at nb ⊢
    dsimp only at nb ⊢
    cases q : gress ρ1 vs with
    | none => simp only [q] at nb; exact absurd rfl nb
    | some xs =>
      simp only [q] at nb ⊢
      cases r : p xs with
      | bad => rw [r] at nb; exact absurd rfl nb
      | err e => exact absurd r (he xs e)
      | ok ys =>
        obtain ⟨I, i1, i2, i3⟩ := hp fr ρ1 env m1 ws vs xs ys R1 h3 q r
        exact .inl ⟨I, m1, ys, none, ρ1, by simp only [h1, Res.bind_ok, i1], R1, rfl, h5, i2, fun _ _ m2 _ _ => i3 m2⟩
  · exact .inr ⟨e1, m1, by simp only [h1, Res.bind_err], h2, h3⟩
theorem ri_ca {o : List W → Mem → Res Its} {p : List D → PR (List D)} {ss : List Nat} {h : AF} {k : GAx} (hp : ItP o p) (ha : RA ss ms h k) : RI ms (fun env m => (h env m).bind o) (giCa p k) :=
  ri_ca0 hp.1 (fun fr ρ env m ws vs ds xs R h q e => hp.2 m ws ds xs (rvals_see R h q) e) ha
theorem ri_cz {o : List W → Mem → Res Its} {p : List D → PR (List D)} {ss : List Nat} {h : AF} {k : GAx} (hp : ItZ o p) (ha : RA ss ms h k) (hz : allZ ss = true := by rfl) : RI ms (fun env m => (h env m).bind o) (giCa p k) :=
  ri_ca0 hp.1 (fun fr ρ env m ws vs ds xs R h q e => by
    obtain ⟨xs', z1, z2, z3, z4⟩ := rvals_z h hz
    have := gvs_gress (ρ := ρ) z1
    rw [q] at this
    cases this
    rw [z4]
    exact hp.2 m ds xs e) ha
theorem ri_range1 {ss : List Nat} {h : AF} {k : GAx} (ha : RA ss ms h k) : RI ms (iRange1 h) (giCa rng1P k) := ri_ca rng1P_ok ha
theorem ri_range2 {ss : List Nat} {h : AF} {k : GAx} (ha : RA ss ms h k) : RI ms (iRange2 h) (giCa rng2P k) := ri_ca rng2P_ok ha
theorem ri_enum {ss : List Nat} {h : AF} {k : GAx} (ha : RA ss ms h k) (hz : allZ ss = true := by rfl) : RI ms (iEnumF h) (giCa enumP k) := ri_cz enumP_ok ha hz
theorem ri_zip {ss : List Nat} {h : AF} {k : GAx} (ha : RA ss ms h k) (hz : allZ ss = true := by rfl) : RI ms (iZipA h) (giCa zipP k) := ri_cz zipP_ok ha hz
/-! ### for -/
def foldK {S γ : Type} (step : D → S → (S → PR γ) → (S → PR γ) → PR γ) : List D → S → (S → PR γ) → PR γ
  | [], s, k => k s
  | x :: xs, s, k => step x s (fun s' => foldK step xs s' k) k
def okSrc (ms : List Bool) : Option Nat → Bool
  | none => true
  | some i => !isM ms i
def unK {γ : Type} (ds : List (Nat × Kd)) (ρ : List PV) (k : St ds → PR γ) : PR γ := match un ds ρ with
  | some s => k s
  | none => .bad
theorem unK_ne {γ : Type} {ds : List (Nat × Kd)} {ρ : List PV} {k : St ds → PR γ} (h : unK ds ρ k ≠ .bad) : ∃ s, un ds ρ = some s ∧ unK ds ρ k = k s := by
  unfold unK at h ⊢
  cases q : un ds ρ with
  | none => rw [q] at h; exact absurd rfl h
  | some s => exact ⟨s, rfl, rfl⟩
def gsFor (ds : List (Nat × Kd)) (mb : List Bool) (gi : GIx) (t : GTg) (b : GSx) : GSx := fun γ ρ kn kb kc kr => gi γ ρ fun xs src ρ1 => match okSrc mb src with
  | true => unK ds ρ1 fun s0 => foldK (fun x s kn' kb' => t γ x (put ds (wip mb ρ1) s) fun ρ2 => b γ ρ2 (fun ρ3 => unK ds ρ3 kn') (fun ρ3 => unK ds ρ3 kb') (fun ρ3 => unK ds ρ3 kn') kr) xs s0 (fun s => kn (put ds (wip mb ρ1) s))
  | false => .bad
def subM : List Bool → List Bool → Bool
  | [], _ => true
  | true :: a, true :: b => subM a b
  | true :: _, _ => false
  | false :: a, _ :: b => subM a b
  | false :: a, [] => subM a []
theorem subM_get : ∀ {a b : List Bool}, subM a b = true → ∀ i, isM b i = false → isM a i = false
  | [], _, _, i, _ => rfl
  | true :: a, true :: b, h, 0, q => by cases q
  | true :: a, true :: b, h, i + 1, q => subM_get (a := a) (b := b) h i q
  | true :: _, false :: _, h, _, _ => by cases h
  | true :: _, [], h, _, _ => by cases h
  | false :: a, _ :: b, h, 0, q => rfl
  | false :: a, c :: b, h, i + 1, q => subM_get (a := a) (b := b) h i q
  | false :: a, [], h, 0, q => rfl
  | false :: a, [], h, i + 1, q => subM_get (a := a) (b := []) h i rfl
theorem Ag.sub {a b : List Bool} {ρ ρ' : List PV} (h : Ag a ρ ρ') (hs : subM a b = true) : Ag b ρ ρ' := ⟨h.len, fun i hi => h.get i (subM_get hs i hi)⟩
theorem AgE.sub {a b : List Bool} {ρ ρ' : Env} (h : AgE a ρ ρ') (hs : subM a b = true) : AgE b ρ ρ' := ⟨h.len, fun i hi => h.get i (subM_get hs i hi)⟩
theorem wip_sub {a b : List Bool} (hs : subM a b = true) {fr : Fr} {ρ : List PV} {env : Env} {m : Mem} (R : Rel fr (wip a ρ) env m) : Rel fr (wip b ρ) env m := by
  have z := R.wip (ms := b) (AgE.refl _ env)
  have e : wip b (wip a ρ) = wip b ρ := ((wip_wip a ρ).sub hs).wip
  rw [e] at z
  exact z
theorem rs_for {ds : List (Nat × Kd)} {mb : List Bool} {it : IF} {gi : GIx} {t : GF} {gt : GTg} (hi : RI ms it gi) (ht : RG mb t gt) (hb : RS sr mb sb xb) (hd : inM mb ds = true := by rfl) (hs : subM mb ms = true := by rfl) : RS sr ms (sFor it t sb) (gsFor ds mb gi gt xb) := by
  intro γ fr ρ env m kn kb kc kr R nb
  rcases hi γ fr ρ env m _ R nb with ⟨I, m1, xs, src, ρ1, h1, R1, h3, h4, h5, h6⟩ | ⟨e1, m1, h1, h2, h3⟩
  · have e0 : gsFor ds mb gi gt xb γ ρ kn kb kc kr = _ := h3
    rw [e0] at nb ⊢
    try dsimp only at nb ⊢
    cases ok : okSrc mb src with
    | false => rw [ok] at nb; exact absurd rfl nb
    | true =>
      rw [ok] at nb
      dsimp only at nb ⊢
      obtain ⟨s0, u0, u1⟩ := unK_ne nb
      rw [u1] at nb ⊢
      simp only [sFor, h1, eS_ok]
      rw [h5]
      refine SPo.later h4 (AgE.refl _ _) ?_
      have key : ∀ (xs : List D) (s : St ds) (env' : Env) (m' : Mem), Rel fr (put ds (wip mb ρ1) s) env' m' → AgE mb env env' →
          foldK (fun x s kn' kb' => gt γ x (put ds (wip mb ρ1) s) fun ρ2 => xb γ ρ2 (fun ρ3 => unK ds ρ3 kn') (fun ρ3 => unK ds ρ3 kb') (fun ρ3 => unK ds ρ3 kn') kr) xs s (fun s => kn (put ds (wip mb ρ1) s)) ≠ .bad →
          SPo fr sr ms ρ1 env (foldK (fun x s kn' kb' => gt γ x (put ds (wip mb ρ1) s) fun ρ2 => xb γ ρ2 (fun ρ3 => unK ds ρ3 kn') (fun ρ3 => unK ds ρ3 kb') (fun ρ3 => unK ds ρ3 kn') kr) xs s (fun s => kn (put ds (wip mb ρ1) s))) kn kb kc kr (forM I.chk (sTg t sb) (xs.map .d) env' m') := by
        intro xs
        induction xs with
        | nil =>
          intro s env' m' R' a' nb'
          have hc : I.chk m' = true := h6 _ env' m' R' fun i hi => by
            subst hi
            have hm : isM mb i = false := by simpa [okSrc] using ok
            exact ⟨(shape_ag hd s).get i hm, a'.get i hm⟩
          simp only [List.map_nil, forM, hc, if_true]
          exact .nx env' m' _ R' rfl ((shape_ag hd s).sub hs) (a'.sub hs)
        | cons x xs ih =>
          intro s env' m' R' a' nb'
          have hc : I.chk m' = true := h6 _ env' m' R' fun i hi => by
            subst hi
            have hm : isM mb i = false := by simpa [okSrc] using ok
            exact ⟨(shape_ag hd s).get i hm, a'.get i hm⟩
          simp only [List.map_cons, forM, hc, if_true]
          have eW : ∀ (step : D → St ds → (St ds → PR γ) → (St ds → PR γ) → PR γ) (k : St ds → PR γ), foldK step (x :: xs) s k = step x s (fun s' => foldK step xs s' k) k := fun _ _ => rfl
          rw [eW] at nb' ⊢
          obtain ⟨e2, ρ2, t1, t2, t3, t4, t5⟩ := ht γ fr _ env' m' x _ R' nb'
          rw [t3] at nb' ⊢
          simp only [sTg, t1]
          have hbb := hb γ fr ρ2 e2 m' _ _ _ kr t2 nb'
          have ag2 : Ag mb ρ1 ρ2 := (shape_ag hd s).trans t4
          have ae2 : AgE mb env e2 := a'.trans t5
          generalize sb e2 m' = r at hbb
          cases hbb with
          | nx e3 m3 ρ3 q1 q2 q3 q4 =>
            dsimp only
            rw [q2] at nb' ⊢
            obtain ⟨s', v1, v2⟩ := unK_ne nb'
            rw [v2] at nb' ⊢
            exact ih s' e3 m3 (q1.shape (ag2.trans q3) v1) (ae2.trans q4) nb'
          | ct e3 m3 ρ3 q1 q2 q3 q4 =>
            dsimp only
            rw [q2] at nb' ⊢
            obtain ⟨s', v1, v2⟩ := unK_ne nb'
            rw [v2] at nb' ⊢
            exact ih s' e3 m3 (q1.shape (ag2.trans q3) v1) (ae2.trans q4) nb'
          | bk e3 m3 ρ3 q1 q2 q3 q4 =>
            dsimp only
            rw [q2] at nb' ⊢
            obtain ⟨s', v1, v2⟩ := unK_ne nb'
            rw [v2] at nb' ⊢
            exact .nx e3 m3 _ (q1.shape (ag2.trans q3) v1) rfl ((shape_ag hd s').sub hs) ((ae2.trans q4).sub hs)
          | rt w m3 v ρ3 e3 q1 q2 q3 q4 => exact .rt w m3 v ρ3 e3 q1 q2 q3 ((ag2.trans q4).sub hs)
          | err ex e3 m3 q1 q2 q3 =>
            exact .err ex e3 m3 (by rw [ag2.wip] at q1; exact wip_sub hs q1) q2 ((ae2.trans q3).sub hs)
      exact key xs s0 env m1 (R1.shape (Ag.refl _ _) u0) (AgE.refl _ _) nb
  · simp only [sFor, h1, eS_err]
    exact .err e1 env m1 h3 h2 (AgE.refl _ _)
/-! ### while -/
def whileK {S γ : Type} (step : S → (S → PR γ) → (S → PR γ) → PR γ) : Nat → S → (S → PR γ) → PR γ
  | 0, _, _ => .bad
  | n + 1, s, k => step s (fun s' => whileK step n s' k) k
def gsWhile (ds : List (Nat × Kd)) (mb : List Bool) (c : GTx) (b : GSx) (n : Nat) : GSx := fun γ ρ kn kb kc kr => unK ds ρ fun s0 =>
  whileK (fun s kn' kb' => c γ (put ds (wip mb ρ) s) fun t ρ2 => if t = true then b γ ρ2 (fun ρ3 => unK ds ρ3 kn') (fun ρ3 => unK ds ρ3 kb') (fun ρ3 => unK ds ρ3 kn') kr else unK ds ρ2 kb') n s0 (fun s => kn (put ds (wip mb ρ) s))
theorem rs_while {ds : List (Nat × Kd)} {mb : List Bool} (n : Nat) (hc : RT mb fp gp) (hb : RS sr mb sb xb) (hd : inM mb ds = true := by rfl) (hs : subM mb ms = true := by rfl) : RS sr ms (whileM fp sb n) (gsWhile ds mb gp xb n) := by
  intro γ fr ρ1 env m kn kb kc kr R nb
  obtain ⟨s0, u0, u1⟩ := unK_ne nb
  rw [show gsWhile ds mb gp xb n γ ρ1 kn kb kc kr = _ from u1] at nb ⊢
  clear u1
  have key : ∀ (n : Nat) (s : St ds) (env' : Env) (m' : Mem), Rel fr (put ds (wip mb ρ1) s) env' m' → AgE mb env env' →
      whileK (fun s kn' kb' => gp γ (put ds (wip mb ρ1) s) fun t ρ2 => if t = true then xb γ ρ2 (fun ρ3 => unK ds ρ3 kn') (fun ρ3 => unK ds ρ3 kb') (fun ρ3 => unK ds ρ3 kn') kr else unK ds ρ2 kb') n s (fun s => kn (put ds (wip mb ρ1) s)) ≠ .bad →
      SPo fr sr ms ρ1 env (whileK (fun s kn' kb' => gp γ (put ds (wip mb ρ1) s) fun t ρ2 => if t = true then xb γ ρ2 (fun ρ3 => unK ds ρ3 kn') (fun ρ3 => unK ds ρ3 kb') (fun ρ3 => unK ds ρ3 kn') kr else unK ds ρ2 kb') n s (fun s => kn (put ds (wip mb ρ1) s))) kn kb kc kr (whileM fp sb n env' m') := by
    intro n
    induction n with
    | zero => intro s env' m' R' a' nb'; exact absurd rfl nb'
    | succ n ih =>
      intro s env' m' R' a' nb'
      have eW : ∀ (step : St ds → (St ds → PR γ) → (St ds → PR γ) → PR γ) (k : St ds → PR γ), whileK step (n + 1) s k = step s (fun s' => whileK step n s' k) k := fun _ _ => rfl
      rw [eW] at nb' ⊢
      rw [show whileM fp sb (n + 1) env' m' = eS (fp env' m') env' fun t m1 => if t = true then (match sb env' m1 with
        | .nx e m2 => whileM fp sb n e m2
        | .ct e m2 => whileM fp sb n e m2
        | .bk e m2 => .nx e m2
        | r => r) else .nx env' m1 from rfl]
      rcases hc γ fr _ env' m' _ R' nb' with ⟨t, m2, ρ2, c1, R2, c3, c4⟩ | ⟨ex, m2, c1, c2, c3⟩
      · rw [c1, eS_ok]
        rw [c3] at nb' ⊢
        dsimp only at nb' ⊢
        have ag2 : Ag mb ρ1 ρ2 := (shape_ag hd s).trans c4
        cases t with
        | false =>
          rw [if_neg (by simp)] at nb' ⊢
          rw [if_neg (by simp)]
          obtain ⟨s', v1, v2⟩ := unK_ne nb'
          rw [v2] at nb' ⊢
          exact .nx env' m2 _ (R2.shape ag2 v1) rfl ((shape_ag hd s').sub hs) (a'.sub hs)
        | true =>
          rw [if_pos rfl] at nb' ⊢
          rw [if_pos rfl]
          have hbb := hb γ fr ρ2 env' m2 _ _ _ kr R2 nb'
          generalize sb env' m2 = r at hbb
          cases hbb with
          | nx e3 m3 ρ3 q1 q2 q3 q4 =>
            dsimp only
            rw [q2] at nb' ⊢
            obtain ⟨s', v1, v2⟩ := unK_ne nb'
            rw [v2] at nb' ⊢
            exact ih s' e3 m3 (q1.shape (ag2.trans q3) v1) (a'.trans q4) nb'
          | ct e3 m3 ρ3 q1 q2 q3 q4 =>
            dsimp only
            rw [q2] at nb' ⊢
            obtain ⟨s', v1, v2⟩ := unK_ne nb'
            rw [v2] at nb' ⊢
            exact ih s' e3 m3 (q1.shape (ag2.trans q3) v1) (a'.trans q4) nb'
          | bk e3 m3 ρ3 q1 q2 q3 q4 =>
            dsimp only
            rw [q2] at nb' ⊢
            obtain ⟨s', v1, v2⟩ := unK_ne nb'
            rw [v2] at nb' ⊢
            exact .nx e3 m3 _ (q1.shape (ag2.trans q3) v1) rfl ((shape_ag hd s').sub hs) ((a'.trans q4).sub hs)
          | rt w m3 v ρ3 e3 q1 q2 q3 q4 => exact .rt w m3 v ρ3 e3 q1 q2 q3 ((ag2.trans q4).sub hs)
          | err ex e3 m3 q1 q2 q3 =>
            exact .err ex e3 m3 (by rw [ag2.wip] at q1; exact wip_sub hs q1) q2 ((a'.trans q3).sub hs)
      · rw [c1, eS_err]
        exact .err ex env' m2 (by rw [(shape_ag hd s).wip] at c3; exact wip_sub hs c3) c2 (a'.sub hs)
  exact key n s0 env m (R.shape (Ag.refl _ _) u0) (AgE.refl _ _) nb
end
end
end M

set_option Elab.async false
set_option linter.all false
set_option maxRecDepth 100000
/-! P: comprehensions, defs -/
namespace M
open PySem L2
noncomputable section
def lcN {α γ : Type} (r : PR α) (k : α → PR γ) : PR γ := match r with
  | .ok a => k a
  | _ => .bad
def lcO {γ : Type} (acc : List D) (o : Option D) (k : List D → PR γ) : PR γ := match o with
  | some y => if acc.length < sizeLine then k (acc ++ [y]) else .bad
  | none => k acc
@[simp] theorem lcN_ok {α γ : Type} (a : α) (k : α → PR γ) : lcN (.ok a) k = k a := rfl
@[simp] theorem lcO_none {γ : Type} (acc : List D) (k : List D → PR γ) : lcO acc none k = k acc := rfl
def lcK {S γ : Type} (b : D → S → PR (Option D × S)) : List D → S → List D → (List D → S → PR γ) → PR γ
  | [], s, acc, k => k acc s
  | x :: xs, s, acc, k => lcN (b x s) fun r => lcO acc r.1 fun acc' => lcK b xs r.2 acc' k
def gtYes : GTx := fun γ ρ K => K true ρ
theorem rt_yes {ms : List Bool} : RT ms tYesF gtYes := fun γ fr ρ env m K R nb => .inl ⟨true, m, ρ, rfl, R, rfl, Ag.refl _ _⟩
def endK (ds : List (Nat × Kd)) (v : GV) (ρ : List PV) : PR (Option D × St ds) := match v with
  | .v y => unK ds ρ fun s => .ok (some y, s)
  | .r _ => .bad
def gLc (ds : List (Nat × Kd)) (mb : List Bool) (gi : GIx) (t : GTg) (gt : GTx) (ge : GEx) : GEx := fun γ ρ K => gi γ ρ fun xs src ρ1 => match okSrc mb src with
  | true => unK ds ρ1 fun s0 => lcK (fun x s => t _ x (put ds (wip mb ρ1) s) fun ρ2 => gt _ ρ2 fun b ρ3 => if b = true then ge _ ρ3 fun v ρ4 => endK ds v ρ4 else unK ds ρ3 fun s' => .ok (none, s')) xs s0 [] fun acc s => K (.v (.list acc)) (put ds (wip mb ρ1) s)
  | false => .bad
theorem wipeE_get (env : Env) : ∀ (vs : List Nat) (j : Nat), j ∉ vs → (wipeE env vs)[j]? = env[j]?
  | [], j, _ => rfl
  | v :: vs, j, h => by
    show ((wipeE env vs).set v none)[j]? = _
    rw [List.getElem?_set_ne (fun z => h (by rw [z]; exact List.mem_cons_self))]
    exact wipeE_get env vs j fun z => h (List.mem_cons_of_mem _ z)
theorem wipeE_len (env : Env) : ∀ vs : List Nat, (wipeE env vs).length = env.length
  | [] => rfl
  | v :: vs => by
    show ((wipeE env vs).set v none).length = _
    rw [List.length_set]; exact wipeE_len env vs
def allIn (ms : List Bool) : List Nat → Bool
  | [] => true
  | i :: r => isM ms i && allIn ms r
theorem allIn_get {ms : List Bool} : ∀ {vs : List Nat}, allIn ms vs = true → ∀ i ∈ vs, isM ms i = true
  | [], _, i, h => nomatch h
  | v :: vs, h, i, hi => by
    simp only [allIn, Bool.and_eq_true] at h
    rcases List.mem_cons.mp hi with rfl | hi
    · exact h.1
    · exact allIn_get h.2 i hi
theorem outM_get {mt : List Bool} : ∀ {ds : List (Nat × Kd)} {σ : List PV} {s : St ds} {i : Nat}, outM mt ds = true → isM mt i = true → (put ds σ s)[i]? = σ[i]?
  | [], σ, s, i, _, _ => rfl
  | (k, .d) :: r, σ, s, i, h, hi => by
    simp only [outM, Bool.and_eq_true] at h
    show (put r (σ.set k (.d s.1)) s.2)[i]? = _
    rw [outM_get (ds := r) h.2 hi, List.getElem?_set_ne (by rintro rfl; rw [hi] at h; exact absurd h.1 (by simp))]
  | (k, .l p) :: r, σ, s, i, h, hi => by
    simp only [outM, Bool.and_eq_true] at h
    show (put r (σ.set k (.l p s.1)) s.2)[i]? = _
    rw [outM_get (ds := r) h.2 hi, List.getElem?_set_ne (by rintro rfl; rw [hi] at h; exact absurd h.1 (by simp))]
  | (k, .k p) :: r, σ, s, i, h, hi => by
    simp only [outM, Bool.and_eq_true] at h
    show (put r (σ.set k (.k p s.1)) s.2)[i]? = _
    rw [outM_get (ds := r) h.2 hi, List.getElem?_set_ne (by rintro rfl; rw [hi] at h; exact absurd h.1 (by simp))]
  | (k, .m) :: r, σ, s, i, h, hi => by
    simp only [outM, Bool.and_eq_true] at h
    show (put r (σ.set k (.m s.1)) s.2)[i]? = _
    rw [outM_get (ds := r) h.2 hi, List.getElem?_set_ne (by rintro rfl; rw [hi] at h; exact absurd h.1 (by simp))]
/-- slots of the mask mt are not known -/
theorem shape_x {ds : List (Nat × Kd)} {mb mt : List Bool} {ρ1 : List PV} {s : St ds} (ho : outM mt ds = true) (hs : subM mt mb = true) {i : Nat} {v : PV} (hi : isM mt i = true) (h : (put ds (wip mb ρ1) s)[i]? = some v) : v = .x := by
  rw [outM_get ho hi, wip_get] at h
  have hb : isM mb i = true := by
    cases q : isM mb i with
    | true => rfl
    | false => rw [subM_get hs i q] at hi; cases hi
  rw [if_pos hb] at h
  cases z : ρ1[i]? with
  | none => rw [z] at h; cases h
  | some u => rw [z] at h; cases h; rfl
section
variable {s : Nat} {ms : List Bool} {f fa fb fe : EF} {g ga gb ge : GEx} {ft : TF} {gt : GTx}
theorem re_lc {ds : List (Nat × Kd)} {mb mt : List Bool} {vs : List Nat} {it : IF} {gi : GIx} {t : GF} {gg : GTg} (hi : RI ms it gi) (ht : RG mt t gg) (hc : RT mb ft gt) (he : RE 0 mb fe ge) (hd : inM mb ds = true := by rfl) (ho : outM mt ds = true := by rfl) (hv : allIn mt vs = true := by rfl) (h1s : subM mt mb = true := by rfl) (hs : subM mb ms = true := by rfl) : RE 1 ms (eLc it t ft fe vs) (gLc ds mb gi gg gt ge) := by
  intro γ fr ρ env m K R nb
  rcases hi γ fr ρ env m _ R nb with ⟨I, m1, xs, src, ρ1, h1, R1, h3, h4, h5, h6⟩ | ⟨e1, m1, h1, h2, h3⟩
  · have e0 : gLc ds mb gi gg gt ge γ ρ K = _ := h3
    rw [e0] at nb ⊢
    try dsimp only at nb ⊢
    cases ok : okSrc mb src with
    | false => rw [ok] at nb; exact absurd rfl nb
    | true =>
      rw [ok] at nb
      dsimp only at nb ⊢
      obtain ⟨s0, u0, u1⟩ := unK_ne nb
      rw [u1] at nb ⊢
      simp only [eLc, h1, Res.bind_ok]
      rw [h5]
      refine EPost.later h4 ?_
      have back : ∀ (s : St ds) (m' : Mem), Rel fr (put ds (wip mb ρ1) s) (wipeE env vs) m' → Rel fr (put ds (wip mb ρ1) s) env m' := by
        intro s m' R'
        refine R'.sub rfl (wipeE_len env vs).symm fun i v h => ?_
        by_cases q : i ∈ vs
        · exact .inl (shape_x ho h1s (allIn_get hv i q) h)
        · exact .inr ⟨h, (wipeE_get env vs i q).symm⟩
      have key : ∀ (xs : List D) (s : St ds) (acc : List D) (m' : Mem), Rel fr (put ds (wip mb ρ1) s) (wipeE env vs) m' →
          lcK (fun x s => gg _ x (put ds (wip mb ρ1) s) fun ρ2 => gt _ ρ2 fun b ρ3 => if b = true then ge _ ρ3 fun v ρ4 => endK ds v ρ4 else unK ds ρ3 fun s' => .ok (none, s')) xs s acc (fun acc s => K (.v (.list acc)) (put ds (wip mb ρ1) s)) ≠ .bad →
          EPost fr 1 ms ρ1 env (lcM I.chk (lcB t ft fe (wipeE env vs)) (xs.map .d) acc m') (lcK (fun x s => gg _ x (put ds (wip mb ρ1) s) fun ρ2 => gt _ ρ2 fun b ρ3 => if b = true then ge _ ρ3 fun v ρ4 => endK ds v ρ4 else unK ds ρ3 fun s' => .ok (none, s')) xs s acc (fun acc s => K (.v (.list acc)) (put ds (wip mb ρ1) s))) K := by
        intro xs
        induction xs with
        | nil =>
          intro s acc m' R' nb'
          have hck : I.chk m' = true := h6 _ env m' (back s m' R') fun i hi => by
            subst hi
            have hm : isM mb i = false := by simpa [okSrc] using ok
            exact ⟨(shape_ag hd s).get i hm, rfl⟩
          simp only [List.map_nil, lcM, hck, if_true]
          exact .inl ⟨.fl acc, m', .v (.list acc), _, rfl, back s m' R', rfl, rfl, (shape_ag hd s).sub hs⟩
        | cons x xs ih =>
          intro s acc m' R' nb'
          have hck : I.chk m' = true := h6 _ env m' (back s m' R') fun i hi => by
            subst hi
            have hm : isM mb i = false := by simpa [okSrc] using ok
            exact ⟨(shape_ag hd s).get i hm, rfl⟩
          simp only [List.map_cons, lcM, hck, if_true]
          have eW : ∀ (b : D → St ds → PR (Option D × St ds)) (k : List D → St ds → PR γ), lcK b (x :: xs) s acc k = lcN (b x s) fun r => lcO acc r.1 fun acc' => lcK b xs r.2 acc' k := fun _ _ => rfl
          rw [eW] at nb' ⊢
          cases bx : (gg (Option D × St ds) x (put ds (wip mb ρ1) s) fun ρ2 => gt _ ρ2 fun b ρ3 => if b = true then ge _ ρ3 fun v ρ4 => endK ds v ρ4 else unK ds ρ3 fun s' => .ok (none, s')) with
          | bad => rw [bx] at nb'; exact absurd rfl nb'
          | err e => rw [bx] at nb'; exact absurd rfl nb'
          | ok r =>
            rw [bx] at nb'
            have nb1 : (gg (Option D × St ds) x (put ds (wip mb ρ1) s) fun ρ2 => gt _ ρ2 fun b ρ3 => if b = true then ge _ ρ3 fun v ρ4 => endK ds v ρ4 else unK ds ρ3 fun s' => .ok (none, s')) ≠ .bad := by rw [bx]; intro z; cases z
            obtain ⟨e2, ρ2, t1, t2, t3, t4, t5⟩ := ht _ fr _ _ m' x _ R' nb1
            rw [t3] at bx nb1
            try dsimp only at bx nb1
            have ag2 : Ag mb ρ1 ρ2 := (shape_ag hd s).trans (t4.sub h1s)
            have next : ∀ (ρ4 : List PV) (m4 : Mem) (s' : St ds), Rel fr ρ4 e2 m4 → Ag mb ρ1 ρ4 → un ds ρ4 = some s' → Rel fr (put ds (wip mb ρ1) s') (wipeE env vs) m4 := by
              intro ρ4 m4 s' R4 a4 u4
              refine (R4.shape a4 u4).sub rfl t5.len.symm fun i v h => ?_
              by_cases q : isM mt i = true
              · exact .inl (shape_x ho h1s q h)
              · exact .inr ⟨h, (t5.get i (by simpa using q)).symm⟩
            rcases hc _ fr ρ2 e2 m' _ t2 nb1 with ⟨b, m3, ρ3, c1, R3, c3, c4⟩ | ⟨ex, m3, c1, c2, c3⟩
            · rw [c3] at bx nb1
              dsimp only at bx nb1
              cases b with
              | false =>
                rw [if_neg (by simp)] at bx nb1
                obtain ⟨s', v1, v2⟩ := unK_ne nb1
                rw [v2] at bx
                cases bx
                rw [lcN_ok, lcO_none] at nb' ⊢
                simp only [lcB, t1, c1, noErr, Res.bind_ok, if_neg (show ¬ (false = true) by simp)]
                exact ih s' acc m3 (next ρ3 m3 s' R3 (ag2.trans c4) v1) nb'
              | true =>
                rw [if_pos rfl] at bx nb1
                rcases he _ fr ρ3 e2 m3 _ R3 nb1 with ⟨w, m4, v, ρ4, d1, R4, d3, d4, d5⟩ | ⟨ex, m4, d1, d2, d3⟩
                · rw [d4] at bx nb1
                  cases v with
                  | r i => exact absurd rfl nb1
                  | v y =>
                    have d3 : w = .d y := d3
                    subst d3
                    obtain ⟨s', v1, v2⟩ := unK_ne (show unK ds ρ4 (fun s => PR.ok (some y, s)) ≠ .bad from nb1)
                    have bx : PR.ok (some y, s') = PR.ok r := (Eq.symm v2).trans bx
                    cases bx
                    rw [lcN_ok] at nb' ⊢
                    simp only [lcO] at nb' ⊢
                    simp only [lcB, t1, c1, noErr, Res.bind_ok, if_true, d1]
                    by_cases hl : acc.length < sizeLine
                    · rw [if_pos hl] at nb' ⊢
                      rw [if_pos hl]
                      exact ih s' (acc ++ [y]) m4 (next ρ4 m4 s' R4 ((ag2.trans c4).trans d5) v1) nb'
                    · rw [if_neg hl] at nb'; exact absurd rfl nb'
                · rw [d2] at bx; cases bx
            · rw [c2] at bx; cases bx
      refine key xs s0 [] m1 ?_ nb
      refine (R1.shape (Ag.refl _ _) u0).sub rfl (wipeE_len env vs) fun i v h => ?_
      by_cases q : i ∈ vs
      · exact .inl (shape_x ho h1s (allIn_get hv i q) h)
      · exact .inr ⟨h, wipeE_get env vs i q⟩
  · exact .inr ⟨e1, m1, by simp only [eLc, h1, Res.bind_err], h2, h3⟩
end
end
end M

set_option Elab.async false
set_option linter.all false
set_option maxRecDepth 100000
/-! P: defs and their calls -/
namespace M
open PySem L2
noncomputable section
inductive PK where
  | d | b | l | k | n
inductive AV where
  | d (x : D)
  | b (xs : List D)
  | l (i : Nat) (xs : List D)
  | k (i : Nat) (q : Dk)
  | n (kvs : List (Str × D))
inductive UV where
  | l (xs : List D)
  | k (q : Dk)
abbrev GFn := (γ : Type) → List AV → (D → List (Nat × UV) → PR γ) → PR γ
def avK {γ : Type} (ρ : List PV) : PK → GV → (AV → PR γ) → PR γ
  | .d, .v x, K => K (.d x)
  | .b, .v x, K => ptl x fun xs => K (.b xs)
  | .b, .r i, K => match ρ[i]? with
    | some (.l _ xs) => K (.b xs)
    | _ => .bad
  | .l, .r i, K => match ρ[i]? with
    | some (.l _ xs) => K (.l i xs)
    | _ => .bad
  | .k, .r i, K => match ρ[i]? with
    | some (.k _ q) => K (.k i q)
    | _ => .bad
  | .n, .r i, K => match ρ[i]? with
    | some (.m kvs) => K (.n kvs)
    | some (.n kvs) => K (.n kvs)
    | _ => .bad
  | _, _, _ => .bad
def avsK {γ : Type} (ρ : List PV) : List PK → List GV → (List AV → PR γ) → PR γ
  | [], [], K => K []
  | k :: ks, v :: vs, K => avK ρ k v fun a => avsK ρ ks vs fun as => K (a :: as)
  | _, _, _ => .bad
def mrefs : List AV → List Nat
  | [] => []
  | .l i _ :: r => i :: mrefs r
  | .k i _ :: r => i :: mrefs r
  | _ :: r => mrefs r
/-- slots handed over to be changed -/
def grefs : List PK → List GV → List Nat
  | .l :: ks, .r i :: vs => i :: grefs ks vs
  | .k :: ks, .r i :: vs => i :: grefs ks vs
  | _ :: ks, _ :: vs => grefs ks vs
  | _, _ => []
/-- slots handed over to be read -/
def brefs : List PK → List GV → List Nat
  | .b :: ks, .r i :: vs => i :: brefs ks vs
  | .n :: ks, .r i :: vs => i :: brefs ks vs
  | _ :: ks, _ :: vs => brefs ks vs
  | _, _ => []
def nodupB : List Nat → Bool
  | [] => true
  | a :: r => !r.contains a && nodupB r
def refsOk (ms : List Bool) (ks : List PK) (vs : List GV) : Bool := allIn ms (grefs ks vs) && nodupB (grefs ks vs) && (brefs ks vs).all fun i => !(grefs ks vs).contains i
def upd1 (ρ : List PV) (i : Nat) : UV → List PV
  | .l xs => match ρ[i]? with
    | some (.l p _) => ρ.set i (.l p xs)
    | _ => ρ
  | .k q => match ρ[i]? with
    | some (.k p _) => ρ.set i (.k p q)
    | _ => ρ
def upds (ρ : List PV) : List (Nat × UV) → List PV
  | [] => ρ
  | (i, u) :: r => upds (upd1 ρ i u) r
def gCall (ms : List Bool) (ks : List PK) (F : GFn) (a : GAx) : GEx := fun γ ρ K => a γ ρ fun vs ρ1 => match refsOk ms ks vs with
  | true => avsK ρ1 ks vs fun avs => F γ avs fun x us => K (.v x) (upds ρ1 us)
  | false => .bad
/-! ### what a def promises -/
def ArgOk (m : Mem) (J : Nat → List Nat) (rs : List Nat) (w : W) : AV → Prop
  | .d x => w = .d x
  | .b xs => w = .d (.list xs) ∨ w = .ro xs ∨ ∃ j, w = .obj j ∧ m[j]? = some (.lst xs) ∧ ∀ i ∈ rs, j ∉ J i
  | .l i xs => ∃ j, w = .obj j ∧ J i = [j] ∧ m[j]? = some (.lst xs)
  | .k i q => ∃ b a, w = .obj b ∧ J i = [b, a] ∧ DkAt m a b q
  | .n kvs => ∃ j, w = .obj j ∧ m[j]? = some (.dct (kvW kvs)) ∧ ∀ i ∈ rs, j ∉ J i
inductive ArgsOk (m : Mem) (J : Nat → List Nat) (rs : List Nat) : List W → List AV → Prop
  | nil : ArgsOk m J rs [] []
  | cons {w : W} {a : AV} {ws : List W} {as : List AV} : ArgOk m J rs w a → ArgsOk m J rs ws as → ArgsOk m J rs (w :: ws) (a :: as)
def Has (m : Mem) (J : Nat → List Nat) (i : Nat) : UV → Prop
  | .l xs => ∃ j, J i = [j] ∧ m[j]? = some (.lst xs)
  | .k q => ∃ b a, J i = [b, a] ∧ DkAt m a b q
structure Keep (m m' : Mem) (J : Nat → List Nat) (rs : List Nat) : Prop where
  len : m'.length = m.length
  get : ∀ j, (∀ i ∈ rs, j ∉ J i) → m'[j]? = m[j]?
  dn : ∀ i ∈ rs, ∀ j ∈ J i, ∀ o : O, m'[j]? = some o → okO j o = true
def SpG (F : FF) (s : Nat) (Q : GFn) : Prop := ∀ (γ : Type) (m : Mem) (ws : List W) (avs : List AV) (J : Nat → List Nat) (K : D → List (Nat × UV) → PR γ), (∀ (j : Nat) (o : O), m[j]? = some o → okO m.length o = true) → ArgsOk m J (mrefs avs) ws avs → (mrefs avs).Nodup → (∀ i ∈ mrefs avs, ∀ i' ∈ mrefs avs, ∀ j, j ∈ J i → j ∈ J i' → i = i') → Q γ avs K ≠ .bad →
  (∃ w m' x us, F ws m = .ok w m' ∧ (∀ fr, VW fr s w x) ∧ Q γ avs K = K x us ∧ us.map (·.1) = mrefs avs ∧ (∀ u ∈ us, Has m' J u.1 u.2) ∧ Keep m m' J (mrefs avs)) ∨ (∃ e m', F ws m = .err e m' ∧ Q γ avs K = .err e ∧ Keep m m' J (mrefs avs))
theorem nodupB_iff : ∀ {l : List Nat}, nodupB l = true → l.Nodup
  | [], _ => List.nodup_nil
  | a :: r, h => by
    simp only [nodupB, Bool.and_eq_true] at h
    exact List.nodup_cons.mpr ⟨by simpa using h.1, nodupB_iff h.2⟩
section
variable {s : Nat} {ms : List Bool} {fr : Fr} {ρ : List PV} {env : Env} {m m' : Mem}
theorem isO_4 : isO 4 = true := rfl
/-- levels of the arguments: a value, or what is only read or handed over -/
def lvOk : List PK → List Nat → Bool
  | [], [] => true
  | .d :: ks, 0 :: ss => lvOk ks ss
  | .b :: ks, 4 :: ss => lvOk ks ss
  | .l :: ks, 4 :: ss => lvOk ks ss
  | .k :: ks, 4 :: ss => lvOk ks ss
  | .n :: ks, 4 :: ss => lvOk ks ss
  | _, _ => false
theorem avs_ok (R : Rel fr ρ env m) {J : Nat → List Nat} (hd : ∀ i i' j, j ∈ J i → j ∈ J i' → i = i') (hJ : ∀ i, SlotOk fr m i (J i) env[i]? ρ[i]?) {γ : Type} : ∀ {ks : List PK} {ss : List Nat} {ws : List W} {vs : List GV} {K : List AV → PR γ}, lvOk ks ss = true → RVals fr env ss ws vs → avsK ρ ks vs K ≠ .bad →
    ∃ avs, avsK ρ ks vs K = K avs ∧ mrefs avs = grefs ks vs ∧ noFl ws = true ∧ ∀ rs, (∀ i ∈ brefs ks vs, i ∉ rs) → ArgsOk m J rs ws avs
  | [], [], [], [], K, _, .nil, nb => ⟨[], rfl, rfl, rfl, fun _ _ => .nil⟩
  | .d :: ks, 0 :: ss, w :: ws, .v x :: vs, K, hl, .cons h t, nb => by
    obtain ⟨avs, e1, e2, e4, e3⟩ := avs_ok R hd hJ (ks := ks) (K := fun as => K (.d x :: as)) hl t nb
    have h : w = .d x := h
    subst h
    exact ⟨.d x :: avs, e1, e2, e4, fun rs hr => .cons rfl (e3 rs hr)⟩
  | .d :: ks, 0 :: ss, w :: ws, .r i :: vs, K, hl, .cons h t, nb => absurd h.1 (by decide)
  | .b :: ks, 4 :: ss, w :: ws, .v x :: vs, K, hl, .cons h t, nb => by
    cases x with
    | list xs =>
      obtain ⟨avs, e1, e2, e4, e3⟩ := avs_ok R hd hJ (ks := ks) (K := fun as => K (.b xs :: as)) hl t nb
      rcases h with rfl | ⟨es, e, h⟩
      · exact ⟨.b xs :: avs, e1, e2, e4, fun rs hr => .cons (.inl rfl) (e3 rs hr)⟩
      · cases e
        rcases h with rfl | rfl | ⟨j, rfl, hj, hp⟩
        · exact ⟨.b xs :: avs, e1, e2, e4, fun rs hr => .cons (.inl rfl) (e3 rs hr)⟩
        · exact ⟨.b xs :: avs, e1, e2, e4, fun rs hr => .cons (.inr (.inl rfl)) (e3 rs hr)⟩
        · refine ⟨.b xs :: avs, e1, e2, e4, fun rs hr => .cons (.inr (.inr ⟨j, rfl, ?_, fun i hi hj' => ?_⟩)) (e3 rs hr)⟩
          · rw [R.fix j (List.getElem?_eq_some_iff.mp hj).1 hp]; exact hj
          · have hl := (List.getElem?_eq_some_iff.mp hj).1
            rcases (hJ i).own j hj' with z | z
            · exact hp i z
            · omega
    | _ => exact absurd rfl nb
  | .b :: ks, 4 :: ss, w :: ws, .r i :: vs, K, hl, .cons h t, nb => by
    have h2 := h.2
    simp only [avsK, avK] at nb ⊢
    cases q : ρ[i]? with
    | none => rw [q] at nb; exact absurd rfl nb
    | some u =>
      cases u with
      | l p xs =>
        rw [q] at nb
        dsimp only at nb ⊢
        obtain ⟨avs, e1, e2, e4, e3⟩ := avs_ok R hd hJ (ks := ks) (K := fun as => K (.b xs :: as)) hl t nb
        have z := hJ i
        rw [q] at z
        obtain ⟨j, z1, z2, z3, z4⟩ := z
        rw [z2] at h2
        cases h2
        refine ⟨.b xs :: avs, e1, e2, e4, fun rs hr => .cons (.inr (.inr ⟨j, rfl, z3, fun i' hi hj' => ?_⟩)) (e3 rs fun i' hi' => hr i' (List.mem_cons_of_mem _ hi'))⟩
        have := hd i i' j (by rw [z1]; simp) hj'
        subst this
        exact hr i (List.mem_cons_self) hi
      | _ => rw [q] at nb; exact absurd rfl nb
  | .l :: ks, 4 :: ss, w :: ws, .v x :: vs, K, hl, .cons h t, nb => absurd rfl nb
  | .l :: ks, 4 :: ss, w :: ws, .r i :: vs, K, hl, .cons h t, nb => by
    have h2 := h.2
    simp only [avsK, avK] at nb ⊢
    cases q : ρ[i]? with
    | none => rw [q] at nb; exact absurd rfl nb
    | some u =>
      cases u with
      | l p xs =>
        rw [q] at nb
        dsimp only at nb ⊢
        obtain ⟨avs, e1, e2, e4, e3⟩ := avs_ok R hd hJ (ks := ks) (K := fun as => K (.l i xs :: as)) hl t nb
        have z := hJ i
        rw [q] at z
        obtain ⟨j, z1, z2, z3, z4⟩ := z
        rw [z2] at h2
        cases h2
        exact ⟨.l i xs :: avs, e1, by simp [mrefs, grefs, e2], e4, fun rs hr => .cons ⟨j, rfl, z1, z3⟩ (e3 rs hr)⟩
      | _ => rw [q] at nb; exact absurd rfl nb
  | .k :: ks, 4 :: ss, w :: ws, .v x :: vs, K, hl, .cons h t, nb => absurd rfl nb
  | .k :: ks, 4 :: ss, w :: ws, .r i :: vs, K, hl, .cons h t, nb => by
    have h2 := h.2
    simp only [avsK, avK] at nb ⊢
    cases q : ρ[i]? with
    | none => rw [q] at nb; exact absurd rfl nb
    | some u =>
      cases u with
      | k p xs =>
        rw [q] at nb
        dsimp only at nb ⊢
        obtain ⟨avs, e1, e2, e4, e3⟩ := avs_ok R hd hJ (ks := ks) (K := fun as => K (.k i xs :: as)) hl t nb
        have z := hJ i
        rw [q] at z
        obtain ⟨b, a, z1, z2, z3, z4⟩ := z
        rw [z2] at h2
        cases h2
        exact ⟨.k i xs :: avs, e1, by simp [mrefs, grefs, e2], e4, fun rs hr => .cons ⟨b, a, rfl, z1, z3⟩ (e3 rs hr)⟩
      | _ => rw [q] at nb; exact absurd rfl nb
  | .n :: ks, 4 :: ss, w :: ws, .v x :: vs, K, hl, .cons h t, nb => absurd rfl nb
  | .n :: ks, 4 :: ss, w :: ws, .r i :: vs, K, hl, .cons h t, nb => by
    have h2 := h.2
    simp only [avsK, avK] at nb ⊢
    cases q : ρ[i]? with
    | none => rw [q] at nb; exact absurd rfl nb
    | some u =>
      cases u with
      | m kvs =>
        rw [q] at nb
        dsimp only at nb ⊢
        obtain ⟨avs, e1, e2, e4, e3⟩ := avs_ok R hd hJ (ks := ks) (K := fun as => K (.n kvs :: as)) hl t nb
        have z := hJ i
        rw [q] at z
        obtain ⟨j, z1, z2, z3, z4⟩ := z
        rw [z2] at h2
        cases h2
        refine ⟨.n kvs :: avs, e1, e2, e4, fun rs hr => .cons ⟨j, rfl, z3, fun i' hi hj' => ?_⟩ (e3 rs fun i' hi' => hr i' (List.mem_cons_of_mem _ hi'))⟩
        have := hd i i' j (by rw [z1]; simp) hj'
        subst this
        exact hr i (List.mem_cons_self) hi
      | n kvs =>
        rw [q] at nb
        dsimp only at nb ⊢
        obtain ⟨avs, e1, e2, e4, e3⟩ := avs_ok R hd hJ (ks := ks) (K := fun as => K (.n kvs :: as)) hl t nb
        have z := hJ i
        rw [q] at z
        obtain ⟨_, j, z2, z3, z4⟩ := z
        rw [z2] at h2
        cases h2
        have hl' := (List.getElem?_eq_some_iff.mp z3).1
        refine ⟨.n kvs :: avs, e1, e2, e4, fun rs hr => .cons ⟨j, rfl, by rw [R.fix j hl' z4]; exact z3, fun i' hi hj' => ?_⟩ (e3 rs fun i' hi' => hr i' (List.mem_cons_of_mem _ hi'))⟩
        rcases (hJ i').own j hj' with z | z
        · exact z4 i' z
        · omega
      | _ => rw [q] at nb; exact absurd rfl nb
theorem upd1_length (ρ : List PV) (i : Nat) (u : UV) : (upd1 ρ i u).length = ρ.length := by
  cases u with
  | l xs => simp only [upd1]; split <;> simp
  | k q => simp only [upd1]; split <;> simp
theorem upd1_ne {i k : Nat} (u : UV) (h : k ≠ i) : (upd1 ρ i u)[k]? = ρ[k]? := by
  cases u with
  | l xs => simp only [upd1]; split <;> simp [List.getElem?_set_ne (Ne.symm h)]
  | k q => simp only [upd1]; split <;> simp [List.getElem?_set_ne (Ne.symm h)]
theorem upds_length : ∀ (us : List (Nat × UV)) (ρ : List PV), (upds ρ us).length = ρ.length
  | [], ρ => rfl
  | (i, u) :: r, ρ => by simp only [upds]; rw [upds_length r, upd1_length]
theorem upds_ag : ∀ (us : List (Nat × UV)) {ρ0 ρ : List PV}, Ag ms ρ0 ρ → allIn ms (us.map (·.1)) = true → Ag ms ρ0 (upds ρ us)
  | [], ρ0, ρ, a, _ => a
  | (i, u) :: r, ρ0, ρ, a, h => by
    simp only [List.map_cons, allIn, Bool.and_eq_true] at h
    refine upds_ag r (a.trans ⟨upd1_length _ _ _, fun k hk => upd1_ne u ?_⟩) h.2
    rintro rfl
    rw [h.1] at hk; cases hk
def kindOk : UV → Option PV → Prop
  | .l _, some (.l _ _) => True
  | .k _, some (.k _ _) => True
  | _, _ => False
theorem upds_slots {J : Nat → List Nat} {m' : Mem} : ∀ (us : List (Nat × UV)) {σ : List PV}, (us.map (·.1)).Nodup → (∀ u ∈ us, Has m' J u.1 u.2) → (∀ i, i ∉ us.map (·.1) → SlotOk fr m' i (J i) env[i]? σ[i]?) → (∀ i, i ∈ us.map (·.1) → SlotOk fr m i (J i) env[i]? σ[i]? ) →
    (∀ u ∈ us, kindOk u.2 σ[u.1]?) →
    ∀ i, SlotOk fr m' i (J i) env[i]? (upds σ us)[i]?
  | [], σ, _, _, h, _, _ => fun i => h i (by simp)
  | (k, u) :: r, σ, hn, hh, h1, h2, h3 => by
    simp only [List.map_cons, List.nodup_cons] at hn
    refine upds_slots r hn.2 (fun u hu => hh u (List.mem_cons_of_mem _ hu)) (fun i hi => ?_) (fun i hi => ?_) (fun v hv => ?_)
    · by_cases hk : i = k
      · subst hk
        have z := h2 i (by simp)
        have z3 := h3 (i, u) List.mem_cons_self
        have zh := hh (i, u) List.mem_cons_self
        cases u with
        | l xs =>
          cases q : σ[i]? with
          | none => rw [q] at z3; exact False.elim z3
          | some pv =>
            cases pv with
            | l p ys =>
              have hl : i < σ.length := (List.getElem?_eq_some_iff.mp q).1
              simp only [upd1, q]
              rw [List.getElem?_set_self hl]
              rw [q] at z
              obtain ⟨j, z1, z2, z3, z4⟩ := z
              obtain ⟨j', y1, y2⟩ := zh
              rw [z1] at y1
              cases y1
              exact ⟨j, z1, z2, y2, z4⟩
            | _ => rw [q] at z3; exact False.elim z3
        | k xs =>
          cases q : σ[i]? with
          | none => rw [q] at z3; exact False.elim z3
          | some pv =>
            cases pv with
            | k p ys =>
              have hl : i < σ.length := (List.getElem?_eq_some_iff.mp q).1
              simp only [upd1, q]
              rw [List.getElem?_set_self hl]
              rw [q] at z
              obtain ⟨b, a, z1, z2, z3, z4⟩ := z
              obtain ⟨b', a', y1, y2⟩ := zh
              rw [z1] at y1
              cases y1
              exact ⟨b, a, z1, z2, y2, z4⟩
            | _ => rw [q] at z3; exact False.elim z3
      · rw [upd1_ne u hk]
        exact h1 i (by simp only [List.map_cons, List.mem_cons, not_or]; exact ⟨hk, hi⟩)
    · have hk : i ≠ k := by rintro rfl; exact hn.1 hi
      rw [upd1_ne u hk]
      exact h2 i (List.mem_cons_of_mem _ hi)
    · have hk : v.1 ≠ k := by
        intro e
        exact hn.1 (by rw [← e]; exact List.mem_map_of_mem hv)
      rw [upd1_ne u hk]
      exact h3 v (List.mem_cons_of_mem _ hv)
end
end
end M

set_option Elab.async false
set_option linter.all false
set_option maxRecDepth 100000
/-! P: defs and their calls -/
namespace M
open PySem L2
noncomputable section
section
variable {s sr : Nat} {ms : List Bool} {fr : Fr} {ρ : List PV} {env : Env} {m m' : Mem}
theorem has_kind {J : Nat → List Nat} {i : Nat} {e : Option (Option W)} {v : Option PV} {u : UV} (h : SlotOk fr m i (J i) e v) (hh : Has m' J i u) : kindOk u v := by
  cases u with
  | l xs =>
    obtain ⟨j, hj, _⟩ := hh
    match v, h with
    | none, h => rw [show J i = [] from h] at hj; cases hj
    | some .x, h => rw [show J i = [] from h] at hj; cases hj
    | some (.d v), h => rw [h.1] at hj; cases hj
    | some (.b v), h => rw [h.1] at hj; cases hj
    | some (.l p xs), _ => trivial
    | some (.k p q), ⟨b, a, e1, _⟩ => rw [e1] at hj; cases hj
    | some (.m v), ⟨k, e1, _⟩ => rw [e1] at hj; cases hj
    | some (.n v), h => rw [h.1] at hj; cases hj
  | k xs =>
    obtain ⟨b', a', hj, hk⟩ := hh
    match v, h with
    | none, h => rw [show J i = [] from h] at hj; cases hj
    | some .x, h => rw [show J i = [] from h] at hj; cases hj
    | some (.d v), h => rw [h.1] at hj; cases hj
    | some (.b v), h => rw [h.1] at hj; cases hj
    | some (.l p xs), ⟨j, e1, _⟩ => rw [e1] at hj; cases hj
    | some (.k p q), _ => trivial
    | some (.m v), ⟨k, e1, _⟩ => rw [e1] at hj; cases hj; exact absurd hk.ab (Nat.lt_irrefl _)
    | some (.n v), h => rw [h.1] at hj; cases hj
/-- behind a call: what was handed over has changed, and nothing else -/
theorem Rel.keep (R : Rel fr ρ env m) {J : Nat → List Nat} {rs : List Nat} (hJ : ∀ i, SlotOk fr m i (J i) env[i]? ρ[i]?) (k : Keep m m' J rs) : fr.m0.length ≤ m'.length ∧ (∀ j, j < fr.m0.length → (∀ i, j ∉ fr.pin i) → m'[j]? = fr.m0[j]?) ∧ (∀ (i j : Nat), j ∈ fr.pin i → ∀ o : O, m'[j]? = some o → okO j o = true) ∧ (∀ (j : Nat) (o : O), fr.m0.length ≤ j → m'[j]? = some o → okO m'.length o = true) := by
  have go : ∀ (j : Nat) (o : O), m'[j]? = some o → okO j o = true ∨ m[j]? = some o := fun j o e => by
    by_cases hp : ∃ i ∈ rs, j ∈ J i
    · obtain ⟨i, hi, hj⟩ := hp
      exact .inl (k.dn i hi j hj o e)
    · exact .inr (by rw [← k.get j fun i hi hj => hp ⟨i, hi, hj⟩]; exact e)
  refine ⟨by rw [k.len]; exact R.len, fun j h1 h2 => ?_, fun i j hj o e => ?_, fun j o hj e => ?_⟩
  · rw [k.get j fun i hi hj => ?_]
    · exact R.fix j h1 h2
    · rcases (hJ i).own j hj with z | z
      · exact h2 i z
      · omega
  · rcases go j o e with z | z
    · exact z
    · exact R.cp i j hj o z
  · have hl := (List.getElem?_eq_some_iff.mp e).1
    rcases go j o e with z | z
    · exact okO.le z (by omega)
    · rw [k.len]
      exact R.cn j o hj z
theorem re_call {F : FF} {ks : List PK} {ss : List Nat} {Q : GFn} {h : AF} {k : GAx} (hF : SpG F s Q) (ha : RA ss ms h k) (hl : lvOk ks ss = true := by rfl) : RE s ms (eCallF F h) (gCall ms ks Q k) := by
  intro γ fr ρ env m K R nb
  refine APost.bind nb (ha γ fr ρ env m _ R nb) fun ws m1 vs ρ1 R1 h1 a1 nb1 => ?_
  cases ok : refsOk ms ks vs with
  | false => rw [ok] at nb1; exact absurd rfl nb1
  | true =>
    rw [ok] at nb1
    dsimp only at nb1 ⊢
    obtain ⟨J, hd, hJ⟩ := R1.ex
    simp only [refsOk, Bool.and_eq_true] at ok
    obtain ⟨⟨ok1, ok2⟩, ok3⟩ := ok
    obtain ⟨avs, e1, e2, e4, e3⟩ := avs_ok R1 hd hJ hl h1 nb1
    rw [e1] at nb1 ⊢
    have hA := e3 (mrefs avs) (fun i hi hi' => by
      rw [e2] at hi'
      have := List.all_eq_true.mp ok3 i hi
      simp only [Bool.not_eq_true', List.contains_eq_mem, decide_eq_false_iff_not] at this
      exact this hi')
    simp only [callM, e4, if_true]
    rcases hF γ m1 ws avs J _ R1.cm hA (by rw [e2]; exact nodupB_iff ok2) (fun i _ i' _ j => hd i i' j) nb1 with ⟨w, m2, x, us, f1, f2, f3, f4, f5, f6⟩ | ⟨e, m2, f1, f2, f3⟩
    · rw [f1, f3]
      have ag : Ag ms ρ1 (upds ρ1 us) := upds_ag us (Ag.refl _ _) (by rw [f4, e2]; exact ok1)
      refine .inl ⟨w, m2, .v x, upds ρ1 us, rfl, ?_, f2 fr, rfl, ag⟩
      obtain ⟨k1, k2, k3, k4⟩ := R1.keep hJ f6
      refine ⟨R1.pok, k1, k2, R1.c0, k3, k4, by rw [upds_length]; exact R1.el, J, hd, ?_⟩
      refine upds_slots (m := m1) us (by rw [f4, e2]; exact nodupB_iff ok2) f5 (fun i hi => ?_) (fun i hi => hJ i) (fun u hu => has_kind (hJ u.1) (f5 u hu))
      refine (hJ i).mem fun j hj => f6.get j fun i' hi' hj' => ?_
      have := hd i i' j hj hj'
      subst this
      exact hi (by rw [f4]; exact hi')
    · rw [f1, f2]
      refine .inr ⟨e, m2, rfl, rfl, ?_⟩
      obtain ⟨k1, k2, k3, k4⟩ := R1.keep hJ f3
      refine ⟨R1.pok, k1, k2, R1.c0, k3, k4, by rw [wip_length]; exact R1.el, fun i => if isM ms i = true then [] else J i, fun i i' j h1 h2 => ?_, fun i => ?_⟩
      · dsimp only at h1 h2
        split at h1
        · cases h1
        · split at h2
          · cases h2
          · exact hd i i' j h1 h2
      · dsimp only
        rw [wip_get]
        by_cases q : isM ms i = true
        · rw [if_pos q, if_pos q]
          cases ρ1[i]? <;> exact (rfl : ([] : List Nat) = [])
        · rw [if_neg q, if_neg q]
          refine (hJ i).mem fun j hj => f3.get j fun i' hi' hj' => ?_
          have := hd i i' j hj hj'
          subst this
          rw [e2] at hi'
          exact q (allIn_get ok1 i hi')
/-! ### a def by its body -/
def initV : AV → PV
  | .d x => .d x
  | .b xs => .b xs
  | .l _ xs => .l true xs
  | .k _ q => .k true q
  | .n kvs => .n kvs
def init0 (N : Nat) (avs : List AV) : List PV := avs.map initV ++ List.replicate (N - avs.length) .x
def aref : AV → Option Nat
  | .l i _ => some i
  | .k i _ => some i
  | _ => none
theorem mrefs_fm : ∀ avs : List AV, mrefs avs = avs.filterMap aref
  | [] => rfl
  | .d _ :: r => by rw [List.filterMap_cons]; exact mrefs_fm r
  | .n _ :: r => by rw [List.filterMap_cons]; exact mrefs_fm r
  | .b _ :: r => by rw [List.filterMap_cons]; exact mrefs_fm r
  | .l _ _ :: r => by simp [mrefs, aref, mrefs_fm r]
  | .k _ _ :: r => by simp [mrefs, aref, mrefs_fm r]
theorem fm_inj {α β : Type} {f : α → Option β} : ∀ {l : List α} {a b : Nat} {x y : α} {i : β}, (l.filterMap f).Nodup → l[a]? = some x → l[b]? = some y → f x = some i → f y = some i → a = b
  | [], a, b, x, y, i, _, ha, _, _, _ => by simp at ha
  | z :: l, 0, 0, x, y, i, _, _, _, _, _ => rfl
  | z :: l, 0, b + 1, x, y, i, hn, ha, hb, hx, hy => by
    simp at ha
    subst ha
    rw [List.filterMap_cons, hx] at hn
    have := (List.nodup_cons.mp hn).1
    exact absurd (List.mem_filterMap.mpr ⟨y, List.mem_of_getElem? (by simpa using hb), hy⟩) this
  | z :: l, a + 1, 0, x, y, i, hn, ha, hb, hx, hy => by
    simp at hb
    subst hb
    rw [List.filterMap_cons, hy] at hn
    have := (List.nodup_cons.mp hn).1
    exact absurd (List.mem_filterMap.mpr ⟨x, List.mem_of_getElem? (by simpa using ha), hx⟩) this
  | z :: l, a + 1, b + 1, x, y, i, hn, ha, hb, hx, hy => by
    have hn' : (l.filterMap f).Nodup := by
      rw [List.filterMap_cons] at hn
      split at hn
      · exact hn
      · exact (List.nodup_cons.mp hn).2
    exact congrArg (· + 1) (fm_inj (l := l) hn' (by simpa using ha) (by simpa using hb) hx hy)
theorem ArgsOk.get {J : Nat → List Nat} {rs : List Nat} : ∀ {ws : List W} {avs : List AV} {a : Nat}, ArgsOk m J rs ws avs → (∀ v, avs[a]? = some v → ∃ w, ws[a]? = some w ∧ ArgOk m J rs w v)
  | _, _, _, .nil => by intro v h; simp at h
  | _, _, 0, .cons h t => by intro v e; simp at e; subst e; exact ⟨_, rfl, h⟩
  | _, _, a + 1, .cons h t => by
    intro v e
    obtain ⟨w, h1, h2⟩ := ArgsOk.get (a := a) t v (by simpa using e)
    exact ⟨w, by simpa using h1, h2⟩
theorem ArgsOk.len {J : Nat → List Nat} {rs : List Nat} : ∀ {ws : List W} {avs : List AV}, ArgsOk m J rs ws avs → ws.length = avs.length
  | _, _, .nil => rfl
  | _, _, .cons h t => by simp [t.len]
def pinOf (J : Nat → List Nat) (avs : List AV) (a : Nat) : List Nat := match (avs[a]?).bind aref with
  | some i => J i
  | none => []
theorem okO_dk {a b : Nat} {l t s : Int} {x : Bool} (h : a < b) : okO b (.dct (dk a l t s x)) = true := by
  simp [okO, dk, okW, h]
theorem rel_init {N : Nat} {J : Nat → List Nat} {ws : List W} {avs : List AV} (hcl : ∀ (j : Nat) (o : O), m[j]? = some o → okO m.length o = true) (hA : ArgsOk m J (mrefs avs) ws avs) (hn : (mrefs avs).Nodup) (hd : ∀ i ∈ mrefs avs, ∀ i' ∈ mrefs avs, ∀ j, j ∈ J i → j ∈ J i' → i = i') : Rel ⟨m, pinOf J avs⟩ (init0 N avs) (env0 N ws) m := by
  have hl := hA.len
  have mem : ∀ {a : Nat} {i : Nat}, (avs[a]?).bind aref = some i → i ∈ mrefs avs := by
    intro a i h
    rw [mrefs_fm]
    cases q : avs[a]? with
    | none => rw [q] at h; cases h
    | some v => rw [q] at h; exact List.mem_filterMap.mpr ⟨v, List.mem_of_getElem? q, h⟩
  have lt : ∀ a j, j ∈ pinOf J avs a → j < m.length := by
    intro a j hj
    unfold pinOf at hj
    cases q : avs[a]? with
    | none => rw [q] at hj; cases hj
    | some v =>
      rw [q] at hj
      obtain ⟨w, h1, h2⟩ := hA.get v q
      cases v with
      | d x => cases hj
      | b x => cases hj
      | l i xs =>
        obtain ⟨k, e1, e2, e3⟩ := h2
        have hj : j ∈ J i := hj
        rw [e2] at hj
        rw [List.mem_singleton.mp hj]
        exact (List.getElem?_eq_some_iff.mp e3).1
      | k i q =>
        obtain ⟨b, a, e1, e2, e3⟩ := h2
        have hj : j ∈ J i := hj
        have hb := (List.getElem?_eq_some_iff.mp e3.cb).1
        have := e3.ab
        rw [e2] at hj
        rcases List.mem_cons.mp hj with rfl | hj
        · exact hb
        · rw [List.mem_singleton.mp hj]; omega
      | n kvs => cases hj
  have cp : ∀ a j, j ∈ pinOf J avs a → ∀ o : O, m[j]? = some o → okO j o = true := by
    intro a j hj o eo
    unfold pinOf at hj
    cases q : avs[a]? with
    | none => rw [q] at hj; cases hj
    | some v =>
      rw [q] at hj
      obtain ⟨w, h1, h2⟩ := hA.get v q
      cases v with
      | d x => cases hj
      | b x => cases hj
      | l i xs =>
        obtain ⟨k, e1, e2, e3⟩ := h2
        have hj : j ∈ J i := hj
        rw [e2] at hj
        rw [List.mem_singleton.mp hj] at eo
        rw [e3] at eo
        cases eo
        rfl
      | k i q =>
        obtain ⟨b, a, e1, e2, e3⟩ := h2
        have hj : j ∈ J i := hj
        rw [e2] at hj
        rcases List.mem_cons.mp hj with rfl | hj
        · rw [e3.cb] at eo
          cases eo
          exact okO_dk e3.ab
        · rw [List.mem_singleton.mp hj, e3.ca] at eo
          cases eo
          rfl
      | n kvs => cases hj
  refine ⟨lt, Nat.le_refl _, fun j _ _ => rfl, hcl, cp, fun j o hj e => (by rw [List.getElem?_eq_none hj] at e; cases e), ?_, pinOf J avs, fun a a' j h1 h2 => ?_, fun a => ?_⟩
  · simp [init0, env0, hl]
  · unfold pinOf at h1 h2
    cases q : (avs[a]?).bind aref with
    | none => rw [q] at h1; cases h1
    | some i =>
      cases q' : (avs[a']?).bind aref with
      | none => rw [q'] at h2; cases h2
      | some i' =>
        rw [q] at h1; rw [q'] at h2
        have := hd i (mem q) i' (mem q') j h1 h2
        subst this
        rw [mrefs_fm] at hn
        cases z : avs[a]? with
        | none => rw [z] at q; cases q
        | some v =>
          cases z' : avs[a']? with
          | none => rw [z'] at q'; cases q'
          | some v' =>
            rw [z] at q; rw [z'] at q'
            exact fm_inj hn z z' q q'
  · by_cases ha : a < avs.length
    · have e1 : (init0 N avs)[a]? = (avs[a]?).map initV := by
        unfold init0
        rw [List.getElem?_append_left (by simpa using ha), List.getElem?_map]
      have e2 : (env0 N ws)[a]? = (ws[a]?).map some := by
        unfold env0
        rw [List.getElem?_append_left (by simp [hl, ha]), List.getElem?_map]
      rw [e1, e2]
      cases q : avs[a]? with
      | none => rw [List.getElem?_eq_none_iff] at q; omega
      | some v =>
        obtain ⟨w, h1, h2⟩ := hA.get v q
        rw [h1]
        have ep : pinOf J avs a = match aref v with | some i => J i | none => [] := by unfold pinOf; rw [q]; rfl
        rw [ep]
        cases v with
        | d x => exact ⟨rfl, by rw [show w = .d x from h2]; rfl⟩
        | b xs =>
          refine ⟨rfl, w, rfl, ?_⟩
          rcases h2 with h | h | ⟨j, h, hj, hi⟩
          · exact .inl h
          · exact .inr (.inl h)
          · refine .inr (.inr ⟨j, h, hj, fun a' hj' => ?_⟩)
            have hj' : j ∈ pinOf J avs a' := hj'
            unfold pinOf at hj'
            cases q' : (avs[a']?).bind aref with
            | none => rw [q'] at hj'; cases hj'
            | some i' => rw [q'] at hj'; exact hi i' (mem q') hj'
        | l i xs =>
          obtain ⟨k, e1, e2, e3⟩ := h2
          subst e1
          exact ⟨k, e2, rfl, e3, .inl ⟨rfl, by show pinOf J avs a = _; rw [ep]; exact e2⟩⟩
        | k i xs =>
          obtain ⟨b, c, e1, e2, e3⟩ := h2
          subst e1
          exact ⟨b, c, e2, rfl, e3, .inl ⟨rfl, by show pinOf J avs a = _; rw [ep]; exact e2⟩⟩
        | n kvs =>
          obtain ⟨j, h, hj, hi⟩ := h2
          subst h
          refine ⟨rfl, j, rfl, hj, fun a' hj' => ?_⟩
          have hj' : j ∈ pinOf J avs a' := hj'
          unfold pinOf at hj'
          cases q' : (avs[a']?).bind aref with
          | none => rw [q'] at hj'; cases hj'
          | some i' => rw [q'] at hj'; exact hi i' (mem q') hj'
    · have ep : pinOf J avs a = [] := by
        unfold pinOf
        rw [List.getElem?_eq_none (by omega)]
        rfl
      rw [ep]
      have e1 : (init0 N avs)[a]? = some .x ∨ (init0 N avs)[a]? = none := by
        unfold init0
        rw [List.getElem?_append_right (by simpa using ha), List.getElem?_replicate]
        split
        · exact .inl rfl
        · exact .inr rfl
      rcases e1 with e1 | e1 <;> rw [e1] <;> exact (rfl : ([] : List Nat) = [])
/-- a body run on its own -/
def retK {τ : Type} (out : D → List PV → PR τ) (v : GV) (ρ : List PV) : PR τ := match v with
  | .v x => out x ρ
  | .r i => match ρ[i]? with
    | some (.l false xs) => out (.list xs) ρ
    | _ => .bad
def runG {τ : Type} (g : GSx) (ρ0 : List PV) (out : D → List PV → PR τ) : PR τ := g τ ρ0 (fun ρ => out .none ρ) (fun _ => .bad) (fun _ => .bad) (fun v ρ => retK out v ρ)
def Fin1 (m' : Mem) (J : Nat → List Nat) (avs : List AV) (ρ' : List PV) : Prop := (∀ (a i : Nat) xs xs', avs[a]? = some (.l i xs) → ρ'[a]? = some (.l true xs') → Has m' J i (.l xs')) ∧ (∀ (a i : Nat) q q', avs[a]? = some (.k i q) → ρ'[a]? = some (.k true q') → Has m' J i (.k q'))
def lvRet (sr s : Nat) : Bool := match sr, s with
  | 7, 2 => true
  | 8, 1 => true
  | 0, 0 => true
  | _, _ => false
theorem fin_of {N : Nat} {J : Nat → List Nat} {ws : List W} {avs : List AV} {ρ' : List PV} {env' : Env} (R : Rel ⟨m, pinOf J avs⟩ ρ' env' m') : Fin1 (m'.take m.length) J avs ρ' ∧ Keep m (m'.take m.length) J (mrefs avs) := by
  have len : m.length ≤ m'.length := R.len
  refine ⟨⟨fun a i xs xs' ha hr => ?_, fun a i q q' ha hr => ?_⟩, ⟨by rw [List.length_take]; omega, fun j hj => ?_, fun i hi j hj o e => ?_⟩⟩
  · obtain ⟨J2, hd2, hJ2⟩ := R.ex
    have z := hJ2 a
    rw [hr] at z
    obtain ⟨j, z1, z2, z3, z4 | z4⟩ := z
    · have ep : pinOf J avs a = J i := by unfold pinOf; rw [ha]; rfl
      have z5 : J i = [j] := by rw [← ep]; exact z4.2
      have lt : j < m.length := R.pok a j (by show j ∈ pinOf J avs a; rw [ep, z5]; simp)
      exact ⟨j, z5, by rw [List.getElem?_take_of_lt lt]; exact z3⟩
    · exact absurd z4.1 (by simp)
  · obtain ⟨J2, hd2, hJ2⟩ := R.ex
    have z := hJ2 a
    rw [hr] at z
    obtain ⟨b, c, z1, z2, z3, z4 | z4⟩ := z
    · have ep : pinOf J avs a = J i := by unfold pinOf; rw [ha]; rfl
      have z5 : J i = [b, c] := by rw [← ep]; exact z4.2
      have lt : b < m.length := R.pok a b (by show b ∈ pinOf J avs a; rw [ep, z5]; simp)
      have lt2 : c < m.length := R.pok a c (by show c ∈ pinOf J avs a; rw [ep, z5]; simp)
      exact ⟨b, c, z5, z3.ab, by rw [List.getElem?_take_of_lt lt2]; exact z3.ca, by rw [List.getElem?_take_of_lt lt]; exact z3.cb⟩
    · exact absurd z4.1 (by simp)
  · by_cases h : j < m.length
    · rw [List.getElem?_take_of_lt h]
      refine R.fix j h fun a ha => ?_
      have ha : j ∈ pinOf J avs a := ha
      unfold pinOf at ha
      cases q : (avs[a]?).bind aref with
      | none => rw [q] at ha; cases ha
      | some i =>
        rw [q] at ha
        refine hj i ?_ ha
        rw [mrefs_fm]
        cases z : avs[a]? with
        | none => rw [z] at q; cases q
        | some v => rw [z] at q; exact List.mem_filterMap.mpr ⟨v, List.mem_of_getElem? z, q⟩
    · rw [List.getElem?_eq_none (by rw [List.length_take]; omega), List.getElem?_eq_none (by omega)]
  · rw [mrefs_fm] at hi
    obtain ⟨v, hv, hr⟩ := List.mem_filterMap.mp hi
    obtain ⟨a, ha⟩ := List.getElem?_of_mem hv
    have hl := (List.getElem?_eq_some_iff.mp e).1
    rw [List.length_take] at hl
    rw [List.getElem?_take_of_lt (by omega)] at e
    refine R.cp a j ?_ o e
    show j ∈ pinOf J avs a
    unfold pinOf
    rw [ha]
    show j ∈ (match aref v with | some i => J i | none => [])
    rw [hr]
    exact hj
theorem finM_d {n : Nat} {x : D} {m : Mem} (h : clM n m = true) : finM n (.d x) m = .ok (.d x) (m.take n) := by
  unfold finM
  rw [if_pos h]
theorem finM_fl {n : Nat} {x : List D} {m : Mem} (h : clM n m = true) : finM n (.fl x) m = .ok (.fl x) (m.take n) := by
  unfold finM
  rw [if_pos h]
theorem body_run {N : Nat} {f : SF} {g : GSx} (hb : RS sr ms f g) (hs : lvRet sr s = true) {J : Nat → List Nat} {ws : List W} {avs : List AV} (hcl : ∀ (j : Nat) (o : O), m[j]? = some o → okO m.length o = true) (hA : ArgsOk m J (mrefs avs) ws avs) (hn : (mrefs avs).Nodup) (hd : ∀ i ∈ mrefs avs, ∀ i' ∈ mrefs avs, ∀ j, j ∈ J i → j ∈ J i' → i = i') {τ : Type} {out : D → List PV → PR τ} (nb : runG g (init0 N avs) out ≠ .bad) :
    (∃ w m' x ρ', runF N f ws m = .ok w m' ∧ (∀ fr, VW fr s w x) ∧ runG g (init0 N avs) out = out x ρ' ∧ Fin1 m' J avs ρ' ∧ Keep m m' J (mrefs avs)) ∨ (∃ e m', runF N f ws m = .err e m' ∧ runG g (init0 N avs) out = .err e ∧ Keep m m' J (mrefs avs)) := by
  have R0 := rel_init (N := N) hcl hA hn hd
  have h := hb τ _ _ _ m (fun ρ => out .none ρ) (fun _ => .bad) (fun _ => .bad) (fun v ρ => retK out v ρ) R0 nb
  unfold runF
  have e0 : runG g (init0 N avs) out = g τ (init0 N avs) (fun ρ => out .none ρ) (fun _ => .bad) (fun _ => .bad) (fun v ρ => retK out v ρ) := rfl
  rw [e0] at nb ⊢
  generalize f (env0 N ws) m = r at h
  cases h with
  | nx e1 m1 ρ1 h1 h2 h3 h4 =>
    obtain ⟨f1, f2⟩ := fin_of (N := N) (ws := ws) h1
    refine .inl ⟨.d .none, m1.take m.length, .none, ρ1, finM_d h1.cl, fun fr => ?_, h2, f1, f2⟩
    unfold lvRet at hs
    split at hs
    · exact .inl rfl
    · rfl
    · rfl
    · cases hs
  | bk e1 m1 ρ1 h1 h2 h3 h4 => exact absurd h2 nb
  | ct e1 m1 ρ1 h1 h2 h3 h4 => exact absurd h2 nb
  | err e e1 m1 h1 h2 h3 =>
    obtain ⟨f1, f2⟩ := fin_of (N := N) (ws := ws) h1
    exact .inr ⟨e, _, if_pos h1.cl, h2, f2⟩
  | rt w m1 v ρ1 e1 h1 h2 h3 h4 =>
    obtain ⟨f1, f2⟩ := fin_of (N := N) (ws := ws) h1
    rw [h3] at nb ⊢
    cases v with
    | v x =>
      have e : finM m.length w m1 = .ok w (m1.take m.length) ∧ ∀ fr, VW fr s w x := by
        unfold lvRet at hs
        split at hs
        · rcases h2 with rfl | ⟨ds, rfl, rfl⟩
          · exact ⟨finM_d h1.cl, fun _ => .inl rfl⟩
          · exact ⟨finM_fl h1.cl, fun _ => .inr ⟨ds, rfl, rfl⟩⟩
        · cases x with
          | list ds =>
            have h2 : w = .fl ds := h2
            subst h2
            exact ⟨finM_fl h1.cl, fun _ => rfl⟩
          | none => have h2 : w = .d .none := h2; subst h2; exact ⟨finM_d h1.cl, fun _ => rfl⟩
          | bool y => have h2 : w = .d (.bool y) := h2; subst h2; exact ⟨finM_d h1.cl, fun _ => rfl⟩
          | int y => have h2 : w = .d (.int y) := h2; subst h2; exact ⟨finM_d h1.cl, fun _ => rfl⟩
          | str y => have h2 : w = .d (.str y) := h2; subst h2; exact ⟨finM_d h1.cl, fun _ => rfl⟩
          | tuple y => have h2 : w = .d (.tuple y) := h2; subst h2; exact ⟨finM_d h1.cl, fun _ => rfl⟩
          | dict y => have h2 : w = .d (.dict y) := h2; subst h2; exact ⟨finM_d h1.cl, fun _ => rfl⟩
        · have h2 : w = .d x := h2
          subst h2
          exact ⟨finM_d h1.cl, fun _ => rfl⟩
        · cases hs
      exact .inl ⟨w, _, x, ρ1, e.1, e.2, rfl, f1, f2⟩
    | r i =>
      simp only [retK] at nb ⊢
      cases q : ρ1[i]? with
      | none => rw [q] at nb; exact absurd rfl nb
      | some u =>
        cases u with
        | l p xs =>
          cases p with
          | true => rw [q] at nb; exact absurd rfl nb
          | false =>
            rw [q] at nb
            dsimp only at nb ⊢
            obtain ⟨J2, hd2, hJ2⟩ := h1.ex
            have z := hJ2 i
            rw [q] at z
            obtain ⟨j, z1, z2, z3, z4 | z4⟩ := z
            · exact absurd z4.1 (by simp)
            · have hw := h2.2
              rw [z2] at hw
              cases hw
              have hj : m.length ≤ j := z4.2
              have ef : finM m.length (.obj j) m1 = .ok (.fl xs) (m1.take m.length) := by
                simp only [finM]
                rw [if_pos h1.cl, if_neg (by omega), z3]
              refine .inl ⟨.fl xs, _, .list xs, ρ1, ef, fun fr => ?_, rfl, f1, f2⟩
              unfold lvRet at hs
              split at hs
              · exact .inr ⟨xs, rfl, rfl⟩
              · rfl
              · exact absurd h2.1 (by decide)
              · cases hs
        | _ => rw [q] at nb; exact absurd rfl nb
def OutAt (avs : List AV) (ρ' : List PV) (i : Nat) : UV → Prop
  | .l xs' => ∃ (a : Nat) (xs : List D), avs[a]? = some (AV.l i xs) ∧ ρ'[a]? = some (PV.l true xs')
  | .k q' => ∃ (a : Nat) (q : Dk), avs[a]? = some (AV.k i q) ∧ ρ'[a]? = some (PV.k true q')
theorem sp_fin {N : Nat} {f : SF} {g : GSx} (hb : RS sr ms f g) (hs : lvRet sr s = true) {J : Nat → List Nat} {ws : List W} {avs : List AV} (hcl : ∀ (j : Nat) (o : O), m[j]? = some o → okO m.length o = true) (hA : ArgsOk m J (mrefs avs) ws avs) (hn : (mrefs avs).Nodup) (hd : ∀ i ∈ mrefs avs, ∀ i' ∈ mrefs avs, ∀ j, j ∈ J i → j ∈ J i' → i = i') {τ γ : Type} {out : D → List PV → PR τ} {P : PR τ} {K : D → List (Nat × UV) → PR γ} {res : τ → D} {us : τ → List (Nat × UV)}
    (hP : runG g (init0 N avs) out = P) (ho : ∀ x ρ', out x ρ' ≠ .bad → ∃ t, out x ρ' = .ok t ∧ res t = x ∧ (us t).map (·.1) = mrefs avs ∧ ∀ u ∈ us t, OutAt avs ρ' u.1 u.2) (nb : (P.bind fun r => K (res r) (us r)) ≠ .bad) :
    (∃ w m' x us', runF N f ws m = .ok w m' ∧ (∀ fr, VW fr s w x) ∧ (P.bind fun r => K (res r) (us r)) = K x us' ∧ us'.map (·.1) = mrefs avs ∧ (∀ u ∈ us', Has m' J u.1 u.2) ∧ Keep m m' J (mrefs avs)) ∨ (∃ e m', runF N f ws m = .err e m' ∧ (P.bind fun r => K (res r) (us r)) = .err e ∧ Keep m m' J (mrefs avs)) := by
  have nb1 : runG g (init0 N avs) out ≠ .bad := by
    rw [hP]
    rintro rfl
    exact nb rfl
  rcases body_run hb hs hcl hA hn hd nb1 with ⟨w, m', x, ρ', h1, h2, h3, h4, h5⟩ | ⟨e, m', h1, h2, h3⟩
  · rw [h3] at nb1
    obtain ⟨t, e1, e2, e3, e4⟩ := ho x ρ' nb1
    have eP : P = .ok t := by rw [← hP, h3, e1]
    subst eP
    refine .inl ⟨w, m', x, us t, h1, h2, by rw [PR.bind_ok, e2], e3, fun u hu => ?_, h5⟩
    have := e4 u hu
    obtain ⟨i, u⟩ := u
    cases u with
    | l xs' => obtain ⟨a, xs, z1, z2⟩ := this; exact h4.1 a i xs xs' z1 z2
    | k q' => obtain ⟨a, xs, z1, z2⟩ := this; exact h4.2 a i xs q' z1 z2
  · have eP : P = .err e := by rw [← hP, h2]
    subst eP
    exact .inr ⟨e, m', h1, rfl, h3⟩
/-! what is handed back beside the value -/
def out0 (x : D) (_ : List PV) : PR D := .ok x
def outL (a : Nat) (x : D) (ρ : List PV) : PR (D × List D) := match ρ[a]? with
  | some (.l true xs) => .ok (x, xs)
  | _ => .bad
def outK (a : Nat) (x : D) (ρ : List PV) : PR (D × Dk) := match ρ[a]? with
  | some (.k true xs) => .ok (x, xs)
  | _ => .bad
def outKL (a b : Nat) (x : D) (ρ : List PV) : PR (D × Dk × List D) := match ρ[a]?, ρ[b]? with
  | some (.k true q), some (.l true xs) => .ok (x, q, xs)
  | _, _ => .bad
def outLL (a b : Nat) (x : D) (ρ : List PV) : PR (D × List D × List D) := match ρ[a]?, ρ[b]? with
  | some (.l true q), some (.l true xs) => .ok (x, q, xs)
  | _, _ => .bad
theorem out0_ok {avs : List AV} (h : mrefs avs = []) : ∀ x ρ', out0 x ρ' ≠ .bad → ∃ t, out0 x ρ' = .ok t ∧ id t = x ∧ ((fun (_ : D) => ([] : List (Nat × UV))) t).map (·.1) = mrefs avs ∧ ∀ u ∈ ((fun (_ : D) => ([] : List (Nat × UV))) t), OutAt avs ρ' u.1 u.2 := fun x ρ' _ => ⟨x, rfl, rfl, by rw [h]; rfl, fun u hu => nomatch hu⟩
theorem outL_ok {avs : List AV} {a i : Nat} {ys : List D} (h : mrefs avs = [i]) (ha : avs[a]? = some (.l i ys)) : ∀ x ρ', outL a x ρ' ≠ .bad → ∃ t, outL a x ρ' = .ok t ∧ Prod.fst t = x ∧ ((fun (t : D × List D) => [(i, UV.l t.2)]) t).map (·.1) = mrefs avs ∧ ∀ u ∈ ((fun (t : D × List D) => [(i, UV.l t.2)]) t), OutAt avs ρ' u.1 u.2 := by
  intro x ρ' nb
  unfold outL at nb ⊢
  split at nb
  · rename_i xs q
    refine ⟨(x, xs), rfl, rfl, by rw [h]; rfl, fun u hu => ?_⟩
    have := List.mem_singleton.mp hu
    subst this
    exact ⟨a, ys, ha, q⟩
  · exact absurd rfl nb
theorem outK_ok {avs : List AV} {a i : Nat} {ys : Dk} (h : mrefs avs = [i]) (ha : avs[a]? = some (.k i ys)) : ∀ x ρ', outK a x ρ' ≠ .bad → ∃ t, outK a x ρ' = .ok t ∧ Prod.fst t = x ∧ ((fun (t : D × Dk) => [(i, UV.k t.2)]) t).map (·.1) = mrefs avs ∧ ∀ u ∈ ((fun (t : D × Dk) => [(i, UV.k t.2)]) t), OutAt avs ρ' u.1 u.2 := by
  intro x ρ' nb
  unfold outK at nb ⊢
  split at nb
  · rename_i xs q
    refine ⟨(x, xs), rfl, rfl, by rw [h]; rfl, fun u hu => ?_⟩
    have := List.mem_singleton.mp hu
    subst this
    exact ⟨a, ys, ha, q⟩
  · exact absurd rfl nb
theorem spBad {s : Nat} {F : FF} : SpG F s (fun _ _ _ => .bad) := fun γ m ws avs J K _ _ _ _ nb => absurd rfl nb
end
end
end M

set_option Elab.async false
set_option linter.all false
set_option maxRecDepth 100000
/-! P: the deck, more operations -/
namespace M
open PySem L2
noncomputable section
section
variable {s sr : Nat} {ms : List Bool} {fa fb : EF} {ga gb : GEx}
def addSP (x y : D) : PR D := match x, y with
  | .int i, .int j => .ok (.int (i + j))
  | .str a, .str b => if a.length + b.length ≤ sizeLine then .ok (.str (a ++ b)) else .bad
  | .tuple a, .tuple b => if a.length + b.length ≤ sizeLine then .ok (.tuple (a ++ b)) else .bad
  | _, _ => .bad
theorem addSP_ok : OpP 3 0 addW addSP := by
  intro m w1 w2 x y h1 h2
  replace h1 : See m w1 x := h1
  replace h2 : See m w2 y := h2
  unfold addSP
  split
  · rw [see_flat h1 (by intro ds e; cases e), see_flat h2 (by intro ds e; cases e)]
    exact out_d
  · rw [see_flat h1 (by intro ds e; cases e), see_flat h2 (by intro ds e; cases e)]
    split
    · rename_i h
      simp only [addW]
      rw [if_pos h]
      exact out_d
    · trivial
  · rw [see_flat h1 (by intro ds e; cases e), see_flat h2 (by intro ds e; cases e)]
    split
    · rename_i h
      simp only [addW]
      rw [if_pos h]
      exact out_d
    · trivial
  · trivial
theorem extendP_ok : MuP true extendAW extendP := by
  refine ⟨fun xs ds e z => ?_, fun m j xs ws ds r hj hs hz z => ?_⟩
  · unfold extendP at z
    split at z
    · split at z <;> cases z
    · split at z <;> cases z
    · cases z
  · rw [hz rfl]
    have e : asO (.obj j) m = some (j, xs) := by simp [asO, hj]
    unfold extendP at z
    split at z
    · rename_i es
      by_cases q : xs.length + es.length ≤ sizeLine
      · rw [if_pos q] at z
        cases z
        simp only [List.map_cons, List.map_nil, extendAW, extendW, e, asT, asL]
        rw [if_pos q]
      · rw [if_neg q] at z; cases z
    · rename_i es
      by_cases q : xs.length + es.length ≤ sizeLine
      · rw [if_pos q] at z
        cases z
        simp only [List.map_cons, List.map_nil, extendAW, e]
        rw [if_pos q]
      · rw [if_neg q] at z; cases z
    · cases z
def pix {γ : Type} (xs : List D) (i : Int) (k : Nat → PR γ) : PR γ := match ixN xs.length i with
  | some n => k n
  | none => .bad
/-- an object handed over -/
theorem re_objV (i : Nat) (hs : isO s = true := by rfl) : RE s ms (eObj (eVar i)) (gVarO i) := by
  intro γ fr ρ env m K R nb
  unfold gVarO at nb ⊢
  split at nb
  · rename_i p xs h
    obtain ⟨j, e, _⟩ := R.getL h
    simp only [eObj, eVar, e, Res.bind_ok]
    exact EPost.ok (v := .r i) R ⟨hs, e⟩ rfl
  · rename_i p q h
    obtain ⟨J, hd, hJ⟩ := R.ex
    have z := hJ i
    rw [h] at z
    obtain ⟨b, a, _, e, _⟩ := z
    simp only [eObj, eVar, e, Res.bind_ok]
    exact EPost.ok (v := .r i) R ⟨hs, e⟩ rfl
  · exact absurd rfl nb
/-! ### the deck -/
def mixS (q : Dk) : Int := (q.s * 48271 + q.cs.getD ((q.t + 1) % (q.cs.length : Int)).toNat 0 + (q.t + 1)) % 2147483647
def mixQ (q : Dk) : Int := (mixS q * mixS q + 7919 * (q.t + 1)) % 2147483629
def mixN (q : Dk) : Int := mixQ q * (mixQ q + 69621) % 999999999989
def plnL (q : Dk) : Int := if q.l - 1 = 0 ∧ 1 < q.cs.length then 12 else q.l - 1
def plnC (q : Dk) : List Int := if q.l - 1 = 0 ∧ 1 < q.cs.length then q.cs.tail else q.cs.headD 0 / 1000000000000 :: q.cs.tail
def nextN (q : Dk) : Int := if q.x = true then mixN q else q.cs.headD 0 % 1000000000000
theorem plnC_ne (q : Dk) : plnC q ≠ [] := by
  unfold plnC
  split
  · rename_i h
    intro z
    have := congrArg List.length z
    simp at this
    omega
  · simp
theorem plnC_le (q : Dk) : (plnC q).length ≤ 100 := by
  have h := q.le
  have h0 := List.length_pos_iff.mpr q.ne
  unfold plnC
  split
  · simp; omega
  · simp; omega
def nextQ (q : Dk) : Dk := if q.x = true then ⟨q.cs, q.l, q.t + 1, mixS q, true, q.ne, q.le, by unfold mixS; omega, by unfold mixS; omega⟩ else ⟨plnC q, plnL q, q.t, q.s, false, plnC_ne q, plnC_le q, q.s0, q.s1⟩
theorem nextN_ge (q : Dk) : 0 ≤ nextN q := by unfold nextN mixN; split <;> omega
theorem nextN_lt (q : Dk) : nextN q < 1000000000000 := by unfold nextN mixN; split <;> omega
@[irreducible] def P__law_next (q : Dk) : PR (D × Dk) := .ok (.int (nextN q), nextQ q)
theorem next_eq (q : Dk) : P__law_next q = .ok (.int (nextN q), nextQ q) := by unfold P__law_next; rfl
def deckC (ns : List Int) : List Int := ns.take 63 ++ [0]
theorem deckC_len (ns : List Int) : (deckC ns).length ≤ 64 := by unfold deckC; simp; omega
@[irreducible] def mkDeck (xs : List D) : PR Dk := match dInts xs with
  | some ns => .ok ⟨(deckC ns).headD 0 / 2 :: (deckC ns).tail, 12, 0, 1 + ((deckC ns).headD 0 / 2 :: (deckC ns).tail).sum % 2147483646, decide ((deckC ns).headD 0 % 2 = 1), by simp, by have := deckC_len ns; simp; omega, by omega, by omega⟩
  | none => .bad
def DeckOk (F : FF) : Prop := ∀ m w xs q, See m w (.list xs) → mkDeck xs = .ok q → ∃ l a b, F [w] m = .ok (.obj b) (m ++ l) ∧ m.length ≤ a ∧ DkAt (m ++ l) a b q ∧ ∀ o ∈ l, okO (m ++ l).length o = true
theorem Rel.setK {fr : Fr} {ρ : List PV} {env : Env} {m : Mem} (R : Rel fr ρ env m) (i : Nat) {q : Dk} {a b : Nat} {l : List O} (ha : m.length ≤ a) (hq : DkAt (m ++ l) a b q) (hl : ∀ o ∈ l, okO (m ++ l).length o = true) : Rel fr (ρ.set i (.k false q)) (env.set i (some (.obj b))) (m ++ l) := by
  obtain ⟨J, hd, hs⟩ := R.ex
  have lt : ∀ k, ∀ j ∈ J k, j < m.length := fun k => (hs k).lt
  have hab := hq.ab
  have hlen := R.len
  refine ⟨R.pok, by rw [List.length_append]; omega, fun j h1 h2 => by rw [List.getElem?_append_left (by omega)]; exact R.fix j h1 h2, R.c0, R.cpA _, R.cnA hl, by simpa using R.el, fun k => if k = i then (if i < ρ.length then [b, a] else []) else J k, fun k k' j h1 h2 => ?_, fun k => ?_⟩
  · dsimp only at h1 h2
    by_cases hk : k = i
    · by_cases hk' : k' = i
      · rw [hk, hk']
      · rw [if_pos hk] at h1; rw [if_neg hk'] at h2
        have := lt k' j h2
        split at h1
        · rcases List.mem_cons.mp h1 with h1 | h1
          · omega
          · have := List.mem_singleton.mp h1; omega
        · cases h1
    · by_cases hk' : k' = i
      · rw [if_neg hk] at h1; rw [if_pos hk'] at h2
        have := lt k j h1
        split at h2
        · rcases List.mem_cons.mp h2 with h2 | h2
          · omega
          · have := List.mem_singleton.mp h2; omega
        · cases h2
      · rw [if_neg hk] at h1; rw [if_neg hk'] at h2; exact hd k k' j h1 h2
  · dsimp only
    by_cases hk : k = i
    · subst hk
      rw [if_pos rfl]
      by_cases hl : k < ρ.length
      · rw [List.getElem?_set_self hl, List.getElem?_set_self (by rw [R.el]; exact hl), if_pos hl]
        exact ⟨b, a, rfl, rfl, hq, .inr ⟨rfl, by omega⟩⟩
      · have e : (ρ.set k (.k false q))[k]? = none := List.getElem?_eq_none (by simpa using hl)
        rw [if_neg hl, e]
        exact (rfl : ([] : List Nat) = [])
    · rw [if_neg hk, List.getElem?_set_ne (Ne.symm hk), List.getElem?_set_ne (Ne.symm hk)]
      exact (hs k).mem fun j hj => List.getElem?_append_left (lt k j hj)
def gsDeck (a : GEx) (i : Nat) : GSx := fun γ ρ kn kb kc kr => a γ ρ fun v ρ1 => match gres ρ1 v with
  | some z => ptl z fun xs => (mkDeck xs).bind fun q => kn (ρ1.set i (.k false q))
  | none => .bad
theorem rs_deck {F : FF} (i : Nat) (hF : DeckOk F) (ha : RE 4 ms fa ga) (hi : isM ms i = true := by rfl) : RS sr ms (sAsg (eObj (eCallF F (aCons fa aNil))) (gSet i)) (gsDeck ga i) := by
  intro γ fr ρ env m kn kb kc kr R nb
  rcases ha γ fr ρ env m _ R nb with ⟨w, m1, v, ρ1, h1, R1, h3, h4, h5⟩ | ⟨e, m1, h1, h2, h3⟩
  · have e0 : gsDeck ga i γ ρ kn kb kc kr = _ := h4
    rw [e0] at nb ⊢
    dsimp only at nb ⊢
    cases q0 : gres ρ1 v with
    | none => rw [q0] at nb; exact absurd rfl nb
    | some z =>
      rw [q0] at nb
      dsimp only at nb ⊢
      have hsee := R1.see h3 q0
      cases z with
      | list xs =>
        rw [ptl_list] at nb ⊢
        cases q1 : mkDeck xs with
        | bad => rw [q1] at nb; exact absurd rfl nb
        | err e =>
          unfold mkDeck at q1
          split at q1 <;> cases q1
        | ok q =>
          obtain ⟨l, a, b, f1, f2, f3, f4⟩ := hF m1 w xs q hsee q1
          have hfl : noFl [w] = true := by
            cases v with
            | v x =>
              rcases h3 with rfl | ⟨ds, e, rfl | rfl | ⟨j, rfl, _⟩⟩ <;> rfl
            | r k =>
              have hw := h3.2
              unfold gres at q0
              dsimp only at q0
              split at q0
              · rename_i qk
                obtain ⟨j, z1, z2⟩ := R1.getL qk
                rw [z1] at hw
                cases hw
                rfl
              · cases q0
          simp only [sAsg, eObj, eCallF, aCons, aNil, h1, Res.bind_ok, callM, hfl, if_true, f1, eS_ok, asgK, gSet, PR.bind_ok]
          exact .nx _ _ (ρ1.set i (.k false q)) (R1.setK i f2 f3 f4) rfl (h5.trans (Ag.set hi)) (AgE.set hi)
      | _ => exact absurd rfl nb
  · simp only [sAsg, eObj, eCallF, aCons, aNil, h1, Res.bind_err, eS_err]
    exact .err e env m1 h3 h2 (AgE.refl _ _)
/-! ### the law -/
theorem law_of {F : FF} {Q : GFn} {P : List D → PR D} (h : SpG F 2 Q) (hQ : ∀ xs, Q D [.b xs] (fun x _ => .ok x) = (P xs).bind fun x => .ok x) (hP : ∀ ns : List Int, ns.length ≤ 63 → P (ns.map .int) = .ok (.bool true)) : ∀ ns : List Int, ns.length ≤ 63 → ∃ m, F [.ro (ns.map .int)] [] = .ok (.d (.bool true)) m := by
  intro ns hn
  have e : Q D [.b (ns.map .int)] (fun x _ => .ok x) = .ok (.bool true) := by rw [hQ, hP ns hn]; rfl
  rcases h D [] [.ro (ns.map .int)] [.b (ns.map .int)] (fun _ => []) (fun x _ => .ok x) (by simp) (.cons (.inr (.inl rfl)) .nil) (by simp [mrefs]) (by simp [mrefs]) (by rw [e]; intro z; cases z) with ⟨w, m', x, us, h1, h2, h3, _⟩ | ⟨ex, m', h1, h2, h3⟩
  · rw [e] at h3
    cases h3
    have hw : w = .d (.bool true) := by
      rcases h2 ⟨[], fun _ => []⟩ with h | ⟨ds, z, _⟩
      · exact h
      · cases z
    subst hw
    exact ⟨m', h1⟩
  · rw [e] at h2; cases h2
end
end
end M

set_option Elab.async false
set_option linter.all false
set_option maxRecDepth 100000
/-! P: laws of the operations, for the plain part -/
namespace M
open PySem L2
@[simp] theorem okC_nil : okC [] = true := rfl
@[simp] theorem okC_cons (c : Nat) (l : List Nat) : okC (c :: l) = (decide (c < 0x110000) && okC l) := rfl
section
variable {i j : Int} {n : Bool} {a b : List Nat} {x y : D} {ds es : List D}
@[simp] theorem addP_int : addP (.int i) (.int j) = .ok (.int (i + j)) := rfl
@[simp] theorem addSP_int : addSP (.int i) (.int j) = .ok (.int (i + j)) := rfl
@[simp] theorem addIP_int : addIP (.int i) (.int j) = .ok (.int (i + j)) := rfl
@[simp] theorem subP_int : subP (.int i) (.int j) = .ok (.int (i - j)) := rfl
@[simp] theorem negP_int : negP (.int i) = .ok (.int (-i)) := rfl
@[simp] theorem ltP_int : ltP (.int i) (.int j) = .ok (.bool (decide (i < j))) := rfl
@[simp] theorem leP_int : leP (.int i) (.int j) = .ok (.bool (decide (i ≤ j))) := rfl
@[simp] theorem gtP_int : gtP (.int i) (.int j) = .ok (.bool (decide (j < i))) := rfl
@[simp] theorem geP_int : geP (.int i) (.int j) = .ok (.bool (decide (j ≤ i))) := rfl
@[simp] theorem modP_s (h : 0 < j) : modP (.int i) (.int j) = .ok (.int (i % j)) := by
  show (if modOk i j = true then _ else _) = _
  rw [if_pos (show modOk i j = true from grd_t h)]
@[simp] theorem divP_s (h : 0 < j) (h' : j < 18446744073709551616) : divP (.int i) (.int j) = .ok (.int (i / j)) := by
  show (if divOk i j = true then _ else _) = _
  rw [if_pos]
  refine grd_t ⟨h, ?_⟩
  have h2 : j.natAbs < 2 ^ 64 := by omega
  have := PySem.Flt.log2_lt_of (show 0 < 64 by decide) h2
  omega
theorem mulP_s (h : -18446744073709551616 < j) (h' : j < 18446744073709551616) : mulP (.int i) (.int j) = .ok (.int (i * j)) := by
  show (if mulOk i j = true then _ else _) = _
  rw [if_pos (show mulOk i j = true from grd_t (.inl (.inr ⟨by omega, by omega⟩)))]
theorem mulP_l (h : -18446744073709551616 < i) (h' : i < 18446744073709551616) : mulP (.int i) (.int j) = .ok (.int (i * j)) := by
  show (if mulOk i j = true then _ else _) = _
  rw [if_pos (show mulOk i j = true from grd_t (.inl (.inl ⟨by omega, by omega⟩)))]
theorem powP_s (h : 0 ≤ j) (h' : j ≤ 1000000) (h2 : i.natAbs < 18446744073709551616) : powP (.int i) (.int j) = .ok (.int (i ^ j.toNat)) := by
  show (if powOk i j = true then _ else _) = _
  rw [if_pos (show powOk i j = true from grd_t ⟨h, h', by omega⟩)]
theorem addP_list (h : ds.length + es.length ≤ sizeLine) : addP (.list ds) (.list es) = .ok (.list (ds ++ es)) := by
  show (if _ then _ else _) = _
  rw [if_pos h]
theorem addP_tup (h : ds.length + es.length ≤ sizeLine) : addP (.tuple ds) (.tuple es) = .ok (.tuple (ds ++ es)) := by
  show (if _ then _ else _) = _
  rw [if_pos h]
theorem addSP_tup (h : ds.length + es.length ≤ sizeLine) : addSP (.tuple ds) (.tuple es) = .ok (.tuple (ds ++ es)) := by
  show (if _ then _ else _) = _
  rw [if_pos h]
theorem addP_str (h : a.length + b.length ≤ sizeLine) : addP (.str (S a)) (.str (S b)) = .ok (.str (S (a ++ b))) := by
  show (if (S a).length + (S b).length ≤ sizeLine then _ else _) = _
  rw [if_pos (show (S a).length + (S b).length ≤ sizeLine from h), S_app]
theorem addSP_str (h : a.length + b.length ≤ sizeLine) : addSP (.str (S a)) (.str (S b)) = .ok (.str (S (a ++ b))) := by
  show (if (S a).length + (S b).length ≤ sizeLine then _ else _) = _
  rw [if_pos (show (S a).length + (S b).length ≤ sizeLine from h), S_app]
@[simp] theorem eqP_int : eqP n (.int i) (.int j) = .ok (.bool (ngB n (decide (i = j)))) := by
  unfold eqP
  simp only [shaped_int, Bool.and_self, if_true, eqv_int]
  rfl
@[simp] theorem eqP_str (ha : okC a = true) (hb : okC b = true) : eqP n (.str (S a)) (.str (S b)) = .ok (.bool (ngB n (decide (a = b)))) := by
  unfold eqP
  simp only [shaped_str, ha, hb, Bool.and_self, if_true, eqv_str, S_beq]
  rfl
theorem eqP_bool (p q : Bool) : eqP n (.bool p) (.bool q) = .ok (.bool (ngB n (p == q))) := by
  unfold eqP
  simp only [shaped_bool, Bool.and_self, if_true, eqv_bool]
  rfl
@[simp] theorem ngB_f (b : Bool) : ngB false b = b := rfl
@[simp] theorem ngB_t (b : Bool) : ngB true b = !b := rfl
theorem inP_tup (h : (flatD x && ds.all flatD) = true) : inP n x (.tuple ds) = .ok (.bool (ngB n (ds.any fun z => PyData.eqv z x))) := by
  unfold inP
  split
  · rename_i e; cases e
  · rename_i e; cases e; rw [if_pos h]
  · rename_i e; cases e
  · rename_i q1 q2 q3; first | exact absurd rfl (q1 ds) | exact absurd rfl (q2 ds) | exact absurd rfl (q3 ds)
theorem inP_list (h : (SeqAt.shaped x && SeqAt.shaped (.list ds)) = true) : inP n x (.list ds) = .ok (.bool (ngB n (ds.any fun z => PyData.eqv z x))) := by
  unfold inP
  split
  · rename_i e; cases e
  · rename_i e; cases e
  · rename_i e; cases e; rw [if_pos h]
  · rename_i q1 q2 q3; first | exact absurd rfl (q3 ds) | exact absurd rfl (q2 ds) | exact absurd rfl (q1 ds)
@[simp] theorem lenP_list : lenP [.list ds] = .ok (.int (ds.length : Int)) := rfl
@[simp] theorem lenP_tup : lenP [.tuple ds] = .ok (.int (ds.length : Int)) := rfl
theorem lenP_str (h : a.length ≤ sizeLine) : lenP [.str (S a)] = .ok (.int (a.length : Int)) := by
  show (if (S a).length ≤ sizeLine then _ else _) = _
  rw [if_pos (show (S a).length ≤ sizeLine from h)]; rfl
@[simp] theorem itemsP_list : itemsP (.list ds) = .ok ds := rfl
@[simp] theorem itemsP_tup : itemsP (.tuple ds) = .ok ds := rfl
@[simp] theorem isNP_nn : isNP n .none .none = .ok (.bool (ngB n true)) := rfl
@[simp] theorem isNP_tup : isNP n (.tuple ds) .none = .ok (.bool (ngB n false)) := rfl
@[simp] theorem isNP_list : isNP n (.list ds) .none = .ok (.bool (ngB n false)) := rfl
@[simp] theorem isNP_int : isNP n (.int i) .none = .ok (.bool (ngB n false)) := rfl
@[simp] theorem isNP_str (z : Str) : isNP n (.str z) .none = .ok (.bool (ngB n false)) := rfl
@[simp] theorem isBP_b (p q : Bool) : isBP n (.bool p) (.bool q) = .ok (.bool (ngB n (decide (p = q)))) := rfl
theorem ixP_tup {c : D} (h : L2.atI ds i = some c) : ixP (.tuple ds) (.int i) = .ok c := by
  show (match L2.atI ds i with | some c => PR.ok c | none => .bad) = _
  rw [h]
theorem ixP_list {c : D} (h : L2.atI ds i = some c) : ixP (.list ds) (.int i) = .ok c := by
  show (match L2.atI ds i with | some c => PR.ok c | none => .bad) = _
  rw [h]
theorem ixP_str {l : List Nat} {c : Nat} (hl : l.length ≤ sizeLine) (h : L2.atI l i = some c) : ixP (.str (S l)) (.int i) = .ok (.str (S [c])) := by
  show (if (S l).length ≤ sizeLine then (match L2.atI (S l).cps.toList i with | some c => PR.ok (PyData.str ⟨#[c]⟩) | none => .bad) else .bad) = _
  rw [if_pos (show (S l).length ≤ sizeLine from hl), S_cps, h]
  rfl
theorem slP_str {l : List Nat} {lo hi : Option Int} (h : l.length ≤ sizeLine) : slP (.str (S l)) lo hi = .ok (.str (cutS (S l) lo hi)) := by
  show (if (S l).length ≤ sizeLine then _ else _) = _
  rw [if_pos (show (S l).length ≤ sizeLine from h)]
@[simp] theorem slP_tup {lo hi : Option Int} : slP (.tuple ds) lo hi = .ok (.tuple (cutD ds lo hi)) := rfl
@[simp] theorem slP_list {lo hi : Option Int} : slP (.list ds) lo hi = .ok (.list (cutD ds lo hi)) := rfl
theorem mk_ok (ns : List Int) : ∃ q, mkDeck (ns.map .int) = .ok q := by
  have : dInts (ns.map PyData.int) = some ns := by
    induction ns with
    | nil => rfl
    | cons n ns ih => rw [List.map_cons, dInts, ih]; rfl
  unfold mkDeck
  rw [this]
  exact ⟨_, rfl⟩
theorem nxt (q : Dk) : ∃ (a : Nat) (q' : Dk), a < 1000000000000 ∧ P__law_next q = .ok (.int (a : Int), q') := by
  have h0 := nextN_ge q
  have h1 := nextN_lt q
  exact ⟨(nextN q).toNat, nextQ q, by omega, by rw [next_eq]; congr 3; omega⟩
@[simp] theorem ixP_t0 (a : D) : ixP (.tuple (a :: ds)) (.int 0) = .ok a := ixP_tup (by simp)
@[simp] theorem ixP_t1 (a b : D) : ixP (.tuple (a :: b :: ds)) (.int 1) = .ok b := ixP_tup (by simp)
@[simp] theorem ixP_t2 (a b c : D) : ixP (.tuple (a :: b :: c :: ds)) (.int 2) = .ok c := ixP_tup (by simp)
@[simp] theorem ixP_l0 (a : D) : ixP (.list (a :: ds)) (.int 0) = .ok a := ixP_list (by simp)
@[simp] theorem ixP_l1 (a b : D) : ixP (.list (a :: b :: ds)) (.int 1) = .ok b := ixP_list (by simp)
@[simp] theorem intP1_b (b : Bool) : intP1 [.bool b] = .ok (.int (if b then 1 else 0)) := rfl
@[simp] theorem intP1_i : intP1 [.int i] = .ok (.int i) := rfl
@[simp] theorem appendP_s (y : D) (h : ds.length < sizeLine) : appendP ds [y] = .ok (.none, ds ++ [y]) := by
  show (if _ then _ else _) = _
  rw [if_pos h]
@[simp] theorem clearP_s : clearP ds [] = .ok (.none, []) := rfl
theorem popP_s {y : D} : popP (ds ++ [y]) [] = .ok (y, ds) := by
  have : (ds ++ [y])[(ds ++ [y]).length - 1]? = some y := by simp
  simp only [popP, this, List.dropLast_concat]
theorem extendP_l (h : ds.length + es.length ≤ sizeLine) : extendP ds [.list es] = .ok (.none, ds ++ es) := by
  show (if _ then _ else _) = _
  rw [if_pos h]
theorem rng1P_s (h : -1000000 ≤ j) (h' : j ≤ 1000000) : rng1P [.int j] = .ok ((List.range j.toNat).map fun (k : Nat) => .int (k : Int)) := by
  have e : smallI j = true := grd_t ⟨by omega, by omega⟩
  show (if smallI j = true then _ else _) = _
  rw [if_pos e]
  simp
theorem rng2P_s (h : -1000000 ≤ i) (h' : i ≤ 1000000) (h1 : -1000000 ≤ j) (h2 : j ≤ 1000000) : rng2P [.int i, .int j] = .ok ((List.range (j - i).toNat).map fun (k : Nat) => .int (i + (k : Int))) := by
  have e : (smallI i && smallI j) = true := by
    rw [Bool.and_eq_true]
    exact ⟨grd_t ⟨by omega, by omega⟩, grd_t ⟨by omega, by omega⟩⟩
  show (if (smallI i && smallI j) = true then _ else _) = _
  rw [if_pos e]
@[simp] theorem pisi_b {γ : Type} (ts : List Tk) (b : Bool) (k : D → PR γ) : pisi ts (.bool b) k = k (.bool (ts.any fun u => Tk.bl.sub u)) := rfl
@[simp] theorem pisi_i {γ : Type} (ts : List Tk) (k : D → PR γ) : pisi ts (.int i) k = k (.bool (ts.any fun u => Tk.int.sub u)) := rfl
@[simp] theorem pisi_s {γ : Type} (ts : List Tk) (z : Str) (k : D → PR γ) : pisi ts (.str z) k = k (.bool (ts.any fun u => Tk.str.sub u)) := rfl
@[simp] theorem pisi_t {γ : Type} (ts : List Tk) (k : D → PR γ) : pisi ts (.tuple ds) k = k (.bool (ts.any fun u => Tk.tup.sub u)) := rfl
@[simp] theorem pisi_l {γ : Type} (ts : List Tk) (k : D → PR γ) : pisi ts (.list ds) k = k (.bool (ts.any fun u => Tk.lst.sub u)) := rfl
@[simp] theorem pisi_n {γ : Type} (ts : List Tk) (k : D → PR γ) : pisi ts .none k = k (.bool (ts.any fun u => Tk.non.sub u)) := rfl
@[simp] theorem ptt_b {γ : Type} (b : Bool) (k : Bool → PR γ) : ptt (.bool b) k = k b := rfl
end
/-! ### loops -/
section
variable {σ γ : Type}
@[simp] theorem foldK_nil (step : D → σ → (σ → PR γ) → (σ → PR γ) → PR γ) (s : σ) (k : σ → PR γ) : foldK step [] s k = k s := rfl
theorem foldK_cons (step : D → σ → (σ → PR γ) → (σ → PR γ) → PR γ) (x : D) (xs : List D) (s : σ) (k : σ → PR γ) : foldK step (x :: xs) s k = step x s (fun s' => foldK step xs s' k) k := rfl
theorem foldK_inv {step : D → σ → (σ → PR γ) → (σ → PR γ) → PR γ} (I : Nat → σ → Prop) : ∀ {xs : List D} {i : Nat} {s : σ} {k : σ → PR γ}, (∀ m x s, xs[m]? = some x → I (i + m) s → ∃ s', I (i + m + 1) s' ∧ ∀ kn kb, step x s kn kb = kn s') → I i s → ∃ s', I (i + xs.length) s' ∧ foldK step xs s k = k s'
  | [], i, s, k, _, h0 => ⟨s, h0, rfl⟩
  | x :: xs, i, s, k, h, h0 => by
    obtain ⟨s1, h1, h2⟩ := h 0 x s rfl h0
    obtain ⟨s2, h3, h4⟩ := foldK_inv (step := step) I (xs := xs) (i := i + 1) (s := s1) (k := k) (fun m y t hm ht => by
      obtain ⟨t', q1, q2⟩ := h (m + 1) y t (by simpa using hm) (by rw [show i + (m + 1) = i + 1 + m by omega]; exact ht)
      exact ⟨t', by rw [show i + 1 + m + 1 = i + (m + 1) + 1 by omega]; exact q1, q2⟩) h1
    exact ⟨s2, by rw [List.length_cons, show i + (xs.length + 1) = i + 1 + xs.length by omega]; exact h3, by rw [foldK_cons, h2]; exact h4⟩
theorem lcK_map {b : D → σ → PR (Option D × σ)} {f : D → D} {s : σ} {k : List D → σ → PR γ} : ∀ {xs acc : List D}, (∀ x ∈ xs, b x s = .ok (some (f x), s)) → acc.length + xs.length ≤ sizeLine → lcK b xs s acc k = k (acc ++ xs.map f) s
  | [], acc, _, _ => by simp [lcK]
  | x :: xs, acc, h, hl => by
    rw [List.length_cons] at hl
    have e : lcK b (x :: xs) s acc k = lcN (b x s) fun r => lcO acc r.1 fun acc' => lcK b xs r.2 acc' k := rfl
    rw [e, h x List.mem_cons_self, lcN_ok]
    show (if acc.length < sizeLine then _ else _) = _
    rw [if_pos (by omega), lcK_map (fun y hy => h y (List.mem_cons_of_mem _ hy)) (by rw [List.length_append, List.length_singleton]; omega)]
    simp
theorem lcK_fm {b : D → σ → PR (Option D × σ)} {f : D → Option D} {s : σ} {k : List D → σ → PR γ} : ∀ {xs acc : List D}, (∀ x ∈ xs, b x s = .ok (f x, s)) → acc.length + xs.length ≤ sizeLine → lcK b xs s acc k = k (acc ++ xs.filterMap f) s
  | [], acc, _, _ => by simp [lcK]
  | x :: xs, acc, h, hl => by
    rw [List.length_cons] at hl
    have e : lcK b (x :: xs) s acc k = lcN (b x s) fun r => lcO acc r.1 fun acc' => lcK b xs r.2 acc' k := rfl
    rw [e, h x List.mem_cons_self, lcN_ok]
    cases q : f x with
    | none =>
      show lcK b xs s acc k = _
      rw [lcK_fm (fun y hy => h y (List.mem_cons_of_mem _ hy)) (by omega), List.filterMap_cons, q]
    | some y =>
      show (if acc.length < sizeLine then _ else _) = _
      rw [if_pos (by omega), lcK_fm (fun y hy => h y (List.mem_cons_of_mem _ hy)) (by rw [List.length_append, List.length_singleton]; omega), List.filterMap_cons, q]
      simp
theorem whileK_inv {step : σ → (σ → PR γ) → (σ → PR γ) → PR γ} (I : Nat → σ → Prop) (Z : σ → Prop) (h : ∀ m s, I m s → (∃ s', Z s' ∧ ∀ kn kb, step s kn kb = kb s') ∨ (∃ m' s', m' < m ∧ I m' s' ∧ ∀ kn kb, step s kn kb = kn s')) : ∀ {n m : Nat} {s : σ} {k : σ → PR γ}, I m s → m < n → ∃ s', Z s' ∧ whileK step n s k = k s'
  | 0, m, s, k, _, hn => absurd hn (Nat.not_lt_zero _)
  | n + 1, m, s, k, hi, hn => by
    have e : whileK step (n + 1) s k = step s (fun s' => whileK step n s' k) k := rfl
    rcases h m s hi with ⟨s', hz, q⟩ | ⟨m', s', hm, hi', q⟩
    · exact ⟨s', hz, by rw [e, q]⟩
    · obtain ⟨s2, h1, h2⟩ := whileK_inv (step := step) I Z h (n := n) (k := k) hi' (by omega)
      exact ⟨s2, h1, by rw [e, q]; exact h2⟩
end
end M

set_option Elab.async false
set_option linter.all false
set_option maxRecDepth 100000
/-! P: exceptions -/
namespace M
open PySem L2
noncomputable section
inductive TO (σ : Type) where
  | nx (s : σ)
  | rt (x : D) (s : σ)
def toK {σ γ : Type} (o : TO σ) (k : σ → PR γ) (r : D → σ → PR γ) : PR γ := match o with
  | .nx s => k s
  | .rt x s => r x s
@[simp] theorem toK_nx {σ γ : Type} (s : σ) (k : σ → PR γ) (r : D → σ → PR γ) : toK (.nx s) k r = k s := rfl
@[simp] theorem toK_rt {σ γ : Type} (x : D) (s : σ) (k : σ → PR γ) (r : D → σ → PR γ) : toK (.rt x s) k r = r x s := rfl
def tryK {σ γ : Type} (tab : Str → Option Bool) (b h : PR (TO σ)) (k : TO σ → PR γ) : PR γ := match b with
  | .ok o => k o
  | .err e => (match tab e.cls with
    | some true => lcN h k
    | some false => .err e
    | none => .bad)
  | .bad => .bad
@[simp] theorem tryK_ok {σ γ : Type} (tab : Str → Option Bool) (o : TO σ) (h : PR (TO σ)) (k : TO σ → PR γ) : tryK tab (.ok o) h k = k o := rfl
theorem tryK_err {σ γ : Type} {tab : Str → Option Bool} {e : Exn} (ht : tab e.cls = some true) (h : PR (TO σ)) (k : TO σ → PR γ) : tryK tab (.err e) h k = lcN h k := by
  show (match tab e.cls with | some true => lcN h k | some false => .err e | none => .bad) = _
  rw [ht]
section
variable {s sr : Nat} {ms : List Bool}
def gsRaise (x : Str) : GSx := fun γ ρ kn kb kc kr => .err ⟨x, []⟩
theorem rs_raise (x : Str) : RS sr ms (sRaise x) (gsRaise x) := fun γ fr ρ env m kn kb kc kr R nb => .err ⟨x, []⟩ env m (R.wip (AgE.refl _ _)) rfl (AgE.refl _ _)
def endT (ds : List (Nat × Kd)) (v : GV) (ρ : List PV) : PR (TO (St ds)) := match v with
  | .v x => unK ds ρ fun s => .ok (.rt x s)
  | .r _ => .bad
def runT (ds : List (Nat × Kd)) (b : GSx) (ρ : List PV) : PR (TO (St ds)) := b (TO (St ds)) ρ (fun ρ3 => unK ds ρ3 fun s => .ok (.nx s)) (fun _ => .bad) (fun _ => .bad) (fun v ρ3 => endT ds v ρ3)
def gsTry (tab : Str → Option Bool) (ds : List (Nat × Kd)) (mb : List Bool) (b h : GSx) : GSx := fun γ ρ kn kb kc kr =>
  tryK tab (runT ds b ρ) (runT ds h (wip mb ρ)) fun o => toK o (fun s => kn (put ds (wip mb ρ) s)) (fun x s => kr (.v x) (put ds (wip mb ρ) s))
/-- what a part of a try comes to -/
theorem runT_ok {ds : List (Nat × Kd)} {mb : List Bool} {f : SF} {g : GSx} (h : RS sr mb f g) (hd : inM mb ds = true) {fr : Fr} {ρ ρ1 : List PV} {env : Env} {m : Mem} (R : Rel fr ρ env m) (a1 : Ag mb ρ1 ρ) (nb : runT ds g ρ ≠ .bad) :
    (∃ s env' m', runT ds g ρ = .ok (.nx s) ∧ f env m = .nx env' m' ∧ Rel fr (put ds (wip mb ρ1) s) env' m' ∧ AgE mb env env') ∨
    (∃ x s w env' m', runT ds g ρ = .ok (.rt x s) ∧ f env m = .rt w m' ∧ Rel fr (put ds (wip mb ρ1) s) env' m' ∧ RVal fr sr env' w (.v x)) ∨
    (∃ e env' m', runT ds g ρ = .err e ∧ f env m = .err e env' m' ∧ Rel fr (wip mb ρ1) env' m' ∧ AgE mb env env') := by
  have q := h (TO (St ds)) fr ρ env m (fun ρ3 => unK ds ρ3 fun s => .ok (.nx s)) (fun _ => .bad) (fun _ => .bad) (fun v ρ3 => endT ds v ρ3) R nb
  have e0 : runT ds g ρ = g (TO (St ds)) ρ (fun ρ3 => unK ds ρ3 fun s => .ok (.nx s)) (fun _ => .bad) (fun _ => .bad) (fun v ρ3 => endT ds v ρ3) := rfl
  rw [← e0] at q
  generalize f env m = r at q
  cases q with
  | nx e1 m1 ρ3 h1 h2 h3 h4 =>
    rw [h2] at nb
    obtain ⟨s', v1, v2⟩ := unK_ne nb
    exact .inl ⟨s', e1, m1, h2.trans v2, rfl, h1.shape (a1.trans h3) v1, h4⟩
  | bk e1 m1 ρ3 h1 h2 h3 h4 => exact absurd h2 nb
  | ct e1 m1 ρ3 h1 h2 h3 h4 => exact absurd h2 nb
  | rt w m1 v ρ3 e1 h1 h2 h3 h4 =>
    rw [h3] at nb
    cases v with
    | r i => exact absurd rfl nb
    | v x =>
      obtain ⟨s', v1, v2⟩ := unK_ne (show unK ds ρ3 (fun s => PR.ok (TO.rt x s)) ≠ .bad from nb)
      exact .inr (.inl ⟨x, s', w, e1, m1, h3.trans v2, rfl, h1.shape (a1.trans h4) v1, h2⟩)
  | err e e1 m1 h1 h2 h3 => exact .inr (.inr ⟨e, e1, m1, h2, rfl, by rw [a1.wip] at h1; exact h1, h3⟩)
theorem rs_try {tab : Str → Option Bool} {ds : List (Nat × Kd)} {mb : List Bool} {fb fs : SF} {gb gh : GSx} (hb : RS sr mb fb gb) (hh : RS sr mb fs gh) (hd : inM mb ds = true := by rfl) (hs : subM mb ms = true := by rfl) : RS sr ms (sTry tab fb fs) (gsTry tab ds mb gb gh) := by
  intro γ fr ρ env m kn kb kc kr R nb
  have e0 : gsTry tab ds mb gb gh γ ρ kn kb kc kr = tryK tab (runT ds gb ρ) (runT ds gh (wip mb ρ)) fun o => toK o (fun s => kn (put ds (wip mb ρ) s)) (fun x s => kr (.v x) (put ds (wip mb ρ) s)) := rfl
  rw [e0] at nb ⊢
  have nb1 : runT ds gb ρ ≠ .bad := fun z => nb (by rw [z]; rfl)
  unfold sTry
  rcases runT_ok hb hd R (Ag.refl _ _) nb1 with ⟨s, e1, m1, r1, r2, r3, r4⟩ | ⟨x, s, w, e1, m1, r1, r2, r3, r4⟩ | ⟨e, e1, m1, r1, r2, r3, r4⟩
  · rw [r1, r2, tryK_ok, toK_nx]
    exact .nx e1 m1 _ r3 rfl ((shape_ag hd s).sub hs) (r4.sub hs)
  · rw [r1, r2, tryK_ok, toK_rt]
    exact .rt w m1 (.v x) _ e1 r3 r4 rfl ((shape_ag hd s).sub hs)
  · rw [r1] at nb ⊢
    rw [r2]
    dsimp only
    cases t : tab e.cls with
    | none =>
      exfalso
      refine nb ?_
      show (match tab e.cls with | some true => lcN _ _ | some false => PR.err e | none => .bad) = _
      rw [t]
    | some b =>
      cases b with
      | false =>
        have ez : (tryK tab (.err e) (runT ds gh (wip mb ρ)) fun o => toK o (fun s => kn (put ds (wip mb ρ) s)) (fun x s => kr (.v x) (put ds (wip mb ρ) s))) = .err e := by
          show (match tab e.cls with | some true => lcN _ _ | some false => PR.err e | none => .bad) = _
          rw [t]
        rw [ez]
        exact .err e e1 m1 (wip_sub hs r3) rfl (r4.sub hs)
      | true =>
        rw [tryK_err t] at nb ⊢
        have nb2 : runT ds gh (wip mb ρ) ≠ .bad := fun z => nb (by rw [z]; rfl)
        dsimp only
        rcases runT_ok hh hd r3 (wip_wip mb ρ) nb2 with ⟨s, e2, m2, q1, q2, q3, q4⟩ | ⟨x, s, w, e2, m2, q1, q2, q3, q4⟩ | ⟨e', e2, m2, q1, q2, q3, q4⟩
        · rw [q1, q2, lcN_ok, toK_nx]
          exact .nx e2 m2 _ q3 rfl ((shape_ag hd s).sub hs) ((r4.trans q4).sub hs)
        · rw [q1, q2, lcN_ok, toK_rt]
          exact .rt w m2 (.v x) _ e2 q3 q4 rfl ((shape_ag hd s).sub hs)
        · rw [q1] at nb
          exact absurd rfl nb
end
end
end M

set_option Elab.async false
set_option linter.all false
set_option maxRecDepth 100000
/-! P: a new list handed over to a def that changes it -/
namespace M
open PySem L2
noncomputable section
theorem addAW_list {m : Mem} {w1 w2 : W} {a b : List D} (h1 : See m w1 (.list a)) (h2 : See m w2 (.list b)) : addAW w1 w2 m = if a.length + b.length ≤ sizeLine then .ok (.fl (a ++ b)) m else .bad := by
  have e1 := see_asL h1
  have e2 := see_asL h2
  rcases h1 with rfl | ⟨es, e, rfl | rfl | ⟨j, rfl, hj⟩⟩ <;> rcases h2 with rfl | ⟨fs, e', rfl | rfl | ⟨k, rfl, hk⟩⟩ <;> simp [addAW, e1, e2]
theorem addAP_ok : OpP 3 1 addAW addP := by
  intro m w1 w2 x y h1 h2
  replace h1 : See m w1 x := h1
  replace h2 : See m w2 y := h2
  unfold addP
  split
  · rw [see_flat h1 (by intro ds e; cases e), see_flat h2 (by intro ds e; cases e)]
    exact ⟨_, rfl, fun _ => rfl⟩
  · rw [see_flat h1 (by intro ds e; cases e), see_flat h2 (by intro ds e; cases e)]
    split
    · rename_i h; exact ⟨_, by simp only [addAW]; rw [if_pos h], fun _ => rfl⟩
    · trivial
  · rw [see_flat h1 (by intro ds e; cases e), see_flat h2 (by intro ds e; cases e)]
    split
    · rename_i h; exact ⟨_, by simp only [addAW]; rw [if_pos h], fun _ => rfl⟩
    · trivial
  · rw [addAW_list h1 h2]
    split
    · exact ⟨_, rfl, fun _ => rfl⟩
    · trivial
  · trivial
theorem addASP_ok : OpP 3 0 addAW addSP := by
  intro m w1 w2 x y h1 h2
  replace h1 : See m w1 x := h1
  replace h2 : See m w2 y := h2
  unfold addSP
  split
  · rw [see_flat h1 (by intro ds e; cases e), see_flat h2 (by intro ds e; cases e)]
    exact out_d
  · rw [see_flat h1 (by intro ds e; cases e), see_flat h2 (by intro ds e; cases e)]
    split
    · rename_i h
      simp only [addAW]
      rw [if_pos h]
      exact out_d
    · trivial
  · rw [see_flat h1 (by intro ds e; cases e), see_flat h2 (by intro ds e; cases e)]
    split
    · rename_i h
      simp only [addAW]
      rw [if_pos h]
      exact out_d
    · trivial
  · trivial
def repP (x y : D) : PR D := match x, y with
  | .list ds, .int k => if grd (-(2 ^ 63) ≤ k ∧ k < 2 ^ 63 ∧ ds.length * k.toNat ≤ sizeLine) = true then .ok (.list (List.replicate k.toNat ds).flatten) else .bad
  | _, _ => .bad
theorem repP_ok : OpP 7 1 repW repP := by
  intro m w1 w2 x y h1 h2
  replace h1 : SeeN m w1 x := h1
  replace h2 : SeeN m w2 y := h2
  unfold repP
  split
  · rename_i ds k
    rw [seeN_flat h2 (by intro ds e; cases e)]
    have e := see_asT h1
    simp only [repW, e]
    split
    · exact ⟨_, rfl, fun _ => rfl⟩
    · trivial
  · trivial
theorem repP_s {ds : List D} {k : Int} (h : 0 ≤ k) (h1 : k ≤ 1000000) (h2 : ds.length * k.toNat ≤ sizeLine) : repP (.list ds) (.int k) = .ok (.list (List.replicate k.toNat ds).flatten) := by
  show (if _ then _ else _) = _
  rw [if_pos (grd_t ⟨by omega, by omega, h2⟩)]
/-- no object is changed or made -/
def PuE (f : EF) : Prop := ∀ env m w m', f env m = .ok w m' → m' = m
def PuA (f : AF) : Prop := ∀ env m w m', f env m = .ok w m' → m' = m
def PuO (g : W → W → Mem → Res W) : Prop := ∀ x y m w m', g x y m = .ok w m' → m' = m
theorem pu_var (i : Nat) : PuE (eVar i) := by
  intro env m w m' h
  unfold eVar at h
  split at h
  · cases h; rfl
  · cases h
theorem pu_c (x : D) : PuE (eC x) := by intro env m w m' h; cases h; rfl
theorem pu_op {g : W → W → Mem → Res W} {a b : EF} (hg : PuO g) (ha : PuE a) (hb : PuE b) : PuE (eOp g a b) := by
  intro env m w m' h
  unfold eOp at h
  cases q : a env m with
  | ok x m1 =>
    rw [q, Res.bind_ok] at h
    cases q2 : b env m1 with
    | ok y m2 =>
      rw [q2, Res.bind_ok] at h
      rw [hg _ _ _ _ _ h, hb _ _ _ _ q2, ha _ _ _ _ q]
    | err e m2 => rw [q2] at h; cases h
    | bad => rw [q2] at h; cases h
  | err e m1 => rw [q] at h; cases h
  | bad => rw [q] at h; cases h
theorem pu_frz {a : EF} (ha : PuE a) : PuE (eFrz a) := by
  intro env m w m' h
  unfold eFrz at h
  cases q : a env m with
  | ok x m1 =>
    rw [q, Res.bind_ok] at h
    have := ha _ _ _ _ q
    subst this
    split at h <;> cases h <;> rfl
  | err e m1 => rw [q] at h; cases h
  | bad => rw [q] at h; cases h
theorem pua_nil : PuA aNil := by intro env m w m' h; cases h; rfl
theorem pua_cons {a : EF} {r : AF} (ha : PuE a) (hr : PuA r) : PuA (aCons a r) := by
  intro env m w m' h
  unfold aCons at h
  cases q : a env m with
  | ok x m1 =>
    rw [q, Res.bind_ok] at h
    cases q2 : r env m1 with
    | ok y m2 =>
      rw [q2, Res.bind_ok] at h
      cases h
      rw [hr _ _ _ _ q2, ha _ _ _ _ q]
    | err e m2 => rw [q2] at h; cases h
    | bad => rw [q2] at h; cases h
  | err e m1 => rw [q] at h; cases h
  | bad => rw [q] at h; cases h
theorem pu_ix : PuO ixW := by
  intro x y m w m' h
  unfold ixW at h
  repeat' (split at h)
  all_goals first | (cases h; done) | (cases h; rfl)
theorem pu_int {C : Int → Int → Bool} {g : Int → Int → D} : PuO (intW C g) := by
  intro x y m w m' h
  unfold intW at h
  repeat' (split at h)
  all_goals first | (cases h; done) | (cases h; rfl)
theorem pu_int0 {g : Int → Int → D} : PuO (int0W g) := by
  intro x y m w m' h
  unfold int0W at h
  repeat' (split at h)
  all_goals first | (cases h; done) | (cases h; rfl)
theorem pu_add : PuO addAW := by
  intro x y m w m' h
  unfold addAW at h
  repeat' (split at h)
  all_goals first | (cases h; done) | (cases h; rfl)
section
variable {s : Nat} {ms : List Bool} {fa : EF} {ga : GEx}
theorem Ag.nil {ρ ρ' : List PV} (a : Ag [] ρ ρ') : ρ' = ρ := by
  apply List.ext_getElem?
  intro i
  exact a.get i rfl
/-- more behind the memory -/
theorem SlotOk.app {fr : Fr} {m : Mem} {i : Nat} {js : List Nat} {e : Option (Option W)} {v : Option PV} (h : SlotOk fr m i js e v) (l : List O) : SlotOk fr (m ++ l) i js e v := h.mem fun j hj => List.getElem?_append_left (h.lt j hj)
theorem Rel.app {fr : Fr} {ρ : List PV} {env : Env} {m : Mem} (R : Rel fr ρ env m) (l : List O) (hl : ∀ o ∈ l, okO (m ++ l).length o = true) : Rel fr ρ env (m ++ l) := by
  obtain ⟨J, hd, hJ⟩ := R.ex
  have := R.len
  exact ⟨R.pok, by rw [List.length_append]; omega, fun j h1 h2 => by rw [List.getElem?_append_left (by omega)]; exact R.fix j h1 h2, R.c0, R.cpA l, R.cnA hl, R.el, J, hd, fun i => (hJ i).app l⟩
def gCallN (ms : List Bool) (ks : List PK) (F : GFn) (a : GEx) (b : GAx) : GEx := fun γ ρ K => a γ ρ fun v ρ1 => match v with
  | .v x => ptl x fun xs => b γ ρ1 fun vs ρ2 => match refsOk ms ks vs, ρ2[1000]? with
    | true, none => avsK ρ2 ks vs fun avs => F γ (.l 1000 xs :: avs) fun x us => K (.v x) (upds ρ2 us)
    | _, _ => .bad
  | .r _ => .bad
theorem ArgsOk.grow {m : Mem} {J J' : Nat → List Nat} {rs rs' : List Nat} (l : List O) (hr : ∀ j, j < m.length → (∀ i ∈ rs, j ∉ J i) → ∀ i ∈ rs', j ∉ J' i) : ∀ {ws : List W} {avs : List AV}, ArgsOk m J rs ws avs → (∀ i ∈ mrefs avs, J' i = J i) → ArgsOk (m ++ l) J' rs' ws avs
  | _, _, .nil, _ => .nil
  | w :: ws, a :: as, .cons h t, h1 => by
    refine .cons ?_ (ArgsOk.grow l hr t (fun i hi => h1 i (by cases a <;> simp [mrefs, hi])))
    cases a with
    | d x => exact h
    | b xs =>
      rcases h with h | h | ⟨j, e, q1, q2⟩
      · exact .inl h
      · exact .inr (.inl h)
      · have hl := (List.getElem?_eq_some_iff.mp q1).1
        exact .inr (.inr ⟨j, e, by rw [List.getElem?_append_left hl]; exact q1, hr j hl q2⟩)
    | l i xs =>
      obtain ⟨j, e, q1, q2⟩ := h
      exact ⟨j, e, by rw [h1 i (by simp [mrefs])]; exact q1, by rw [List.getElem?_append_left (List.getElem?_eq_some_iff.mp q2).1]; exact q2⟩
    | k i xs =>
      obtain ⟨b, a, e, q1, q2⟩ := h
      have hb := (List.getElem?_eq_some_iff.mp q2.cb).1
      have ha := (List.getElem?_eq_some_iff.mp q2.ca).1
      exact ⟨b, a, e, by rw [h1 i (by simp [mrefs])]; exact q1, q2.ab, by rw [List.getElem?_append_left ha]; exact q2.ca, by rw [List.getElem?_append_left hb]; exact q2.cb⟩
    | n kvs =>
      obtain ⟨j, e, q1, q2⟩ := h
      have hl := (List.getElem?_eq_some_iff.mp q1).1
      exact ⟨j, e, by rw [List.getElem?_append_left hl]; exact q1, hr j hl q2⟩
theorem ArgsOk.some {m : Mem} {J : Nat → List Nat} {rs : List Nat} : ∀ {ws : List W} {avs : List AV}, ArgsOk m J rs ws avs → ∀ i ∈ mrefs avs, J i ≠ []
  | _, _, .nil, i, hi => nomatch hi
  | w :: ws, .d x :: as, .cons h t, i, hi => ArgsOk.some t i hi
  | w :: ws, .b x :: as, .cons h t, i, hi => ArgsOk.some t i hi
  | w :: ws, .n x :: as, .cons h t, i, hi => ArgsOk.some t i hi
  | w :: ws, .l k x :: as, .cons h t, i, hi => by
    rcases List.mem_cons.mp hi with rfl | hi
    · obtain ⟨j, e, q1, q2⟩ := h; rw [q1]; simp
    · exact ArgsOk.some t i hi
  | w :: ws, .k k x :: as, .cons h t, i, hi => by
    rcases List.mem_cons.mp hi with rfl | hi
    · obtain ⟨b, a, e, q1, q2⟩ := h; rw [q1]; simp
    · exact ArgsOk.some t i hi
theorem re_callN {F : FF} {ks : List PK} {ss : List Nat} {Q : GFn} {h : AF} {k : GAx} (hF : SpG F s Q) (ha : RE 1 ms fa ga) (hb : RA ss [] h k) (hp : PuA h) (hl : lvOk ks ss = true := by rfl) : RE s ms (eCallF F (aCons (eObj fa) h)) (gCallN ms ks Q ga k) := by
  intro γ fr ρ env m K R nb
  rcases ha γ fr ρ env m _ R nb with ⟨w, m1, v, ρ1, h1, R1, h3, h4, h5⟩ | ⟨e, m1, h1, h2, h3⟩
  · have e0 : gCallN ms ks Q ga k γ ρ K = _ := h4
    rw [e0] at nb ⊢
    dsimp only at nb ⊢
    refine EPost.later h5 ?_
    cases v with
    | r i => exact absurd rfl nb
    | v x =>
      cases x with
      | list xs =>
        have h3 : w = .fl xs := h3
        subst h3
        dsimp only at nb ⊢
        rw [ptl_list] at nb ⊢
        have eo : eObj fa env m = .ok (.obj m1.length) (m1 ++ [.lst xs]) := by simp only [eObj, h1, Res.bind_ok]
        have R2 := R1.app [.lst xs] (fun o ho => by rw [List.mem_singleton.mp ho]; rfl)
        rcases hb γ fr ρ1 env (m1 ++ [.lst xs]) _ R2 nb with ⟨ws, m3, vs, ρ2, q1, R3, q3, q4, q5⟩ | ⟨e, m3, q1, q2, q3⟩
        · have em := hp _ _ _ _ q1
          have er := q5.nil
          subst em er
          rw [q4] at nb ⊢
          dsimp only at nb ⊢
          cases ok : refsOk ms ks vs with
          | false => rw [ok] at nb; exact absurd rfl nb
          | true =>
            cases o1 : ρ2[1000]? with
            | some z => rw [ok, o1] at nb; exact absurd rfl nb
            | none =>
              rw [ok, o1] at nb
              dsimp only at nb ⊢
              obtain ⟨J, hd, hJ⟩ := R1.ex
              simp only [refsOk, Bool.and_eq_true] at ok
              obtain ⟨⟨ok1, ok2⟩, ok3⟩ := ok
              obtain ⟨avs, e1, e2, e4, e3⟩ := avs_ok R1 hd hJ hl q3 nb
              rw [e1] at nb ⊢
              have hA0 := e3 (mrefs avs) (fun i hi hi' => by
                rw [e2] at hi'
                have := List.all_eq_true.mp ok3 i hi
                simp only [Bool.not_eq_true', List.contains_eq_mem, decide_eq_false_iff_not] at this
                exact this hi')
              have j1000 : J 1000 = [] := by have := hJ 1000; rw [o1] at this; exact this
              have n1000 : ∀ i ∈ mrefs avs, i ≠ 1000 := fun i hi e => hA0.some i hi (by rw [e]; exact j1000)
              have lt : ∀ i, ∀ j ∈ J i, j < m1.length := fun i => (hJ i).lt
              obtain ⟨J', hJ'⟩ : ∃ J' : Nat → List Nat, J' = fun i => if i = 1000 then [m1.length] else J i := ⟨_, rfl⟩
              have j1 : J' 1000 = [m1.length] := by rw [hJ']; simp
              have j2 : ∀ i, i ≠ 1000 → J' i = J i := fun i hi => by rw [hJ']; simp [hi]
              have nd : (mrefs avs).Nodup := by rw [e2]; exact nodupB_iff ok2
              have hA : ArgsOk (m1 ++ [.lst xs]) J' (mrefs (.l 1000 xs :: avs)) (.obj m1.length :: ws) (.l 1000 xs :: avs) := by
                refine .cons ⟨m1.length, rfl, j1, by simp⟩ (hA0.grow [.lst xs] (fun j hj hn i hi => ?_) (fun i hi => j2 i (n1000 i hi)))
                rcases List.mem_cons.mp hi with rfl | hi
                · rw [j1]; simp; omega
                · rw [j2 i (n1000 i hi)]; exact hn i hi
              have hn : (mrefs (.l 1000 xs :: avs)).Nodup := List.nodup_cons.mpr ⟨fun z => n1000 _ z rfl, nd⟩
              have hd' : ∀ i ∈ mrefs (.l 1000 xs :: avs), ∀ i' ∈ mrefs (.l 1000 xs :: avs), ∀ j, j ∈ J' i → j ∈ J' i' → i = i' := by
                intro i hi i' hi' j hj hj'
                rcases List.mem_cons.mp hi with rfl | hi
                · rcases List.mem_cons.mp hi' with rfl | hi'
                  · rfl
                  · rw [j1] at hj
                    rw [j2 i' (n1000 i' hi')] at hj'
                    have := lt i' j hj'
                    have := List.mem_singleton.mp hj
                    omega
                · rcases List.mem_cons.mp hi' with rfl | hi'
                  · rw [j1] at hj'
                    rw [j2 i (n1000 i hi)] at hj
                    have := lt i j hj
                    have := List.mem_singleton.mp hj'
                    omega
                  · rw [j2 i (n1000 i hi)] at hj
                    rw [j2 i' (n1000 i' hi')] at hj'
                    exact hd i i' j hj hj'
              have efl : noFl (.obj m1.length :: ws) = true := e4
              simp only [eCallF, aCons, eo, q1, Res.bind_ok, callM, efl, if_true]
              -- what stays
              have stay : ∀ m4, Keep (m1 ++ [.lst xs]) m4 J' (mrefs (.l 1000 xs :: avs)) → ∀ j, j < m1.length → (∀ i ∈ mrefs avs, j ∉ J i) → m4[j]? = m1[j]? := by
                intro m4 kp j hj hn
                rw [kp.get j fun i hi => ?_, List.getElem?_append_left hj]
                rcases List.mem_cons.mp hi with rfl | hi
                · rw [j1]; simp; omega
                · rw [j2 i (n1000 i hi)]; exact hn i hi
              have fix : ∀ m4, Keep (m1 ++ [.lst xs]) m4 J' (mrefs (.l 1000 xs :: avs)) → fr.m0.length ≤ m4.length ∧ (∀ j, j < fr.m0.length → (∀ i, j ∉ fr.pin i) → m4[j]? = fr.m0[j]?) ∧ (∀ (i j : Nat), j ∈ fr.pin i → ∀ o : O, m4[j]? = some o → okO j o = true) ∧ (∀ (j : Nat) (o : O), fr.m0.length ≤ j → m4[j]? = some o → okO m4.length o = true) := by
                intro m4 kp
                have hlen := R1.len
                have go : ∀ (j : Nat) (o : O), m4[j]? = some o → okO j o = true ∨ (m1 ++ [.lst xs])[j]? = some o := fun j o e => by
                  by_cases hp : ∃ i ∈ mrefs (.l 1000 xs :: avs), j ∈ J' i
                  · obtain ⟨i, hi, hj⟩ := hp
                    exact .inl (kp.dn i hi j hj o e)
                  · exact .inr (by rw [← kp.get j fun i hi hj => hp ⟨i, hi, hj⟩]; exact e)
                refine ⟨by rw [kp.len, List.length_append]; omega, fun j g1 g2 => ?_, fun i j hj o e => ?_, fun j o hj e => ?_⟩
                · rw [stay m4 kp j (by omega) fun i hi hj => ?_]
                  · exact R1.fix j g1 g2
                  · rcases (hJ i).own j hj with z | z
                    · exact g2 i z
                    · omega
                · rcases go j o e with z | z
                  · exact z
                  · exact R2.cp i j hj o z
                · have hl := (List.getElem?_eq_some_iff.mp e).1
                  rcases go j o e with z | z
                  · exact okO.le z (by omega)
                  · rw [kp.len]
                    exact R2.cn j o hj z
              rcases hF γ (m1 ++ [.lst xs]) _ (.l 1000 xs :: avs) J' _ R2.cm hA hn hd' nb with ⟨w', m4, x, us, f1, f2, f3, f4, f5, f6⟩ | ⟨e, m4, f1, f2, f3⟩
              · rw [f1, f3]
                cases us with
                | nil => cases f4
                | cons u0 us =>
                  obtain ⟨i0, u0⟩ := u0
                  simp only [List.map_cons, mrefs, List.cons.injEq] at f4
                  obtain ⟨rfl, f4⟩ := f4
                  have eu : upds ρ2 ((1000, u0) :: us) = upds ρ2 us := by
                    show upds (upd1 ρ2 1000 u0) us = _
                    have : upd1 ρ2 1000 u0 = ρ2 := by cases u0 <;> simp [upd1, o1]
                    rw [this]
                  rw [eu]
                  have ag : Ag ms ρ2 (upds ρ2 us) := upds_ag us (Ag.refl _ _) (by rw [f4, e2]; exact ok1)
                  refine .inl ⟨w', m4, .v x, upds ρ2 us, rfl, ?_, f2 fr, rfl, ag⟩
                  obtain ⟨k1, k2, k3, k4⟩ := fix m4 f6
                  have has : ∀ u ∈ us, Has m4 J u.1 u.2 := fun u hu => by
                    have z := f5 u (List.mem_cons_of_mem _ hu)
                    have hm : u.1 ∈ mrefs avs := by rw [← f4]; exact List.mem_map_of_mem hu
                    have ej := j2 u.1 (n1000 _ hm)
                    obtain ⟨i, u⟩ := u
                    cases u with
                    | l ys => obtain ⟨j, z1, z2⟩ := z; exact ⟨j, by rw [← ej]; exact z1, z2⟩
                    | k q => obtain ⟨b, a, z1, z2⟩ := z; exact ⟨b, a, by rw [← ej]; exact z1, z2⟩
                  refine ⟨R1.pok, k1, k2, R1.c0, k3, k4, by rw [upds_length]; exact R1.el, J, hd, ?_⟩
                  refine upds_slots (m := m1) us (by rw [f4]; exact nd) has (fun i hi => ?_) (fun i hi => hJ i) (fun u hu => has_kind (hJ u.1) (has u hu))
                  refine (hJ i).mem fun j hj => stay m4 f6 j (lt i j hj) fun i' hi' hj' => ?_
                  have := hd i i' j hj hj'
                  subst this
                  exact hi (by rw [f4]; exact hi')
              · rw [f1, f2]
                refine .inr ⟨e, m4, rfl, rfl, ?_⟩
                obtain ⟨k1, k2, k3, k4⟩ := fix m4 f3
                refine ⟨R1.pok, k1, k2, R1.c0, k3, k4, by rw [wip_length]; exact R1.el, fun i => if isM ms i = true then [] else J i, fun i i' j h1 h2 => ?_, fun i => ?_⟩
                · dsimp only at h1 h2
                  split at h1
                  · cases h1
                  · split at h2
                    · cases h2
                    · exact hd i i' j h1 h2
                · dsimp only
                  rw [wip_get]
                  by_cases q : isM ms i = true
                  · rw [if_pos q, if_pos q]
                    cases ρ2[i]? <;> exact (rfl : ([] : List Nat) = [])
                  · rw [if_neg q, if_neg q]
                    refine (hJ i).mem fun j hj => stay m4 f3 j (lt i j hj) fun i' hi' hj' => ?_
                    have := hd i i' j hj hj'
                    subst this
                    rw [e2] at hi'
                    exact q (allIn_get ok1 i hi')
        · rw [q2]
          have ee : eCallF F (aCons (eObj fa) h) env m = .err e m3 := by simp only [eCallF, aCons, eo, q1, Res.bind_ok, Res.bind_err]
          rw [ee]
          exact .inr ⟨e, m3, rfl, rfl, by
            have : wip [] ρ1 = ρ1 := by cases ρ1 <;> rfl
            rw [this] at q3
            exact q3.wip (AgE.refl _ _)⟩
      | _ => exact absurd rfl nb
  · have ee : eCallF F (aCons (eObj fa) h) env m = .err e m1 := by simp only [eCallF, aCons, eObj, h1, Res.bind_err]
    rw [ee]
    exact .inr ⟨e, m1, rfl, h2, h3⟩
end
end
end M

set_option Elab.async false
set_option linter.all false
set_option maxRecDepth 100000
/-! P: further laws of the operations, for the plain part -/
namespace M
open PySem L2
theorem joinP_nil {ls : List (List Nat)} (hl : ls.flatten.length ≤ 16777216) : joinP (S []) [.list (ls.map fun l => .str (S l))] = .ok (.str (S ls.flatten)) := by
  have e : dStrs (ls.map fun l => .str (S l)) = some (ls.map S) := by
    have := dStrs_strs (ls.map S)
    rwa [List.map_map] at this
  have hz : ((ls.map S).map (·.length)).sum + (ls.map S).length * (S []).length ≤ 16777216 := by
    have e2 : ((ls.map S).map (·.length)).sum = ls.flatten.length := by
      rw [List.map_map, List.length_flatten]
      rfl
    rw [e2]
    simpa using hl
  unfold joinP
  dsimp only
  rw [e]
  show (if _ then _ else _) = _
  rw [if_pos hz, join_nil]
theorem sindexP_one {l : List Nat} {c i : Nat} (h : l[i]? = some c) (hu : ∀ k, k < i → l[k]? ≠ some c) : sindexP (S l) [.str (S [c])] = .ok (.int (i : Int)) := by
  have key : ∃ r, Builtin.Str.occurrences (S l) (S [c]) 0 (S l).length 1 = i :: r := by
    rcases StrLaws.occ_head (S l) (S [c]) 1 (Nat.le_refl _) with ⟨_, hn⟩ | ⟨j, r, e, ha, hn⟩
    · exact absurd ((StrLaws.subAt_one (S l) c i).mpr h) (hn i)
    · have hj : l[j]? = some c := (StrLaws.subAt_one (S l) c j).mp ha
      have hji : ¬ j < i := fun z => hu j z hj
      have hij : ¬ i < j := fun z => hn i z ((StrLaws.subAt_one (S l) c i).mpr h)
      have : j = i := by omega
      subst this
      exact ⟨r, e⟩
  obtain ⟨r, e⟩ := key
  unfold sindexP
  dsimp only
  rw [e]
theorem popAtP_0 {x : D} {xs : List D} : popAtP (x :: xs) [.int 0] = .ok (x, xs) := by
  unfold popAtP
  dsimp only
  rw [if_pos (grd_t (by decide))]
  simp [seqIndex?]
theorem inP_char {c : Nat} {l : List Nat} {n : Bool} : inP n (.str (S [c])) (.str (S l)) = .ok (.bool (ngB n (decide (c ∈ l)))) := rfl
theorem eqP_ints {n : Bool} (xs ys : List Int) : eqP n (.list (xs.map .int)) (.list (ys.map .int)) = .ok (.bool (ngB n (decide (xs = ys)))) := by
  unfold eqP
  rw [shaped_ints, shaped_ints]
  have : PyData.eqv (.list (xs.map .int)) (.list (ys.map .int)) = decide (xs = ys) := by
    induction xs generalizing ys with
    | nil => cases ys <;> simp [PyData.eqv, PyData.eqvAll]
    | cons x xs ih =>
      cases ys with
      | nil => simp [PyData.eqv, PyData.eqvAll]
      | cons y ys =>
        have := ih ys
        simp only [PyData.eqv] at this
        simp [PyData.eqv, PyData.eqvAll, this, Bool.decide_and]
        rfl
  rw [this]
  rfl
section
variable {σ γ : Type}
theorem whileK_invU {step : σ → (σ → PR γ) → (σ → PR γ) → PR γ} (I : Nat → σ → Prop) (Z : σ → Prop) (h : ∀ m s, I m s → (∃ s', Z s' ∧ ∀ kn kb, step s kn kb = kb s') ∨ (∃ m' s', m' < m ∧ I m' s' ∧ ∀ kn kb, step s kn kb = kn s')) : ∀ {n m : Nat} {s : σ}, I m s → m < n → ∃ s', Z s' ∧ ∀ k, whileK step n s k = k s'
  | 0, m, s, _, hn => absurd hn (Nat.not_lt_zero _)
  | n + 1, m, s, hi, hn => by
    have e : ∀ k, whileK step (n + 1) s k = step s (fun s' => whileK step n s' k) k := fun _ => rfl
    rcases h m s hi with ⟨s', hz, q⟩ | ⟨m', s', hm, hi', q⟩
    · exact ⟨s', hz, fun k => by rw [e, q]⟩
    · obtain ⟨s2, h1, h2⟩ := whileK_invU (step := step) I Z h (n := n) hi' (by omega)
      exact ⟨s2, h1, fun k => by rw [e, q]; exact h2 k⟩
theorem foldK_invU {step : D → σ → (σ → PR γ) → (σ → PR γ) → PR γ} (I : Nat → σ → Prop) : ∀ {xs : List D} {i : Nat} {s : σ}, (∀ m x s, xs[m]? = some x → I (i + m) s → ∃ s', I (i + m + 1) s' ∧ ∀ kn kb, step x s kn kb = kn s') → I i s → ∃ s', I (i + xs.length) s' ∧ ∀ k, foldK step xs s k = k s'
  | [], i, s, _, h0 => ⟨s, h0, fun _ => rfl⟩
  | x :: xs, i, s, h, h0 => by
    obtain ⟨s1, h1, h2⟩ := h 0 x s rfl h0
    obtain ⟨s2, h3, h4⟩ := foldK_invU (step := step) I (xs := xs) (i := i + 1) (s := s1) (fun m y t hm ht => by
      obtain ⟨t', q1, q2⟩ := h (m + 1) y t (by simpa using hm) (by rw [show i + (m + 1) = i + 1 + m by omega]; exact ht)
      exact ⟨t', by rw [show i + 1 + m + 1 = i + (m + 1) + 1 by omega]; exact q1, q2⟩) h1
    exact ⟨s2, by rw [List.length_cons, show i + (xs.length + 1) = i + 1 + xs.length by omega]; exact h3, fun k => by rw [foldK_cons, h2]; exact h4 k⟩
theorem lcK_mapE {α : Type} {b : D → σ → PR (Option D × σ)} {e : α → D} {f : α → D} {s : σ} {k : List D → σ → PR γ} : ∀ {xs : List α} {acc : List D}, (∀ x ∈ xs, b (e x) s = .ok (some (f x), s)) → acc.length + xs.length ≤ sizeLine → lcK b (xs.map e) s acc k = k (acc ++ xs.map f) s
  | [], acc, _, _ => by simp [lcK]
  | x :: xs, acc, h, hl => by
    rw [List.length_cons] at hl
    have q : lcK b ((x :: xs).map e) s acc k = lcN (b (e x) s) fun r => lcO acc r.1 fun acc' => lcK b (xs.map e) r.2 acc' k := rfl
    rw [q, h x List.mem_cons_self, lcN_ok]
    show (if acc.length < sizeLine then _ else _) = _
    rw [if_pos (by omega), lcK_mapE (fun y hy => h y (List.mem_cons_of_mem _ hy)) (by rw [List.length_append, List.length_singleton]; omega)]
    simp
theorem lcK_fmE {α : Type} {b : D → σ → PR (Option D × σ)} {e : α → D} {f : α → Option D} {s : σ} {k : List D → σ → PR γ} : ∀ {xs : List α} {acc : List D}, (∀ x ∈ xs, b (e x) s = .ok (f x, s)) → acc.length + xs.length ≤ sizeLine → lcK b (xs.map e) s acc k = k (acc ++ xs.filterMap f) s
  | [], acc, _, _ => by simp [lcK]
  | x :: xs, acc, h, hl => by
    rw [List.length_cons] at hl
    have q0 : lcK b ((x :: xs).map e) s acc k = lcN (b (e x) s) fun r => lcO acc r.1 fun acc' => lcK b (xs.map e) r.2 acc' k := rfl
    rw [q0, h x List.mem_cons_self, lcN_ok]
    cases q : f x with
    | none =>
      show lcK b (xs.map e) s acc k = _
      rw [lcK_fmE (fun y hy => h y (List.mem_cons_of_mem _ hy)) (by omega), List.filterMap_cons, q]
    | some y =>
      show (if acc.length < sizeLine then _ else _) = _
      rw [if_pos (by omega), lcK_fmE (fun y hy => h y (List.mem_cons_of_mem _ hy)) (by rw [List.length_append, List.length_singleton]; omega), List.filterMap_cons, q]
      simp
/-- a fold that goes by a plain one -/
theorem foldK_foldl {α β : Type} {step : D → σ → (σ → PR γ) → (σ → PR γ) → PR γ} {e : α → D} {en : β → σ} {f : β → α → β} (P : β → Prop) : ∀ {xs : List α} {b : β} {k : σ → PR γ}, P b → (∀ x ∈ xs, ∀ b, P b → P (f b x) ∧ ∀ kn kb, step (e x) (en b) kn kb = kn (en (f b x))) → foldK step (xs.map e) (en b) k = k (en (xs.foldl f b))
  | [], b, k, _, _ => rfl
  | x :: xs, b, k, h0, h => by
    obtain ⟨h1, h2⟩ := h x List.mem_cons_self b h0
    show step (e x) (en b) (fun s' => foldK step (xs.map e) s' k) k = _
    rw [h2]
    exact foldK_foldl P h1 (fun y hy => h y (List.mem_cons_of_mem _ hy))
end
end M

set_option Elab.async false
set_option linter.all false
set_option maxRecDepth 100000
/-! M: own classes without fields and without an own __init__: their instances made, their methods called -/
namespace M
open PySem L2
/-- a class that is made by object's own __init__ -/
structure MkO (K : PySem.W.Frag) (C : Addr) : Prop where
  makes : PySem.W.makesIn K C = true
  init : PySem.W.findIn K (.ref C) "__init__" = some (some (.builtin "object.__init__"))
  sub : PySem.W.subIn K (.ref C) (.type "object") = some true
  kp : PySem.W.keepIn K (.ref C) = true
def tMakeO (C : Addr) : TE := fun σ H Q => ∀ x dx, H x = none → H dx = none → dx ≠ x → Q (.ref x) (upd (upd H dx (.own x)) x (.ins C dx []))
theorem kind_oi : builtinKind "object.__init__" = some .slot := by decide +kernel
theorem split_oi : splitId "object.__init__" = some ("object", "__init__") := by decide +kernel
section
variable {X : Cx} {C : Addr} {x : Str} {p pos : Pos}
theorem run_makeO {pins : List (Addr × Obj)} {σ : L2.St} {H : Hp} {s : Shared} {Q : VK} (mk : MkO X.K C) (I : Inv X pins σ H s) (h : tMakeO C σ H Q) : wpAny (model X.prog X.w) X.A (call (.ref C) []) (EP X pins σ Q) X.xe s := by
  have hq := h (s.heap.objs.size + 1) s.heap.objs.size (I.hok.fresh (Nat.le_succ _)) (I.hok.fresh (Nat.le_refl _)) (Nat.ne_of_lt (Nat.lt_succ_self _))
  have I2 := Inv.made (C := C) I
  have e2 : ((s.heap.push PySem.W.emptyDict).push (PySem.W.instObj C s.heap.objs.size)).get? (s.heap.objs.size + 1) = some (PySem.W.instObj C s.heap.objs.size) := by
    have := Heap.get?_push_size (s.heap.push PySem.W.emptyDict) (o := PySem.W.instObj C s.heap.objs.size) rfl
    rwa [Heap.size_push] at this
  refine wpAny_call (make_map0 I.kIn mk.makes mk.init (fun self => PySem.W.Looks.of_pure (PySem.F.slot_object_init.bind self)) ?_)
  refine codeAny_call_builtin PySem.F.slot_object_init.plain PySem.F.entry_object_init ?_
  have LT : PySem.W.Looks (model X.prog X.w) ((s.heap.push PySem.W.emptyDict).push (PySem.W.instObj C s.heap.objs.size)) (typeOf (.ref (s.heap.objs.size + 1))) (.ref C) := fun A Q E s k q => wpAny_typeOf_ref (k _ _ e2) q
  have LI : PySem.W.Looks (model X.prog X.w) ((s.heap.push PySem.W.emptyDict).push (PySem.W.instObj C s.heap.objs.size)) (isInstance (.ref (s.heap.objs.size + 1)) (.type "object")) true := LT.andThen (PySem.W.looks_subIn I2.kIn mk.sub)
  refine @PySem.W.check_slot (model X.prog X.w) _ _ { s with heap := (s.heap.push PySem.W.emptyDict).push (PySem.W.instObj C s.heap.objs.size) } "object.__init__" "object" "__init__" (.ref (s.heap.objs.size + 1)) [] [] _ kind_oi split_oi LI (PySem.F.args_object_init_1 _) ?_
  exact wpAny_pure ⟨rfl, ⟨V.ref (s.heap.objs.size + 1), _, I2, rfl, hq⟩⟩
theorem pe_makeO (mk : MkO X.K C) (hg : Gl X x) (hm : X.mg x = some (.ref C)) (hdb : (x == ("__debug__" : Str)) = false := by decide) : PE X (.Call (.Name x p) [] [] pos) (tMakeO C) := by
  refine ⟨fun pins s σ H Q I h => ?_⟩
  refine wpAny_Call_Name_kw (ld_glob I hg hm ?_ hdb)
  exact PySem.W.callWith_K0 I.kIn mk.kp (run_makeO mk I h)
theorem pe_or {e : Expr} {t t' : TE} (h : PE X e t) (h' : PE X e t') : PE X e (fun σ H Q => t σ H Q ∨ t' σ H Q) :=
  ⟨fun pins s σ H Q I q => q.elim (fun q => h.run pins s σ H Q I q) (fun q => h'.run pins s σ H Q I q)⟩
theorem cx_noG {P : Program} {w : World} {o : List PySem.Env} {H : Hp} {s : Shared} {e : Value} {s' : Shared} (h : L2.CX P w o H s (fun _ _ _ => False) e s') : False := by
  obtain ⟨_, _, _, _, _, _, _, _, _, _, _, _, z⟩ := h
  exact z
theorem pass_no {X : Cx} : Passes (L2.CX X.prog X.w) X (fun _ _ _ => False) := fun _ _ _ _ _ _ _ h => (cx_noG h).elim
end
/-! ### methods over data -/
/-- a method's promise: data in, data out; the object is not looked at -/
def SpD (K : PySem.W.Frag) (n : Nat) (P : List D → PR D) : Sp := fun vs H Q _ => ∃ v0 vs' G ds m z, vs = v0 :: vs' ∧ G.H = H ∧ RelM K G m ∧ Reps K G.lv G.H vs' ds ∧ ds.length = n ∧ P ds = .ok z ∧ ∀ v G', Le G G' → RelM K G' m → Rep K G'.lv G'.H v z → Q v G'.H
theorem Reps.paired {K : PySem.W.Frag} {G : Wd} : ∀ {vs : List V} {ds : List D}, Reps K G.lv G.H vs ds → Paired (RepW K G) vs (ds.map W.d)
  | _, _, .nil => .nil
  | _, _, .cons h r => .cons h (Reps.paired r)
theorem relS_none {K : PySem.W.Frag} {G : Wd} {σ : L2.St} {env : Env} {v : Option V} (S : RelS K G σ env) : RelS K G (v :: σ) (none :: env) := by
  refine ⟨by simp [S.len], fun i w e => ?_⟩
  cases i with
  | zero => simp at e
  | succ i => exact S.get i w (by simpa using e)
def ro0 (N : Nat) (ds : List D) : List PV := .x :: (ds.map PV.d ++ List.replicate (N - ds.length) .x)
theorem rel0 (m : Mem) (hcl : ∀ (j : Nat) (o : O), m[j]? = some o → okO m.length o = true) (N : Nat) (ds : List D) : Rel ⟨m, fun _ => []⟩ (ro0 N ds) (none :: env0 N (ds.map W.d)) m := by
  refine ⟨fun i j h => absurd h (List.not_mem_nil), Nat.le_refl _, fun _ _ _ => rfl, hcl, fun i j h => absurd h (List.not_mem_nil), fun j o hj e => (by rw [List.getElem?_eq_none hj] at e; cases e), by simp [ro0, env0], fun _ => [], fun _ _ _ h => absurd h (List.not_mem_nil), fun i => ?_⟩
  cases i with
  | zero => exact (rfl : ([] : List Nat) = [])
  | succ i =>
    show SlotOk _ _ _ _ ((ds.map W.d).map some ++ List.replicate (N - (ds.map W.d).length) none)[i]? (ds.map PV.d ++ List.replicate (N - ds.length) .x)[i]?
    by_cases hi : i < ds.length
    · rw [List.getElem?_append_left (by simpa using hi), List.getElem?_append_left (by simpa using hi)]
      simp only [List.getElem?_map, List.getElem?_eq_getElem hi, Option.map_some]
      exact ⟨rfl, rfl⟩
    · rw [List.getElem?_append_right (by simpa using hi), List.getElem?_append_right (by simpa using hi)]
      simp only [List.length_map, List.getElem?_replicate]
      split
      · exact (rfl : ([] : List Nat) = [])
      · exact (rfl : ([] : List Nat) = [])
section
variable {P : Program} {w : World} {K : PySem.W.Frag} {mg : Str → Option Value} {base : Heap}
theorem okD {x qual : Str} {st : Stmt} {f : Addr} {fd : FuncData} {N ps : List Str} {k n N' : Nat} {ms : List Bool} {g : SF} {gx : GSx} {PF : List D → PR D} (F : Fun K x qual st f fd) (S : FnScope N ps (defScope st)) (hN : N.length = N' + 1) (hps : ps.length = n + 1)
    (hbody : ∀ (cdv : Value) (A : Around) (outer : List PySem.Env) (s : Shared) (H : Hp) (E : XK), Room k (A.deeper (PyProof.Rows.envOfC qual (defScope st) s.heap.objs.size f cdv)) →
      MB (cxM P w K mg base N qual (defScope st) f cdv A outer s H E) (fun c d _ H' => E c d H') (defBody st) g)
    (hrs : RS 7 ms g gx) (hP : ∀ ds, ds.length = n → runG gx (ro0 N' ds) out0 = PF ds) : FnOk P w K mg base (L2.CX P w) (k + 1) f fd ps (SpD K n PF) := by
  refine F.okX S (fun vs H Q E h => ?_) fun cdv A outer s H vs Q E hr h => ?_
  · obtain ⟨v0, vs', G, ds, m, z, rfl, _, _, r, hl, _⟩ := h
    rw [List.length_cons, r.length, hl, hps]
  · obtain ⟨v0, vs', G, ds, m, z, rfl, eH, R, r, hl, hz, hq⟩ := h
    subst eH
    obtain ⟨t, p, q⟩ := hbody cdv A outer s G.H E hr
    have hS : RelS K G (L2.start N (v0 :: vs')) (none :: env0 N' (ds.map W.d)) := by
      have := relS_none (v := some v0) (RelS.start (N := List.replicate N' "") r.paired)
      rw [List.length_replicate] at this
      have e : L2.start N (v0 :: vs') = some v0 :: L2.start (List.replicate N' "") vs' := by
        unfold L2.start
        simp [hN]
      rw [e]
      exact this
    have e1 := hP ds hl
    rw [hz] at e1
    have hs := hrs D ⟨m, fun _ => []⟩ _ _ m (fun ρ => out0 .none ρ) (fun _ => .bad) (fun _ => .bad) (fun v ρ => retK out0 v ρ) (rel0 m R.dw N' ds) (fun z => by
      have z2 : runG gx (ro0 N' ds) out0 = .bad := z
      rw [e1] at z2
      cases z2)
    have e0 : gx D (ro0 N' ds) (fun ρ => out0 .none ρ) (fun _ => .bad) (fun _ => .bad) (fun v ρ => retK out0 v ρ) = .ok z := e1
    rw [e0] at hs
    refine ⟨t, p, q (none :: env0 N' (ds.map W.d)) m _ G _ hS R ?_⟩
    have tk : ∀ {m' : Mem} {ρ' : List PV} {env' : PySem.Env → Prop} {e' : Env}, Rel ⟨m, fun _ => []⟩ ρ' e' m' → m'.take m.length = m := fun {m' ρ' env' e'} R' => by
      have l : m.length ≤ m'.length := R'.len
      apply List.ext_getElem?
      intro j
      rw [List.getElem?_take]
      by_cases hj : j < m.length
      · rw [if_pos hj]
        exact R'.fix j hj (fun _ h => by cases h)
      · rw [if_neg hj, List.getElem?_eq_none (by omega)]
    generalize g (none :: env0 N' (ds.map W.d)) m = res at hs ⊢
    cases hs with
    | nx e' m' ρ' h1 h2 h3 h4 =>
      have hz2 : z = .none := by cases h2; rfl
      subst hz2
      intro σ' G' le R' S'
      have t1 := tk (env' := fun _ => True) h1
      have := R.cut (kp := none) R' le h1.cl
      rw [t1] at this
      exact hq _ (G'.cut G none) le.cut this .non
    | bk e' m' ρ' h1 h2 h3 h4 => cases h2
    | ct e' m' ρ' h1 h2 h3 h4 => cases h2
    | rt w' m' v ρ' e' h1 h2 h3 h4 =>
      have t1 := tk (env' := fun _ => True) h1
      have fl : ∀ es, z = .list es → CPost K mg G (.ok (.fl es) (m'.take m.length)) Q E := fun es hz u G' le R' ru => by
        subst hz
        rw [t1] at R'
        obtain ⟨p', us, e1, e2, e3, e4, e5, e6⟩ := ru
        subst e1
        have rc := R.cut (kp := none) R' le (by unfold clM; rw [List.take_length, List.all_eq_true]; intro o ho; obtain ⟨j, e⟩ := List.getElem?_of_mem ho; exact R.dw j o e)
        rw [List.take_length] at rc
        refine hq _ (G'.cut G none) le.cut rc (.lst ⟨fun zz => ?_, e5⟩ (Reps.mono Mo.cut e6))
        rcases (mem_cut.mp zz).2 with z1 | z1
        · exact R.lt _ z1 e2
        · cases z1
      have dt : CPost K mg G (.ok (.d z) (m'.take m.length)) Q E := fun u G' le R' ru => by
        rw [t1] at R'
        exact hq _ G' le R' ru
      suffices hc : CPost K mg G (finM m.length w' m') Q E from fun u G' le R' ru => finM_ok R R' le ru hc
      cases v with
      | r i =>
        have h3 : PR.ok z = retK out0 (.r i) ρ' := h3
        simp only [retK] at h3
        cases q : ρ'[i]? with
        | none => rw [q] at h3; cases h3
        | some u =>
          rw [q] at h3
          cases u with
          | l p xs =>
            cases p with
            | true => cases h3
            | false =>
              have hz2 : z = .list xs := by cases h3; rfl
              obtain ⟨J2, hd2, hJ2⟩ := h1.ex
              have zz := hJ2 i
              rw [q] at zz
              obtain ⟨j, z1, z2, z3, z4 | z4⟩ := zz
              · exact absurd z4.1 (by simp)
              · have hw := h2.2
                rw [z2] at hw
                cases hw
                have hj : m.length ≤ j := z4.2
                simp only [finM]
                rw [if_pos h1.cl, if_neg (by omega), z3]
                exact fl xs hz2
          | _ => cases h3
      | v y =>
        have hy : z = y := by cases h3; rfl
        subst hy
        rcases (show w' = .d z ∨ ∃ ds, z = .list ds ∧ w' = .fl ds from h2) with hw | ⟨es, hw, hw'⟩
        · subst hw
          rw [finM_d h1.cl]
          exact dt
        · subst hw'
          rw [finM_fl h1.cl]
          exact fl es hw
    | err e e' m' h1 h2 h3 => cases h2
end
/-! ### a list unpacked into names -/
def gUnlF (n : Nat) (r : GsF) (w : W) (env : Env) : Option Env := match w with
  | .d (.list ds) => if ds.length = n then r ds env else none
  | _ => none
theorem mg_unl {X : Cx} {es : List Expr} {k : Nat} {r : GsF} {n : Nat} {is : List Nat} {pos : Pos} (hc : X.calm = true) (h : MGs X es r is) (hn : (assignEach es X.env).length = n := by rfl) (hst : (assignEach es X.env).findIdx? (·.1) = none := by rfl) : MG X (.Tuple es k pos) (gUnlF n r) is := by
  obtain ⟨t, p, q⟩ := h
  refine ⟨_, pg_unl hc p hn hst, fun w env env' σ G v Q S rr e h => ?_⟩
  cases w with
  | d x =>
    cases x with
    | list ds =>
      simp only [gUnlF] at e
      by_cases hz : ds.length = n
      · rw [if_pos hz] at e
        cases rr with
        | lst t1 r1 => exact ⟨_, _, rfl, t1.sq, by rw [r1.length]; exact hz, q ds env env' σ G _ Q S r1 e h⟩
      · rw [if_neg hz] at e; cases e
    | _ => cases e
  | _ => cases e
def gtUnl (r : GTs) : GTg := fun γ x ρ K => ptl x fun ds => r γ ds ρ K
theorem rg_unl {ms : List Bool} {r : GsF} {gr : GTs} {n : Nat} (hr : RGs ms r gr n) : RG ms (gUnlF n r) (gtUnl gr) := by
  intro γ fr ρ env m x K R nb
  cases x with
  | list ds =>
    have nb : gr γ ds ρ K ≠ .bad := nb
    obtain ⟨e2, ρ2, q0, q1, q2, q3, q4, q5⟩ := hr γ fr ρ env m ds K R nb
    exact ⟨e2, ρ2, by simp only [gUnlF]; rw [if_pos q0]; exact q1, q2, q3, q4, q5⟩
  | _ => exact absurd rfl nb
/-! ### a list the other way round: l[::-1] -/
def revW (ws : List W) (m : Mem) : Res W := match ws with
  | [w] => (match asL w m with
    | some ds => .ok (.fl ds.reverse) m
    | none => .bad)
  | _ => .bad
theorem me_rev {X : Cx} {Wx : WX} {e : Expr} {k : Nat} {p1 p2 p3 pos : Pos} {f : EF} (h : ME X Wx e f) : ME X Wx (.Subscript e (.Slice none none (some (.UnaryOp .USub (.Constant (.int 1) k p1) p2)) p3) pos) (eCall revW (aCons f aNil)) := by
  obtain ⟨t, pe, q⟩ := h
  refine ⟨_, pe_revL pe, fun env m σ G Q S R h => ?_⟩
  have e0 : eCall revW (aCons f aNil) env m = (f env m).bind fun x m1 => revW [x] m1 := by
    unfold eCall aCons
    cases f env m <;> rfl
  rw [e0] at h
  refine q env m σ G _ S R (GPost.bind weakR h fun w m1 v G1 le1 R1 r1 hh => ?_)
  unfold revW at hh
  dsimp only at hh
  cases ex : asL w m1 with
  | none => rw [ex] at hh; exact False.elim hh
  | some ds =>
    rw [ex] at hh
    obtain ⟨p, vs, rfl, h1, r2⟩ := asL_sq R1 r1 ex
    exact ⟨p, vs, rfl, h1, fun l hl => finL R1 hh r2.reverse hl⟩
def revP (xs : List D) : PR D := match xs with
  | [.list ds] => .ok (.list ds.reverse)
  | _ => .bad
theorem revP_ok : CaP 1 revW revP := by
  intro m ws xs h
  unfold revP
  split
  · rename_i ds
    obtain ⟨w, rfl, hw⟩ := sees1 h
    have e1 := see_asL hw
    refine ⟨_, ?_, fun _ => rfl⟩
    unfold revW
    dsimp only
    rw [e1]
  · trivial
/-! ### defs over data by a pure function: their mirrors and what they keep to -/
def noE {α : Type} (r : PR α) : PR α := match r with
  | .err _ => .bad
  | r => r
theorem noE_ok {α : Type} {r : PR α} {z : α} (h : noE r = .ok z) : r = .ok z := by
  cases r with
  | ok a => exact h
  | err e => cases h
  | bad => cases h
theorem noE_of {α : Type} {r : PR α} {z : α} (h : r = .ok z) : noE r = .ok z := by rw [h]; rfl
def allD : List W → Option (List D)
  | [] => some []
  | .d x :: r => (allD r).map (x :: ·)
  | _ :: _ => none
theorem allD_eq : ∀ {ws : List W} {ds : List D}, allD ws = some ds → ws = ds.map W.d
  | [], ds, h => by cases h; rfl
  | .d x :: r, ds, h => by
    simp only [allD, Option.map_eq_some_iff] at h
    obtain ⟨es, h1, rfl⟩ := h
    rw [List.map_cons, allD_eq h1]
  | .obj _ :: _, _, h => by cases h
  | .fl _ :: _, _, h => by cases h
  | .ro _ :: _, _, h => by cases h
theorem allD_map : ∀ ds : List D, allD (ds.map W.d) = some ds
  | [] => rfl
  | d :: ds => by rw [List.map_cons, allD, allD_map ds]; rfl
/-- the mirror of a def over data -/
def dataF (PF : List D → PR D) : FF := fun ws m => match allD ws with
  | some ds => (match noE (PF ds) with
    | .ok z => .ok (.d z) m
    | _ => .bad)
  | none => .bad
theorem dataF_in {K : PySem.W.Frag} {mg : Str → Option Value} {PF : List D → PR D} {G : Wd} {ws : List W} {m : Mem} {vs : List V} {Q : VK} {E : XK} (hp : Paired (RepW K G) vs ws) (h : CPost K mg G (dataF PF ws m) Q E) :
    ∃ ds z, ws = ds.map W.d ∧ PF ds = .ok z ∧ Reps K G.lv G.H vs ds ∧ ∀ v G', Le G G' → RelM K G' m → Rep K G'.lv G'.H v z → Q v G'.H := by
  unfold dataF at h
  cases q : allD ws with
  | none => rw [q] at h; exact False.elim h
  | some ds =>
    rw [q] at h
    dsimp only at h
    cases q2 : noE (PF ds) with
    | err e => rw [q2] at h; exact False.elim h
    | bad => rw [q2] at h; exact False.elim h
    | ok z =>
      rw [q2] at h
      have e := allD_eq q
      refine ⟨ds, z, e, noE_ok q2, ?_, h⟩
      rw [e] at hp
      have go : ∀ {vs : List V} {ds : List D}, Paired (RepW K G) vs (ds.map W.d) → Reps K G.lv G.H vs ds := by
        intro vs ds
        induction ds generalizing vs with
        | nil => intro h; cases h; exact .nil
        | cons d ds ih =>
          intro h
          cases h with
          | cons a r => exact .cons a (ih r)
      exact go hp
def dataW (n : Nat) (PF : List D → PR D) : GFn := fun γ avs K => match allA avs with
  | some ds => if ds.length = n then (noE (PF ds)).bind fun r => K r [] else .bad
  | none => .bad
where allA : List AV → Option (List D)
  | [] => some []
  | .d x :: r => (allA r).map (x :: ·)
  | _ :: _ => none
theorem allA_args {m : Mem} {J : Nat → List Nat} {rs : List Nat} : ∀ {ws : List W} {avs : List AV} {ds : List D}, ArgsOk m J rs ws avs → dataW.allA avs = some ds → ws = ds.map W.d ∧ mrefs avs = []
  | _, [], ds, .nil, h => by cases h; exact ⟨rfl, rfl⟩
  | _, .d x :: avs, ds, .cons a r, h => by
    simp only [dataW.allA, Option.map_eq_some_iff] at h
    obtain ⟨es, h1, rfl⟩ := h
    obtain ⟨h2, h3⟩ := allA_args r h1
    refine ⟨?_, h3⟩
    rw [List.map_cons, ← h2]
    have : _ = W.d x := a
    rw [this]
  | _, .b _ :: _, _, _, h => by cases h
  | _, .l _ _ :: _, _, _, h => by cases h
  | _, .k _ _ :: _, _, _, h => by cases h
theorem sp_data (n : Nat) (PF : List D → PR D) : SpG (dataF PF) 2 (dataW n PF) := by
  intro γ m ws avs J K hcl hA hn hd nb
  unfold dataW at nb ⊢
  cases q : dataW.allA avs with
  | none => rw [q] at nb; exact absurd rfl nb
  | some ds =>
    rw [q] at nb
    dsimp only at nb ⊢
    obtain ⟨e1, e2⟩ := allA_args hA q
    split at nb
    · rename_i hl
      cases q2 : noE (PF ds) with
      | bad => rw [q2] at nb; exact absurd rfl nb
      | err e =>
        exfalso
        unfold noE at q2
        split at q2
        · cases q2
        · rename_i h1; rw [q2] at h1; exact h1 e rfl
      | ok z =>
        refine .inl ⟨.d z, m, z, [], ?_, fun fr => .inl rfl, ?_, by rw [e2]; rfl, fun u hu => (by cases hu), ⟨rfl, fun j _ => rfl, fun i hi => by rw [e2] at hi; cases hi⟩⟩
        · unfold dataF
          rw [e1, allD_map]
          dsimp only
          rw [q2]
        · rw [if_pos hl]
          rfl
    · exact absurd rfl nb
/-! ### the four rules -/
theorem same_mk {H : Hp} {x d C : Addr} (hx : H x = none) (hd : H d = none) : Same H (upd (upd H d (.own x)) x (.ins C d [])) := fun b o e => by
  rw [upd_ne (ne_of_none e hx), upd_ne (ne_of_none e hd)]
  exact e
theorem same_new {H : Hp} {x : Addr} {o : HO} (hx : H x = none) : Same H (upd H x o) := fun b o e => by
  rw [upd_ne (ne_of_none e hx)]
  exact e
theorem Le.same {K : PySem.W.Frag} {G : Wd} {m : Mem} {H1 : Hp} (R : RelM K G m) (s : Same G.H H1) : Le G ⟨G.io, G.lv, H1⟩ :=
  ⟨R.lt, ⟨[], by simp, fun _ h => nomatch h⟩, fun _ h => .inl h, fun _ h _ => h, fun a o h _ => s a o h, fun a h => by
    cases q : G.H a with
    | none => rfl
    | some o => rw [show (⟨G.io, G.lv, H1⟩ : Wd).H a = some o from s a o q] at h; cases h⟩
theorem RelM.same {K : PySem.W.Frag} {G : Wd} {m : Mem} {H1 : Hp} (R : RelM K G m) (s : Same G.H H1) : RelM K ⟨G.io, G.lv, H1⟩ m := by
  have mo : Mo G.lv G.H G.lv H1 := ⟨fun a o h _ => s a o h, fun _ _ _ h => h⟩
  refine ⟨R.dw, R.len, R.nd, fun a h z => ?_, fun a h z => ?_, fun i a o h1 h2 => ?_⟩
  · cases q : G.H a with
    | none => exact R.lt a h q
    | some o => have := s a o q; rw [show H1 a = none from z] at this; cases this
  · cases q : G.H a with
    | none => exact R.it a h q
    | some o => have := s a o q; rw [show H1 a = none from z] at this; cases this
  · have ob := R.ob i a o h1 h2
    cases o with
    | lst ds => obtain ⟨e1, vs, e2, e3⟩ := ob; exact ⟨e1, vs, s _ _ e2, e3.mono mo⟩
    | fz ds => obtain ⟨e1, vs, e2, e3⟩ := ob; exact ⟨e1, vs, s _ _ e2, e3.mono mo⟩
    | dct kvs =>
      obtain ⟨e1, ks, e2, e3⟩ := ob
      refine ⟨e1, ks, s _ _ e2, Paired.mono (fun _ _ z => ⟨z.1, ?_⟩) e3⟩
      exact z.2.mono (Le.same R s)
    | lsw ws =>
      obtain ⟨e1, vs, e2, e3⟩ := ob
      exact ⟨e1, vs, s _ _ e2, Paired.mono (fun _ _ z => z.mono (Le.same R s)) e3⟩
def SpAll (C1 C2 C3 C4 : Addr) : Sp := fun vs H Q _ => vs = [] ∧ ∀ H' p x1 x2 x3 x4 d1 d2 d3 d4, Same H H' → H p = none → H' p = some (.lst [.ref x1, .ref x2, .ref x3, .ref x4]) → H' x1 = some (.ins C1 d1 []) → H' x2 = some (.ins C2 d2 []) → H' x3 = some (.ins C3 d3 []) → H' x4 = some (.ins C4 d4 []) → Q (.ref p) H'
def madeGo : List (PR D × D) → PR D
  | [] => .ok .none
  | (j, s) :: r => j.bind fun z => match z with
    | .none => madeGo r
    | z => .ok (.tuple [s, z])
def meantGo (sg : D) : List (D × PR D) → PR D
  | [] => .ok .none
  | (s, j) :: r => (eqP false s sg).bind fun b => ptb b fun t => if t = true then j else meantGo sg r
end M

set_option Elab.async false
set_option linter.all false
set_option maxRecDepth 100000
/-! M: judgements under a hypothesis on the slots; an exception caught by name -/
namespace M
open PySem L2
/-- what is known of the slots, and stays so -/
class JMono (J : L2.St → Hp → Prop) : Prop where
  mono : ∀ {K : PySem.W.Frag} {σ : L2.St} {G G' : Wd} {m : Mem}, RelM K G m → Le G G' → J σ G.H → J σ G'.H
def MEJ (X : Cx) (Wx : WX) (J : L2.St → Hp → Prop) (e : Expr) (f : EF) : Prop :=
  ∃ t, PE X e t ∧ ∀ env m σ G Q, RelS X.K G σ env → RelM X.K G m → J σ G.H → GPost X Wx σ G (RepR X.K) (f env m) Q → t σ G.H Q
def MTJ (X : Cx) (Wx : WX) (J : L2.St → Hp → Prop) (e : Expr) (f : TF) : Prop :=
  ∃ t, PT X e t ∧ ∀ env m σ G Q, RelS X.K G σ env → RelM X.K G m → J σ G.H → GPost X Wx σ G relEq (f env m) Q → t σ G.H Q
def MPJ (X : Cx) (Wx : WX) (J : L2.St → Hp → Prop) (e : Expr) (f : TF) : Prop :=
  ∃ t, PW X e t ∧ ∀ env m σ G Q, RelS X.K G σ env → RelM X.K G m → J σ G.H → GPost X Wx σ G relEq (f env m) Q → t σ G.H Q
def withJ (J : L2.St → Hp → Prop) (E : Ends) : Ends := { E with nx := fun σ H => J σ H → E.nx σ H }
def MSJ (X : Cx) (Wx : WX) (J : L2.St → Hp → Prop) (st : Stmt) (f : SF) : Prop :=
  ∃ t, PS X st t ∧ ∀ env m σ G E, RelS X.K G σ env → RelM X.K G m → J σ G.H → SPost X Wx G (f env m) (withJ J E) → t E σ G.H
def MBJ (X : Cx) (Wx : WX) (J : L2.St → Hp → Prop) (st : List Stmt) (f : SF) : Prop :=
  ∃ t, PSs X st t ∧ ∀ env m σ G E, RelS X.K G σ env → RelM X.K G m → J σ G.H → SPost X Wx G (f env m) (withJ J E) → t E σ G.H
section
variable {X : Cx} {Wx : WX} {J : L2.St → Hp → Prop} [JMono J]
theorem ME.j {e : Expr} {f : EF} (h : ME X Wx e f) : MEJ X Wx J e f := let ⟨t, p, q⟩ := h; ⟨t, p, fun env m σ G Q S R _ h => q env m σ G Q S R h⟩
theorem MT.j {e : Expr} {f : TF} (h : MT X Wx e f) : MTJ X Wx J e f := let ⟨t, p, q⟩ := h; ⟨t, p, fun env m σ G Q S R _ h => q env m σ G Q S R h⟩
theorem mej_one {op} {a : Expr} {f : EF} {pos : Pos} (h : MEJ X Wx J a f) : MEJ X Wx J (.BoolOp op [a] pos) f := let ⟨t, p, q⟩ := h; ⟨t, pe_one p, q⟩
theorem mej_and {a b : Expr} {rest : List Expr} {f g : EF} {pos : Pos} (h : MEJ X Wx J a f) (h' : MEJ X Wx J (.BoolOp .And (b :: rest) pos) g) : MEJ X Wx J (.BoolOp .And (a :: b :: rest) pos) (eAnd f g) := by
  obtain ⟨ta, pa, qa⟩ := h
  obtain ⟨tb, pb, qb⟩ := h'
  refine ⟨_, L2.pe_and pa pb, fun env m σ G Q S R j h => ?_⟩
  unfold eAnd tBool at h
  rw [bind_bind] at h
  refine qa env m σ G _ S R j (GPost.bind weakR h fun w m1 v G1 le1 R1 q1 h1 => ?_)
  cases w with
  | d x =>
    cases x with
    | bool c =>
      cases q1
      refine ⟨c, rfl, ?_⟩
      cases c with
      | true => exact iteT (qb env m1 σ G1 Q (S.mono le1) R1 (JMono.mono R le1 j) h1)
      | false => exact iteF (finD R1 h1 (.bl false))
    | _ => exact False.elim h1
  | _ => exact False.elim h1
theorem mej_or {a b : Expr} {rest : List Expr} {f g : EF} {pos : Pos} (h : MEJ X Wx J a f) (h' : MEJ X Wx J (.BoolOp .Or (b :: rest) pos) g) : MEJ X Wx J (.BoolOp .Or (a :: b :: rest) pos) (eOr f g) := by
  obtain ⟨ta, pa, qa⟩ := h
  obtain ⟨tb, pb, qb⟩ := h'
  refine ⟨_, L2.pe_or pa pb, fun env m σ G Q S R j h => ?_⟩
  unfold eOr tBool at h
  rw [bind_bind] at h
  refine qa env m σ G _ S R j (GPost.bind weakR h fun w m1 v G1 le1 R1 q1 h1 => ?_)
  cases w with
  | d x =>
    cases x with
    | bool c =>
      cases q1
      refine ⟨c, rfl, ?_⟩
      cases c with
      | true => exact iteT (finD R1 h1 (.bl true))
      | false => exact iteF (qb env m1 σ G1 Q (S.mono le1) R1 (JMono.mono R le1 j) h1)
    | _ => exact False.elim h1
  | _ => exact False.elim h1
theorem mej_not {a : Expr} {f : EF} {pos : Pos} (h : MEJ X Wx J a f) : MEJ X Wx J (.UnaryOp .Not a pos) (eNot f) := by
  obtain ⟨ta, pa, qa⟩ := h
  refine ⟨_, L2.pe_not pa, fun env m σ G Q S R j h => ?_⟩
  unfold eNot tBool at h
  rw [bind_bind] at h
  refine qa env m σ G _ S R j (GPost.bind weakR h fun w m1 v G1 le1 R1 q1 h1 => ?_)
  cases w with
  | d x =>
    cases x with
    | bool c => cases q1; exact ⟨c, rfl, finD R1 h1 (.bl (!c))⟩
    | _ => exact False.elim h1
  | _ => exact False.elim h1
theorem mtj_tru {a : Expr} {f : EF} (ha : MEJ X Wx J a f) (he : ∀ whole, isTrue a X.env whole = (do let v ← whole; standAt a.pos; holding [v] (truthy v)) := by intro _; rfl) : MTJ X Wx J a (tTru f) := by
  obtain ⟨ta, pa, qa⟩ := ha
  refine ⟨_, pt_truth pa he, fun env m σ G Q S R j h => qa env m σ G _ S R j (GPost.bind weakEq h fun w m1 v G1 le1 R1 q1 h1 => ?_)⟩
  cases e : truW w m1 with
  | none => rw [e] at h1; exact False.elim h1
  | some b => rw [e] at h1; exact ⟨b, truW_ok R1 q1 e, h1 b G1 (Le.refl R1) R1 rfl⟩
theorem MPJ.mt {e : Expr} {f : TF} (h : MPJ X Wx J e f) : MTJ X Wx J e f := let ⟨t, p, q⟩ := h; ⟨t, p.pt, q⟩
theorem mpj_and1 {a : Expr} {f : TF} {pos : Pos} (h : MTJ X Wx J a f) : MPJ X Wx J (.BoolOp .And [a] pos) f := let ⟨t, p, q⟩ := h; ⟨t, pw_and1 p, q⟩
theorem mpj_or1 {a : Expr} {f : TF} {pos : Pos} (h : MTJ X Wx J a f) : MPJ X Wx J (.BoolOp .Or [a] pos) f := let ⟨t, p, q⟩ := h; ⟨t, pw_or1 p, q⟩
theorem mpj_and {a b : Expr} {rest : List Expr} {f g : TF} {pos : Pos} (h : MTJ X Wx J a f) (h' : MPJ X Wx J (.BoolOp .And (b :: rest) pos) g) : MPJ X Wx J (.BoolOp .And (a :: b :: rest) pos) (tAndF f g) := by
  obtain ⟨ta, pa, qa⟩ := h
  obtain ⟨tb, pb, qb⟩ := h'
  refine ⟨_, pw_and pa pb, fun env m σ G Q S R j h => qa env m σ G _ S R j (GPost.bind weakEq h fun b m1 v G1 le1 R1 q1 h1 => ?_)⟩
  rw [show v = b from q1]
  cases b with
  | true => exact iteT (qb env m1 σ G1 Q (S.mono le1) R1 (JMono.mono R le1 j) h1)
  | false => exact iteF (h1 false G1 (Le.refl R1) R1 rfl)
theorem mpj_or {a b : Expr} {rest : List Expr} {f g : TF} {pos : Pos} (h : MTJ X Wx J a f) (h' : MPJ X Wx J (.BoolOp .Or (b :: rest) pos) g) : MPJ X Wx J (.BoolOp .Or (a :: b :: rest) pos) (tOrF f g) := by
  obtain ⟨ta, pa, qa⟩ := h
  obtain ⟨tb, pb, qb⟩ := h'
  refine ⟨_, pw_or pa pb, fun env m σ G Q S R j h => qa env m σ G _ S R j (GPost.bind weakEq h fun b m1 v G1 le1 R1 q1 h1 => ?_)⟩
  rw [show v = b from q1]
  cases b with
  | true => exact iteT (h1 true G1 (Le.refl R1) R1 rfl)
  | false => exact iteF (qb env m1 σ G1 Q (S.mono le1) R1 (JMono.mono R le1 j) h1)
theorem mtj_not {a : Expr} {f : TF} {pos : Pos} (h : MTJ X Wx J a f) : MTJ X Wx J (.UnaryOp .Not a pos) (tNotF f) := by
  obtain ⟨ta, pa, qa⟩ := h
  refine ⟨_, pt_not pa, fun env m σ G Q S R j h => qa env m σ G _ S R j (GPost.bind weakEq h fun b m1 v G1 le1 R1 q1 h1 => ?_)⟩
  rw [show v = b from q1]
  exact h1 (!b) G1 (Le.refl R1) R1 rfl
theorem msj_set (i : Nat) {x : Str} {e : Expr} {f : EF} {pos pos' : Pos} (hN : X.N.Nodup) (hJ : ∀ σ v H, J σ H → J (σ.set i v) H) (he : MEJ X Wx J e f) (hi : X.N[i]? = some x := by rfl) (hx : Loc X.env.scope x := by first | exact .inl rfl | exact .inr rfl) (hs : swapsWith e (some (.Name x pos')) pos.line X.env = pure false := by rfl)
    (hf : X.fn x = true ∨ X.env.scope.names.lookup x = some .local := by first | exact .inl rfl | exact .inr rfl) : MSJ X Wx J (.Assign [.Name x pos'] e pos) (sAsg f (gSet i)) := by
  obtain ⟨t, p, q⟩ := he
  refine ⟨_, ps_set hN hi hx p hs hf, fun env m σ G E S R j h => q env m σ G _ S R j (SPost.ofE h S fun w m1 v G1 le R1 q1 h1 => ?_)⟩
  cases w with
  | fl _ => exact False.elim h1
  | d x => exact h1 (σ.set i (some v)) G1 (Le.refl R1) R1 ((S.mono le).set q1) (hJ _ _ _ (JMono.mono R le j))
  | obj x => exact h1 (σ.set i (some v)) G1 (Le.refl R1) R1 ((S.mono le).set q1) (hJ _ _ _ (JMono.mono R le j))
  | ro x => exact h1 (σ.set i (some v)) G1 (Le.refl R1) R1 ((S.mono le).set q1) (hJ _ _ _ (JMono.mono R le j))
theorem msj_ret {e : Expr} {f : EF} {pos : Pos} (h : MEJ X Wx J e f) : MSJ X Wx J (.Return (some e) pos) (sRet f) := by
  obtain ⟨t, p, q⟩ := h
  exact ⟨_, ps_ret p, fun env m σ G E S R j h => q env m σ G _ S R j (SPost.ofE0 h S fun a m v G1 le R1 q1 h1 => h1 v G1 le R1 q1)⟩
theorem mbj_nil : MBJ X Wx J [] sNx := ⟨_, pss_nil, fun env m σ G E S R j h => h σ G (Le.refl R) R S j⟩
theorem mbj_one {st : Stmt} {f : SF} (h : MSJ X Wx J st f) : MBJ X Wx J [st] f := let ⟨t, p, q⟩ := h; ⟨t, pss_one p, q⟩
theorem mbj_cons {st : Stmt} {rest : List Stmt} {f g : SF} (h : MSJ X Wx J st f) (h' : MBJ X Wx J rest g) : MBJ X Wx J (st :: rest) (sSeq f g) := by
  obtain ⟨ta, pa, qa⟩ := h
  obtain ⟨tb, pb, qb⟩ := h'
  refine ⟨_, pss_cons pa pb, fun env m σ G E S R j h => qa env m σ G _ S R j ?_⟩
  unfold sSeq at h
  cases e : f env m with
  | nx e1 m1 => rw [e] at h; exact fun σ' G' le R' S' j' => qb e1 m1 σ' G' E S' R' j' (SPost.later h le)
  | bk e1 m1 => rw [e] at h; exact h
  | ct e1 m1 => rw [e] at h; exact h
  | rt w m1 => rw [e] at h; exact h
  | err x e1 m1 => rw [e] at h; exact h
  | bad => rw [e] at h; exact h
theorem msj_if {c : Expr} {a b : List Stmt} {fc : TF} {fa fb : SF} {pos : Pos} (hc : MTJ X Wx J c fc) (ha : MBJ X Wx J a fa) (hb : MBJ X Wx J b fb) : MSJ X Wx J (.If c a b pos) (sIf fc fa fb) := by
  obtain ⟨tc, pc, qc⟩ := hc
  obtain ⟨ta, pa, qa⟩ := ha
  obtain ⟨tb, pb, qb⟩ := hb
  refine ⟨_, ps_if pc pa pb, fun env m σ G E S R j h => qc env m σ G _ S R j (SPost.ofE h S fun k m1 v G1 le R1 q1 h1 => ?_)⟩
  rw [show v = k from q1]
  cases k with
  | true => exact iteT (qa env m1 σ G1 E (S.mono le) R1 (JMono.mono R le j) h1)
  | false => exact iteF (qb env m1 σ G1 E (S.mono le) R1 (JMono.mono R le j) h1)
end
/-! ### an exception held by a slot: isinstance -/
abbrev Hd (i : Nat) (a : Addr) : L2.St → Hp → Prop := fun σ _ => σ[i]? = some (some (.ref a))
instance {i : Nat} {a : Addr} : JMono (Hd i a) := ⟨fun _ _ h => h⟩
theorem Hd.set {i k : Nat} {a : Addr} (h : k ≠ i) : ∀ (σ : L2.St) (v : Option V) (H : Hp), Hd i a σ H → Hd i a (σ.set k v) H := fun σ v H hh => by
  show (σ.set k v)[i]? = _
  rw [List.getElem?_set_ne h]
  exact hh
/-- what is told of a class for isinstance -/
def eTab (tab : Str → Option Bool) (e : Exn) : EF := fun _ m => match e.fs with
  | [] => (match tab e.cls with
    | some b => .ok (.d (.bool b)) m
    | none => .bad)
  | _ => .bad
/-- the names of classes -/
structure PCl (X : Cx) (es : List Expr) (us : List Value) : Prop where
  ex : ∃ ta cs, PA X es ta ∧ Paired ClsV cs us ∧ ∀ σ H (Q : List V → Hp → Prop), Q cs H → ta σ H Q
theorem pcl_nil {X : Cx} : PCl X [] [] := ⟨_, [], pa_nil, .nil, fun _ _ _ h => h⟩
theorem pcl_own {X : Cx} {x : Str} {C : Addr} {p : Pos} {es : List Expr} {us : List Value} (hg : Gl X x) (hm : X.mg x = some (.ref C)) (h : PCl X es us) (hd : (x == ("__debug__" : Str)) = false := by decide) (hs : starEach (.Name x p :: es) X.env = (false, eval (.Name x p) X.env) :: starEach es X.env := by rfl) : PCl X (.Name x p :: es) (.ref C :: us) := by
  obtain ⟨ta, cs, pa, pc, q⟩ := h.ex
  exact ⟨_, .ref C :: cs, pa_cons (pe_glob (v := .ref C) hg hm rfl hd) pa hs, .cons (.own C) pc, fun σ H Q h => q σ H _ h⟩
theorem pcl_ty {X : Cx} {x : Str} {T : String} {p : Pos} {es : List Expr} {us : List Value} (hg : Gl X x) (hm : X.mg x = none) (h : PCl X es us) (hv : bootBuiltins x = some (.type T) := by decide +kernel) (hn : x ≠ "__name__" := by decide) (hd : (x == ("__debug__" : Str)) = false := by decide) (hs : starEach (.Name x p :: es) X.env = (false, eval (.Name x p) X.env) :: starEach es X.env := by rfl) : PCl X (.Name x p :: es) (.type T :: us) := by
  obtain ⟨ta, cs, pa, pc, q⟩ := h.ex
  exact ⟨_, .ty T :: cs, pa_cons (pe_bltn (v := .ty T) hg hm hv rfl hn hd) pa hs, .cons (.ty T) pc, fun σ H Q h => q σ H _ h⟩
/-- a table of classes: each one's answer among some classes -/
inductive TabI (K : PySem.W.Frag) (mg : Str → Option Value) (us : List Value) : List (Str × Bool) → Prop
  | nil : TabI K mg us []
  | cons {n : Str} {b : Bool} {D : Addr} {l : List (Str × Bool)} : mg n = some (.ref D) → ExcC K D → PySem.W.kitAny K (.ref D) us = some b → TabI K mg us l → TabI K mg us ((n, b) :: l)
theorem tab_is {K : PySem.W.Frag} {mg : Str → Option Value} {us : List Value} : ∀ {l : List (Str × Bool)}, TabI K mg us l → ∀ n b cls, tabOf l n = some b → mg n = some cls → ∃ D, cls = .ref D ∧ ExcC K D ∧ PySem.W.kitAny K (.ref D) us = some b
  | _, .nil, n, b, cls, h, _ => by cases h
  | _, .cons (n := n') (b := b') g c e t, n, b, cls, h, hm => by
    unfold tabOf at h
    by_cases q : n = n'
    · rw [if_pos q] at h
      cases h
      rw [q, g] at hm
      cases hm
      exact ⟨_, rfl, c, e⟩
    · rw [if_neg q] at h
      exact tab_is t n b cls h hm
theorem kitAny_one {K : PySem.W.Frag} {t u : Value} {b : Bool} (h : PySem.W.kitAny K t [u] = some b) : PySem.W.kitOne K t u = some b := by
  unfold PySem.W.kitAny at h
  cases q : PySem.W.kitOne K t u with
  | none => rw [q] at h; cases h
  | some c =>
    rw [q] at h
    cases c with
    | true => cases h; rfl
    | false => unfold PySem.W.kitAny at h; cases h; rfl
theorem pe_nev {X : Cx} {e : Expr} : PE X e (fun _ _ _ => False) := ⟨fun _ _ _ _ _ _ h => h.elim⟩
section
variable {X : Cx} {a : Addr} {oe : Obj} {pn : List (Addr × Obj)} {cls : Value} {d : Option Addr}
/-- the pinned exception's object -/
theorem at_pin {pins : List (Addr × Obj)} {σ : L2.St} {H : Hp} {s : Shared} (I : Inv (X.suite a ((a, oe) :: pn)) pins σ H s) : s.heap.get? a = some oe := (I.pin (a, oe) (List.mem_append.mpr (.inl List.mem_cons_self))).1
theorem call_isET {D : Addr} (C : ExcC X.K D) (hz : Zc (.ref D) none oe) (hf : ∃ vs, oe.data = .fields vs) : CallR (X.suite a ((a, oe) :: pn)) (.builtin "isinstance")
    (fun xs H Q => ∃ (tp : Addr) (cs : List V) (us : List Value) (b : Bool), xs = [.ref a, .ref tp] ∧ H tp = some (.tup cs) ∧ Paired ClsV cs us ∧ PySem.W.kitAny X.K (.ref D) us = some b ∧ Q (.bl b) H) := by
  intro pins s σ H xs vs Q I r h
  obtain ⟨tp, cs, us, b, rfl, hT, pc, e, q⟩ := h
  cases r with
  | cons r1 rr =>
    cases rr with
    | cons r2 rr =>
      cases rr
      cases r1
      cases r2
      have hget := at_pin I
      obtain ⟨fv, hv⟩ := hf
      have J : PySem.W.InstAt s.heap a oe D none := ⟨hget, hz.1, by unfold PySem.W.notCls; rw [hv], by rw [hz.2]; trivial⟩
      obtain ⟨_, its, rv, o, g1, g2, n, g3⟩ := (show ObjOk X.prog X.w H s.heap tp (.tup cs) from I.hok tp _ hT)
      have eu := ClsV.all pc rv
      subst eu
      have g4 : s.heap.get? tp = some ⟨.type "tuple", o.dict, .seq its.toArray n, o.slots⟩ := by
        rw [g1]
        cases o
        simp only at g2 g3
        rw [g2, g3]
      exact PySem.W.kia_tup (PySem.W.handS_kitx_exc C.hg C.hk C.hs C.hd C.ha C.hn C.ht C.hm) I.kIn J g4 e (by intro z; cases z) fun tk => ⟨.bl b, H, I.kept (t' := tk) fun _ _ z => z, rfl, q⟩
variable {i : Nat} {n : Str} {p p1 p2 p3 pos : Pos} {e : Exn}
/-- isinstance(e, C) -/
theorem mej_is1 {x : Expr} {u : Value} {l : List (Str × Bool)} (hg : Gl X "isinstance") (hm : X.mg "isinstance" = none) (hN : X.N[i]? = some n) (hv : Vis X.env.scope n) (hc : PCl (X.suite a ((a, oe) :: pn)) [x] [u]) (ht : TabI X.K X.mg [u] l) (hz : Zc cls d oe) (hf : ∃ vs, oe.data = .fields vs) (hd : e.fs = [] → d = none) (hm2 : X.mg e.cls = some cls)
    (hdb : (n == ("__debug__" : Str)) = false := by decide) (hcd : (n == ("__classdict__" : Str)) = false := by decide) (h1 : starEach [.Name n p1, x] X.env = (false, eval (.Name n p1) X.env) :: starEach [x] X.env := by rfl) (hpl : (backTo pos (starEach [x] X.env)).any (·.1) = false := by rfl) :
    MEJ (X.suite a ((a, oe) :: pn)) WF (Hd i a) (.Call (.Name "isinstance" p) [.Name n p1, x] [] pos) (eTab (tabOf l) e) := by
  obtain ⟨ta, cs, pa, pc, q⟩ := hc.ex
  by_cases hfs : e.fs = []
  · cases htb : tabOf l e.cls with
    | none =>
      refine ⟨_, pe_nev, fun env m σ G Q S R j h => ?_⟩
      unfold eTab at h
      rw [hfs, htb] at h
      exact h
    | some b =>
      obtain ⟨D, rfl, C, hk⟩ := tab_is ht _ b _ htb hm2
      have hdn := hd hfs
      subst hdn
      refine ⟨_, pe_callB (call_isE C hz hf) hg hm (by decide +kernel) (pa_cons (pe_var hN hv hdb hcd) pa h1) (by decide) (by decide) h1 hpl, fun env m σ G Q S R j h => ?_⟩
      unfold eTab at h
      rw [hfs, htb] at h
      refine ⟨_, j, q σ G.H _ ?_⟩
      cases pc with
      | cons k1 kr =>
        cases kr
        exact ⟨_, u, b, rfl, fun w r => k1.eq r, kitAny_one hk, finD R h (.bl b)⟩
  · refine ⟨_, pe_nev, fun env m σ G Q S R j h => ?_⟩
    unfold eTab at h
    cases q2 : e.fs with
    | nil => exact absurd q2 hfs
    | cons y ys => rw [q2] at h; exact h
/-- isinstance(e, (C1, C2, ..)) -/
theorem mej_isT {es : List Expr} {us : List Value} {l : List (Str × Bool)} {k : Nat} (hg : Gl X "isinstance") (hm : X.mg "isinstance" = none) (hN : X.N[i]? = some n) (hv : Vis X.env.scope n) (hc : PCl (X.suite a ((a, oe) :: pn)) es us) (hl : us.length ≤ 1000) (ht : TabI X.K X.mg us l) (hz : Zc cls d oe) (hf : ∃ vs, oe.data = .fields vs) (hd : e.fs = [] → d = none) (hm2 : X.mg e.cls = some cls)
    (hdb : (n == ("__debug__" : Str)) = false := by decide) (hcd : (n == ("__classdict__" : Str)) = false := by decide) (h1 : starEach [.Name n p1, .Tuple es k p2] X.env = (false, eval (.Name n p1) X.env) :: starEach [.Tuple es k p2] X.env := by rfl) (hpl : (backTo pos (starEach [.Tuple es k p2] X.env)).any (·.1) = false := by rfl)
    (h2 : starEach [.Tuple es k p2] X.env = (false, eval (.Tuple es k p2) X.env) :: starEach [] X.env := by rfl) :
    MEJ (X.suite a ((a, oe) :: pn)) WF (Hd i a) (.Call (.Name "isinstance" p) [.Name n p1, .Tuple es k p2] [] pos) (eTab (tabOf l) e) := by
  obtain ⟨ta, cs, pa, pc, q⟩ := hc.ex
  by_cases hfs : e.fs = []
  · cases htb : tabOf l e.cls with
    | none =>
      refine ⟨_, pe_nev, fun env m σ G Q S R j h => ?_⟩
      unfold eTab at h
      rw [hfs, htb] at h
      exact h
    | some b =>
      obtain ⟨D, rfl, C, hk⟩ := tab_is ht _ b _ htb hm2
      have hdn := hd hfs
      subst hdn
      refine ⟨_, pe_callB (call_isET C hz hf) hg hm (by decide +kernel) (pa_cons (pe_var hN hv hdb hcd) (pa_cons (pe_tup pa) pa_nil h2) h1) (by decide) (by decide) h1 hpl, fun env m σ G Q S R j h => ?_⟩
      unfold eTab at h
      rw [hfs, htb] at h
      refine ⟨_, j, q σ G.H _ ⟨by rw [Paired.length pc, sizeLine_eq]; omega, fun tp htp => ?_⟩⟩
      refine ⟨tp, cs, us, b, rfl, upd_same, pc, hk, ?_⟩
      exact h (.bl b) _ (Le.new R htp) (R.new htp) (.bl b)
  · refine ⟨_, pe_nev, fun env m σ G Q S R j h => ?_⟩
    unfold eTab at h
    cases q2 : e.fs with
    | nil => exact absurd q2 hfs
    | cons y ys => rw [q2] at h; exact h
end
/-! ### try .. except C as e -/
def unS (i : Nat) : SRes → SRes
  | .nx env m => .nx (env.set i none) m
  | .bk env m => .bk (env.set i none) m
  | .ct env m => .ct (env.set i none) m
  | r => r
def sTryAs (i : Nat) (tab : Str → Option Bool) (fb : SF) (fs : Exn → SF) (env : Env) (m : Mem) : SRes := match fb env m with
  | .err e env' m' => (match tab e.cls with
    | some true => unS i (noErrS (fs e (env'.set i none) m'))
    | some false => .err e env' m'
    | none => .bad)
  | r => r
theorem RelS.setN {K : PySem.W.Frag} {G : Wd} {σ : L2.St} {env : Env} (S : RelS K G σ env) (i : Nat) (v : Option V) : RelS K G (σ.set i v) (env.set i none) := by
  refine ⟨by rw [List.length_set, List.length_set]; exact S.len, fun j w e => ?_⟩
  by_cases hj : i = j
  · subst hj
    by_cases hl : i < env.length
    · rw [List.getElem?_set_self hl] at e
      cases e
    · rw [List.getElem?_eq_none (by rw [List.length_set]; omega)] at e
      cases e
  · rw [List.getElem?_set_ne hj] at e
    obtain ⟨u, h1, h2⟩ := S.get j w e
    exact ⟨u, by rw [List.getElem?_set_ne hj]; exact h1, h2⟩
section
variable {X : Cx} {Wx : WX}
/-- what a suite that knows its exception is handed -/
def cA (X : Cx) (i : Nat) (fs : Exn → SF) (a : Addr) (cls : Value) (d : Option Addr) : TS := fun E σ H => ∃ env m G e, G.H = H ∧ RelS X.K G σ env ∧ RelM X.K G m ∧ (∃ τ : L2.St, σ = τ.set i (some (.ref a))) ∧ (Exn.fs e = [] → d = none) ∧ X.mg (Exn.cls e) = some cls ∧ SPost X WF G (fs e env m) E
theorem ms_tryAs {i : Nat} {x n : Str} {c : Value} {body suite : List Stmt} {b₀ : Stmt} {np pos pos' : Pos} {tab : Str → Option Bool} {fb : SF} {fs : Exn → SF} (hs : X.stack = X.env :: X.outer) (hf : X.env.frame = some X.env.locals) (hN : X.N.Nodup) (hi : X.N[i]? = some n) (hln : X.env.kindOf n = some .local) (hc : Names X x c) (tk : Takes X Wx)
    (htab : ∀ n b cls, tab n = some b → X.mg n = some cls → PySem.W.exmOne X.K cls c = some b)
    (hb : ∀ (W : WX) (pn : List (Addr × Obj)) (xe : Value → Shared → Prop), Takes (X.tr pn xe) W → PassesOwn (model X.prog X.w) X.A X.env xe → MB (X.tr pn xe) W body fb)
    (hsu : ∀ (a : Addr) (oe : Obj) (cls : Value) (d : Option Addr) (pn : List (Addr × Obj)) (e : Exn), Zc cls d oe → (∃ vs, oe.data = .fields vs) → (e.fs = [] → d = none) → X.mg e.cls = some cls → MBJ (X.suite a ((a, oe) :: pn)) WF (Hd i a) (b₀ :: suite) (fs e)) :
    MS X Wx (.Try body [.ExceptHandler (some (.Name x np)) (some n) (b₀ :: suite) pos'] [] [] pos) (sTryAs i tab fb fs) := by
  have hpss : ∀ (a : Addr) (oe : Obj) (cls : Value) (d : Option Addr) (pn : List (Addr × Obj)), Zc cls d oe → (∃ vs, oe.data = .fields vs) → PSs (X.suite a ((a, oe) :: pn)) (b₀ :: suite) (cA X i fs a cls d) := fun a oe cls d pn hz hv => by
    refine ⟨fun pins s σ H D I ⟨env, m, G, e, eH, S, R, ⟨τ, ej⟩, h1, h2, h⟩ => ?_⟩
    have j : Hd i a σ G.H := by
      have hl : i < σ.length := by rw [I.len]; exact (List.getElem?_eq_some_iff.mp hi).1
      rw [ej, List.length_set] at hl
      rw [ej]
      exact List.getElem?_set_self hl
    obtain ⟨t, p, q⟩ := hsu a oe cls d pn e hz hv h1 h2
    subst eH
    refine p.run pins s σ G.H D I (q env m σ G D S R j ?_)
    cases r : fs e env m with
    | nx e2 m2 => rw [r] at h; exact fun σ' G' l R' S' _ => h σ' G' l R' S'
    | bk e2 m2 => rw [r] at h; exact h
    | ct e2 m2 => rw [r] at h; exact h
    | rt w2 m2 => rw [r] at h; exact h
    | err e2 v2 m2 => rw [r] at h; exact h
    | bad => rw [r] at h; exact h
  refine ⟨_, ps_try_as (i := i) (tb := fun W => cB X W fb) (ts := cA X i fs) hs hf hN hi hln hc tk (fun W pn xe tk' po => (hb W pn xe tk' po).pss) hpss, fun env m σ G E S R h => ?_⟩
  refine ⟨env, m, G, rfl, S, R, ?_⟩
  unfold sTryAs at h
  cases q : fb env m with
  | nx e m1 => rw [q] at h; exact h
  | bk e m1 => rw [q] at h; exact h
  | ct e m1 => rw [q] at h; exact h
  | rt w m1 => rw [q] at h; exact h
  | bad => rw [q] at h; exact h
  | err e env' m1 =>
    rw [q] at h
    dsimp only at h
    intro c' d σ' G' le R' S' ex
    cases t : tab e.cls with
    | none => rw [t] at h; exact False.elim h
    | some b =>
      rw [t] at h
      refine ⟨b, htab _ b c' t ex.1, fun hb a ha => ?_, fun hb => ?_⟩
      · subst hb
        dsimp only at h
        refine ⟨env'.set i none, m1, G', e, rfl, S'.setN i _, R', ⟨_, rfl⟩, fun hz => ?_, ex.1, ?_⟩
        · rcases ex.2 with z | ⟨dd, fs, z0, _⟩
          · exact z.2
          · exact absurd hz z0
        cases r : fs e (env'.set i none) m1 with
        | nx e2 m2 =>
          rw [r] at h
          exact fun σ2 G2 l2 R2 S2 => h (σ2.set i none) G2 (le.trans l2) R2 (S2.setN i none)
        | bk e2 m2 =>
          rw [r] at h
          exact fun σ2 G2 l2 R2 S2 => h (σ2.set i none) G2 (le.trans l2) R2 (S2.setN i none)
        | ct e2 m2 =>
          rw [r] at h
          exact fun σ2 G2 l2 R2 S2 => h (σ2.set i none) G2 (le.trans l2) R2 (S2.setN i none)
        | rt w2 m2 => rw [r] at h; exact SPost.later (X := X) (Wx := WF) (r := .rt w2 m2) h le
        | err e2 v2 m2 => rw [r] at h; exact False.elim h
        | bad => rw [r] at h; exact False.elim h
      · subst hb
        exact h c' d σ' G' le R' S' ex
end
end M

set_option Elab.async false
set_option linter.all false
set_option maxRecDepth 100000
/-! P: an exception caught by name -/
namespace M
open PySem L2
/-! ### text * int -/
def repOk (z : Str) (n : Int) : Prop := -1000000 ≤ n ∧ n ≤ 1000000 ∧ z.length * n.toNat ≤ 1000000
theorem repOk.mul {z : Str} {n : Int} (h : repOk z n) : MulOk z n := by
  obtain ⟨h1, h2, h3⟩ := h
  refine ⟨by simp; omega, fun a b => ?_, fun a b => ?_⟩
  · have hn : 0 < n := by omega
    have hz : z.length ≤ 1000000 := by
      have : 1 ≤ n.toNat := by omega
      have := Nat.le_mul_of_pos_right z.length (show 0 < n.toNat by omega)
      omega
    have : (1000000 : Int) ≤ (2 ^ 63 - 1) / n := by
      rw [Int.le_ediv_iff_mul_le hn]
      omega
    omega
  · show decide (z.length * n.toNat > sizeLine) = false
    exact decide_eq_false (by rw [sizeLine_eq]; omega)
theorem op_repS {X : Cx} : OpR X (binaryOp .Mult) (fun x y H Q => ∃ z n, x = .str z ∧ y = .int n ∧ repOk z n ∧ Q (.str (Txt.mul z n)) H) := by
  intro pins s σ H x y v u Q I rx ry h
  obtain ⟨z, n, rfl, rfl, hz, q⟩ := h
  obtain ⟨t, rfl⟩ := rx
  obtain ⟨t', rfl⟩ := ry
  exact SB.mul hz.mul fun t' k => ⟨.str (Txt.mul z n), H, I.tok _, ⟨_, rfl⟩, q⟩
noncomputable def repSW (x y : W) (m : Mem) : Res W := match x, y with
  | .d (.str z), .d (.int n) => if grd (repOk z n) = true then .ok (.d (.str (Txt.mul z n))) m else .bad
  | _, _ => .bad
theorem repSW_ok {X : Cx} {Wx : WX} : OpOk X Wx (fun x y H Q => ∃ z n, x = .str z ∧ y = .int n ∧ repOk z n ∧ Q (.str (Txt.mul z n)) H) repSW := by
  intro σ G m v u x y H0 H1 Q R rx ry h
  unfold repSW at h
  split at h
  · cases rx
    cases ry
    rename_i z n
    by_cases hg : grd (repOk z n) = true
    · rw [if_pos hg] at h
      exact ⟨z, n, rfl, rfl, grd_iff.mp hg, finD R h (.str _)⟩
    · rw [if_neg hg] at h
      exact False.elim h
  · exact False.elim h
noncomputable def repSP (x y : D) : PR D := match x, y with
  | .str z, .int n => if grd (repOk z n) = true then .ok (.str (Txt.mul z n)) else .bad
  | _, _ => .bad
theorem repSP_ok : OpP 3 0 repSW repSP := by
  intro m w1 w2 x y h1 h2
  unfold repSP
  split
  · rename_i z n
    rw [see_flat h1 (by intro ds e; cases e), see_flat h2 (by intro ds e; cases e)]
    unfold repSW
    dsimp only
    split
    · exact out_d
    · trivial
  · trivial
theorem mul_S (l : List Nat) (n : Nat) : Txt.mul (S l) (n : Int) = S (List.replicate n l).flatten := by
  unfold Txt.mul
  split
  · have : n = 0 := by omega
    subst this
    rfl
  · split
    · rename_i h1 h2
      rw [Bool.or_eq_true] at h2
      rcases h2 with h2 | h2
      · have : n = 1 := by
          have := beq_iff_eq.mp h2
          omega
        subst this
        simp
      · have : l = [] := by
          have := beq_iff_eq.mp h2
          exact List.length_eq_zero_iff.mp this
        subst this
        have : ∀ k : Nat, (List.replicate k ([] : List Nat)).flatten = [] := by
          intro k
          induction k with
          | zero => rfl
          | succ k ih => rw [List.replicate_succ, List.flatten_cons, ih]; rfl
        rw [this]
    · rw [Int.toNat_natCast]
      have : ∀ (k : Nat) (acc : Array Nat), (List.replicate k (S l).cps).foldl (· ++ ·) acc = (acc.toList ++ (List.replicate k l).flatten).toArray := by
        intro k
        induction k with
        | zero => intro acc; simp
        | succ k ih =>
          intro acc
          rw [List.replicate_succ, List.foldl_cons, ih, List.replicate_succ, List.flatten_cons]
          simp [S]
      rw [this]
      simp [S]
theorem repSP_s {l : List Nat} {n : Nat} (h : n ≤ 1000000) (h' : l.length * n ≤ 1000000) : repSP (.str (S l)) (.int (n : Int)) = .ok (.str (S (List.replicate n l).flatten)) := by
  show (if grd (repOk (S l) n) = true then _ else _) = _
  rw [if_pos (grd_t ⟨by omega, by omega, by rw [Int.toNat_natCast]; exact h'⟩), mul_S]
noncomputable section
def gTab (tab : Str → Option Bool) (e : Exn) : GEx := fun γ ρ K => match e.fs with
  | [] => (match tab e.cls with
    | some b => K (.v (.bool b)) ρ
    | none => .bad)
  | _ => .bad
theorem re_tab {ms : List Bool} (tab : Str → Option Bool) (e : Exn) : RE 0 ms (eTab tab e) (gTab tab e) := by
  intro γ fr ρ env m K R nb
  unfold gTab at nb ⊢
  unfold eTab
  cases q : e.fs with
  | cons y ys => rw [q] at nb; exact absurd rfl nb
  | nil =>
    rw [q] at nb
    dsimp only at nb ⊢
    cases t : tab e.cls with
    | none => rw [t] at nb; exact absurd rfl nb
    | some b =>
      rw [t] at nb
      exact EPost.ok (v := .v (.bool b)) R rfl rfl
/-- at the pure level: by the exception -/
def ptab {γ : Type} (tab : Str → Option Bool) (e : Exn) (k : D → PR γ) : PR γ := match e.fs with
  | [] => (match tab e.cls with
    | some b => k (.bool b)
    | none => .bad)
  | _ => .bad
def tryKE {σ γ : Type} (tab : Str → Option Bool) (b : PR (TO σ)) (h : Exn → PR (TO σ)) (k : TO σ → PR γ) : PR γ := match b with
  | .ok o => k o
  | .err e => (match tab e.cls with
    | some true => lcN (h e) k
    | some false => .err e
    | none => .bad)
  | .bad => .bad
@[simp] theorem tryKE_ok {σ γ : Type} (tab : Str → Option Bool) (o : TO σ) (h : Exn → PR (TO σ)) (k : TO σ → PR γ) : tryKE tab (.ok o) h k = k o := rfl
theorem tryKE_err {σ γ : Type} {tab : Str → Option Bool} {e : Exn} (ht : tab e.cls = some true) (h : Exn → PR (TO σ)) (k : TO σ → PR γ) : tryKE tab (.err e) h k = lcN (h e) k := by
  show (match tab e.cls with | some true => lcN (h e) k | some false => .err e | none => .bad) = _
  rw [ht]
theorem put_get : ∀ (ds : List (Nat × Kd)) (ρ : List PV) (s : St ds) (i : Nat), (ds.all fun p => p.1 != i) = true → (put ds ρ s)[i]? = ρ[i]?
  | [], ρ, s, i, _ => rfl
  | (k, .d) :: r, ρ, s, i, h => by
    simp only [List.all_cons, Bool.and_eq_true, bne_iff_ne] at h
    rw [put, put_get r _ _ i h.2, List.getElem?_set_ne h.1]
  | (k, .l p) :: r, ρ, s, i, h => by
    simp only [List.all_cons, Bool.and_eq_true, bne_iff_ne] at h
    rw [put, put_get r _ _ i h.2, List.getElem?_set_ne h.1]
  | (k, .k p) :: r, ρ, s, i, h => by
    simp only [List.all_cons, Bool.and_eq_true, bne_iff_ne] at h
    rw [put, put_get r _ _ i h.2, List.getElem?_set_ne h.1]
  | (k, .m) :: r, ρ, s, i, h => by
    simp only [List.all_cons, Bool.and_eq_true, bne_iff_ne] at h
    rw [put, put_get r _ _ i h.2, List.getElem?_set_ne h.1]
section
variable {sr : Nat} {ms : List Bool}
def gsTryAs (tab : Str → Option Bool) (ds : List (Nat × Kd)) (mb : List Bool) (b : GSx) (h : Exn → GSx) : GSx := fun γ ρ kn kb kc kr =>
  tryKE tab (runT ds b ρ) (fun e => runT ds (h e) (wip mb ρ)) fun o => toK o (fun s => kn (put ds (wip mb ρ) s)) (fun x s => kr (.v x) (put ds (wip mb ρ) s))
/-- an unknown slot may be emptied -/
theorem Rel.drop1 {fr : Fr} {ρ : List PV} {env : Env} {m : Mem} (R : Rel fr ρ env m) (i : Nat) (h : ∀ v, ρ[i]? = some v → v = PV.x) : Rel fr ρ (env.set i none) m := by
  refine R.sub rfl (by simp) fun k v hv => ?_
  by_cases hk : i = k
  · subst hk
    exact .inl (h v hv)
  · exact .inr ⟨hv, List.getElem?_set_ne hk⟩
theorem wip_x {mb : List Bool} {ρ : List PV} {i : Nat} (h : isM mb i = true) : ∀ v, (wip mb ρ)[i]? = some v → v = PV.x := fun v hv => by
  rw [wip_get, if_pos h] at hv
  cases q : ρ[i]? with
  | none => rw [q] at hv; cases hv
  | some u => rw [q] at hv; exact (Option.some.inj hv).symm
theorem rs_tryAs {i : Nat} {tab : Str → Option Bool} {ds : List (Nat × Kd)} {mb : List Bool} {fb : SF} {fs : Exn → SF} {gb : GSx} {gh : Exn → GSx} (hb : RS sr mb fb gb) (hh : ∀ e, RS sr mb (fs e) (gh e)) (hi : isM mb i = true := by rfl) (hni : (ds.all fun p => p.1 != i) = true := by rfl) (hd : inM mb ds = true := by rfl) (hs : subM mb ms = true := by rfl) : RS sr ms (sTryAs i tab fb fs) (gsTryAs tab ds mb gb gh) := by
  intro γ fr ρ env m kn kb kc kr R nb
  have e0 : gsTryAs tab ds mb gb gh γ ρ kn kb kc kr = tryKE tab (runT ds gb ρ) (fun e => runT ds (gh e) (wip mb ρ)) fun o => toK o (fun s => kn (put ds (wip mb ρ) s)) (fun x s => kr (.v x) (put ds (wip mb ρ) s)) := rfl
  rw [e0] at nb ⊢
  have nb1 : runT ds gb ρ ≠ .bad := fun z => nb (by rw [z]; rfl)
  have px : ∀ s v, (put ds (wip mb ρ) s)[i]? = some v → v = PV.x := fun s v hv => by
    rw [put_get ds _ s i hni] at hv
    exact wip_x hi v hv
  unfold sTryAs
  rcases runT_ok hb hd R (Ag.refl _ _) nb1 with ⟨s, e1, m1, r1, r2, r3, r4⟩ | ⟨x, s, w, e1, m1, r1, r2, r3, r4⟩ | ⟨e, e1, m1, r1, r2, r3, r4⟩
  · rw [r1, r2, tryKE_ok, toK_nx]
    exact .nx e1 m1 _ r3 rfl ((shape_ag hd s).sub hs) (r4.sub hs)
  · rw [r1, r2, tryKE_ok, toK_rt]
    exact .rt w m1 (.v x) _ e1 r3 r4 rfl ((shape_ag hd s).sub hs)
  · rw [r1] at nb ⊢
    rw [r2]
    dsimp only
    cases t : tab e.cls with
    | none =>
      exfalso
      refine nb ?_
      show (match tab e.cls with | some true => lcN _ _ | some false => PR.err e | none => .bad) = _
      rw [t]
    | some b =>
      cases b with
      | false =>
        have ez : (tryKE tab (.err e) (fun e => runT ds (gh e) (wip mb ρ)) fun o => toK o (fun s => kn (put ds (wip mb ρ) s)) (fun x s => kr (.v x) (put ds (wip mb ρ) s))) = .err e := by
          show (match tab e.cls with | some true => lcN _ _ | some false => PR.err e | none => .bad) = _
          rw [t]
        rw [ez]
        exact .err e e1 m1 (wip_sub hs r3) rfl (r4.sub hs)
      | true =>
        rw [tryKE_err t] at nb ⊢
        have nb2 : runT ds (gh e) (wip mb ρ) ≠ .bad := fun z => nb (by rw [z]; rfl)
        have r3' : Rel fr (wip mb ρ) (e1.set i none) m1 := Rel.drop1 r3 i (wip_x hi)
        dsimp only
        rcases runT_ok (hh e) hd r3' (wip_wip mb ρ) nb2 with ⟨s, e2, m2, q1, q2, q3, q4⟩ | ⟨x, s, w, e2, m2, q1, q2, q3, q4⟩ | ⟨e', e2, m2, q1, q2, q3, q4⟩
        · rw [q1, q2, lcN_ok, toK_nx]
          exact .nx (e2.set i none) m2 _ (Rel.drop1 q3 i (px s)) rfl ((shape_ag hd s).sub hs) (((r4.trans (AgE.set hi)).trans (q4.trans (AgE.set hi))).sub hs)
        · rw [q1, q2, lcN_ok, toK_rt]
          exact .rt w m2 (.v x) _ e2 q3 q4 rfl ((shape_ag hd s).sub hs)
        · rw [q1] at nb
          exact absurd rfl nb
end
end
end M

set_option Elab.async false
set_option linter.all false
set_option maxRecDepth 100000
/-! M: an exception caught by name and kept in another slot, for what stands behind the try -/
namespace M
open PySem L2
/-- what stands behind, once the try has ended with `f` -/
def Behind (X : Cx) (pins : List (Addr × Obj)) (rest : List Stmt) (D : Ends) (f : Flow) (s : Shared) : Prop := match f with
  | .next => wpAny (model X.prog X.w) X.A (execs rest X.env) (SP X pins D) X.xe s
  | f => SP X pins D f s
/-- what is wished of an exception of the body: slot i is the clause's name, slot k keeps it -/
def wOn (K : PySem.W.Frag) (c : Value) (i k : Nat) (tx : Addr → Value → Option Addr → TS) (Wout : WX) (D : Ends) : WX := fun cls d σ H =>
  ∃ b, PySem.W.exmOne K cls c = some b ∧ (b = false → Wout cls d σ H) ∧ (b = true → ∀ a, H a = none → tx a cls d D (((σ.set i (some (.ref a))).set k (some (.ref a))).set i none) H)
section
variable {X : Cx} {pins : List (Addr × Obj)} {σ : L2.St} {H : Hp} {s : Shared}
theorem Inv.withPin {a : Addr} {oe : Obj} {pn' : List (Addr × Obj)} (I : Inv (X.suite a ((a, oe) :: (X.pn ++ pins))) pn' σ H s) (ok : X.Ok) : Inv X (pins ++ [(a, oe)]) σ H s where
  ok := ok
  os := I.os
  bare := I.bare
  base := I.base
  loc := I.loc
  cell := I.cell
  free := I.free
  freeC := I.freeC
  hok := I.hok
  len := I.len
  pin := fun p hp => I.pin p (by
    refine List.mem_append_left _ ?_
    rw [← List.append_assoc] at hp
    rcases List.mem_append.mp hp with z | z
    · exact List.mem_cons_of_mem _ z
    · rw [List.mem_singleton.mp z]; exact List.mem_cons_self)
theorem Inv.upPin {q : Addr × Obj} (I : Inv X (pins ++ [q]) σ H s) : Inv (X.tr (q :: (X.pn ++ pins)) X.xe) [] σ H s where
  ok := I.ok.toTry _ _
  os := I.os
  bare := I.bare
  base := I.base
  loc := I.loc
  cell := I.cell
  free := I.free
  freeC := I.freeC
  hok := I.hok
  len := I.len
  pin := fun p hp => I.pin p (by
    rw [List.append_nil] at hp
    rcases List.mem_cons.mp hp with z | z
    · rw [z]; simp
    · rw [← List.append_assoc]; exact List.mem_append_left _ z)
theorem Inv.downPin {q : Addr × Obj} {pn' : List (Addr × Obj)} (I : Inv (X.tr (q :: (X.pn ++ pins)) X.xe) pn' σ H s) : Inv X pins σ H s where
  ok := I.ok.ofTry
  os := I.os
  bare := I.bare
  base := I.base
  loc := I.loc
  cell := I.cell
  free := I.free
  freeC := I.freeC
  hok := I.hok
  len := I.len
  pin := fun p hp => I.pin p (List.mem_append_left _ (List.mem_cons_of_mem _ hp))
theorem SP.downPin {q : Addr × Obj} {D : Ends} {f : Flow} (h : SP (X.tr (q :: (X.pn ++ pins)) X.xe) [] D f s) : SP X pins D f s := by
  cases f with
  | next => obtain ⟨σ', H', I, z⟩ := h; exact ⟨σ', H', Inv.downPin I, z⟩
  | brk => obtain ⟨σ', H', I, z⟩ := h; exact ⟨σ', H', Inv.downPin I, z⟩
  | cont => obtain ⟨σ', H', I, z⟩ := h; exact ⟨σ', H', Inv.downPin I, z⟩
  | ret u => obtain ⟨v, σ', H', I, r, z⟩ := h; exact ⟨v, σ', H', Inv.downPin I, r, z⟩
theorem Takes.upPin {Wout : WX} {q : Addr × Obj} (t : Takes X Wout) : Takes (X.tr (q :: (X.pn ++ pins)) X.xe) Wout := by
  intro u s' ⟨a, B, sI, pn', σ', H', cls, d, r1, I, r2, r3, r4, r5, r6, r7, r8⟩
  exact t u s' ⟨a, B, sI, pins, σ', H', cls, d, r1, Inv.downPin I, r2, r3, r4, r5, r6, r7, r8⟩
end
/-- a caught exception is no frame -/
theorem out_frs {B h : Heap} {l : List PySem.Env} {a : Addr} {o : Obj} {vs : Array Value} (ff : h.FunFrames B l) (e : h.get? a = some o) (dd : o.data = .fields vs) : a ∉ frs l := by
  intro z
  obtain ⟨_, o2, e2, no⟩ := ff.mem z
  rw [e] at e2
  cases e2
  exact no _ dd
section
variable {X : Cx} {x n kn : Str} {c : Value} {i k : Nat} {body rest : List Stmt} {np pos pos' p1 p2 p3 : Pos} {tb : WX → TS} {tr : TS} {tx : Addr → Value → Option Addr → TS} {Wout : WX}
theorem pss_tryB (hs : X.stack = X.env :: X.outer) (hf : X.env.frame = some X.env.locals) (hN : X.N.Nodup) (hi : X.N[i]? = some n) (hln : X.env.kindOf n = some .local) (hk : X.N[k]? = some kn) (hkl : X.env.kindOf kn = some .local) (hc : Names X x c) (tk : Takes X Wout)
    (hsu : ∀ (a : Addr) (pn : List (Addr × Obj)), PSs (X.suite a pn) [.Assign [.Name kn p1] (.Name n p2) p3] (fun E σ H => ∃ v, σ[i]? = some (some v) ∧ E.nx (σ.set k (some v)) H))
    (hb : ∀ (W : WX) (pn : List (Addr × Obj)) (xe : Value → Shared → Prop), Takes (X.tr pn xe) W → PassesOwn (model X.prog X.w) X.A X.env xe → PSs (X.tr pn xe) body (tb W))
    (hr : PSs X rest tr)
    (hx : ∀ (a : Addr) (oe : Obj) (cls : Value) (d : Option Addr) (pn : List (Addr × Obj)), Zc cls d oe → (∃ vs, oe.data = .fields vs) → Takes (X.tr ((a, oe) :: pn) X.xe) Wout → PSs (X.tr ((a, oe) :: pn) X.xe) rest (tx a cls d)) :
    PSs X (.Try body [.ExceptHandler (some (.Name x np)) (some n) [.Assign [.Name kn p1] (.Name n p2) p3] pos'] [] [] pos :: rest) (fun D σ H => tb (wOn X.K c i k tx Wout D) { D with nx := tr D } σ H) := by
  refine ⟨fun pins s σ H D I h => wpAny_execs_cons (wpAny_Try_except ?_)⟩
  have good := I.ok
  have frm : X.A.frames = some (X.env :: X.outer) := by rw [good.frames, hs]
  have catch_ : Takes (X.tr (X.pn ++ pins) fun e s1 => wpAny (model X.prog X.w) X.A (noteFrame e X.env) (fun _ s2 => wpAny (model X.prog X.w) X.A (setFlight e none) (fun _ s3 =>
      wpAny (model X.prog X.w) X.A (handleBy e X.env [.ExceptHandler (some (.Name x np)) (some n) [.Assign [.Name kn p1] (.Name n p2) p3] pos']) (Behind X pins rest D) X.xe s3) X.xe s2) X.xe s1) (wOn X.K c i k tx Wout D) := by
    intro u s' ⟨a, B, sI, pn', σ1, H1, cls, d, eu, I1, nb, up, sky, na, os, ag, b, hb1, no, yes⟩
    subst eu
    have I2 : Inv X pins σ1 H1 sI := I1.ofTry good
    have sk : Sky B (X.env :: X.outer) a (Zc cls d) X.env.locals s'.heap := hs ▸ sky
    refine Sky.land Zc.steady frm hf sk fun h2 fl2 up2 => ?_
    have I3 : Inv X pins σ1 H1 { s' with heap := h2 } := I2.landed nb fl2.1 (up.trans up2) os ag
    obtain ⟨o2, v2, g2, z2, d2⟩ := fl2.there
    have out := out_frs fl2.2.2.1 g2 d2
    have aL : a ≠ X.env.locals := fun z => out (List.mem_filterMap.mpr ⟨X.env, List.mem_cons_self, by rw [z]; exact hf⟩)
    have aF : a ∉ X.fs := fun z => by
      obtain ⟨f0, m0, q0⟩ := List.mem_filterMap.mp z
      exact out (List.mem_filterMap.mpr ⟨f0, List.mem_cons_of_mem _ m0, q0⟩)
    have I4 := I3.suite g2 d2 na aL aF
    have ty : PySem.W.Looks (model X.prog X.w) h2 (typeOf (.ref a)) cls := fun A Q E s kp q => wpAny_typeOf_ref (kp _ _ g2) (z2.1 ▸ q)
    have mt := PySem.W.exm_one (M := model X.prog X.w) I3.kIn ty hb1
    refine wpAny_handleBy_cons (codeAny_handlers_test ?_) (fun q => by cases q)
    have nm : ∀ {Q : Value → Shared → Prop} {E : Value → Shared → Prop}, Q c { s' with heap := h2 } → wpAny (model X.prog X.w) (X.A.mark (some (.ref a))) (eval (.Name x np) X.env) Q E { s' with heap := h2 } := fun {Q E} q => by
      obtain ⟨g, db, z⟩ := hc
      rcases z with hm | ⟨hm, hv, hn⟩
      · exact ld_glob (X := X.suite a ((a, o2) :: (X.pn ++ pins))) I4 g hm q db
      · exact ld_blt (X := X.suite a ((a, o2) :: (X.pn ++ pins))) I4 g hm hv q hn db
    refine nm (mt.here ?_)
    cases b with
    | true =>
      refine codeAny_handlers_suite_as (HandSPX.lands_againZ fl2 fun h3 fl3 up3 => ?_)
      have I5 : Inv X pins σ1 H1 { s' with heap := h3 } := I2.landed nb fl3.1 ((up.trans up2).trans up3) os ag
      obtain ⟨o3, v3, g3, z3, d3⟩ := fl3.there
      have I6 := I5.suite g3 d3 na aL aF
      refine store_ok (X := X.suite a ((a, o3) :: (X.pn ++ pins))) (v := .ref a) I6 hN hi (.inl hln) rfl (fun s4 I7 => ?_) (.inr hln)
      have il : i < σ1.length := by rw [I2.len]; exact (List.getElem?_eq_some_iff.mp hi).1
      refine wpAny_mono ((hsu a ((a, o3) :: (X.pn ++ pins))).run [] s4 _ H1 ⟨fun σ' H' => σ' = (σ1.set i (some (.ref a))).set k (some (.ref a)) ∧ H' = H1, fun _ _ => False, fun _ _ => False, fun _ _ => False⟩ I7 ⟨.ref a, List.getElem?_set_self il, rfl, rfl⟩) (fun f s5 q5 => ?_) (fun _ _ z => False.elim z)
      cases f with
      | next =>
        obtain ⟨σ5, H5, I8, rfl, rfl⟩ := q5
        refine gone_ok (Inv.withPin I8 good) hN hi hln fun s6 I9 => ?_
        exact wpAny_mono ((hx a o3 cls d (X.pn ++ pins) z3 ⟨_, d3⟩ (M.Takes.upPin tk)).run [] s6 _ _ D (Inv.upPin I9) (yes rfl a na)) (fun f s7 q7 => SP.downPin q7) (fun _ _ z => z)
      | brk => obtain ⟨_, _, _, z⟩ := q5; exact False.elim z
      | cont => obtain ⟨_, _, _, z⟩ := q5; exact False.elim z
      | ret u => obtain ⟨_, _, _, _, _, z⟩ := q5; exact False.elim z
    | false =>
      show wpAny _ X.A (handleBy (.ref a) X.env []) _ _ _
      refine wpAny_handleBy_nil ?_
      obtain ⟨_, _, _, o4, v4, T, oT, tsT, g4, z4, d4, t4, _⟩ := id fl2
      unfold PySem.passOn
      refine wpAny_bind (wpAny_field g4 d4 t4 ?_)
      rw [if_neg (fun z => by simp at z)]
      have up_ : wpAny (model X.prog X.w) X.A (setFlight (.ref a) X.env.frame) (fun _ s4 => wpAny (model X.prog X.w) X.A (throw (.ref a) : Sem Flow) (Behind X pins rest D) X.xe s4) X.xe { s' with heap := h2 } := by
        rw [hf]
        exact HandSPX.setFlight_upZ fl2 fun h3 hh3 up3 => wpAny_throw (tk _ _ ⟨a, B, sI, pins, σ1, H1, cls, d, rfl, I2, nb, (up.trans up2).trans up3, .inr (.inr (hs ▸ hh3)), na, os, ag, no rfl⟩)
      first
        | exact wpAny_bind up_
        | exact wpAny_bind (wpAny_pure (wpAny_bind up_))
  refine wpAny_mono ((hb _ _ _ catch_ PassesOwn.looking).run [] s σ H _ (I.toTry _) h) (fun f s1 q => ?_) (fun e s1 z => z)
  cases f with
  | next =>
    obtain ⟨σ1, H1, I1, q1⟩ := q
    exact wpAny_execs_nil (hr.run pins s1 σ1 H1 D (I1.ofTry good) q1)
  | brk => obtain ⟨σ1, H1, I1, q1⟩ := q; exact ⟨σ1, H1, I1.ofTry good, q1⟩
  | cont => obtain ⟨σ1, H1, I1, q1⟩ := q; exact ⟨σ1, H1, I1.ofTry good, q1⟩
  | ret u => obtain ⟨v, σ1, H1, I1, r1, q1⟩ := q; exact ⟨v, σ1, H1, I1.ofTry good, r1, q1⟩
end
/-! ### isinstance and is None of what a slot keeps -/
section
variable {Y : Cx} {Wx : WX} {a : Addr} {oe : Obj} {cls : Value} {d : Option Addr} {i : Nat} {n : Str} {p p1 p2 p3 pos : Pos} {e : Exn}
theorem instAt (hp : (a, oe) ∈ Y.pn) {D : Addr} (hz : Zc (.ref D) none oe) (hf : ∃ vs, oe.data = .fields vs) {pins : List (Addr × Obj)} {σ : L2.St} {H : Hp} {s : Shared} (I : Inv Y pins σ H s) : PySem.W.InstAt s.heap a oe D none := by
  obtain ⟨fv, hv⟩ := hf
  exact ⟨(I.pin (a, oe) (List.mem_append_left _ hp)).1, hz.1, by unfold PySem.W.notCls; rw [hv], by rw [hz.2]; trivial⟩
theorem call_is1Y (hp : (a, oe) ∈ Y.pn) {D : Addr} (C : ExcC Y.K D) (hz : Zc (.ref D) none oe) (hf : ∃ vs, oe.data = .fields vs) : CallR Y (.builtin "isinstance") (rIsE Y.K D a) := by
  intro pins s σ H xs vs Q I r h
  obtain ⟨c, cv, b, rfl, hcv, e, q⟩ := h
  obtain _ | ⟨r1, rr⟩ := r
  obtain _ | ⟨r2, rr⟩ := rr
  cases rr
  cases r1
  have ec := hcv _ r2
  subst ec
  exact PySem.W.kia_one (PySem.W.handS_kitx_exc C.hg C.hk C.hs C.hd C.ha C.hn C.ht C.hm) I.kIn (instAt hp hz hf I) e (fun z => nomatch z) fun tk => ⟨.bl b, H, I.kept (t' := tk) fun _ _ z => z, rfl, q⟩
theorem call_isTY (hp : (a, oe) ∈ Y.pn) {D : Addr} (C : ExcC Y.K D) (hz : Zc (.ref D) none oe) (hf : ∃ vs, oe.data = .fields vs) : CallR Y (.builtin "isinstance")
    (fun xs H Q => ∃ (tp : Addr) (cs : List V) (us : List Value) (b : Bool), xs = [.ref a, .ref tp] ∧ H tp = some (.tup cs) ∧ Paired ClsV cs us ∧ PySem.W.kitAny Y.K (.ref D) us = some b ∧ Q (.bl b) H) := by
  intro pins s σ H xs vs Q I r h
  obtain ⟨tp, cs, us, b, rfl, hT, pc, e, q⟩ := h
  obtain _ | ⟨r1, rr⟩ := r
  obtain _ | ⟨r2, rr⟩ := rr
  cases rr
  cases r1
  cases r2
  obtain ⟨_, its, rv, o, g1, g2, n, g3⟩ := (show ObjOk Y.prog Y.w H s.heap tp (.tup cs) from I.hok tp _ hT)
  have eu := ClsV.all pc rv
  subst eu
  have g4 : s.heap.get? tp = some ⟨.type "tuple", o.dict, .seq its.toArray n, o.slots⟩ := by
    rw [g1]
    cases o
    simp only at g2 g3
    rw [g2, g3]
  exact PySem.W.kia_tup (PySem.W.handS_kitx_exc C.hg C.hk C.hs C.hd C.ha C.hn C.ht C.hm) I.kIn (instAt hp hz hf I) g4 e (by intro z; cases z) fun tk => ⟨.bl b, H, I.kept (t' := tk) fun _ _ z => z, rfl, q⟩
theorem eTab_no {l : List (Str × Bool)} {x : Expr} (h : e.fs ≠ [] ∨ tabOf l e.cls = none) {J : L2.St → Hp → Prop} : MEJ Y Wx J x (eTab (tabOf l) e) := by
  refine ⟨_, pe_nev, fun env m σ G Q S R j hh => ?_⟩
  unfold eTab at hh
  cases q2 : e.fs with
  | cons y ys => rw [q2] at hh; exact hh
  | nil =>
    rcases h with h | h
    · exact absurd q2 h
    · rw [q2, h] at hh; exact hh
theorem mej_is1Y {x : Expr} {u : Value} {l : List (Str × Bool)} (hp : (a, oe) ∈ Y.pn) (hg : Gl Y "isinstance") (hm : Y.mg "isinstance" = none) (hN : Y.N[i]? = some n) (hv : Vis Y.env.scope n) (hc : PCl Y [x] [u]) (ht : TabI Y.K Y.mg [u] l) (hz : Zc cls d oe) (hf : ∃ vs, oe.data = .fields vs) (hd : e.fs = [] → d = none) (hm2 : Y.mg e.cls = some cls)
    (hdb : (n == ("__debug__" : Str)) = false := by decide) (hcd : (n == ("__classdict__" : Str)) = false := by decide) (h1 : starEach [.Name n p1, x] Y.env = (false, eval (.Name n p1) Y.env) :: starEach [x] Y.env := by rfl) (hpl : (backTo pos (starEach [x] Y.env)).any (·.1) = false := by rfl) :
    MEJ Y Wx (Hd i a) (.Call (.Name "isinstance" p) [.Name n p1, x] [] pos) (eTab (tabOf l) e) := by
  obtain ⟨ta, cs, pa, pc, q⟩ := hc.ex
  by_cases hfs : e.fs = []
  · cases htb : tabOf l e.cls with
    | none => exact eTab_no (.inr htb)
    | some b =>
      obtain ⟨D, rfl, C, hk⟩ := tab_is ht _ b _ htb hm2
      have hdn := hd hfs
      subst hdn
      refine ⟨_, pe_callB (call_is1Y hp C hz hf) hg hm (by decide +kernel) (pa_cons (pe_var hN hv hdb hcd) pa h1) (by decide) (by decide) h1 hpl, fun env m σ G Q S R j h => ?_⟩
      unfold eTab at h
      rw [hfs, htb] at h
      refine ⟨_, j, q σ G.H _ ?_⟩
      obtain _ | ⟨k1, kr⟩ := pc
      cases kr
      exact ⟨_, u, b, rfl, fun w r => k1.eq r, kitAny_one hk, finD R h (.bl b)⟩
  · exact eTab_no (.inl hfs)
theorem mej_isTY {es : List Expr} {us : List Value} {l : List (Str × Bool)} {k : Nat} (hp : (a, oe) ∈ Y.pn) (hg : Gl Y "isinstance") (hm : Y.mg "isinstance" = none) (hN : Y.N[i]? = some n) (hv : Vis Y.env.scope n) (hc : PCl Y es us) (hl : us.length ≤ 1000) (ht : TabI Y.K Y.mg us l) (hz : Zc cls d oe) (hf : ∃ vs, oe.data = .fields vs) (hd : e.fs = [] → d = none) (hm2 : Y.mg e.cls = some cls)
    (hdb : (n == ("__debug__" : Str)) = false := by decide) (hcd : (n == ("__classdict__" : Str)) = false := by decide) (h1 : starEach [.Name n p1, .Tuple es k p2] Y.env = (false, eval (.Name n p1) Y.env) :: starEach [.Tuple es k p2] Y.env := by rfl) (hpl : (backTo pos (starEach [.Tuple es k p2] Y.env)).any (·.1) = false := by rfl)
    (h2 : starEach [.Tuple es k p2] Y.env = (false, eval (.Tuple es k p2) Y.env) :: starEach [] Y.env := by rfl) :
    MEJ Y Wx (Hd i a) (.Call (.Name "isinstance" p) [.Name n p1, .Tuple es k p2] [] pos) (eTab (tabOf l) e) := by
  obtain ⟨ta, cs, pa, pc, q⟩ := hc.ex
  by_cases hfs : e.fs = []
  · cases htb : tabOf l e.cls with
    | none => exact eTab_no (.inr htb)
    | some b =>
      obtain ⟨D, rfl, C, hk⟩ := tab_is ht _ b _ htb hm2
      have hdn := hd hfs
      subst hdn
      refine ⟨_, pe_callB (call_isTY hp C hz hf) hg hm (by decide +kernel) (pa_cons (pe_var hN hv hdb hcd) (pa_cons (pe_tup pa) pa_nil h2) h1) (by decide) (by decide) h1 hpl, fun env m σ G Q S R j h => ?_⟩
      unfold eTab at h
      rw [hfs, htb] at h
      refine ⟨_, j, q σ G.H _ ⟨by rw [Paired.length pc, sizeLine_eq]; omega, fun tp htp => ?_⟩⟩
      exact ⟨tp, cs, us, b, rfl, upd_same, pc, hk, h (.bl b) _ (Le.new R htp) (R.new htp) (.bl b)⟩
  · exact eTab_no (.inl hfs)
/-- is None of what is an exception -/
def eNo (neg : Bool) (fb : EF) : EF := fun env m => (fb env m).bind fun y m1 => match y with
  | .d .none => .ok (.d (.bool (ngB neg false))) m1
  | _ => .bad
theorem mej_noN {neg : Bool} {op : CmpOp} {b : Expr} {fb : EF} (ho : OpR Y (compareOp op) (rIsN neg)) (hN : Y.N[i]? = some n) (hv : Vis Y.env.scope n) (hb : ME Y Wx b fb) (hm : behindInMarks op b = false := by first | exact nomark _ | with_unfolding_all rfl)
    (hdb : (n == ("__debug__" : Str)) = false := by decide) (hcd : (n == ("__classdict__" : Str)) = false := by decide) : MEJ Y Wx (Hd i a) (.Compare (.Name n p1) [op] [b] pos) (eNo neg fb) := by
  obtain ⟨tb, pb, qb⟩ := hb
  refine ⟨_, pe_cmpR ho (pe_var hN hv hdb hcd) pb hm, fun env m σ G Q S R j h => ⟨_, j, qb env m σ G _ S R (GPost.bind weakR h fun y m1 u G1 le1 R1 q1 h1 => ?_)⟩⟩
  cases y with
  | d y =>
    cases y with
    | none => cases q1; exact ⟨rfl, finD R1 h1 (.bl _)⟩
    | _ => exact False.elim h1
  | _ => exact False.elim h1
end
/-- what is never asked -/
def eBad : EF := fun _ _ => .bad
theorem me_bad {X : Cx} {Wx : WX} {e : Expr} : ME X Wx e eBad := ⟨_, pe_nev, fun env m σ G Q S R h => h⟩
/-! ### the try, and what stands behind -/
def sTryB (i k : Nat) (tab : Str → Option Bool) (fb fr : SF) (fx : Exn → SF) (env : Env) (m : Mem) : SRes := match fb env m with
  | .nx env' m' => fr env' m'
  | .err e env' m' => (match tab e.cls with
    | some true => fx e ((env'.set i none).set k none) m'
    | some false => .err e env' m'
    | none => .bad)
  | r => r
section
variable {X : Cx} {Wx : WX}
def cX (X : Cx) (Wx : WX) (k : Nat) (fx : Exn → SF) (a : Addr) (cls : Value) (d : Option Addr) : TS := fun E σ H => ∃ env m G e, G.H = H ∧ RelS X.K G σ env ∧ RelM X.K G m ∧ (∃ τ : L2.St, σ = τ.set k (some (.ref a))) ∧ (Exn.fs e = [] → d = none) ∧ X.mg (Exn.cls e) = some cls ∧ SPost X Wx G (fx e env m) E
theorem mb_tryB {i k : Nat} {x n kn : Str} {c : Value} {body rest : List Stmt} {np pos pos' p1 p2 p3 : Pos} {tab : Str → Option Bool} {fb fr : SF} {fx : Exn → SF} (hs : X.stack = X.env :: X.outer) (hf : X.env.frame = some X.env.locals) (hN : X.N.Nodup) (hi : X.N[i]? = some n) (hln : X.env.kindOf n = some .local) (hk : X.N[k]? = some kn) (hkl : X.env.kindOf kn = some .local) (ik : i ≠ k) (hc : Names X x c) (tk : Takes X Wx)
    (htab : ∀ n b cls, tab n = some b → X.mg n = some cls → PySem.W.exmOne X.K cls c = some b)
    (hb : ∀ (W : WX) (pn : List (Addr × Obj)) (xe : Value → Shared → Prop), Takes (X.tr pn xe) W → PassesOwn (model X.prog X.w) X.A X.env xe → MB (X.tr pn xe) W body fb)
    (hr : MB X Wx rest fr)
    (hx : ∀ (a : Addr) (oe : Obj) (cls : Value) (d : Option Addr) (pn : List (Addr × Obj)) (e : Exn), Zc cls d oe → (∃ vs, oe.data = .fields vs) → (e.fs = [] → d = none) → X.mg e.cls = some cls → Takes (X.tr ((a, oe) :: pn) X.xe) Wx → MBJ (X.tr ((a, oe) :: pn) X.xe) Wx (Hd k a) rest (fx e))
    (hdb : (n == ("__debug__" : Str)) = false := by decide) (hcd : (n == ("__classdict__" : Str)) = false := by decide) (hsw : swapsWith (.Name n p2) (some (.Name kn p1)) p3.line X.env = pure false := by rfl) :
    MB X Wx (.Try body [.ExceptHandler (some (.Name x np)) (some n) [.Assign [.Name kn p1] (.Name n p2) p3] pos'] [] [] pos :: rest) (sTryB i k tab fb fr fx) := by
  have hsu : ∀ (a : Addr) (pn : List (Addr × Obj)), PSs (X.suite a pn) [.Assign [.Name kn p1] (.Name n p2) p3] (fun E σ H => ∃ v, σ[i]? = some (some v) ∧ E.nx (σ.set k (some v)) H) := fun a pn =>
    pss_one (ps_set (X := X.suite a pn) hN hk (.inl hkl) (pe_var (X := X.suite a pn) hi (.inl hln) hdb hcd) hsw (.inr hkl))
  have hpx : ∀ (a : Addr) (oe : Obj) (cls : Value) (d : Option Addr) (pn : List (Addr × Obj)), Zc cls d oe → (∃ vs, oe.data = .fields vs) → Takes (X.tr ((a, oe) :: pn) X.xe) Wx → PSs (X.tr ((a, oe) :: pn) X.xe) rest (cX X Wx k fx a cls d) := fun a oe cls d pn hz hv tk' => by
    refine ⟨fun pins s σ H D I ⟨env, m, G, e, eH, S, R, ⟨τ, ej⟩, h1, h2, h⟩ => ?_⟩
    have j : Hd k a σ G.H := by
      have hl : k < σ.length := by rw [I.len]; exact (List.getElem?_eq_some_iff.mp hk).1
      rw [ej, List.length_set] at hl
      rw [ej]
      exact List.getElem?_set_self hl
    obtain ⟨t, p, q⟩ := hx a oe cls d pn e hz hv h1 h2 tk'
    subst eH
    refine p.run pins s σ G.H D I (q env m σ G D S R j ?_)
    cases r : fx e env m with
    | nx e2 m2 => rw [r] at h; exact fun σ' G' l R' S' _ => h σ' G' l R' S'
    | bk e2 m2 => rw [r] at h; exact h
    | ct e2 m2 => rw [r] at h; exact h
    | rt w2 m2 => rw [r] at h; exact h
    | err e2 v2 m2 => rw [r] at h; exact h
    | bad => rw [r] at h; exact h
  refine ⟨_, pss_tryB (i := i) (k := k) (tb := fun W => cB X W fb) (tr := cB X Wx fr) (tx := cX X Wx k fx) hs hf hN hi hln hk hkl hc tk hsu (fun W pn xe tk' po => (hb W pn xe tk' po).pss) hr.pss hpx, fun env m σ G E S R h => ?_⟩
  refine ⟨env, m, G, rfl, S, R, ?_⟩
  unfold sTryB at h
  cases q : fb env m with
  | nx e m1 => rw [q] at h; exact fun σ' G' le R' S' => ⟨e, m1, G', rfl, S', R', SPost.later h le⟩
  | bk e m1 => rw [q] at h; exact h
  | ct e m1 => rw [q] at h; exact h
  | rt w m1 => rw [q] at h; exact h
  | bad => rw [q] at h; exact h
  | err e env' m1 =>
    rw [q] at h
    dsimp only at h
    intro c' d σ' G' le R' S' ex
    cases t : tab e.cls with
    | none => rw [t] at h; exact False.elim h
    | some b =>
      rw [t] at h
      refine ⟨b, htab _ b c' t ex.1, fun hb => ?_, fun hb a ha => ?_⟩
      · subst hb
        exact h c' d σ' G' le R' S' ex
      · subst hb
        refine ⟨(env'.set i none).set k none, m1, G', e, rfl, ?_, R', ?_, fun hz => ?_, ex.1, SPost.later h le⟩
        · have e3 : ((env'.set i none).set k none).set i none = (env'.set i none).set k none := by
            rw [List.set_comm _ _ (Ne.symm ik), List.set_set]
          have := ((S'.setN i (some (.ref a))).setN k (some (.ref a))).setN i none
          rw [e3] at this
          exact this
        · exact ⟨_, List.set_comm _ _ (Ne.symm ik)⟩
        · rcases ex.2 with z | ⟨dd, fs, z0, _⟩
          · exact z.2
          · exact absurd hz z0
end
end M

set_option Elab.async false
set_option linter.all false
set_option maxRecDepth 100000
/-! P: a try whose exception is kept for what stands behind -/
namespace M
open PySem L2
noncomputable section
def tryKB {σ γ : Type} (tab : Str → Option Bool) (b : PR (TO σ)) (h : Exn → PR γ) (k : TO σ → PR γ) : PR γ := match b with
  | .ok o => k o
  | .err e => (match tab e.cls with
    | some true => h e
    | some false => .err e
    | none => .bad)
  | .bad => .bad
@[simp] theorem tryKB_ok {σ γ : Type} (tab : Str → Option Bool) (o : TO σ) (h : Exn → PR γ) (k : TO σ → PR γ) : tryKB tab (.ok o) h k = k o := rfl
theorem tryKB_err {σ γ : Type} {tab : Str → Option Bool} {e : Exn} (ht : tab e.cls = some true) (h : Exn → PR γ) (k : TO σ → PR γ) : tryKB tab (.err e) h k = h e := by
  show (match tab e.cls with | some true => h e | some false => .err e | none => .bad) = _
  rw [ht]
section
variable {s sr : Nat} {ms : List Bool}
def gBad : GEx := fun _ _ _ => .bad
theorem re_bad : RE s ms eBad gBad := fun γ fr ρ env m K R nb => absurd rfl nb
def gNo (neg : Bool) (gb : GEx) : GEx := fun γ ρ K => gb γ ρ fun v ρ' => match v with
  | .v .none => K (.v (.bool (ngB neg false))) ρ'
  | _ => .bad
theorem re_noC {neg : Bool} : RE 0 ms (eNo neg (eC .none)) (gNo neg (gC .none)) := fun γ fr ρ env m K R nb => EPost.ok (v := .v (.bool (ngB neg false))) R rfl rfl
def gsTryB (tab : Str → Option Bool) (ds : List (Nat × Kd)) (mb : List Bool) (b r : GSx) (h : Exn → GSx) : GSx := fun γ ρ kn kb kc kr =>
  tryKB tab (runT ds b ρ) (fun e => h e γ (wip mb ρ) kn kb kc kr) fun o => toK o (fun s => r γ (put ds (wip mb ρ) s) kn kb kc kr) (fun x s => kr (.v x) (put ds (wip mb ρ) s))
theorem rs_tryB {i k : Nat} {tab : Str → Option Bool} {ds : List (Nat × Kd)} {mb : List Bool} {fb fr' : SF} {fx : Exn → SF} {gb gr : GSx} {gx : Exn → GSx} (hb : RS sr mb fb gb) (hr : RS sr ms fr' gr) (hh : ∀ e, RS sr ms (fx e) (gx e)) (hi : isM mb i = true := by rfl) (hk : isM mb k = true := by rfl) (hd : inM mb ds = true := by rfl) (hs : subM mb ms = true := by rfl) : RS sr ms (sTryB i k tab fb fr' fx) (gsTryB tab ds mb gb gr gx) := by
  intro γ fr ρ env m kn kb kc kr R nb
  have e0 : gsTryB tab ds mb gb gr gx γ ρ kn kb kc kr = tryKB tab (runT ds gb ρ) (fun e => gx e γ (wip mb ρ) kn kb kc kr) fun o => toK o (fun s => gr γ (put ds (wip mb ρ) s) kn kb kc kr) (fun x s => kr (.v x) (put ds (wip mb ρ) s)) := rfl
  rw [e0] at nb ⊢
  have nb1 : runT ds gb ρ ≠ .bad := fun z => nb (by rw [z]; rfl)
  unfold sTryB
  rcases runT_ok hb hd R (Ag.refl _ _) nb1 with ⟨s, e1, m1, r1, r2, r3, r4⟩ | ⟨x, s, w, e1, m1, r1, r2, r3, r4⟩ | ⟨e, e1, m1, r1, r2, r3, r4⟩
  · rw [r1, tryKB_ok, toK_nx] at nb
    rw [r1, r2, tryKB_ok, toK_nx]
    exact SPo.later ((shape_ag hd s).sub hs) (r4.sub hs) (hr γ fr _ e1 m1 kn kb kc kr r3 nb)
  · rw [r1, r2, tryKB_ok, toK_rt]
    exact .rt w m1 (.v x) _ e1 r3 r4 rfl ((shape_ag hd s).sub hs)
  · rw [r1] at nb ⊢
    rw [r2]
    dsimp only
    cases t : tab e.cls with
    | none =>
      exfalso
      refine nb ?_
      show (match tab e.cls with | some true => _ | some false => PR.err e | none => .bad) = _
      rw [t]
    | some b =>
      cases b with
      | false =>
        have ez : (tryKB tab (.err e) (fun e => gx e γ (wip mb ρ) kn kb kc kr) fun o => toK o (fun s => gr γ (put ds (wip mb ρ) s) kn kb kc kr) (fun x s => kr (.v x) (put ds (wip mb ρ) s))) = .err e := by
          show (match tab e.cls with | some true => _ | some false => PR.err e | none => .bad) = _
          rw [t]
        rw [ez]
        exact .err e e1 m1 (wip_sub hs r3) rfl (r4.sub hs)
      | true =>
        rw [tryKB_err t] at nb ⊢
        have r5 : Rel fr (wip mb ρ) ((e1.set i none).set k none) m1 := Rel.drop1 (Rel.drop1 r3 i (wip_x hi)) k (wip_x hk)
        dsimp only
        exact SPo.later (ρ1 := wip mb ρ) (env1 := (e1.set i none).set k none) ((wip_wip mb ρ).sub hs) (((r4.trans (AgE.set hi)).trans (AgE.set hk)).sub hs) (hh e γ fr _ _ m1 kn kb kc kr r5 nb)
end
end
end M

set_option Elab.async false
set_option linter.all false
set_option maxRecDepth 100000
/-! M: a kept exception that may have fields -/
namespace M
open PySem L2
/-- a slot holds the exception at a; its dict, if it has one, holds fs -/
def HdF (i : Nat) (a : Addr) (d : Option Addr) (fs : List (Str × V)) : L2.St → Hp → Prop := fun σ H => σ[i]? = some (some (.ref a)) ∧ ∀ dd, d = some dd → H dd = some (.xd fs)
theorem xd_out {K : PySem.W.Frag} {G : Wd} {m : Mem} {dd : Addr} {fs : List (Str × V)} (R : RelM K G m) (h : G.H dd = some (.xd fs)) : dd ∉ G.io := by
  intro z
  obtain ⟨i, hi⟩ := List.mem_iff_getElem?.mp z
  have hl : i < m.length := by rw [← R.len]; exact (List.getElem?_eq_some_iff.mp hi).1
  have ob := R.ob i dd _ hi (List.getElem?_eq_getElem hl)
  cases q : m[i] with
  | lst ds => rw [q] at ob; obtain ⟨_, vs, e, _⟩ := ob; rw [h] at e; cases e
  | fz ds => rw [q] at ob; obtain ⟨_, vs, e, _⟩ := ob; rw [h] at e; cases e
  | dct kvs => rw [q] at ob; obtain ⟨_, ks, e, _⟩ := ob; rw [h] at e; cases e
  | lsw ws => rw [q] at ob; obtain ⟨_, vs, e, _⟩ := ob; rw [h] at e; cases e
instance {i : Nat} {a : Addr} {d : Option Addr} {fs : List (Str × V)} : JMono (HdF i a d fs) := ⟨fun R le h => ⟨h.1, fun dd e => le.keep dd _ (h.2 dd e) fun z => xd_out R (h.2 dd e) z.1⟩⟩
theorem HdF.set {i k : Nat} {a : Addr} {d : Option Addr} {fs : List (Str × V)} (h : k ≠ i) : ∀ (σ : L2.St) (v : Option V) (H : Hp), HdF i a d fs σ H → HdF i a d fs (σ.set k v) H := fun σ v H hh => ⟨by rw [List.getElem?_set_ne h]; exact hh.1, hh.2⟩
section
variable {Y : Cx} {Wx : WX} {a : Addr} {oe : Obj} {cls : Value} {d : Option Addr} {i : Nat} {n : Str} {p p1 p2 p3 pos : Pos} {e : Exn} {fs : List (Str × V)}
theorem instAtF (hp : (a, oe) ∈ Y.pn) {D : Addr} (hz : Zc (.ref D) d oe) (hf : ∃ vs, oe.data = .fields vs) {pins : List (Addr × Obj)} {σ : L2.St} {H : Hp} {s : Shared} (I : Inv Y pins σ H s) (hx : ∀ dd, d = some dd → H dd = some (.xd fs)) : ∃ od, PySem.W.InstAt s.heap a oe D od := by
  obtain ⟨fv, hv⟩ := hf
  have g := (I.pin (a, oe) (List.mem_append_left _ hp)).1
  cases d with
  | none => exact ⟨none, g, hz.1, by unfold PySem.W.notCls; rw [hv], by rw [hz.2]; trivial⟩
  | some dd =>
    have ho : ObjOk Y.prog Y.w H s.heap dd (.xd fs) := I.hok dd _ (hx dd rfl)
    obtain ⟨mA, hns, hr⟩ := ho
    obtain ⟨od, ho, hl⟩ := lookIn_ns hns
    exact ⟨some od, g, hz.1, by unfold PySem.W.notCls; rw [hv], by rw [hz.2]; exact ho⟩
theorem kitF {K : PySem.W.Frag} {D : Addr} (C : ExcC K D) {ox : Obj} {od : Option Obj} : PySem.W.KitX K (.ref a) (.ref D) (fun h => PySem.W.InstAt h a ox D od) :=
  PySem.W.kitx_exc (by obtain ⟨cd, hc, _⟩ := PySem.W.any_some C.hd; rw [hc]; rfl) C.hg C.hk C.hs C.ha C.hn C.ht C.hm
theorem call_is1F (hp : (a, oe) ∈ Y.pn) {D : Addr} (C : ExcC Y.K D) (hz : Zc (.ref D) d oe) (hf : ∃ vs, oe.data = .fields vs) : CallR Y (.builtin "isinstance")
    (fun xs H Q => ∃ (c : V) (cv : Value) (b : Bool), xs = [.ref a, c] ∧ (∀ u, RelV c u → u = cv) ∧ PySem.W.kitOne Y.K (.ref D) cv = some b ∧ (∀ dd, d = some dd → H dd = some (.xd fs)) ∧ Q (.bl b) H) := by
  intro pins s σ H xs vs Q I r h
  obtain ⟨c, cv, b, rfl, hcv, e, hx, q⟩ := h
  obtain _ | ⟨r1, rr⟩ := r
  obtain _ | ⟨r2, rr⟩ := rr
  cases rr
  cases r1
  have ec := hcv _ r2
  subst ec
  obtain ⟨od, J⟩ := instAtF hp hz hf I hx
  exact PySem.W.kia_one (kitF C) I.kIn J e (fun z => nomatch z) fun tk => ⟨.bl b, H, I.kept (t' := tk) fun _ _ z => z, rfl, q⟩
theorem call_isTF (hp : (a, oe) ∈ Y.pn) {D : Addr} (C : ExcC Y.K D) (hz : Zc (.ref D) d oe) (hf : ∃ vs, oe.data = .fields vs) : CallR Y (.builtin "isinstance")
    (fun xs H Q => ∃ (tp : Addr) (cs : List V) (us : List Value) (b : Bool), xs = [.ref a, .ref tp] ∧ H tp = some (.tup cs) ∧ Paired ClsV cs us ∧ PySem.W.kitAny Y.K (.ref D) us = some b ∧ (∀ dd, d = some dd → H dd = some (.xd fs)) ∧ Q (.bl b) H) := by
  intro pins s σ H xs vs Q I r h
  obtain ⟨tp, cs, us, b, rfl, hT, pc, e, hx, q⟩ := h
  obtain _ | ⟨r1, rr⟩ := r
  obtain _ | ⟨r2, rr⟩ := rr
  cases rr
  cases r1
  cases r2
  obtain ⟨_, its, rv, o, g1, g2, n, g3⟩ := (show ObjOk Y.prog Y.w H s.heap tp (.tup cs) from I.hok tp _ hT)
  have eu := ClsV.all pc rv
  subst eu
  have g4 : s.heap.get? tp = some ⟨.type "tuple", o.dict, .seq its.toArray n, o.slots⟩ := by
    rw [g1]
    cases o
    simp only at g2 g3
    rw [g2, g3]
  obtain ⟨od, J⟩ := instAtF hp hz hf I hx
  exact PySem.W.kia_tup (kitF C) I.kIn J g4 e (by intro z; cases z) fun tk => ⟨.bl b, H, I.kept (t' := tk) fun _ _ z => z, rfl, q⟩
/-- the answer by the class's name, with or without fields -/
def eTabF (tab : Str → Option Bool) (e : Exn) : EF := fun _ m => match tab e.cls with
  | some b => .ok (.d (.bool b)) m
  | none => .bad
theorem eTabF_no {l : List (Str × Bool)} {x : Expr} (h : tabOf l e.cls = none) {J : L2.St → Hp → Prop} : MEJ Y Wx J x (eTabF (tabOf l) e) := by
  refine ⟨_, pe_nev, fun env m σ G Q S R j hh => ?_⟩
  unfold eTabF at hh
  rw [h] at hh
  exact hh
theorem mej_is1F {x : Expr} {u : Value} {l : List (Str × Bool)} (hp : (a, oe) ∈ Y.pn) (hg : Gl Y "isinstance") (hm : Y.mg "isinstance" = none) (hN : Y.N[i]? = some n) (hv : Vis Y.env.scope n) (hc : PCl Y [x] [u]) (ht : TabI Y.K Y.mg [u] l) (hz : Zc cls d oe) (hf : ∃ vs, oe.data = .fields vs) (hm2 : Y.mg e.cls = some cls)
    (hdb : (n == ("__debug__" : Str)) = false := by decide) (hcd : (n == ("__classdict__" : Str)) = false := by decide) (h1 : starEach [.Name n p1, x] Y.env = (false, eval (.Name n p1) Y.env) :: starEach [x] Y.env := by rfl) (hpl : (backTo pos (starEach [x] Y.env)).any (·.1) = false := by rfl) :
    MEJ Y Wx (HdF i a d fs) (.Call (.Name "isinstance" p) [.Name n p1, x] [] pos) (eTabF (tabOf l) e) := by
  obtain ⟨ta, cs, pa, pc, q⟩ := hc.ex
  cases htb : tabOf l e.cls with
  | none => exact eTabF_no htb
  | some b =>
    obtain ⟨D, rfl, C, hk⟩ := tab_is ht _ b _ htb hm2
    refine ⟨_, pe_callB (call_is1F (fs := fs) hp C hz hf) hg hm (by decide +kernel) (pa_cons (pe_var hN hv hdb hcd) pa h1) (by decide) (by decide) h1 hpl, fun env m σ G Q S R j h => ?_⟩
    unfold eTabF at h
    rw [htb] at h
    refine ⟨_, j.1, q σ G.H _ ?_⟩
    obtain _ | ⟨k1, kr⟩ := pc
    cases kr
    exact ⟨_, u, b, rfl, fun w r => k1.eq r, kitAny_one hk, j.2, finD R h (.bl b)⟩
theorem mej_isTF {es : List Expr} {us : List Value} {l : List (Str × Bool)} {k : Nat} (hp : (a, oe) ∈ Y.pn) (hg : Gl Y "isinstance") (hm : Y.mg "isinstance" = none) (hN : Y.N[i]? = some n) (hv : Vis Y.env.scope n) (hc : PCl Y es us) (hl : us.length ≤ 1000) (ht : TabI Y.K Y.mg us l) (hz : Zc cls d oe) (hf : ∃ vs, oe.data = .fields vs) (hm2 : Y.mg e.cls = some cls)
    (hdb : (n == ("__debug__" : Str)) = false := by decide) (hcd : (n == ("__classdict__" : Str)) = false := by decide) (h1 : starEach [.Name n p1, .Tuple es k p2] Y.env = (false, eval (.Name n p1) Y.env) :: starEach [.Tuple es k p2] Y.env := by rfl) (hpl : (backTo pos (starEach [.Tuple es k p2] Y.env)).any (·.1) = false := by rfl)
    (h2 : starEach [.Tuple es k p2] Y.env = (false, eval (.Tuple es k p2) Y.env) :: starEach [] Y.env := by rfl) :
    MEJ Y Wx (HdF i a d fs) (.Call (.Name "isinstance" p) [.Name n p1, .Tuple es k p2] [] pos) (eTabF (tabOf l) e) := by
  obtain ⟨ta, cs, pa, pc, q⟩ := hc.ex
  cases htb : tabOf l e.cls with
  | none => exact eTabF_no htb
  | some b =>
    obtain ⟨D, rfl, C, hk⟩ := tab_is ht _ b _ htb hm2
    refine ⟨_, pe_callB (call_isTF (fs := fs) hp C hz hf) hg hm (by decide +kernel) (pa_cons (pe_var hN hv hdb hcd) (pa_cons (pe_tup pa) pa_nil h2) h1) (by decide) (by decide) h1 hpl, fun env m σ G Q S R j h => ?_⟩
    unfold eTabF at h
    rw [htb] at h
    refine ⟨_, j.1, q σ G.H _ ⟨by rw [Paired.length pc, sizeLine_eq]; omega, fun tp htp => ?_⟩⟩
    refine ⟨tp, cs, us, b, rfl, upd_same, pc, hk, fun dd e => ?_, h (.bl b) _ (Le.new R htp) (R.new htp) (.bl b)⟩
    have := j.2 dd e
    rw [upd_ne (fun z => by rw [z, htp] at this; cases this)]
    exact this
end
/-- is None of what is an exception, with or without fields -/
theorem mej_noF {Y : Cx} {Wx : WX} {a : Addr} {d : Option Addr} {fs : List (Str × V)} {i : Nat} {n : Str} {p1 pos : Pos} {neg : Bool} {op : CmpOp} {b : Expr} {fb : EF} (ho : OpR Y (compareOp op) (rIsN neg)) (hN : Y.N[i]? = some n) (hv : Vis Y.env.scope n) (hb : ME Y Wx b fb) (hm : behindInMarks op b = false := by first | exact nomark _ | with_unfolding_all rfl)
    (hdb : (n == ("__debug__" : Str)) = false := by decide) (hcd : (n == ("__classdict__" : Str)) = false := by decide) : MEJ Y Wx (HdF i a d fs) (.Compare (.Name n p1) [op] [b] pos) (eNo neg fb) := by
  obtain ⟨t, p, q⟩ := mej_noN (Wx := Wx) (a := a) (p1 := p1) (pos := pos) ho hN hv hb hm hdb hcd
  exact ⟨t, p, fun env m σ G Q S R j h => q env m σ G Q S R j.1 h⟩
/-! ### a field of a kept exception -/
section
variable {Y : Cx} {Wx : WX} {a : Addr} {oe : Obj} {cls : Value} {d : Option Addr} {i : Nat} {n f : Str} {p1 pos : Pos} {e : Exn} {fs : List (Str × V)}
theorem pe_fldY {C : Addr} {x : Expr} {te : TE} (hp : (a, oe) ∈ Y.pn) (T : XfC Y.K C) (hno : PySem.W.findIn Y.K (.ref C) f = some none) (hz : Zc (.ref C) d oe) (hf : ∃ vs, oe.data = .fields vs) (he : PE Y x te) (hb : attributeBase x f Y.env (eval x Y.env) = eval x Y.env := by rfl) :
    PE Y (.Attribute x f pos) (fun σ H Q => te σ H fun z H1 => z = .ref a ∧ ∃ dd v, d = some dd ∧ H1 dd = some (.xd fs) ∧ fs.lookup f = some v ∧ Q v H1) := by
  refine ⟨fun pins s σ H Q I h => attr_of hb (thn (he.run pins s σ H _ I h) fun u s1 hh => ?_)⟩
  obtain ⟨z, H1, I1, rz, rfl, dd, v, rfl, hx, hl, q⟩ := hh
  obtain rfl : u = Value.ref a := rz
  obtain ⟨fv, hv⟩ := hf
  have g := (I1.pin (a, oe) (List.mem_append_left _ hp)).1
  have ho : ObjOk Y.prog Y.w H1 s1.heap dd (.xd fs) := I1.hok dd _ hx
  obtain ⟨mA, hns, hr⟩ := ho
  obtain ⟨od, go, gl⟩ := lookIn_ns hns
  obtain ⟨w, hw, rw_⟩ := RelO.some_of (v := v) (o := mA f) (by have := hr f; rw [hl] at this; exact this)
  have J : PySem.W.InstAt s1.heap a oe C (some od) := ⟨g, hz.1, by unfold PySem.W.notCls; rw [hv], by rw [hz.2]; exact go⟩
  have fo : PySem.W.findObj Y.K C (some od) f = some (.value w) := PySem.W.findObj_own T.hdC hno rfl (by rw [gl, hw])
  exact HandSPX.exc_get I1.kIn J T.ga T.gg T.exC fo (handed_of rw_) ⟨v, H1, I1.tok _, rw_, q⟩
/-- fields that no heap is asked for -/
def FlatFs (fs : List (Str × V)) (xs : List (Str × D)) : Prop := Paired (fun (p : Str × V) (q : Str × D) => p.1 = q.1 ∧ ∀ (K : PySem.W.Frag) (lv : List Addr) (H : Hp), Rep K lv H p.2 q.2) fs xs
theorem FlatFs.get {fs : List (Str × V)} {xs : List (Str × D)} (h : FlatFs fs xs) {x : D} (hl : xs.lookup f = some x) : ∃ v, fs.lookup f = some v ∧ ∀ (K : PySem.W.Frag) (lv : List Addr) (H : Hp), Rep K lv H v x := by
  induction h with
  | nil => cases hl
  | @cons p q ps qs hpq _ ih =>
    obtain ⟨pn, pv⟩ := p
    obtain ⟨qn, qv⟩ := q
    obtain ⟨e1, e2⟩ := hpq
    dsimp only at e1 e2
    subst e1
    rw [List.lookup_cons] at hl ⊢
    cases hb : f == pn with
    | true => rw [hb] at hl; cases hl; exact ⟨pv, rfl, e2⟩
    | false => rw [hb] at hl; exact ih hl
/-- the classes that have the field -/
inductive TabX (K : PySem.W.Frag) (mg : Str → Option Value) (f : Str) : List Str → Prop
  | nil : TabX K mg f []
  | cons {n : Str} {D : Addr} {l : List Str} : mg n = some (.ref D) → XfC K D → PySem.W.findIn K (.ref D) f = some none → TabX K mg f l → TabX K mg f (n :: l)
theorem TabX.get {K : PySem.W.Frag} {mg : Str → Option Value} {l : List Str} (h : TabX K mg f l) {n : Str} (hn : n ∈ l) : ∃ D, mg n = some (.ref D) ∧ XfC K D ∧ PySem.W.findIn K (.ref D) f = some none := by
  induction h with
  | nil => cases hn
  | cons h1 h2 h3 _ ih =>
    rcases List.mem_cons.mp hn with rfl | hn
    · exact ⟨_, h1, h2, h3⟩
    · exact ih hn
def eFld (l : List Str) (f : Str) (e : Exn) : EF := fun _ m => if l.contains e.cls = true then (match e.fs.lookup f with
  | some x => .ok (.d x) m
  | none => .bad) else .bad
theorem mej_fld {l : List Str} (hp : (a, oe) ∈ Y.pn) (ht : TabX Y.K Y.mg f l) (hN : Y.N[i]? = some n) (hv : Vis Y.env.scope n) (hz : Zc cls d oe) (hf : ∃ vs, oe.data = .fields vs) (hm2 : Y.mg e.cls = some cls) (hd : e.fs ≠ [] → ∃ dd, d = some dd) (hfl : FlatFs fs e.fs)
    (hdb : (n == ("__debug__" : Str)) = false := by decide) (hcd : (n == ("__classdict__" : Str)) = false := by decide) (hb : attributeBase (.Name n p1) f Y.env (eval (.Name n p1) Y.env) = eval (.Name n p1) Y.env := by rfl) : MEJ Y Wx (HdF i a d fs) (.Attribute (.Name n p1) f pos) (eFld l f e) := by
  by_cases hc : l.contains e.cls = true
  · obtain ⟨D, g1, g2, g3⟩ := ht.get (List.contains_iff_mem.mp hc)
    rw [hm2] at g1
    cases g1
    cases hl : e.fs.lookup f with
    | none =>
      refine ⟨_, pe_nev, fun env m σ G Q S R j h => ?_⟩
      unfold eFld at h
      rw [if_pos hc, hl] at h
      exact h
    | some x =>
      have hne : e.fs ≠ [] := fun z => by rw [z] at hl; cases hl
      obtain ⟨dd, rfl⟩ := hd hne
      obtain ⟨v, v1, v2⟩ := hfl.get hl
      refine ⟨_, pe_fldY (fs := fs) hp g2 g3 hz hf (pe_var hN hv hdb hcd) hb, fun env m σ G Q S R j h => ?_⟩
      unfold eFld at h
      rw [if_pos hc, hl] at h
      exact ⟨_, j.1, rfl, dd, v, rfl, j.2 dd rfl, v1, h v G (Le.refl R) R (v2 _ _ _)⟩
  · refine ⟨_, pe_nev, fun env m σ G Q S R j h => ?_⟩
    unfold eFld at h
    rw [if_neg hc] at h
    exact h
end
/-! ### the try, and what stands behind; exceptions with flat fields -/
def flatX : D → Bool
  | .none => true
  | .bool _ => true
  | .int _ => true
  | .str _ => true
  | _ => false
theorem flatX_rep {K : PySem.W.Frag} {lv : List Addr} {H : Hp} {v : V} {x : D} (h : flatX x = true) (r : Rep K lv H v x) : ∀ (K : PySem.W.Frag) (lv : List Addr) (H : Hp), Rep K lv H v x := by
  cases x with
  | none => cases r; exact fun _ _ _ => .non
  | bool b => cases r; exact fun _ _ _ => .bl b
  | int b => cases r; exact fun _ _ _ => .int b
  | str b => cases r; exact fun _ _ _ => .str b
  | _ => cases h
theorem flat_fs {K : PySem.W.Frag} {lv : List Addr} {H : Hp} {fs : List (Str × V)} {xs : List (Str × D)} (h : Paired (fun (p : Str × V) (q : Str × D) => p.1 = q.1 ∧ Rep K lv H p.2 q.2) fs xs) (ha : (xs.all fun q => flatX q.2) = true) : FlatFs fs xs := by
  induction h with
  | nil => exact .nil
  | @cons p q ps qs hpq _ ih =>
    rw [List.all_cons, Bool.and_eq_true] at ha
    exact .cons ⟨hpq.1, flatX_rep ha.1 hpq.2⟩ (ih ha.2)
def sTryF (i k : Nat) (tab : Str → Option Bool) (fb fr : SF) (fx : Exn → SF) (env : Env) (m : Mem) : SRes := match fb env m with
  | .nx env' m' => fr env' m'
  | .err e env' m' => (match tab e.cls with
    | some true => if (e.fs.all fun q => flatX q.2) = true then fx e ((env'.set i none).set k none) m' else .bad
    | some false => .err e env' m'
    | none => .bad)
  | r => r
section
variable {X : Cx} {Wx : WX}
def cXF (X : Cx) (Wx : WX) (k : Nat) (fx : Exn → SF) (a : Addr) (cls : Value) (d : Option Addr) : TS := fun E σ H => ∃ env m G e fs, G.H = H ∧ RelS X.K G σ env ∧ RelM X.K G m ∧ (∃ τ : L2.St, σ = τ.set k (some (.ref a))) ∧ (∀ dd, d = some dd → G.H dd = some (.xd fs)) ∧ FlatFs fs (Exn.fs e) ∧ (Exn.fs e ≠ [] → ∃ dd, d = some dd) ∧ X.mg (Exn.cls e) = some cls ∧ SPost X Wx G (fx e env m) E
theorem mb_tryF {i k : Nat} {x n kn : Str} {c : Value} {body rest : List Stmt} {np pos pos' p1 p2 p3 : Pos} {tab : Str → Option Bool} {fb fr : SF} {fx : Exn → SF} (hs : X.stack = X.env :: X.outer) (hf : X.env.frame = some X.env.locals) (hN : X.N.Nodup) (hi : X.N[i]? = some n) (hln : X.env.kindOf n = some .local) (hk : X.N[k]? = some kn) (hkl : X.env.kindOf kn = some .local) (ik : i ≠ k) (hc : Names X x c) (tk : Takes X Wx)
    (htab : ∀ n b cls, tab n = some b → X.mg n = some cls → PySem.W.exmOne X.K cls c = some b)
    (hb : ∀ (W : WX) (pn : List (Addr × Obj)) (xe : Value → Shared → Prop), Takes (X.tr pn xe) W → PassesOwn (model X.prog X.w) X.A X.env xe → MB (X.tr pn xe) W body fb)
    (hr : MB X Wx rest fr)
    (hx : ∀ (a : Addr) (oe : Obj) (cls : Value) (d : Option Addr) (pn : List (Addr × Obj)) (e : Exn) (fs : List (Str × V)), Zc cls d oe → (∃ vs, oe.data = .fields vs) → (e.fs ≠ [] → ∃ dd, d = some dd) → FlatFs fs e.fs → X.mg e.cls = some cls → Takes (X.tr ((a, oe) :: pn) X.xe) Wx → MBJ (X.tr ((a, oe) :: pn) X.xe) Wx (HdF k a d fs) rest (fx e))
    (hdb : (n == ("__debug__" : Str)) = false := by decide) (hcd : (n == ("__classdict__" : Str)) = false := by decide) (hsw : swapsWith (.Name n p2) (some (.Name kn p1)) p3.line X.env = pure false := by rfl) :
    MB X Wx (.Try body [.ExceptHandler (some (.Name x np)) (some n) [.Assign [.Name kn p1] (.Name n p2) p3] pos'] [] [] pos :: rest) (sTryF i k tab fb fr fx) := by
  have hsu : ∀ (a : Addr) (pn : List (Addr × Obj)), PSs (X.suite a pn) [.Assign [.Name kn p1] (.Name n p2) p3] (fun E σ H => ∃ v, σ[i]? = some (some v) ∧ E.nx (σ.set k (some v)) H) := fun a pn =>
    pss_one (ps_set (X := X.suite a pn) hN hk (.inl hkl) (pe_var (X := X.suite a pn) hi (.inl hln) hdb hcd) hsw (.inr hkl))
  have hpx : ∀ (a : Addr) (oe : Obj) (cls : Value) (d : Option Addr) (pn : List (Addr × Obj)), Zc cls d oe → (∃ vs, oe.data = .fields vs) → Takes (X.tr ((a, oe) :: pn) X.xe) Wx → PSs (X.tr ((a, oe) :: pn) X.xe) rest (cXF X Wx k fx a cls d) := fun a oe cls d pn hz hv tk' => by
    refine ⟨fun pins s σ H D I ⟨env, m, G, e, fs, eH, S, R, ⟨τ, ej⟩, h0, h1, h2, h3, h⟩ => ?_⟩
    have j : HdF k a d fs σ G.H := by
      have hl : k < σ.length := by rw [I.len]; exact (List.getElem?_eq_some_iff.mp hk).1
      rw [ej, List.length_set] at hl
      exact ⟨by rw [ej]; exact List.getElem?_set_self hl, h0⟩
    obtain ⟨t, p, q⟩ := hx a oe cls d pn e fs hz hv h2 h1 h3 tk'
    subst eH
    refine p.run pins s σ G.H D I (q env m σ G D S R j ?_)
    cases r : fx e env m with
    | nx e2 m2 => rw [r] at h; exact fun σ' G' l R' S' _ => h σ' G' l R' S'
    | bk e2 m2 => rw [r] at h; exact h
    | ct e2 m2 => rw [r] at h; exact h
    | rt w2 m2 => rw [r] at h; exact h
    | err e2 v2 m2 => rw [r] at h; exact h
    | bad => rw [r] at h; exact h
  refine ⟨_, pss_tryB (i := i) (k := k) (tb := fun W => cB X W fb) (tr := cB X Wx fr) (tx := cXF X Wx k fx) hs hf hN hi hln hk hkl hc tk hsu (fun W pn xe tk' po => (hb W pn xe tk' po).pss) hr.pss hpx, fun env m σ G E S R h => ?_⟩
  refine ⟨env, m, G, rfl, S, R, ?_⟩
  unfold sTryF at h
  cases q : fb env m with
  | nx e m1 => rw [q] at h; exact fun σ' G' le R' S' => ⟨e, m1, G', rfl, S', R', SPost.later h le⟩
  | bk e m1 => rw [q] at h; exact h
  | ct e m1 => rw [q] at h; exact h
  | rt w m1 => rw [q] at h; exact h
  | bad => rw [q] at h; exact h
  | err e env' m1 =>
    rw [q] at h
    dsimp only at h
    intro c' d σ' G' le R' S' ex
    cases t : tab e.cls with
    | none => rw [t] at h; exact False.elim h
    | some b =>
      rw [t] at h
      refine ⟨b, htab _ b c' t ex.1, fun hb => ?_, fun hb a ha => ?_⟩
      · subst hb
        exact h c' d σ' G' le R' S' ex
      · subst hb
        dsimp only at h
        have e3 : ((env'.set i none).set k none).set i none = (env'.set i none).set k none := by
          rw [List.set_comm _ _ (Ne.symm ik), List.set_set]
        have S3 := ((S'.setN i (some (.ref a))).setN k (some (.ref a))).setN i none
        rw [e3] at S3
        by_cases hfl : (e.fs.all fun q => flatX q.2) = true
        · rw [if_pos hfl] at h
          rcases ex.2 with ⟨z1, z2⟩ | ⟨dd, fs, z0, z1, z2, _, z3⟩
          · refine ⟨(env'.set i none).set k none, m1, G', e, [], rfl, S3, R', ⟨_, List.set_comm _ _ (Ne.symm ik)⟩, fun dd hd => ?_, by rw [z1]; exact .nil, fun hn => absurd z1 hn, ex.1, SPost.later h le⟩
            rw [z2] at hd
            cases hd
          · refine ⟨(env'.set i none).set k none, m1, G', e, fs, rfl, S3, R', ⟨_, List.set_comm _ _ (Ne.symm ik)⟩, fun d2 hd => ?_, flat_fs z3 hfl, fun _ => ⟨dd, z1⟩, ex.1, SPost.later h le⟩
            rw [z1] at hd
            cases hd
            exact z2
        · rw [if_neg hfl] at h
          exact False.elim h
end
end M

set_option Elab.async false
set_option linter.all false
set_option maxRecDepth 100000
/-! M: an own exception class with fields: its __init__, raise -/
namespace M
open PySem L2
section
variable {X : Cx} {e : Expr} {es : List Expr} {ta : TA} {p1 p2 pos : Pos} {x : Str} {C0 : Addr}
/-- what an own class that hands on ValueError's __init__ must say -/
structure InC (K : PySem.W.Frag) (C0 : Addr) : Prop where
  sp : PySem.W.specialIn K (.ref C0) "__getattribute__" = some (some (.builtin "type.__getattribute__"))
  rd : PySem.W.readsIn K C0 (.type "type") = true
  fd : PySem.W.findCls K (.ref C0) (.type "type") "__init__" = some (.val (.builtin "ValueError.__init__"))
/-- S.__init__(self, ..), S an own class without __init__ -/
theorem pe_oinit {pl : Sem Bool} (hg : Gl X x) (hm : X.mg x = some (.ref C0)) (hI : InC X.K C0) (ha : PA X (e :: es) ta) (hdb : (x == ("__debug__" : Str)) = false := by decide)
    (hc : eval (.Call (.Attribute (.Name x p1) "__init__" p2) (e :: es) [] pos) X.env = (do
      let ov ← eval (.Name x p1) X.env
      standAt p2.atName
      let (f, first) ← holding [ov] (getMethod ov "__init__" pl)
      callWith pos f first (backTo pos (starEach (e :: es) X.env)) (backToKw pos (keywordEach [] X.env))) := by rfl)
    (he : starEach (e :: es) X.env = (false, eval e X.env) :: starEach es X.env := by rfl) (hpl : (backTo pos (starEach es X.env)).any (·.1) = false := by rfl) :
    PE X (.Call (.Attribute (.Name x p1) "__init__" p2) (e :: es) [] pos) (tVeI X.K ta) := by
  refine ⟨fun pins s σ H Q I h => PySem.W.methodCall_KW (ld_glob I hg hm ?_ hdb) hc⟩
  refine PySem.W.method_cls I.kIn hI.sp (PySem.W.cls_value I.kIn hI.rd hI.fd (by decide +kernel) ?_)
  show wpAny _ _ (callWith pos (Value.builtin "ValueError.__init__") [] (backTo pos (starEach (e :: es) X.env)) []) _ _ _
  refine PyProof.Rows.callWith_method1 (thn (ha.run pos pins _ σ H _ (I.tok _) h) fun us s1 hq => ?_) he hpl
  obtain ⟨vs, H1, I1, r1, a, C, ws, rfl, hl, T, ea, q⟩ := hq
  obtain _ | ⟨ra, rr⟩ := r1
  cases ra
  have hn := Paired.length rr
  exact oinit_ok T I1 ea (by rw [sizeLine_eq]; omega) fun s' J => ⟨.non, H1, J, rfl, q⟩
end
/-! ### __init__ of a class with two fields, or one -/
section
variable {K : PySem.W.Frag} {C : Addr} {f1 f2 : Str} {z : Str}
def sp2 (C : Addr) (f1 f2 : Str) : Sp := fun vs H Q _ => ∃ a v1 v2, vs = [.ref a, v1, v2] ∧ H a = some (exo a C none) ∧ ∀ dx, H dx = none → dx ≠ a → Q .non (upd (upd (upd H dx (exd dx [(f1, v1)])) a (exo a C (some dx))) dx (exd dx [(f2, v2), (f1, v1)]))
def sp1 (C : Addr) (f1 : Str) : Sp := fun vs H Q _ => ∃ a v1, vs = [.ref a, v1] ∧ H a = some (exo a C none) ∧ ∀ dx, H dx = none → dx ≠ a → Q .non (upd (upd H dx (exd dx [(f1, v1)])) a (exo a C (some dx)))
def tInit2 (K : PySem.W.Frag) (z f1 f2 : Str) : TS := tSeq (tDrop (tVeI K (tCons (tVar 0) (tCons (tC (.str z)) tNil)))) (tSeq (tOst K f1 (tVar 0) (tVar 1)) (tOst K f2 (tVar 0) (tVar 2)))
def tInit1 (K : PySem.W.Frag) (z f1 : Str) : TS := tSeq (tDrop (tVeI K (tCons (tVar 0) (tCons (tC (.str z)) tNil)))) (tOst K f1 (tVar 0) (tVar 1))
theorem init2 (T : OexC K C) (h1 : PySem.W.findIn K (.ref C) f1 = some none) (h2 : PySem.W.findIn K (.ref C) f2 = some none) {σ : L2.St} {H : Hp} {D : Ends} {a : Addr} {v1 v2 : V} (s0 : σ[0]? = some (some (.ref a))) (s1 : σ[1]? = some (some v1)) (s2 : σ[2]? = some (some v2)) (ea : H a = some (exo a C none))
    (q : ∀ dx, H dx = none → dx ≠ a → D.nx σ (upd (upd (upd H dx (exd dx [(f1, v1)])) a (exo a C (some dx))) dx (exd dx [(f2, v2), (f1, v1)]))) : tInit2 K z f1 f2 D σ H :=
  ⟨.ref a, s0, a, C, [.str z], rfl, by simp, T, ea, v1, s1, .ref a, s0, a, C, rfl, T, h1, .inl ⟨ea, fun dx n ne => ⟨v2, s2, .ref a, s0, a, C, rfl, T, h2, .inr ⟨dx, [(f1, v1)], upd_same, by rw [upd_ne ne]; exact upd_same, by simp, q dx n ne⟩⟩⟩⟩
theorem init1 (T : OexC K C) (h1 : PySem.W.findIn K (.ref C) f1 = some none) {σ : L2.St} {H : Hp} {D : Ends} {a : Addr} {v1 : V} (s0 : σ[0]? = some (some (.ref a))) (s1 : σ[1]? = some (some v1)) (ea : H a = some (exo a C none))
    (q : ∀ dx, H dx = none → dx ≠ a → D.nx σ (upd (upd H dx (exd dx [(f1, v1)])) a (exo a C (some dx)))) : tInit1 K z f1 D σ H :=
  ⟨.ref a, s0, a, C, [.str z], rfl, by simp, T, ea, v1, s1, .ref a, s0, a, C, rfl, T, h1, .inl ⟨ea, q⟩⟩
variable {P : Program} {w : World} {mg : Str → Option Value} {base : Heap}
theorem okI2 {x qual : Str} {st : Stmt} {f : Addr} {fd : FuncData} {n0 n1 n2 : Str} {k : Nat} (F : Fun K x qual st f fd) (S : FnScope [n0, n1, n2] [n0, n1, n2] (defScope st)) (T : OexC K C) (h1 : PySem.W.findIn K (.ref C) f1 = some none) (h2 : PySem.W.findIn K (.ref C) f2 = some none)
    (hbody : ∀ (cdv : Value) (A : Around) (outer : List PySem.Env) (s : Shared) (H : Hp) (E : XK), PSs (cxM P w K mg base [n0, n1, n2] qual (defScope st) f cdv A outer s H E) (defBody st) (tInit2 K z f1 f2)) : FnOk P w K mg base (L2.CX P w) (k + 1) f fd [n0, n1, n2] (sp2 C f1 f2) := by
  refine F.okX S (fun vs H Q E ⟨a, v1, v2, e, _⟩ => by rw [e]; rfl) fun cdv A outer s H vs Q E hr ⟨a, v1, v2, e, ea, q⟩ => ?_
  subst e
  exact ⟨_, hbody cdv A outer s H E, init2 T h1 h2 rfl rfl rfl ea q⟩
theorem okI1 {x qual : Str} {st : Stmt} {f : Addr} {fd : FuncData} {n0 n1 : Str} {k : Nat} (F : Fun K x qual st f fd) (S : FnScope [n0, n1] [n0, n1] (defScope st)) (T : OexC K C) (h1 : PySem.W.findIn K (.ref C) f1 = some none)
    (hbody : ∀ (cdv : Value) (A : Around) (outer : List PySem.Env) (s : Shared) (H : Hp) (E : XK), PSs (cxM P w K mg base [n0, n1] qual (defScope st) f cdv A outer s H E) (defBody st) (tInit1 K z f1)) : FnOk P w K mg base (L2.CX P w) (k + 1) f fd [n0, n1] (sp1 C f1) := by
  refine F.okX S (fun vs H Q E ⟨a, v1, e, _⟩ => by rw [e]; rfl) fun cdv A outer s H vs Q E hr ⟨a, v1, e, ea, q⟩ => ?_
  subst e
  exact ⟨_, hbody cdv A outer s H E, init1 T h1 rfl rfl ea q⟩
end
/-! ### raise C(x, y) -/
section
variable {X : Cx} {Wx : WX} {C : Addr} {f1 f2 : Str}
theorem heap2 {H : Hp} {a dx : Addr} {o1 o2 o3 o4 o : HO} (na : H a = none) (ne : dx ≠ a) : upd (del (upd (upd (upd (upd H a o1) dx o2) a o3) dx o4) a) dx o = upd H dx o := by
  funext b
  by_cases h1 : b = dx
  · subst h1; rw [upd_same, upd_same]
  · rw [upd_ne h1, upd_ne h1]
    by_cases h2 : b = a
    · subst h2; rw [del_same, na]
    · rw [del_ne h2, upd_ne h1, upd_ne h2, upd_ne h1, upd_ne h2]
def sRaise2 (x f1 f2 : Str) (g : AF) (env : Env) (m : Mem) : SRes := match g env m with
  | .ok [.d x1, .d x2] m1 => .err ⟨x, [(f2, x2), (f1, x1)]⟩ env m1
  | .err e m1 => .err e env m1
  | _ => .bad
theorem ms_raise2 {k : Nat} {fI : Addr} {fd : FuncData} {ps : List Str} {x : Str} {p pos pos' : Pos} {e : Expr} {es : List Expr} {g : AF} (hc : X.calm = true) (tk : Takes X Wx) (T : OexC X.K C) (iC : PySem.W.findIn X.K (.ref C) "__init__" = some (some (.ref fI))) (tI : PySem.W.typeIn X.K (.ref fI) = some (.type "function"))
    (F1 : FnOk X.prog X.w X.K X.mg X.base (L2.CX X.prog X.w) k fI fd ps (sp2 C f1 f2)) (hr : Room (k + 1) X.A) (hb : Binds X.K fd ps []) (hg : Gl X x) (hm : X.mg x = some (.ref C)) (ha : MA X Wx (e :: es) g)
    (hdb : (x == ("__debug__" : Str)) = false := by decide) (he : starEach (e :: es) X.env = (false, eval e X.env) :: starEach es X.env := by rfl) (hpl : (backTo pos (starEach es X.env)).any (·.1) = false := by rfl) :
    MS X Wx (.Raise (some (.Call (.Name x p) (e :: es) [] pos)) none pos') (sRaise2 x f1 f2 g) := by
  obtain ⟨t, pa, qa⟩ := ha
  refine ⟨_, ps_raise hc tk (pmk_oex T iC tI F1 hr hb .nil (passes_call tk fun _ _ _ _ z => z.elim) hg hm pa hdb he hpl), fun env m σ G E S R h => qa env m σ G _ S R ?_⟩
  unfold sRaise2 at h
  cases ew : g env m with
  | bad => rw [ew] at h; exact h
  | err y m1 => rw [ew] at h; exact fun c d G' le R' ex => h c d σ G' le R' (S.mono le) ex
  | ok ws m1 =>
    rw [ew] at h
    match ws, h with
    | [.d x1, .d x2], h =>
      intro vs G1 le1 R1 q1
      match vs, q1 with
      | [v1, v2], .cons r1 (.cons r2 .nil) =>
        refine ⟨by simp, fun a na => ⟨a, v1, v2, rfl, upd_same, fun dx n ne => ⟨rfl, dx, [(f2, v2), (f1, v1)], ?_, upd_same, ?_, ?_⟩⟩⟩
        · rw [upd_ne (Ne.symm ne)]; exact upd_same
        · rw [upd_ne ne] at n; exact n
        · have n2 : G1.H dx = none := by rw [upd_ne ne] at n; exact n
          rw [heap2 na ne]
          have le2 := Le.new (p := dx) (o := .xd [(f2, v2), (f1, v1)]) R1 n2
          exact h (.ref C) (some dx) σ ⟨G1.io, G1.lv, upd G1.H dx (.xd [(f2, v2), (f1, v1)])⟩ (le1.trans le2) (R1.new n2) (S.mono (le1.trans le2)) ⟨hm, .inr ⟨dx, [(f2, v2), (f1, v1)], by simp, rfl, upd_same, fun z => R1.it dx z n2, .cons ⟨rfl, RepR.mono (w := .d x2) r2 le2⟩ (.cons ⟨rfl, RepR.mono (w := .d x1) r1 le2⟩ .nil)⟩⟩
theorem heap1 {H : Hp} {a dx : Addr} {o1 o2 o3 o : HO} (na : H a = none) (ne : dx ≠ a) : upd (del (upd (upd (upd H a o1) dx o2) a o3) a) dx o = upd H dx o := by
  funext b
  by_cases h1 : b = dx
  · subst h1; rw [upd_same, upd_same]
  · rw [upd_ne h1, upd_ne h1]
    by_cases h2 : b = a
    · subst h2; rw [del_same, na]
    · rw [del_ne h2, upd_ne h2, upd_ne h1, upd_ne h2]
def sRaise1 (x f1 : Str) (g : AF) (env : Env) (m : Mem) : SRes := match g env m with
  | .ok [.d x1] m1 => .err ⟨x, [(f1, x1)]⟩ env m1
  | .err e m1 => .err e env m1
  | _ => .bad
theorem ms_raise1 {k : Nat} {fI : Addr} {fd : FuncData} {ps : List Str} {x : Str} {p pos pos' : Pos} {e : Expr} {es : List Expr} {g : AF} (hc : X.calm = true) (tk : Takes X Wx) (T : OexC X.K C) (iC : PySem.W.findIn X.K (.ref C) "__init__" = some (some (.ref fI))) (tI : PySem.W.typeIn X.K (.ref fI) = some (.type "function"))
    (F1 : FnOk X.prog X.w X.K X.mg X.base (L2.CX X.prog X.w) k fI fd ps (sp1 C f1)) (hr : Room (k + 1) X.A) (hb : Binds X.K fd ps []) (hg : Gl X x) (hm : X.mg x = some (.ref C)) (ha : MA X Wx (e :: es) g)
    (hdb : (x == ("__debug__" : Str)) = false := by decide) (he : starEach (e :: es) X.env = (false, eval e X.env) :: starEach es X.env := by rfl) (hpl : (backTo pos (starEach es X.env)).any (·.1) = false := by rfl) :
    MS X Wx (.Raise (some (.Call (.Name x p) (e :: es) [] pos)) none pos') (sRaise1 x f1 g) := by
  obtain ⟨t, pa, qa⟩ := ha
  refine ⟨_, ps_raise hc tk (pmk_oex T iC tI F1 hr hb .nil (passes_call tk fun _ _ _ _ z => z.elim) hg hm pa hdb he hpl), fun env m σ G E S R h => qa env m σ G _ S R ?_⟩
  unfold sRaise1 at h
  cases ew : g env m with
  | bad => rw [ew] at h; exact h
  | err y m1 => rw [ew] at h; exact fun c d G' le R' ex => h c d σ G' le R' (S.mono le) ex
  | ok ws m1 =>
    rw [ew] at h
    match ws, h with
    | [.d x1], h =>
      intro vs G1 le1 R1 q1
      match vs, q1 with
      | [v1], .cons r1 .nil =>
        refine ⟨by simp, fun a na => ⟨a, v1, rfl, upd_same, fun dx n ne => ⟨rfl, dx, [(f1, v1)], upd_same, ?_, ?_, ?_⟩⟩⟩
        · rw [upd_ne ne]; exact upd_same
        · rw [upd_ne ne] at n; exact n
        · have n2 : G1.H dx = none := by rw [upd_ne ne] at n; exact n
          rw [heap1 na ne]
          have le2 := Le.new (p := dx) (o := .xd [(f1, v1)]) R1 n2
          exact h (.ref C) (some dx) σ ⟨G1.io, G1.lv, upd G1.H dx (.xd [(f1, v1)])⟩ (le1.trans le2) (R1.new n2) (S.mono (le1.trans le2)) ⟨hm, .inr ⟨dx, [(f1, v1)], by simp, rfl, upd_same, fun z => R1.it dx z n2, .cons ⟨rfl, RepR.mono (w := .d x1) r1 le2⟩ .nil⟩⟩
end
/-! ### what may be asked of a field -/
section
variable {X : Cx} {Wx : WX} {J : L2.St → Hp → Prop} [JMono J]
theorem mej_cmp {op : CmpOp} {r : R2} {g : W → W → Mem → Res W} {a b : Expr} {fa fb : EF} {pos : Pos} (ho : OpR X (compareOp op) r) (hg : OpOk X Wx r g) (ha : MEJ X Wx J a fa) (hb : MEJ X Wx J b fb) (hm : behindInMarks op b = false := by first | exact nomark _ | with_unfolding_all rfl) :
    MEJ X Wx J (.Compare a [op] [b] pos) (eOp g fa fb) := by
  obtain ⟨ta, pa, qa⟩ := ha
  obtain ⟨tb, pb, qb⟩ := hb
  refine ⟨_, pe_cmpR ho pa pb hm, fun env m σ G Q S R j h => ?_⟩
  refine qa env m σ G _ S R j (GPost.bind weakR h fun x m1 v G1 le1 R1 q1 h1 => ?_)
  refine qb env m1 σ G1 _ (S.mono le1) R1 (JMono.mono R le1 j) (GPost.bind weakR h1 fun y m2 u G2 le2 R2 q2 h2 => ?_)
  exact hg σ G2 m2 v u x y _ _ Q R2 (q1.mono le2) q2 h2
theorem mej_isi (t : Tk) {e : Expr} {f : EF} {x : Str} {p p' pos : Pos} (hg : Gl X "isinstance") (hm : X.mg "isinstance" = none) (hgT : Gl X x) (hmT : X.mg x = none) (he : MEJ X Wx J e f) (hx : bootBuiltins x = some (.type t.name) := by decide +kernel)
    (hn : x ≠ "__name__" := by decide) (hd : (x == ("__debug__" : Str)) = false := by decide)
    (h1 : starEach [e, .Name x p'] X.env = (false, eval e X.env) :: starEach [.Name x p'] X.env := by rfl) (hpl : (backTo pos (starEach [.Name x p'] X.env)).any (·.1) = false := by rfl) (h2 : starEach [.Name x p'] X.env = (false, eval (.Name x p') X.env) :: starEach [] X.env := by rfl) :
    MEJ X Wx J (.Call (.Name "isinstance" p) [e, .Name x p'] [] pos) (eIsi [t] f) := by
  obtain ⟨te, pe, qe⟩ := he
  refine ⟨_, pe_callB call_isi hg hm (by decide +kernel) (pa_cons pe (pa_cons (pe_bltn (v := .ty t.name) hgT hmT hx rfl hn hd) pa_nil h2) h1) (by decide) (by decide) h1 hpl, fun env m σ G Q S R j h => qe env m σ G _ S R j (GPost.bind weakR h fun w m1 v G1 le1 R1 q1 h1 => ?_)⟩
  cases e : tyW w m1 with
  | none => simp only [e] at h1; exact False.elim h1
  | some t' =>
    simp only [e] at h1
    refine ⟨v, .ty t.name, .type t'.name, .type t.name, t'.sub t, rfl, .ty _, tyW_ok R1 q1 e, kit_ty (Tk.kit _ _), ?_⟩
    have h1 : GPost X Wx σ G1 (RepR X.K) (.ok (.d (.bool (t'.sub t || false))) m1) Q := h1
    rw [Bool.or_false] at h1
    exact finD R1 h1 (.bl _)
end
/-- an own exception class with fields -/
structure XW (K : PySem.W.Frag) (mg : Str → Option Value) (x : Str) where
  C : Addr
  g : mg x = some (.ref C)
  oex : OexC K C
  xf : XfC K C
  fI : Addr
  iC : PySem.W.findIn K (.ref C) "__init__" = some (some (.ref fI))
  tI : PySem.W.typeIn K (.ref fI) = some (.type "function")
end M

set_option Elab.async false
set_option linter.all false
set_option maxRecDepth 100000
/-! P: exceptions with fields -/
namespace M
open PySem L2
noncomputable section
section
variable {s sr : Nat} {ms : List Bool} {fa fb : EF} {ga gb : GEx}
def gTabF (tab : Str → Option Bool) (e : Exn) : GEx := fun γ ρ K => match tab e.cls with
  | some b => K (.v (.bool b)) ρ
  | none => .bad
def ptabF {γ : Type} (tab : Str → Option Bool) (e : Exn) (k : D → PR γ) : PR γ := match tab e.cls with
  | some b => k (.bool b)
  | none => .bad
def pfld {γ : Type} (l : List Str) (f : Str) (e : Exn) (k : D → PR γ) : PR γ := if l.contains e.cls = true then (match e.fs.lookup f with
  | some x => k x
  | none => .bad) else .bad
theorem re_tabF (tab : Str → Option Bool) (e : Exn) : RE 0 ms (eTabF tab e) (gTabF tab e) := by
  intro γ fr ρ env m K R nb
  unfold gTabF at nb ⊢
  unfold eTabF
  cases t : tab e.cls with
  | none => rw [t] at nb; exact absurd rfl nb
  | some b => exact EPost.ok (v := .v (.bool b)) R rfl rfl
def gFld (l : List Str) (f : Str) (e : Exn) : GEx := fun γ ρ K => if l.contains e.cls = true then (match e.fs.lookup f with
  | some x => K (.v x) ρ
  | none => .bad) else .bad
theorem re_fld (l : List Str) (f : Str) (e : Exn) : RE 0 ms (eFld l f e) (gFld l f e) := by
  intro γ fr ρ env m K R nb
  unfold gFld at nb ⊢
  unfold eFld
  by_cases h : l.contains e.cls = true
  · rw [if_pos h] at nb ⊢
    rw [if_pos h]
    cases t : e.fs.lookup f with
    | none => rw [t] at nb; exact absurd rfl nb
    | some x => exact EPost.ok (v := .v x) R rfl rfl
  · rw [if_neg h] at nb; exact absurd rfl nb
def gsTryF (tab : Str → Option Bool) (ds : List (Nat × Kd)) (mb : List Bool) (b r : GSx) (h : Exn → GSx) : GSx := fun γ ρ kn kb kc kr =>
  tryKB tab (runT ds b ρ) (fun e => if (e.fs.all fun q => flatX q.2) = true then h e γ (wip mb ρ) kn kb kc kr else .bad) fun o => toK o (fun s => r γ (put ds (wip mb ρ) s) kn kb kc kr) (fun x s => kr (.v x) (put ds (wip mb ρ) s))
theorem rs_tryF {i k : Nat} {tab : Str → Option Bool} {ds : List (Nat × Kd)} {mb : List Bool} {fb fr' : SF} {fx : Exn → SF} {gb gr : GSx} {gx : Exn → GSx} (hb : RS sr mb fb gb) (hr : RS sr ms fr' gr) (hh : ∀ e, RS sr ms (fx e) (gx e)) (hi : isM mb i = true := by rfl) (hk : isM mb k = true := by rfl) (hd : inM mb ds = true := by rfl) (hs : subM mb ms = true := by rfl) : RS sr ms (sTryF i k tab fb fr' fx) (gsTryF tab ds mb gb gr gx) := by
  intro γ fr ρ env m kn kb kc kr R nb
  have e0 : gsTryF tab ds mb gb gr gx γ ρ kn kb kc kr = tryKB tab (runT ds gb ρ) (fun e => if (e.fs.all fun q => flatX q.2) = true then gx e γ (wip mb ρ) kn kb kc kr else .bad) fun o => toK o (fun s => gr γ (put ds (wip mb ρ) s) kn kb kc kr) (fun x s => kr (.v x) (put ds (wip mb ρ) s)) := rfl
  rw [e0] at nb ⊢
  have nb1 : runT ds gb ρ ≠ .bad := fun z => nb (by rw [z]; rfl)
  unfold sTryF
  rcases runT_ok hb hd R (Ag.refl _ _) nb1 with ⟨s, e1, m1, r1, r2, r3, r4⟩ | ⟨x, s, w, e1, m1, r1, r2, r3, r4⟩ | ⟨e, e1, m1, r1, r2, r3, r4⟩
  · rw [r1, tryKB_ok, toK_nx] at nb
    rw [r1, r2, tryKB_ok, toK_nx]
    exact SPo.later ((shape_ag hd s).sub hs) (r4.sub hs) (hr γ fr _ e1 m1 kn kb kc kr r3 nb)
  · rw [r1, r2, tryKB_ok, toK_rt]
    exact .rt w m1 (.v x) _ e1 r3 r4 rfl ((shape_ag hd s).sub hs)
  · rw [r1] at nb ⊢
    rw [r2]
    dsimp only
    cases t : tab e.cls with
    | none =>
      exfalso
      refine nb ?_
      show (match tab e.cls with | some true => _ | some false => PR.err e | none => .bad) = _
      rw [t]
    | some b =>
      cases b with
      | false =>
        have ez : (tryKB tab (.err e) (fun e => if (e.fs.all fun q => flatX q.2) = true then gx e γ (wip mb ρ) kn kb kc kr else .bad) fun o => toK o (fun s => gr γ (put ds (wip mb ρ) s) kn kb kc kr) (fun x s => kr (.v x) (put ds (wip mb ρ) s))) = .err e := by
          show (match tab e.cls with | some true => _ | some false => PR.err e | none => .bad) = _
          rw [t]
        rw [ez]
        exact .err e e1 m1 (wip_sub hs r3) rfl (r4.sub hs)
      | true =>
        rw [tryKB_err t] at nb ⊢
        have r5 : Rel fr (wip mb ρ) ((e1.set i none).set k none) m1 := Rel.drop1 (Rel.drop1 r3 i (wip_x hi)) k (wip_x hk)
        dsimp only
        by_cases hfl : (e.fs.all fun q => flatX q.2) = true
        · rw [if_pos hfl] at nb ⊢
          rw [if_pos hfl]
          exact SPo.later (ρ1 := wip mb ρ) (env1 := (e1.set i none).set k none) ((wip_wip mb ρ).sub hs) (((r4.trans (AgE.set hi)).trans (AgE.set hk)).sub hs) (hh e γ fr _ _ m1 kn kb kc kr r5 nb)
        · rw [if_neg hfl] at nb
          exact absurd rfl nb
def gsRaise2 (x f1 f2 : Str) (ga gb : GEx) : GSx := fun γ ρ kn kb kc kr => ga γ ρ fun v1 ρ1 => gb γ ρ1 fun v2 ρ2 => match v1, v2 with
  | .v x1, .v x2 => .err ⟨x, [(f2, x2), (f1, x1)]⟩
  | _, _ => .bad
theorem rs_raise2 {x f1 f2 : Str} (ha : RE 0 ms fa ga) (hb : RE 0 ms fb gb) : RS sr ms (sRaise2 x f1 f2 (aCons fa (aCons fb aNil))) (gsRaise2 x f1 f2 ga gb) := by
  intro γ fr ρ env m kn kb kc kr R nb
  have e0 : gsRaise2 x f1 f2 ga gb γ ρ kn kb kc kr = ga γ ρ fun v1 ρ1 => gb γ ρ1 fun v2 ρ2 => match v1, v2 with
    | .v x1, .v x2 => .err ⟨x, [(f2, x2), (f1, x1)]⟩
    | _, _ => .bad := rfl
  rw [e0] at nb ⊢
  unfold sRaise2 aCons aNil
  rcases ha γ fr ρ env m _ R nb with ⟨w1, m1, v1, ρ1, e1, R1, h1, p1, a1⟩ | ⟨e, m1, e1, p1, R1⟩
  · rw [p1] at nb ⊢
    rw [e1]
    simp only [Res.bind_ok]
    dsimp only at nb ⊢
    rcases hb γ fr ρ1 env m1 _ R1 nb with ⟨w2, m2, v2, ρ2, e2, R2, h2, p2, a2⟩ | ⟨e, m2, e2, p2, R2⟩
    · rw [p2] at nb ⊢
      rw [e2]
      simp only [Res.bind_ok]
      dsimp only at nb ⊢
      cases v1 with
      | r i => exact absurd rfl nb
      | v x1 =>
        cases v2 with
        | r i => exact absurd rfl nb
        | v x2 =>
          have d1 : w1 = .d x1 := h1
          have d2 : w2 = .d x2 := h2
          subst d1
          subst d2
          exact SPo.later (a1.trans a2) (AgE.refl _ _) (.err _ env m2 (R2.wip (AgE.refl _ _)) rfl (AgE.refl _ _))
    · rw [p2, e2]
      exact SPo.later a1 (AgE.refl _ _) (.err e env m2 R2 rfl (AgE.refl _ _))
  · rw [p1, e1]
    exact .err e env m1 R1 rfl (AgE.refl _ _)
def gsRaise1 (x f1 : Str) (ga : GEx) : GSx := fun γ ρ kn kb kc kr => ga γ ρ fun v1 ρ1 => match v1 with
  | .v x1 => .err ⟨x, [(f1, x1)]⟩
  | _ => .bad
theorem rs_raise1 {x f1 : Str} (ha : RE 0 ms fa ga) : RS sr ms (sRaise1 x f1 (aCons fa aNil)) (gsRaise1 x f1 ga) := by
  intro γ fr ρ env m kn kb kc kr R nb
  have e0 : gsRaise1 x f1 ga γ ρ kn kb kc kr = ga γ ρ fun v1 ρ1 => match v1 with
    | .v x1 => .err ⟨x, [(f1, x1)]⟩
    | _ => .bad := rfl
  rw [e0] at nb ⊢
  unfold sRaise1 aCons aNil
  rcases ha γ fr ρ env m _ R nb with ⟨w1, m1, v1, ρ1, e1, R1, h1, p1, a1⟩ | ⟨e, m1, e1, p1, R1⟩
  · rw [p1] at nb ⊢
    rw [e1]
    simp only [Res.bind_ok]
    dsimp only at nb ⊢
    cases v1 with
    | r i => exact absurd rfl nb
    | v x1 =>
      have d1 : w1 = .d x1 := h1
      subst d1
      exact SPo.later a1 (AgE.refl _ _) (.err _ env m1 (R1.wip (AgE.refl _ _)) rfl (AgE.refl _ _))
  · rw [p1, e1]
    exact .err e env m1 R1 rfl (AgE.refl _ _)
end
end
end M

set_option Elab.async false
set_option linter.all false
set_option maxRecDepth 100000
/-! M: lists of objects (lsw) -/
namespace M
open PySem L2
def asV (w : W) (m : Mem) : Option (Nat × List W) := match w with
  | .obj i => match m[i]? with
    | some (.lsw ws) => some (i, ws)
    | _ => none
  | _ => none
section
variable {X : Cx} {Wx : WX}
theorem asV_get {G : Wd} {m : Mem} {v : V} {w : W} {H0 : Hp} {i : Nat} {ws : List W} (R : RelM X.K G m) (r : RepR X.K H0 G v w) (e : asV w m = some (i, ws)) : ∃ a vs, v = .ref a ∧ m[i]? = some (.lsw ws) ∧ G.io[i]? = some a ∧ a ∈ G.lv ∧ G.H a = some (.lst vs) ∧ Paired (RepW X.K G) vs ws := by
  cases w with
  | obj j =>
    obtain ⟨a, h1, rfl⟩ := r
    simp only [asV] at e
    cases eo : m[j]? with
    | none => rw [eo] at e; cases e
    | some o =>
      rw [eo] at e
      cases o with
      | lsw es => cases e; obtain ⟨h2, vs, h3, h4⟩ := R.ob _ a _ h1 eo; exact ⟨a, vs, rfl, eo, h1, h2, h3, h4⟩
      | _ => cases e
  | _ => cases e
theorem paired_atI {α β : Type} {F : α → β → Prop} {l₁ : List α} {l₂ : List β} {i : Int} {b : β} (h : Paired F l₁ l₂) (e : L2.atI l₂ i = some b) : ∃ a, L2.atI l₁ i = some a ∧ F a b := by
  unfold L2.atI at e ⊢
  rw [Paired.length h]
  cases q : ixN l₂.length i with
  | none => rw [q] at e; cases e
  | some j =>
    rw [q] at e
    exact Paired.get h e
def ixV (x y : W) (m : Mem) : Res W := match asV x m, y with
  | some (_, ws), .d (.int k) => match L2.atI ws k with
    | some w => .ok w m
    | none => .bad
  | _, _ => .bad
theorem ixV_ok : OpOk X Wx (rIx X.K) ixV := by
  intro σ G m v u x y H0 H1 Q R rx ry h
  unfold ixV at h
  split at h
  · rename_i i ws k e
    obtain ⟨a, vs, rfl, h0, h1, h2, h3, h4⟩ := asV_get R rx e
    cases ry
    split at h
    · rename_i w ew
      obtain ⟨z, z1, z2⟩ := paired_atI h4 ew
      exact .inl ⟨a, vs, k, z, rfl, rfl, SqL.of h3, z1, h z G (Le.refl R) R z2.r⟩
    · exact False.elim h
  · exact False.elim h
def lenV (ws : List W) (m : Mem) : Res W := match ws with
  | [w] => match asV w m with
    | some (_, us) => .ok (.d (.int (us.length : Int))) m
    | none => .bad
  | _ => .bad
theorem lenV_ok : CallOk X Wx (fun xs H Q => ∃ x n, xs = [x] ∧ LenV X.K x H n ∧ Q (.int n) H) lenV := by
  intro σ G m vs ws H0 Q R r h
  unfold lenV at h
  split at h
  · rename_i w
    obtain ⟨v, rfl, r0⟩ := paired1 r
    split at h
    · rename_i i us e
      obtain ⟨a, xs, rfl, h0, h1, h2, h3, h4⟩ := asV_get R r0 e
      exact ⟨_, _, rfl, .inl ⟨_, SqL.of h3, (Paired.length h4).symm⟩, finD R h (.int _)⟩
    · exact False.elim h
  · exact False.elim h
theorem objV_mut {a : Addr} {i : Nat} {ws : List W} {σ : L2.St} {G : Wd} {m : Mem} {Q : VK} {us : List V} (R : RelM X.K G m) (h1 : G.io[i]? = some a) (hl : a ∈ G.lv) (r : Paired (RepW X.K G) us ws) : Le G ⟨G.io, G.lv, upd G.H a (.lst us)⟩ ∧ RelM X.K ⟨G.io, G.lv, upd G.H a (.lst us)⟩ (m.set i (.lsw ws)) := by
  have le : Le G ⟨G.io, G.lv, upd G.H a (.lst us)⟩ := Le.mut R h1 hl
  refine ⟨le, R.mut h1 hl ⟨hl, us, upd_same, Paired.mono (fun _ _ z => z.mono le) r⟩ ?_⟩
  show ws.all (okW m.length) = true
  rw [List.all_eq_true]
  intro w hw
  obtain ⟨j, e⟩ := List.getElem?_of_mem hw
  obtain ⟨v, e1, z⟩ := Paired.get r e
  cases w with
  | d x => rfl
  | ro x => rfl
  | fl x => exact False.elim z
  | obj j =>
    obtain ⟨a', z1, _⟩ := z
    have := (List.getElem?_eq_some_iff.mp z1).1
    exact decide_eq_true (by rw [← R.len]; exact this)
def appendV (x : W) (ws : List W) (m : Mem) : Res W := match asV x m, ws with
  | some (i, us), [w] => if us.length < sizeLine ∧ okW m.length w = true then .ok (.d .none) (m.set i (.lsw (us ++ [w]))) else .bad
  | _, _ => .bad
theorem appendV_ok : MtOk X Wx rAppend appendV := by
  intro σ G m v x vs ws H0 H1 Q R rx rs h
  unfold appendV at h
  split at h
  · rename_i i us w e
    obtain ⟨a, xs, rfl, h0, h1, h2, h3, h4⟩ := asV_get R rx e
    obtain ⟨u, rfl, ru⟩ := paired1 rs
    split at h
    · rename_i hz
      have ru : RepW X.K G u w := okW_rep ru hz.2
      obtain ⟨le, R'⟩ := objV_mut (Q := Q) (σ := σ) R h1 h2 (Paired.snoc h4 ru)
      exact ⟨a, xs, u, rfl, rfl, h3, by rw [Paired.length h4]; exact hz.1, h .non _ le R' .non⟩
    · exact False.elim h
  · exact False.elim h
theorem Paired.dropLast {α β : Type} {F : α → β → Prop} : ∀ {l₁ : List α} {l₂ : List β}, Paired F l₁ l₂ → Paired F l₁.dropLast l₂.dropLast
  | _, _, .nil => .nil
  | _, _, .cons h .nil => .nil
  | _, _, .cons h (.cons h' t) => .cons h (Paired.dropLast (.cons h' t))
def popV (x : W) (ws : List W) (m : Mem) : Res W := match asV x m, ws with
  | some (i, us), [] => match us[us.length - 1]? with
    | some w => .ok w (m.set i (.lsw us.dropLast))
    | none => .bad
  | _, _ => .bad
theorem popV_ok : MtOk X Wx rPop popV := by
  intro σ G m v x vs ws H0 H1 Q R rx rs h
  unfold popV at h
  split at h
  · rename_i i us e
    obtain ⟨a, xs, rfl, h0, h1, h2, h3, h4⟩ := asV_get R rx e
    cases rs
    split at h
    · rename_i w ew
      obtain ⟨u, g1, g2⟩ := Paired.get h4 ew
      obtain ⟨le, R'⟩ := objV_mut (Q := Q) (σ := σ) R h1 h2 (Paired.dropLast h4)
      exact ⟨a, xs, u, rfl, rfl, h3, by rw [Paired.length h4]; exact g1, h u _ le R' (g2.mono le).r⟩
    · exact False.elim h
  · exact False.elim h
/-- a fresh list that will hold objects -/
def eObV (f : EF) (env : Env) (m : Mem) : Res W := (f env m).bind fun w m1 => match w with
  | .fl ds => .ok (.obj m1.length) (m1 ++ [.lsw (ds.map .d)])
  | _ => .bad
theorem me_obV {e : Expr} {f : EF} (h : ME X Wx e f) : ME X Wx e (eObV f) := by
  obtain ⟨t, p, q⟩ := h
  refine ⟨t, p, fun env m σ G Q S R h => q env m σ G Q S R ?_⟩
  unfold eObV at h
  refine GPost.bind0 h fun w m1 v G1 le1 R1 q1 h1 => ?_
  cases w with
  | fl ds =>
    obtain ⟨p', vs, rfl, h0, n1, l1, e1, r1⟩ := q1
    have rp : ∀ {vs : List V} {ds : List D}, Reps X.K G1.lv G1.H vs ds → Paired (RepW X.K G1) vs (ds.map .d) := by
      intro vs ds r
      induction ds generalizing vs with
      | nil => cases r; exact .nil
      | cons x ds ih => cases r with | cons a b => exact .cons a (ih b)
    refine h1 (.ref p') (G1.own p') (le1.own h0) (R1.own n1 (by rw [e1]; simp) ⟨l1, vs, e1, rp r1⟩ ?_) ⟨p', ?_, rfl⟩
    · show (ds.map W.d).all (okW m1.length) = true
      rw [List.all_eq_true]
      intro w hw
      obtain ⟨x, _, rfl⟩ := List.mem_map.mp hw
      rfl
    · show (G1.io ++ [p'])[m1.length]? = some p'
      rw [← R1.len]; simp
  | _ => exact False.elim h1
end
end M

set_option Elab.async false
set_option linter.all false
set_option maxRecDepth 100000
/-! M, P: max, min -/
namespace M
open PySem L2
section
variable {X : Cx} {Wx : WX}
def int2W (g : Int → Int → Int) (ws : List W) (m : Mem) : Res W := match ws with
  | [.d (.int i), .d (.int j)] => .ok (.d (.int (g i j))) m
  | _ => .bad
def maxI (i j : Int) : Int := if j > i then j else i
def minI (i j : Int) : Int := if j < i then j else i
theorem int2W_ok {g : Int → Int → Int} : CallOk X Wx (fun xs H Q => ∃ i j, xs = [.int i, .int j] ∧ Q (.int (g i j)) H) (int2W g) := by
  intro σ G m vs ws H0 Q R r h
  unfold int2W at h
  split at h
  · rename_i i j
    cases r with
    | cons h1 t =>
      cases t with
      | cons h2 t =>
        cases t
        cases h1
        cases h2
        exact ⟨i, j, rfl, finD R h (.int _)⟩
  · exact False.elim h
def maxW2 := int2W maxI
def minW2 := int2W minI
theorem maxW2_ok : CallOk X Wx (fun xs H Q => ∃ i j, xs = [.int i, .int j] ∧ Q (.int (if j > i then j else i)) H) maxW2 := int2W_ok
theorem minW2_ok : CallOk X Wx (fun xs H Q => ∃ i j, xs = [.int i, .int j] ∧ Q (.int (if j < i then j else i)) H) minW2 := int2W_ok
def maxN : List Int → Option Int
  | [] => none
  | a :: r => some (r.foldl (fun x y => if x < y then y else x) a)
theorem fold_ge : ∀ (r : List Int) (a : Int), a ≤ r.foldl (fun x y => if x < y then y else x) a ∧ (∀ y ∈ r, y ≤ r.foldl (fun x y => if x < y then y else x) a) ∧ (r.foldl (fun x y => if x < y then y else x) a = a ∨ r.foldl (fun x y => if x < y then y else x) a ∈ r)
  | [], a => ⟨Int.le_refl _, ⟨fun _ h => absurd h List.not_mem_nil, Or.inl rfl⟩⟩
  | b :: r, a => by
    have ih := fold_ge r (if a < b then b else a)
    rw [List.foldl_cons]
    refine ⟨?_, fun y hy => ?_, ?_⟩
    · have := ih.1
      split at this <;> omega
    · rcases List.mem_cons.mp hy with rfl | hy
      · have := ih.1
        split at this <;> omega
      · exact ih.2.1 y hy
    · rcases ih.2.2 with h | h
      · by_cases z : a < b
        · simp only [z, if_true] at h ⊢
          exact .inr (by rw [h]; exact List.mem_cons_self)
        · simp only [z, if_false] at h ⊢
          exact .inl h
      · exact .inr (List.mem_cons_of_mem _ h)
theorem maxN_spec {ns : List Int} {x : Int} (h : maxN ns = some x) : x ∈ ns ∧ ∀ y ∈ ns, y ≤ x := by
  cases ns with
  | nil => cases h
  | cons a r =>
    cases h
    have := fold_ge r a
    refine ⟨?_, fun y hy => ?_⟩
    · rcases this.2.2 with h | h
      · rw [h]; exact List.mem_cons_self
      · exact List.mem_cons_of_mem _ h
    · rcases List.mem_cons.mp hy with rfl | hy
      · exact this.1
      · exact this.2.1 y hy
def maxLW := lst1 (fun ds => (dInts ds).bind maxN) fun n => .int n
theorem maxLW_ok : CallOk X Wx (rMax X.K) maxLW := by
  intro σ G m vs ws H0 Q R r h
  obtain ⟨a, us, ds, n, rfl, h1, r1, eg, h⟩ := lst1_get R r h
  cases e : dInts ds with
  | none => rw [e] at eg; cases eg
  | some ns =>
    rw [e] at eg
    have eg : maxN ns = some n := eg
    rw [dInts_map e] at r1
    rw [r1.vints] at h1
    have sp := maxN_spec eg
    refine ⟨a, ns, rfl, h1, ?_, fun x hx hy => ?_⟩
    · cases ns with
      | nil => cases eg
      | cons _ _ => simp
    · have : x = n := by
        have := hy n sp.1
        have := sp.2 x hx
        omega
      rw [this]
      exact finD R h (.int _)
end
def int2P (g : Int → Int → Int) (xs : List D) : PR D := match xs with
  | [.int i, .int j] => .ok (.int (g i j))
  | _ => .bad
theorem int2P_ok {g : Int → Int → Int} : CaP 0 (int2W g) (int2P g) := by
  intro m ws xs h
  unfold int2P
  split
  · rename_i i j
    cases h with
    | cons h1 t =>
      cases t with
      | cons h2 t =>
        cases t
        rcases h1 with rfl | ⟨ds, e, _⟩
        · rcases h2 with rfl | ⟨ds, e, _⟩
          · exact out_d
          · cases e
        · cases e
  · trivial
def maxP2 := int2P maxI
def minP2 := int2P minI
theorem maxP2_ok : CaP 0 maxW2 maxP2 := int2P_ok
theorem minP2_ok : CaP 0 minW2 minP2 := int2P_ok
def maxLP := lst1P (fun ds => (dInts ds).bind maxN) fun n => .int n
theorem maxLP_ok : CaP 0 maxLW maxLP := lst1P_ok
end M

set_option Elab.async false
set_option linter.all false
set_option maxRecDepth 100000
/-! P: a new list handed over behind two values -/
namespace M
open PySem L2
noncomputable section
variable {s : Nat} {ms : List Bool} {f1 f2 fa : EF} {g1 g2 ga : GEx}
def gCallE (F : GFn) (g1 g2 a : GEx) : GEx := fun γ ρ K => g1 γ ρ fun v1 ρ1 => g2 γ ρ1 fun v2 ρ2 => a γ ρ2 fun v3 ρ3 => match v1, v2, v3, ρ3[1000]? with
  | .v x, .v y, .v z, none => ptl z fun zs => F γ [.d x, .d y, .l 1000 zs] fun r us => K (.v r) (upds ρ3 us)
  | _, _, _, _ => .bad
theorem re_callE {F : FF} {Q : GFn} (hF : SpG F s Q) (h1 : RE 0 ms f1 g1) (h2 : RE 0 ms f2 g2) (ha : RE 1 ms fa ga) : RE s ms (eCallF F (aCons f1 (aCons f2 (aCons (eObj fa) aNil)))) (gCallE Q g1 g2 ga) := by
  intro γ fr ρ env m K R nb
  unfold eCallF aCons aNil
  rcases h1 γ fr ρ env m _ R nb with ⟨w1, m1, v1, ρ1, e1, R1, c1, p1, a1⟩ | ⟨e, m1, e1, p1, R1⟩
  · have e0 : gCallE Q g1 g2 ga γ ρ K = _ := p1
    rw [e0] at nb ⊢
    dsimp only at nb ⊢
    refine EPost.later a1 ?_
    rw [e1]
    simp only [Res.bind_ok]
    rcases h2 γ fr ρ1 env m1 _ R1 nb with ⟨w2, m2, v2, ρ2, e2, R2, c2, p2, a2⟩ | ⟨e, m2, e2, p2, R2⟩
    · rw [p2] at nb ⊢
      rw [e2]
      simp only [Res.bind_ok]
      dsimp only at nb ⊢
      refine EPost.later a2 ?_
      rcases ha γ fr ρ2 env m2 _ R2 nb with ⟨w3, m3, v3, ρ3, e3, R3, c3, p3, a3⟩ | ⟨e, m3, e3, p3, R3⟩
      · rw [p3] at nb ⊢
        dsimp only at nb ⊢
        refine EPost.later a3 ?_
        cases v1 with
        | r i => exact absurd rfl nb
        | v x =>
          cases v2 with
          | r i => exact absurd rfl nb
          | v y =>
            cases v3 with
            | r i => exact absurd rfl nb
            | v z =>
              cases o1 : ρ3[1000]? with
              | some z => rw [o1] at nb; exact absurd rfl nb
              | none =>
                rw [o1] at nb
                dsimp only at nb ⊢
                have c1 : w1 = .d x := c1
                have c2 : w2 = .d y := c2
                subst c1 c2
                cases z with
                | list zs =>
                  have c3 : w3 = .fl zs := c3
                  subst c3
                  rw [ptl_list] at nb ⊢
                  have eo : eObj fa env m2 = .ok (.obj m3.length) (m3 ++ [.lst zs]) := by simp only [eObj, e3, Res.bind_ok]
                  rw [eo]
                  have R4 := R3.app [.lst zs] (fun o ho => by rw [List.mem_singleton.mp ho]; rfl)
                  obtain ⟨J, hd, hJ⟩ := R3.ex
                  have lt : ∀ i, ∀ j ∈ J i, j < m3.length := fun i => (hJ i).lt
                  have stay : ∀ m4, Keep (m3 ++ [.lst zs]) m4 (fun _ => [m3.length]) [1000] → ∀ j, j < m3.length → m4[j]? = m3[j]? := by
                    intro m4 kp j hj
                    rw [kp.get j fun i hi => ?_, List.getElem?_append_left hj]
                    simp
                    omega
                  have fix : ∀ m4, Keep (m3 ++ [.lst zs]) m4 (fun _ => [m3.length]) [1000] → ∀ ρ' : List PV, ρ'.length = ρ3.length → ∀ J' : Nat → List Nat, (∀ i i' j, j ∈ J' i → j ∈ J' i' → i = i') → (∀ i, SlotOk fr m3 i (J' i) env[i]? ρ'[i]?) → Rel fr ρ' env m4 := by
                    intro m4 kp ρ' hρ J' hd' hJ'
                    have hlen := R3.len
                    have go : ∀ (j : Nat) (o : O), m4[j]? = some o → okO j o = true ∨ (m3 ++ [.lst zs])[j]? = some o := fun j o e => by
                      by_cases hp : j = m3.length
                      · exact .inl (kp.dn 1000 (by simp) j (by simp [hp]) o e)
                      · exact .inr (by rw [← kp.get j fun i hi hj => hp (by simpa using hj)]; exact e)
                    refine ⟨R3.pok, by rw [kp.len, List.length_append]; omega, fun j q1 q2 => ?_, R3.c0, fun i j hj o e => ?_, fun j o hj e => ?_, by rw [hρ]; exact R3.el, J', hd', fun i => (hJ' i).mem fun j hj => stay m4 kp j ((hJ' i).lt j hj)⟩
                    · rw [stay m4 kp j (by omega)]
                      exact R3.fix j q1 q2
                    · rcases go j o e with z | z
                      · exact z
                      · exact R4.cp i j hj o z
                    · have hl := (List.getElem?_eq_some_iff.mp e).1
                      rcases go j o e with z | z
                      · exact okO.le z (by omega)
                      · rw [kp.len]
                        exact R4.cn j o hj z
                  have hA : ArgsOk (m3 ++ [.lst zs]) (fun _ => [m3.length]) (mrefs [.d x, .d y, .l 1000 zs]) [.d x, .d y, .obj m3.length] [.d x, .d y, .l 1000 zs] := .cons rfl (.cons rfl (.cons ⟨m3.length, rfl, rfl, by simp⟩ .nil))
                  show EPost fr s ms ρ3 env (F [.d x, .d y, .obj m3.length] (m3 ++ [.lst zs])) _ K
                  rcases hF γ (m3 ++ [.lst zs]) _ [.d x, .d y, .l 1000 zs] (fun _ => [m3.length]) _ R4.cm hA (by simp [mrefs]) (fun i hi i' hi' j _ _ => by simp [mrefs] at hi hi'; omega) nb with ⟨w', m4, r, us, k1, k2, k3, k4, k5, k6⟩ | ⟨e, m4, k1, k2, k3⟩
                  · rw [k1, k3]
                    have hu : ∃ u0, us = [(1000, u0)] := by
                      cases us with
                      | nil => cases k4
                      | cons u us =>
                        obtain ⟨i0, u0⟩ := u
                        simp only [List.map_cons, mrefs, List.cons.injEq, List.map_eq_nil_iff] at k4
                        obtain ⟨rfl, rfl⟩ := k4
                        exact ⟨u0, rfl⟩
                    obtain ⟨u0, rfl⟩ := hu
                    have eu : upds ρ3 [(1000, u0)] = ρ3 := by
                      show upd1 ρ3 1000 u0 = ρ3
                      cases u0 <;> simp [upd1, o1]
                    rw [eu]
                    exact .inl ⟨w', m4, .v r, ρ3, rfl, fix m4 k6 ρ3 rfl J hd hJ, k2 fr, rfl, Ag.refl _ _⟩
                  · rw [k1, k2]
                    refine .inr ⟨e, m4, rfl, rfl, ?_⟩
                    refine fix m4 k3 _ (wip_length _ _) (fun i => if isM ms i = true then [] else J i) (fun i i' j q1 q2 => ?_) (fun i => ?_)
                    · split at q1
                      · cases q1
                      · split at q2
                        · cases q2
                        · exact hd i i' j q1 q2
                    · rw [wip_get]
                      by_cases q : isM ms i = true
                      · rw [if_pos q, if_pos q]
                        cases ρ3[i]? <;> exact (rfl : ([] : List Nat) = [])
                      · rw [if_neg q, if_neg q]
                        exact hJ i
                | _ => exact absurd rfl nb
      · rw [p3]
        simp only [eObj, e3]
        exact .inr ⟨e, m3, rfl, rfl, R3⟩
    · rw [p2, e2]
      exact .inr ⟨e, m2, rfl, rfl, R2⟩
  · have e0 : gCallE Q g1 g2 ga γ ρ K = _ := p1
    rw [e0, e1]
    exact .inr ⟨e, m1, rfl, rfl, R1⟩
/-! ### the place of a number in a list -/
section
variable {X : Cx} {Wx : WX}
def lindexW (x : W) (ws : List W) (m : Mem) : Res W := match asL x m, ws with
  | some ds, [.d (.int k)] => match dInts ds with
    | some ns => if k ∈ ns then .ok (.d (.int ((ns.idxOf k : Nat) : Int))) m else .bad
    | none => .bad
  | _, _ => .bad
theorem lindexW_ok : MtOk X Wx (rIndex X.K) lindexW := by
  intro σ G m v x vs ws H0 H1 Q R rx rs h
  unfold lindexW at h
  split at h
  · rename_i ds k e
    obtain ⟨a, us, rfl, h1, r1⟩ := asL_sq R rx e
    obtain ⟨u, rfl, ru⟩ := paired1 rs
    cases ru
    split at h
    · rename_i ns eg
      split at h
      · rename_i hk
        rw [dInts_map eg] at r1
        rw [r1.vints] at h1
        have hl := List.idxOf_lt_length_of_mem hk
        refine ⟨a, ns.map V.int, .int k, ns.idxOf k, .int k, rfl, rfl, h1, rfl, by simp [List.all_map, flatV], ?_, by simp [eqV], fun j z hj hz => ?_, finD R h (.int _)⟩
        · rw [List.getElem?_map, List.getElem?_eq_getElem hl, List.getElem_idxOf hl]
          rfl
        · have hjl : j < ns.length := by omega
          rw [List.getElem?_map, List.getElem?_eq_getElem hjl] at hz
          cases hz
          have := List.not_of_lt_findIdx hj
          simp only [eqV]
          simpa using this
      · exact False.elim h
    · exact False.elim h
  · exact False.elim h
end
def lindexP (ds xs : List D) : PR D := match xs with
  | [.int k] => match dInts ds with
    | some ns => if k ∈ ns then .ok (.int ((ns.idxOf k : Nat) : Int)) else .bad
    | none => .bad
  | _ => .bad
def gLm (p : List D → List D → PR D) (a : GEx) (b : GAx) : GEx := fun γ ρ K => a γ ρ fun v ρ1 => match v with
  | .v z => ptl z fun ds => b γ ρ1 fun vs ρ2 => match gress ρ2 vs with
    | some xs => (p ds xs).bind fun z => K (.v z) ρ2
    | none => .bad
  | .r _ => .bad
def LmP (s : Nat) (g : W → List W → Mem → Res W) (p : List D → List D → PR D) : Prop := ∀ m ds ws xs, Sees m ws xs → Out s m (g (.d (.list ds)) ws m) (p ds xs)
theorem lindexP_ok : LmP 0 lindexW lindexP := by
  intro m ds ws xs h
  unfold lindexP
  split
  · obtain ⟨w, rfl, hw⟩ := sees1 h
    rw [see_flat hw (by intro ds e; cases e)]
    rename_i k
    show Out 0 m (match dInts ds with
      | some ns => if k ∈ ns then Res.ok (.d (.int ((ns.idxOf k : Nat) : Int))) m else .bad
      | none => .bad) _
    cases dInts ds with
    | none => trivial
    | some ns =>
      dsimp only
      split
      · exact out_d
      · trivial
  · trivial
theorem re_lm {ss : List Nat} {fb : AF} {gb : GAx} {o : W → List W → Mem → Res W} {p : List D → List D → PR D} (hp : LmP s o p) (ha : RE 0 ms fa ga) (hb : RA ss ms fb gb) : RE s ms (eMt "list" o fa fb) (gLm p ga gb) := by
  intro γ fr ρ env m K R nb
  refine EPost.bind nb (ha γ fr ρ env m _ R nb) fun w m1 v ρ1 R1 h1 a1 nb1 => ?_
  cases v with
  | r i => exact absurd rfl nb1
  | v z =>
    cases z with
    | list ds =>
      have h1 : w = .d (.list ds) := h1
      subst h1
      rw [if_pos (by rfl)]
      refine APost.bind nb1 (hb γ fr ρ1 env m1 _ R1 nb1) fun ws m2 vs ρ2 R2 h2 a2 nb2 => ?_
      cases e1 : gress ρ2 vs with
      | none => rw [e1] at nb2; exact absurd rfl nb2
      | some xs =>
        rw [e1] at nb2
        exact EPost.out R2 (hp m2 ds ws xs (rvals_see R2 h2 e1)) nb2
    | _ => exact absurd rfl nb1
end
end M

set_option Elab.async false
set_option linter.all false
set_option maxRecDepth 100000
set_option maxHeartbeats 4000000
namespace M
open PySem L2
/-! ### dicts with texts as keys: {}, k in d, d.get(k) -/
section
variable {X : Cx} {Wx : WX}
theorem me_dnew {pos : Pos} : ME X Wx (.Dict [] [] pos) (eDict [] aNil) := by
  refine ⟨_, pe_dnewK, fun env m σ G Q S R h p hp => ?_⟩
  have le0 : Le G ⟨G.io, p :: G.lv, upd G.H p (.dK [])⟩ := Le.newL R hp
  have R0 : RelM X.K ⟨G.io, p :: G.lv, upd G.H p (.dK [])⟩ m := R.newL hp
  have np : p ∉ G.io := (R.ne hp).1
  have R4 := R0.own (p := p) (ob := .dct []) np (by show upd _ _ _ _ ≠ none; rw [upd_same]; simp) ⟨List.mem_cons_self, [], upd_same, .nil⟩ rfl
  have h : GPost X Wx σ G (RepR X.K) (.ok (.obj m.length) (m ++ [.dct []])) Q := h
  refine h (.ref p) _ (le0.own hp) R4 ⟨p, ?_, rfl⟩
  show (G.io ++ [p])[m.length]? = some p
  rw [← R0.len]
  simp
def rDIn (neg : Bool) : R2 := fun y x H Q => ∃ a o, x = .ref a ∧ DGet H a y o ∧ Q (.bl (ngB neg o.isSome)) H
theorem op_din (hu : X.A.units + 65 < cLine) : OpR X (compareOp .In) (rDIn false) := by
  intro pins s σ H y x v u Q I ry rx ⟨a, o, ex, g, q⟩
  subst ex
  obtain rfl : u = Value.ref a := rx
  exact d_in (by omega) I g ry fun s3 I3 => ⟨.bl o.isSome, H, I3, rfl, q⟩
theorem op_dnin (hu : X.A.units + 65 < cLine) : OpR X (compareOp .NotIn) (rDIn true) := by
  intro pins s σ H y x v u Q I ry rx ⟨a, o, ex, g, q⟩
  subst ex
  obtain rfl : u = Value.ref a := rx
  exact d_notIn (by omega) I g ry fun s3 I3 => ⟨.bl (!o.isSome), H, I3, rfl, q⟩
def rDGet : V → List V → Hp → VK → Prop := fun x ys H Q => ∃ a y o, x = .ref a ∧ ys = [y] ∧ DGet H a y o ∧ Q (o.getD .non) H
theorem mt_dget (hu : X.A.units + 65 < cLine) : MtR X "dict.get" rDGet := by
  intro pins s σ H x xs v us Q I rx rxs ⟨a, y, o, ex, ey, g, q⟩
  subst ex ey
  obtain rfl : v = Value.ref a := rx
  cases rxs with
  | cons ry t =>
    cases t
    exact d_get1 (by omega) I g ry fun w' s3 I3 rw' => ⟨_, H, I3, rw', q⟩
theorem dlook_none {K : PySem.W.Frag} {G : Wd} {ks : List (Key × V)} {kvs : List (Str × W)} {k : Str} (r : DRel K G ks kvs) (e : dlook kvs k = none) : valV ks (Sum.inr k : Key) = none := by
  induction r with
  | nil => rfl
  | @cons p q ps qs h t ih =>
    by_cases hk : q.1 = k
    · have e1 : dlook (q :: qs) k = some q.2 := by simp [dlook, List.find?_cons, hk]
      rw [e1] at e
      cases e
    · have e1 : dlook (q :: qs) k = dlook qs k := by simp [dlook, List.find?_cons, hk]
      rw [e1] at e
      rw [valV_neg (by rw [h.1]; exact fun z => hk (Sum.inr.inj z))]
      exact ih e
def dinW (neg : Bool) (x y : W) (m : Mem) : Res W := match y, x with
  | .obj i, .d (.str k) => match m[i]? with
    | some (.dct kvs) => .ok (.d (.bool (ngB neg (dlook kvs k).isSome))) m
    | _ => .bad
  | _, _ => .bad
theorem dinW_ok {neg : Bool} : OpOk X Wx (rDIn neg) (dinW neg) := by
  intro σ G m v u x y H0 H1 Q R rx ry h
  unfold dinW at h
  split at h
  · rename_i j k
    obtain ⟨a, g1, rfl⟩ := ry
    cases rx
    split at h
    · rename_i kvs e
      obtain ⟨_, ks, g2, g3⟩ := R.ob j a _ g1 e
      cases ew : dlook kvs k with
      | none =>
        rw [ew] at h
        exact ⟨a, none, rfl, by have := DGet.k (k := (Sum.inr k : Key)) g2; rw [dlook_none g3 ew] at this; exact this, finD R h (.bl _)⟩
      | some w =>
        obtain ⟨z, z1, z2⟩ := dlook_rep g3 ew
        rw [ew] at h
        exact ⟨a, some z, rfl, by have := DGet.k (k := (Sum.inr k : Key)) g2; rw [z1] at this; exact this, finD R h (.bl _)⟩
    · exact False.elim h
  · exact False.elim h
def dgtW (x : W) (ws : List W) (m : Mem) : Res W := match x, ws with
  | .obj i, [.d (.str k)] => match m[i]? with
    | some (.dct kvs) => .ok ((dlook kvs k).getD (.d .none)) m
    | _ => .bad
  | _, _ => .bad
theorem dgtW_ok : MtOk X Wx rDGet dgtW := by
  intro σ G m v x vs ws H0 H1 Q R rx rs h
  unfold dgtW at h
  split at h
  · rename_i j k
    obtain ⟨a, g1, rfl⟩ := rx
    obtain ⟨u, rfl, ru⟩ := paired1 rs
    cases ru
    split at h
    · rename_i kvs e
      obtain ⟨_, ks, g2, g3⟩ := R.ob j a _ g1 e
      cases ew : dlook kvs k with
      | none =>
        rw [ew] at h
        exact ⟨a, _, none, rfl, rfl, by have := DGet.k (k := (Sum.inr k : Key)) g2; rw [dlook_none g3 ew] at this; exact this, finD R h .non⟩
      | some w =>
        obtain ⟨z, z1, z2⟩ := dlook_rep g3 ew
        rw [ew] at h
        exact ⟨a, _, some z, rfl, rfl, by have := DGet.k (k := (Sum.inr k : Key)) g2; rw [z1] at this; exact this, h z G (Le.refl R) R z2.r⟩
    · exact False.elim h
  · exact False.elim h
end
end M

set_option Elab.async false
set_option linter.all false
set_option maxRecDepth 100000
/-! P: dicts with texts as keys and data as values -/
namespace M
open PySem L2
noncomputable section
/-- more fuel, for terms that grow -/
@[irreducible] def fuelS : Nat := 70
theorem fuelS_eq : fuelS = 70 := by unfold fuelS; rfl
@[irreducible] def fuelT : Nat := 130
theorem fuelT_eq : fuelT = 130 := by unfold fuelT; rfl
def dlookP (kvs : List (Str × D)) (k : Str) : Option D := (kvs.find? fun kv => decide (kv.1 = k)).map (·.2)
def dputP (kvs : List (Str × D)) (k : Str) (v : D) : List (Str × D) :=
  if (kvs.any fun kv => decide (kv.1 = k)) = true then kvs.map (fun kv => if kv.1 = k then (kv.1, v) else kv) else kvs ++ [(k, v)]
theorem dlook_kv (kvs : List (Str × D)) (k : Str) : dlook (kvW kvs) k = (dlookP kvs k).map W.d := by
  unfold dlook dlookP kvW
  rw [List.find?_map]
  simp only [Option.map_map, Function.comp_def]
theorem dput_kv (kvs : List (Str × D)) (k : Str) (v : D) : dput (kvW kvs) k (.d v) = kvW (dputP kvs k v) := by
  unfold dput dputP kvW
  rw [List.any_map]
  simp only [Function.comp_def]
  split
  · simp only [List.map_map]
    refine List.map_congr_left fun p _ => ?_
    simp only [Function.comp_def]
    split <;> rfl
  · simp
def slotD (ρ : List PV) (i : Nat) : Option (List (Str × D)) := match ρ[i]? with
  | some (.m kvs) => some kvs
  | some (.n kvs) => some kvs
  | _ => none
section
variable {s sr : Nat} {ms : List Bool} {fk fv : EF} {gk gv : GEx} {fr : Fr} {ρ : List PV} {env : Env} {m : Mem}
theorem Rel.getDct (R : Rel fr ρ env m) {i : Nat} {kvs : List (Str × D)} (h : slotD ρ i = some kvs) : ∃ j, env[i]? = some (some (.obj j)) ∧ m[j]? = some (.dct (kvW kvs)) := by
  obtain ⟨J, hd, hJ⟩ := R.ex
  have z := hJ i
  unfold slotD at h
  split at h
  · rename_i ks q
    cases h
    rw [q] at z
    obtain ⟨j, _, z2, z3, _⟩ := z
    exact ⟨j, z2, z3⟩
  · rename_i ks q
    cases h
    rw [q] at z
    obtain ⟨_, j, z2, z3, z4⟩ := z
    exact ⟨j, z2, by rw [R.fix j (List.getElem?_eq_some_iff.mp z3).1 z4]; exact z3⟩
  · cases h
def gVarT (i : Nat) : GEx := fun γ ρ K => match slotD ρ i with
  | some _ => K (.r i) ρ
  | none => .bad
theorem re_varT (i : Nat) (hs : isO s = true := by rfl) : RE s ms (eVar i) (gVarT i) := by
  intro γ fr ρ env m K R nb
  unfold gVarT at nb ⊢
  cases q : slotD ρ i with
  | none => rw [q] at nb; exact absurd rfl nb
  | some kvs =>
    obtain ⟨j, e, _⟩ := R.getDct q
    simp only [eVar, e]
    exact EPost.ok (v := .r i) R ⟨hs, e⟩ rfl
theorem re_objT (i : Nat) (hs : isO s = true := by rfl) : RE s ms (eObj (eVar i)) (gVarT i) := by
  intro γ fr ρ env m K R nb
  unfold gVarT at nb ⊢
  cases q : slotD ρ i with
  | none => rw [q] at nb; exact absurd rfl nb
  | some kvs =>
    obtain ⟨j, e, _⟩ := R.getDct q
    simp only [eObj, eVar, e, Res.bind_ok]
    exact EPost.ok (v := .r i) R ⟨hs, e⟩ rfl
/-- d[k] -/
def pdk {γ : Type} (kvs : List (Str × D)) (k : Str) (K : D → PR γ) : PR γ := match dlookP kvs k with
  | some y => K y
  | none => .bad
def gDget (i : Nat) (a : GEx) : GEx := fun γ ρ K => match slotD ρ i with
  | some _ => a γ ρ fun v ρ1 => match v, slotD ρ1 i with
    | .v x, some kvs => pts x fun k => pdk kvs k fun y => K (.v y) ρ1
    | _, _ => .bad
  | none => .bad
theorem re_dget (i : Nat) (ha : RE 0 ms fk gk) : RE 0 ms (eOp dgetW (eVar i) fk) (gDget i gk) := by
  intro γ fr ρ env m K R nb
  unfold gDget at nb ⊢
  cases q : slotD ρ i with
  | none => rw [q] at nb; exact absurd rfl nb
  | some kvs0 =>
    rw [q] at nb
    dsimp only at nb ⊢
    obtain ⟨j, e, _⟩ := R.getDct q
    simp only [eOp, eVar, e, Res.bind_ok]
    refine EPost.bind nb (ha γ fr ρ env m _ R nb) fun w m1 v ρ1 R1 h1 a1 nb1 => ?_
    cases v with
    | r i => exact absurd rfl nb1
    | v x =>
      have h1 : w = .d x := h1
      subst h1
      cases q1 : slotD ρ1 i with
      | none => rw [q1] at nb1; exact absurd rfl nb1
      | some kvs =>
        rw [q1] at nb1
        dsimp only at nb1 ⊢
        obtain ⟨t, rfl⟩ := pts_ne nb1
        obtain ⟨j', e', ej⟩ := R1.getDct q1
        rw [e] at e'
        cases e'
        rw [pts_str] at nb1 ⊢
        unfold dgetW
        unfold pdk at nb1 ⊢
        simp only [ej, dlook_kv]
        cases z : dlookP kvs t with
        | none => rw [z] at nb1; exact absurd rfl nb1
        | some y =>
          simp only [Option.map_some]
          exact EPost.ok (v := .v y) R1 rfl rfl
/-- k in d -/
def gDin (neg : Bool) (i : Nat) (a : GEx) : GEx := fun γ ρ K => a γ ρ fun v ρ1 => match v, slotD ρ1 i with
  | .v x, some kvs => pts x fun k => K (.v (.bool (ngB neg (dlookP kvs k).isSome))) ρ1
  | _, _ => .bad
theorem re_din {neg : Bool} (i : Nat) (ha : RE 0 ms fk gk) : RE 0 ms (eOp (dinW neg) fk (eVar i)) (gDin neg i gk) := by
  intro γ fr ρ env m K R nb
  unfold gDin at nb ⊢
  unfold eOp
  refine EPost.bind nb (ha γ fr ρ env m _ R nb) fun w m1 v ρ1 R1 h1 a1 nb1 => ?_
  cases v with
  | r i => exact absurd rfl nb1
  | v x =>
    have h1 : w = .d x := h1
    subst h1
    cases q1 : slotD ρ1 i with
    | none => rw [q1] at nb1; exact absurd rfl nb1
    | some kvs =>
      rw [q1] at nb1
      dsimp only at nb1 ⊢
      obtain ⟨t, rfl⟩ := pts_ne nb1
      obtain ⟨j, e, ej⟩ := R1.getDct q1
      rw [pts_str] at nb1 ⊢
      simp only [eVar, e, Res.bind_ok]
      unfold dinW
      simp only [ej, dlook_kv, Option.isSome_map]
      exact EPost.ok (v := .v _) R1 rfl rfl
/-- d.get(k) -/
def dgtP (kvs : List (Str × D)) (k : Str) : D := (dlookP kvs k).getD .none
def gDgt (i : Nat) (a : GEx) : GEx := fun γ ρ K => match slotD ρ i with
  | some _ => a γ ρ fun v ρ1 => match v, slotD ρ1 i with
    | .v x, some kvs => pts x fun k => K (.v (dgtP kvs k)) ρ1
    | _, _ => .bad
  | none => .bad
theorem re_dgt (i : Nat) (ha : RE 0 ms fk gk) : RE 0 ms (eMt "dict" dgtW (eVar i) (aCons fk aNil)) (gDgt i gk) := by
  intro γ fr ρ env m K R nb
  unfold gDgt at nb ⊢
  cases q : slotD ρ i with
  | none => rw [q] at nb; exact absurd rfl nb
  | some kvs0 =>
    rw [q] at nb
    dsimp only at nb ⊢
    obtain ⟨j, e, ej0⟩ := R.getDct q
    have ht : isTyW "dict" (.obj j) m = true := by simp [isTyW, ej0]
    simp only [eMt, eVar, e, Res.bind_ok, ht, if_true, aCons, aNil]
    rcases ha γ fr ρ env m _ R nb with ⟨w, m1, v, ρ1, h1, R1, h3, h4, h5⟩ | ⟨e1, m1, h1, h2, h3⟩
    · rw [h4] at nb ⊢
      dsimp only at nb ⊢
      rw [h1]
      simp only [Res.bind_ok]
      refine EPost.later h5 ?_
      cases v with
      | r i => exact absurd rfl nb
      | v x =>
        have h3 : w = .d x := h3
        subst h3
        cases q1 : slotD ρ1 i with
        | none => rw [q1] at nb; exact absurd rfl nb
        | some kvs =>
          rw [q1] at nb
          dsimp only at nb ⊢
          obtain ⟨t, rfl⟩ := pts_ne nb
          obtain ⟨j', e', ej⟩ := R1.getDct q1
          rw [e] at e'
          cases e'
          rw [pts_str] at nb ⊢
          unfold dgtW
          simp only [ej, dlook_kv]
          have : (Option.map W.d (dlookP kvs t)).getD (.d .none) = .d (dgtP kvs t) := by
            unfold dgtP
            cases dlookP kvs t <;> rfl
          rw [this]
          exact EPost.ok (v := .v _) R1 rfl rfl
    · rw [h1, h2]
      exact .inr ⟨e1, m1, rfl, rfl, h3⟩
/-! ### {} and d[k] = v -/
theorem Rel.setM (R : Rel fr ρ env m) (i : Nat) : Rel fr (ρ.set i (.m [])) (env.set i (some (.obj m.length))) (m ++ [.dct []]) := by
  obtain ⟨J, hd, hs⟩ := R.ex
  have lt : ∀ k, ∀ j ∈ J k, j < m.length := fun k => (hs k).lt
  refine ⟨R.pok, by rw [List.length_append]; have := R.len; omega, fun j h1 h2 => by rw [List.getElem?_append_left (by have := R.len; omega)]; exact R.fix j h1 h2, R.c0, R.cpA _, R.cnA (fun o ho => by rw [List.mem_singleton.mp ho]; rfl), by simpa using R.el, fun k => if k = i then (if i < ρ.length then [m.length, m.length] else []) else J k, fun k k' j h1 h2 => ?_, fun k => ?_⟩
  · dsimp only at h1 h2
    by_cases hk : k = i
    · by_cases hk' : k' = i
      · rw [hk, hk']
      · rw [if_pos hk] at h1; rw [if_neg hk'] at h2
        have := lt k' j h2
        split at h1
        · have : j = m.length := by simpa using h1
          omega
        · cases h1
    · by_cases hk' : k' = i
      · rw [if_neg hk] at h1; rw [if_pos hk'] at h2
        have := lt k j h1
        split at h2
        · have : j = m.length := by simpa using h2
          omega
        · cases h2
      · rw [if_neg hk] at h1; rw [if_neg hk'] at h2; exact hd k k' j h1 h2
  · dsimp only
    by_cases hk : k = i
    · subst hk
      rw [if_pos rfl]
      by_cases hl : k < ρ.length
      · rw [List.getElem?_set_self hl, List.getElem?_set_self (by rw [R.el]; exact hl), if_pos hl]
        exact ⟨_, rfl, rfl, by simp [kvW], R.len⟩
      · have e : (ρ.set k (.m []))[k]? = none := List.getElem?_eq_none (by simpa using hl)
        rw [if_neg hl, e]
        exact (rfl : ([] : List Nat) = [])
    · rw [if_neg hk, List.getElem?_set_ne (Ne.symm hk), List.getElem?_set_ne (Ne.symm hk)]
      exact (hs k).mem fun j hj => List.getElem?_append_left (lt k j hj)
def gsNewD (i : Nat) : GSx := fun γ ρ kn kb kc kr => kn (ρ.set i (.m []))
theorem rs_newD (i : Nat) (hi : isM ms i = true := by rfl) : RS sr ms (sAsg (eDict [] aNil) (gSet i)) (gsNewD i) := by
  intro γ fr ρ env m kn kb kc kr R nb
  show SPo fr sr ms ρ env _ kn kb kc kr (.nx (env.set i (some (.obj m.length))) (m ++ [.dct []]))
  exact .nx _ _ (ρ.set i (.m [])) (R.setM i) rfl (Ag.set hi) (AgE.set hi)
theorem Rel.mutM (R : Rel fr ρ env m) {i : Nat} {xs : List (Str × D)} (h : ρ[i]? = some (.m xs)) (ys : List (Str × D)) : ∃ j, env[i]? = some (some (.obj j)) ∧ m[j]? = some (.dct (kvW xs)) ∧ Rel fr (ρ.set i (.m ys)) env (m.set j (.dct (kvW ys))) := by
  obtain ⟨J, hd, hs⟩ := R.ex
  have hi := hs i
  rw [h] at hi
  obtain ⟨j, e1, e2, e3, e4⟩ := hi
  have hj : j < m.length := (List.getElem?_eq_some_iff.mp e3).1
  have old : ∀ (k : Nat) (o : O), (m.set j (.dct (kvW ys)))[k]? = some o → (∀ n, okO n o = true) ∨ m[k]? = some o := fun k o e => by
    by_cases hk : j = k
    · subst hk
      rw [List.getElem?_set_self hj] at e
      cases e
      exact .inl fun n => okO_kv n ys
    · rw [List.getElem?_set_ne hk] at e
      exact .inr e
  refine ⟨j, e2, e3, R.pok, by rw [List.length_set]; exact R.len, fun k h1 h2 => ?_, R.c0, fun i j hj o e => ?_, fun j o hj e => ?_, by rw [List.length_set]; exact R.el, J, hd, fun k => ?_⟩
  · rw [List.getElem?_set_ne]
    · exact R.fix k h1 h2
    · rintro rfl
      omega
  · rcases old j o e with z | z
    · exact z _
    · exact R.cp i j hj o z
  · rcases old j o e with z | z
    · exact z _
    · rw [List.length_set]; exact R.cn j o hj z
  · by_cases hk : k = i
    · subst hk
      have hl : k < ρ.length := (List.getElem?_eq_some_iff.mp h).1
      rw [List.getElem?_set_self hl]
      exact ⟨j, e1, e2, List.getElem?_set_self hj, e4⟩
    · rw [List.getElem?_set_ne (Ne.symm hk)]
      refine (hs k).mem fun j' hj' => List.getElem?_set_ne ?_
      rintro rfl
      exact hk (hd k i j hj' (by rw [e1]; simp))
def pput {γ : Type} (kvs : List (Str × D)) (k : Str) (y : D) (K : List (Str × D) → PR γ) : PR γ := if kvs.length < 1000 then K (dputP kvs k y) else .bad
def gsPutD (i : Nat) (ak av : GEx) : GSx := fun γ ρ kn kb kc kr => av γ ρ fun v ρ1 => match slotD ρ1 i with
  | some _ => ak γ ρ1 fun u ρ2 => match v, u, ρ2[i]? with
    | .v y, .v z, some (.m kvs) => pts z fun k => pput kvs k y fun kvs' => kn (ρ2.set i (.m kvs'))
    | _, _, _ => .bad
  | none => .bad
theorem rs_putD (i : Nat) (hk : RE 0 ms fk gk) (hv : RE 0 ms fv gv) (hi : isM ms i = true := by rfl) : RS sr ms (sSetD (eVar i) fk fv) (gsPutD i gk gv) := by
  intro γ fr ρ env m kn kb kc kr R nb
  unfold sSetD
  rcases hv γ fr ρ env m _ R nb with ⟨w, m1, v, ρ1, h1, R1, h3, h4, h5⟩ | ⟨e1, m1, h1, h2, h3⟩
  · have e0 : gsPutD i gk gv γ ρ kn kb kc kr = _ := h4
    rw [e0] at nb ⊢
    dsimp only at nb ⊢
    cases q1 : slotD ρ1 i with
    | none => rw [q1] at nb; exact absurd rfl nb
    | some kvs1 =>
      rw [q1] at nb
      dsimp only at nb ⊢
      obtain ⟨j, ej, _⟩ := R1.getDct q1
      rcases hk γ fr ρ1 env m1 _ R1 nb with ⟨w2, m2, v2, ρ2, z1, R2, z3, z4, z5⟩ | ⟨e2, m2, z1, z2, z3⟩
      · rw [z4] at nb ⊢
        dsimp only at nb ⊢
        cases v with
        | r k => exact absurd rfl nb
        | v y =>
          have h3 : w = .d y := h3
          subst h3
          cases v2 with
          | r k => exact absurd rfl nb
          | v z =>
            have z3 : w2 = .d z := z3
            subst z3
            cases q2 : ρ2[i]? with
            | none => rw [q2] at nb; exact absurd rfl nb
            | some pv =>
              cases pv with
              | m kvs =>
                rw [q2] at nb
                dsimp only at nb ⊢
                obtain ⟨t, rfl⟩ := pts_ne nb
                rw [pts_str] at nb ⊢
                unfold pput at nb ⊢
                by_cases hl : kvs.length < 1000
                · rw [if_pos hl] at nb ⊢
                  obtain ⟨j', ej', e3, R3⟩ := R2.mutM q2 (dputP kvs t y)
                  rw [ej] at ej'
                  cases ej'
                  have hlen : (kvW kvs).length = kvs.length := by simp [kvW]
                  simp only [h1, Res.bind_ok, eVar, ej, z1, e3, hlen, hl, decide_true, okW, Bool.and_self, if_true, dput_kv, eS_ok]
                  exact .nx _ _ _ R3 rfl ((h5.trans z5).trans (Ag.set hi)) (AgE.refl _ _)
                · rw [if_neg hl] at nb
                  exact absurd rfl nb
              | _ => rw [q2] at nb; exact absurd rfl nb
      · rw [z2]
        simp only [h1, Res.bind_ok, eVar, ej, z1, Res.bind_err, eS_err]
        exact SPo.later h5 (AgE.refl _ _) (.err e2 env m2 z3 rfl (AgE.refl _ _))
  · have e0 : gsPutD i gk gv γ ρ kn kb kc kr = _ := h2
    rw [e0]
    simp only [h1, Res.bind_err, eS_err]
    exact .err e1 env m1 h3 rfl (AgE.refl _ _)
end
end
end M

set_option Elab.async false
set_option linter.all false
set_option maxRecDepth 100000
set_option maxHeartbeats 4000000
namespace K32
open PySem L2 M

theorem lt0 : Str.ofString "basic" = S [98, 97, 115, 105, 99] := by decide +kernel
theorem lt1 : Str.ofString "fn" = S [102, 110] := by decide +kernel
theorem lt2 : Str.ofString "of" = S [111, 102] := by decide +kernel
theorem lt3 : Str.ofString "bound" = S [98, 111, 117, 110, 100] := by decide +kernel
theorem lt4 : Str.ofString ">" = S [62] := by decide +kernel
theorem lt5 : Str.ofString "/" = S [47] := by decide +kernel
theorem lt6 : Str.ofString "<" = S [60] := by decide +kernel
theorem lt7 : Str.ofString "\\" = S [92] := by decide +kernel
theorem lt8 : Str.ofString ">>" = S [62, 62] := by decide +kernel
theorem lt9 : Str.ofString "<<" = S [60, 60] := by decide +kernel
theorem lt10 : Str.ofString "name" = S [110, 97, 109, 101] := by decide +kernel
theorem lt11 : Str.ofString "leaf" = S [108, 101, 97, 102] := by decide +kernel
theorem lt15 : Str.ofString "a" = S [97] := by decide +kernel
theorem lt16 : Str.ofString "n" = S [110] := by decide +kernel
theorem lt17 : Str.ofString "y" = S [121] := by decide +kernel
theorem lt18 : Str.ofString "" = S [] := by decide +kernel
noncomputable def B_kind_of_form (r_kind_of_form : D → PR (D)) (form : D) : PR (D) :=
    (ixP form (.int 0)).bind fun z1 =>
    ((eqP false) z1 (.str (Str.ofString "basic"))).bind fun z2 =>
    ptb z2 fun t3 => if t3 = true then ((ixP form (.int 1)).bind fun z4 =>
    .ok z4)
    else ((ixP form (.int 2)).bind fun z5 =>
    (r_kind_of_form z5).bind fun z6 =>
    (ixP form (.int 1)).bind fun z7 =>
    (r_kind_of_form z7).bind fun z8 =>
    .ok (.tuple [z6, z8]))
noncomputable def P_kind_of_form : Nat → D → PR (D)
  | 0, _ => .bad
  | n + 1, a0 => B_kind_of_form (P_kind_of_form n) a0
noncomputable def P_handed_on (form : D) (taker : D) (taken : D) : PR (D) :=
    (ixP form (.int 2)).bind fun z1 =>
    (P_kind_of_form fuelR z1).bind fun z2 =>
    .ok (.tuple [(.str (Str.ofString "fn")), z2, (.tuple [(.str (Str.ofString "of")), taker, (.tuple [(.str (Str.ofString "of")), taken, (.tuple [(.str (Str.ofString "bound")), (.int 0)])])])])
noncomputable def P_RightTaken__sign : PR (D) :=
    .ok (.str (Str.ofString ">"))
noncomputable def PL_RightTaken__sign (ds : List D) : PR D := match ds with
  | [] => P_RightTaken__sign 
  | _ => .bad
noncomputable def P_RightTaken__joined (left : D) (right : D) : PR (D) :=
    (ixP left (.int 0)).bind fun z1 =>
    ((eqP false) z1 (.str (Str.ofString "/"))).bind fun z2 =>
    ptb z2 fun t3 => if t3 = true then ((ixP left (.int 2)).bind fun z4 =>
    ((eqP false) z4 right).bind fun z5 =>
    ptb z5 fun t6 => if t6 = true then ((ixP left (.int 1)).bind fun z7 =>
    .ok z7)
    else (.ok .none)) else if false = true then ((ixP left (.int 1)).bind fun z8 =>
    .ok z8)
    else (.ok .none)
noncomputable def PL_RightTaken__joined (ds : List D) : PR D := match ds with
  | [a1, a2] => P_RightTaken__joined a1 a2
  | _ => .bad
noncomputable def P_RightTaken__meant (left : D) (right : D) (first : D) (second : D) : PR (D) :=
    .ok (.tuple [(.str (Str.ofString "of")), first, second])
noncomputable def PL_RightTaken__meant (ds : List D) : PR D := match ds with
  | [a1, a2, a3, a4] => P_RightTaken__meant a1 a2 a3 a4
  | _ => .bad
noncomputable def P_LeftTaken__sign : PR (D) :=
    .ok (.str (Str.ofString "<"))
noncomputable def PL_LeftTaken__sign (ds : List D) : PR D := match ds with
  | [] => P_LeftTaken__sign 
  | _ => .bad
noncomputable def P_LeftTaken__joined (left : D) (right : D) : PR (D) :=
    (ixP right (.int 0)).bind fun z1 =>
    ((eqP false) z1 (.str (Str.ofString "\\"))).bind fun z2 =>
    ptb z2 fun t3 => if t3 = true then ((ixP right (.int 2)).bind fun z4 =>
    ((eqP false) z4 left).bind fun z5 =>
    ptb z5 fun t6 => if t6 = true then ((ixP right (.int 1)).bind fun z7 =>
    .ok z7)
    else (.ok .none)) else if false = true then ((ixP right (.int 1)).bind fun z8 =>
    .ok z8)
    else (.ok .none)
noncomputable def PL_LeftTaken__joined (ds : List D) : PR D := match ds with
  | [a1, a2] => P_LeftTaken__joined a1 a2
  | _ => .bad
noncomputable def P_LeftTaken__meant (left : D) (right : D) (first : D) (second : D) : PR (D) :=
    .ok (.tuple [(.str (Str.ofString "of")), second, first])
noncomputable def PL_LeftTaken__meant (ds : List D) : PR D := match ds with
  | [a1, a2, a3, a4] => P_LeftTaken__meant a1 a2 a3 a4
  | _ => .bad
noncomputable def P_RightHanded__sign : PR (D) :=
    .ok (.str (Str.ofString ">>"))
noncomputable def PL_RightHanded__sign (ds : List D) : PR D := match ds with
  | [] => P_RightHanded__sign 
  | _ => .bad
noncomputable def J1_RightHanded__joined (left_11 : D) (right_12 : D) (t13 : Bool) : PR (D) :=
    if t13 = true then ((ixP left_11 (.int 1)).bind fun z14 =>
    (ixP right_12 (.int 2)).bind fun z15 =>
    .ok (.tuple [(.str (Str.ofString "/")), z14, z15]))
    else (.ok .none)
noncomputable def P_RightHanded__joined (left : D) (right : D) : PR (D) :=
    (ixP left (.int 0)).bind fun z1 =>
    ((eqP false) z1 (.str (Str.ofString "/"))).bind fun z2 =>
    ptb z2 fun t3 => if t3 = true then ((ixP right (.int 0)).bind fun z4 =>
    ((eqP false) z4 (.str (Str.ofString "/"))).bind fun z5 =>
    ptb z5 fun t6 => if t6 = true then ((ixP left (.int 2)).bind fun z7 =>
    (ixP right (.int 1)).bind fun z8 =>
    ((eqP false) z7 z8).bind fun z9 =>
    ptb z9 fun t10 => (J1_RightHanded__joined left right t10)) else (J1_RightHanded__joined left right false)) else (J1_RightHanded__joined left right false)
noncomputable def PL_RightHanded__joined (ds : List D) : PR D := match ds with
  | [a1, a2] => P_RightHanded__joined a1 a2
  | _ => .bad
noncomputable def P_RightHanded__meant (left : D) (right : D) (first : D) (second : D) : PR (D) :=
    (P_handed_on right first second).bind fun z1 =>
    .ok z1
noncomputable def PL_RightHanded__meant (ds : List D) : PR D := match ds with
  | [a1, a2, a3, a4] => P_RightHanded__meant a1 a2 a3 a4
  | _ => .bad
noncomputable def P_LeftHanded__sign : PR (D) :=
    .ok (.str (Str.ofString "<<"))
noncomputable def PL_LeftHanded__sign (ds : List D) : PR D := match ds with
  | [] => P_LeftHanded__sign 
  | _ => .bad
noncomputable def J1_LeftHanded__joined (left_11 : D) (right_12 : D) (t13 : Bool) : PR (D) :=
    if t13 = true then ((ixP right_12 (.int 1)).bind fun z14 =>
    (ixP left_11 (.int 2)).bind fun z15 =>
    .ok (.tuple [(.str (Str.ofString "\\")), z14, z15]))
    else (.ok .none)
noncomputable def P_LeftHanded__joined (left : D) (right : D) : PR (D) :=
    (ixP left (.int 0)).bind fun z1 =>
    ((eqP false) z1 (.str (Str.ofString "\\"))).bind fun z2 =>
    ptb z2 fun t3 => if t3 = true then ((ixP right (.int 0)).bind fun z4 =>
    ((eqP false) z4 (.str (Str.ofString "\\"))).bind fun z5 =>
    ptb z5 fun t6 => if t6 = true then ((ixP right (.int 2)).bind fun z7 =>
    (ixP left (.int 1)).bind fun z8 =>
    ((eqP false) z7 z8).bind fun z9 =>
    ptb z9 fun t10 => (J1_LeftHanded__joined left right t10)) else (J1_LeftHanded__joined left right false)) else (J1_LeftHanded__joined left right false)
noncomputable def PL_LeftHanded__joined (ds : List D) : PR D := match ds with
  | [a1, a2] => P_LeftHanded__joined a1 a2
  | _ => .bad
noncomputable def P_LeftHanded__meant (left : D) (right : D) (first : D) (second : D) : PR (D) :=
    (P_handed_on left second first).bind fun z1 =>
    .ok z1
noncomputable def PL_LeftHanded__meant (ds : List D) : PR D := match ds with
  | [a1, a2, a3, a4] => P_LeftHanded__meant a1 a2 a3 a4
  | _ => .bad
noncomputable def PL_made (ds : List D) : PR D := match ds with
  | [l, r] => madeGo [(PL_RightTaken__joined [l, r], .str (Str.ofString ">")), (PL_LeftTaken__joined [l, r], .str (Str.ofString "<")), (PL_RightHanded__joined [l, r], .str (Str.ofString ">>")), (PL_LeftHanded__joined [l, r], .str (Str.ofString "<<"))]
  | _ => .bad
noncomputable def P_made (l r : D) : PR D := noE (PL_made [l, r])
noncomputable def PL_meant (ds : List D) : PR D := match ds with
  | [sg, l, r, f, s] => meantGo sg [(.str (Str.ofString ">"), PL_RightTaken__meant [l, r, f, s]), (.str (Str.ofString "<"), PL_LeftTaken__meant [l, r, f, s]), (.str (Str.ofString ">>"), PL_RightHanded__meant [l, r, f, s]), (.str (Str.ofString "<<"), PL_LeftHanded__meant [l, r, f, s])]
  | _ => .bad
noncomputable def P_meant (sg l r f s : D) : PR D := noE (PL_meant [sg, l, r, f, s])
noncomputable def P_within (term : D) : PR (D) :=
    (ixP term (.int 0)).bind fun z1 =>
    ((eqP false) z1 (.str (Str.ofString "fn"))).bind fun z2 =>
    ptb z2 fun t3 => if t3 = true then ((ixP term (.int 2)).bind fun z4 =>
    .ok (.list [z4]))
    else ((ixP term (.int 0)).bind fun z5 =>
    ((eqP false) z5 (.str (Str.ofString "of"))).bind fun z6 =>
    ptb z6 fun t7 => if t7 = true then ((ixP term (.int 1)).bind fun z8 =>
    (ixP term (.int 2)).bind fun z9 =>
    .ok (.list [z8, z9]))
    else (.ok (.list [])))
noncomputable def C1_size_of (r_size_of : D → PR (D)) (x4 : D) (s5 : Unit) : PR (Option D × Unit) :=
    (r_size_of x4).bind fun z6 =>
    .ok (some z6, ())
noncomputable def B_size_of (r_size_of : D → PR (D)) (term : D) : PR (D) :=
    (P_within term).bind fun z1 =>
    (itemsP z1).bind fun xs2 =>
    lcK (C1_size_of r_size_of) xs2 () [] fun acc7 s8 =>
    (sumP [(.list acc7)]).bind fun z9 =>
    (addSP (.int 1) z9).bind fun z10 =>
    .ok z10
noncomputable def P_size_of : Nat → D → PR (D)
  | 0, _ => .bad
  | n + 1, a0 => B_size_of (P_size_of n) a0
noncomputable def C1_closed_in (r_closed_in : D → D → PR (D)) (more_14 : D) (x15 : D) (s16 : Unit) : PR (Option D × Unit) :=
    (r_closed_in x15 more_14).bind fun z17 =>
    .ok (some z17, ())
noncomputable def B_closed_in (r_closed_in : D → D → PR (D)) (term : D) (many : D) : PR (D) :=
    (ixP term (.int 0)).bind fun z1 =>
    ((eqP false) z1 (.str (Str.ofString "bound"))).bind fun z2 =>
    ptb z2 fun t3 => if t3 = true then ((ixP term (.int 1)).bind fun z4 =>
    (ltP z4 many).bind fun z5 =>
    .ok z5)
    else ((ixP term (.int 0)).bind fun z6 =>
    ((eqP false) z6 (.str (Str.ofString "fn"))).bind fun z7 =>
    (intP1 [z7]).bind fun z8 =>
    (addSP many z8).bind fun z9 =>
    (P_within term).bind fun z10 =>
    (itemsP z10).bind fun xs11 =>
    lcK (C1_closed_in r_closed_in z9) xs11 () [] fun acc18 s19 =>
    (allP [(.list acc18)]).bind fun z20 =>
    .ok z20)
noncomputable def P_closed_in : Nat → D → D → PR (D)
  | 0, _, _ => .bad
  | n + 1, a0, a1 => B_closed_in (P_closed_in n) a0 a1
noncomputable def P_is_closed (term : D) : PR (D) :=
    (P_closed_in fuelT term (.int 0)).bind fun z1 =>
    .ok z1
noncomputable def C1_uses_of (r_uses_of : D → D → PR (D)) (deeper_15 : D) (x16 : D) (s17 : Unit) : PR (Option D × Unit) :=
    (r_uses_of x16 deeper_15).bind fun z18 =>
    .ok (some z18, ())
noncomputable def B_uses_of (r_uses_of : D → D → PR (D)) (r_is_sparing : D → PR (D)) (term : D) (level : D) : PR (D) :=
    (ixP term (.int 0)).bind fun z1 =>
    ((eqP false) z1 (.str (Str.ofString "bound"))).bind fun z2 =>
    ptb z2 fun t3 => if t3 = true then ((ixP term (.int 1)).bind fun z4 =>
    ((eqP false) z4 level).bind fun z5 =>
    (intP1 [z5]).bind fun z6 =>
    .ok z6)
    else ((ixP term (.int 0)).bind fun z7 =>
    ((eqP false) z7 (.str (Str.ofString "fn"))).bind fun z8 =>
    (intP1 [z8]).bind fun z9 =>
    (addSP level z9).bind fun z10 =>
    (P_within term).bind fun z11 =>
    (itemsP z11).bind fun xs12 =>
    lcK (C1_uses_of r_uses_of z10) xs12 () [] fun acc19 s20 =>
    (sumP [(.list acc19)]).bind fun z21 =>
    .ok z21)
noncomputable def C2_is_sparing (r_is_sparing : D → PR (D)) (x5 : D) (s6 : Unit) : PR (Option D × Unit) :=
    (r_is_sparing x5).bind fun z7 =>
    .ok (some z7, ())
noncomputable def J1_is_sparing (r_is_sparing : D → PR (D)) (term_1 : D) : PR (D) :=
    (P_within term_1).bind fun z2 =>
    (itemsP z2).bind fun xs3 =>
    lcK (C2_is_sparing r_is_sparing) xs3 () [] fun acc8 s9 =>
    (allP [(.list acc8)]).bind fun z10 =>
    .ok z10
noncomputable def B_is_sparing (r_uses_of : D → D → PR (D)) (r_is_sparing : D → PR (D)) (term : D) : PR (D) :=
    (ixP term (.int 0)).bind fun z11 =>
    ((eqP false) z11 (.str (Str.ofString "fn"))).bind fun z12 =>
    ptb z12 fun t13 => if t13 = true then ((ixP term (.int 2)).bind fun z14 =>
    (r_uses_of z14 (.int 0)).bind fun z15 =>
    (gtP z15 (.int 1)).bind fun z16 =>
    ptb z16 fun t17 => if t17 = true then (.ok (.bool false))
    else ((J1_is_sparing r_is_sparing term))) else if false = true then (.ok (.bool false))
    else ((J1_is_sparing r_is_sparing term))
mutual
noncomputable def P_uses_of : Nat → D → D → PR (D)
  | 0, _, _ => .bad
  | n + 1, a0, a1 => B_uses_of (P_uses_of n) (P_is_sparing n) a0 a1
noncomputable def P_is_sparing : Nat → D → PR (D)
  | 0, _ => .bad
  | n + 1, a0 => B_is_sparing (P_uses_of n) (P_is_sparing n) a0
end
noncomputable def B_kind_within (r_kind_within : List (Str × D) → D → D → PR (D)) (known : List (Str × D)) (around : D) (term : D) : PR (D) :=
    (ixP term (.int 0)).bind fun z1 =>
    ((eqP false) z1 (.str (Str.ofString "name"))).bind fun z2 =>
    ptb z2 fun t3 => if t3 = true then ((ixP term (.int 1)).bind fun z5 =>
    pts z5 fun st4 => ptb (.bool (ngB true (dlookP known st4).isSome)) fun t6 => if t6 = true then (.err ⟨"NoKind", []⟩)
    else ((ixP term (.int 1)).bind fun z9 =>
    pts z9 fun st7 => pdk known st7 fun z8 =>
    .ok z8))
    else (((eqP false) z1 (.str (Str.ofString "leaf"))).bind fun z10 =>
    ptb z10 fun t11 => if t11 = true then ((ixP term (.int 2)).bind fun z12 =>
    (P_kind_of_form fuelR z12).bind fun z13 =>
    .ok z13)
    else (((eqP false) z1 (.str (Str.ofString "bound"))).bind fun z14 =>
    ptb z14 fun t15 => if t15 = true then ((ixP term (.int 1)).bind fun z16 =>
    (ixP around z16).bind fun z17 =>
    .ok z17)
    else (((eqP false) z1 (.str (Str.ofString "fn"))).bind fun z18 =>
    ptb z18 fun t19 => if t19 = true then ((ixP term (.int 1)).bind fun z20 =>
    (ixP term (.int 1)).bind fun z21 =>
    (addSP (.tuple [z21]) around).bind fun z22 =>
    (ixP term (.int 2)).bind fun z23 =>
    (r_kind_within known z22 z23).bind fun z24 =>
    .ok (.tuple [z20, z24]))
    else ((ixP term (.int 1)).bind fun z25 =>
    (r_kind_within known around z25).bind fun z26 =>
    (ixP term (.int 2)).bind fun z27 =>
    (r_kind_within known around z27).bind fun z28 =>
    pisi [.str] z26 fun z29 =>
    ptt z29 fun t30 => if t30 = true then if true = true then (.err ⟨"NoKind", []⟩)
    else ((ixP z26 (.int 1)).bind fun z31 =>
    .ok z31) else ((ixP z26 (.int 0)).bind fun z32 =>
    ((eqP true) z32 z28).bind fun z33 =>
    ptb z33 fun t34 => if t34 = true then (.err ⟨"NoKind", []⟩)
    else ((ixP z26 (.int 1)).bind fun z35 =>
    .ok z35))))))
noncomputable def P_kind_within : Nat → List (Str × D) → D → D → PR (D)
  | 0, _, _, _ => .bad
  | n + 1, a0, a1, a2 => B_kind_within (P_kind_within n) a0 a1 a2
noncomputable def S1_kind_of (x4 : D) (s5 : List (Str × D) × Unit) (kn6 : (List (Str × D) × Unit) → PR (D)) (kb7 : (List (Str × D) × Unit) → PR (D)) : PR (D) :=
    ptup x4 fun u8 => pcons u8 fun name_9 u10 => pcons u10 fun kind_11 u12 => pnil u12 (pts name_9 fun st13 => pput s5.1 st13 kind_11 fun kv14 =>
    kn6 (kv14, ()))
noncomputable def P_kind_of (names : D) (term : D) : PR (D) :=
    (itemsP names).bind fun xs1 =>
    foldK (S1_kind_of) xs1 ([], ()) fun s15 =>
    (P_kind_within fuelT s15.1 (.tuple []) term).bind fun z16 =>
    .ok z16
noncomputable def P__law_take (cells : List D) (many : D) : PR (D × List D) :=
    ((eqP false) (.list cells) (.list [])).bind fun z1 =>
    ptb z1 fun t2 => if t2 = true then (.ok ((.int 0), cells))
    else ((popAtP cells [(.int 0)]).bind fun z3 =>
    (modP z3.1 many).bind fun z4 =>
    .ok (z4, z3.2))
noncomputable def S3__law_names (letters_34 : D) (x42 : D) (s43 : D × List D × Unit) (kn44 : (D × List D × Unit) → PR (D)) (kb45 : (D × List D × Unit) → PR (D)) : PR (D) :=
    (modP s43.1 (.int 26)).bind fun z46 =>
    (ixP letters_34 z46).bind fun z47 =>
    (appendP s43.2.1 [z47]).bind fun z48 =>
    (divP s43.1 (.int 26)).bind fun z49 =>
    kn44 (z49, z48.2, ())
noncomputable def J6__law_names (kn75 : (List D × Unit) → PR (D)) (kb76 : (List D × Unit) → PR (D)) (letters_79 : D) (word_88 : List D) (t89 : Bool) : PR (D) :=
    if t89 = true then (((eqP false) (.list word_88) (.list [(.str (Str.ofString "a")), (.str (Str.ofString "n")), (.str (Str.ofString "y"))])).bind fun z90 =>
    ptb z90 fun t91 => if t91 = true then (kn75 ([(.str (Str.ofString "y")), (.str (Str.ofString "n")), (.str (Str.ofString "a"))], ()))
    else (pts letters_79 fun st92 => (ixP (.list word_88) (.int 0)).bind fun z93 =>
    (sindexP st92 [z93]).bind fun z94 =>
    (addSP z94 (.int 1)).bind fun z95 =>
    (modP z95 (.int 26)).bind fun z96 =>
    (ixP letters_79 z96).bind fun z97 =>
    pti (.int 0) fun i98 => pix word_88 i98 fun n99 =>
    kn75 ((List.set word_88 n99 z97), ())))
    else kb76 (word_88, ())
noncomputable def S5__law_names (letters_65 : D) (found_70 : List D) (s74 : List D × Unit) (kn75 : (List D × Unit) → PR (D)) (kb76 : (List D × Unit) → PR (D)) : PR (D) :=
    pts (.str (Str.ofString "")) fun st100 => (joinP st100 [(.list s74.1)]).bind fun z101 =>
    ((inP false) z101 (.list found_70)).bind fun z102 =>
    ptb z102 fun t103 => if t103 = true then (J6__law_names kn75 kb76 letters_65 s74.1 true) else (((eqP false) (.list s74.1) (.list [(.str (Str.ofString "a")), (.str (Str.ofString "n")), (.str (Str.ofString "y"))])).bind fun z104 =>
    ptb z104 fun t105 => (J6__law_names kn75 kb76 letters_65 s74.1 t105))
noncomputable def J4__law_names (fw : Nat) (kn18 : (D × List D × Unit) → PR (D)) (letters_53 : D) (number_57 : D) (found_58 : List D) (word_62 : List D) : PR (D) :=
    whileK (S5__law_names letters_53 found_58) fw (word_62, ()) fun s106 =>
    pts (.str (Str.ofString "")) fun st107 => (joinP st107 [(.list s106.1)]).bind fun z108 =>
    (appendP found_58 [z108]).bind fun z109 =>
    kn18 (number_57, z109.2, ())
noncomputable def J2__law_names (fw : Nat) (kn18 : (D × List D × Unit) → PR (D)) (letters_22 : D) (alike_23 : D) (at__25 : D) (number_26 : D) (found_27 : List D) (k__28 : D) (own_29 : D) (long_30 : D) : PR (D) :=
    (rng1P [long_30]).bind fun xs31 =>
    foldK (S3__law_names letters_22) xs31 (own_29, [], ()) fun s50 =>
    ptt alike_23 fun t110 => if t110 = true then (pts letters_22 fun st111 => (ixP (.list s50.2.1) at__25).bind fun z112 =>
    (sindexP st111 [z112]).bind fun z113 =>
    (addSP z113 k__28).bind fun z114 =>
    (modP z114 (.int 26)).bind fun z115 =>
    (ixP letters_22 z115).bind fun z116 =>
    pti at__25 fun i117 => pix s50.2.1 i117 fun n118 =>
    (J4__law_names fw kn18 letters_22 number_26 found_27 (List.set s50.2.1 n118 z116)))
    else ((J4__law_names fw kn18 letters_22 s50.1 found_27 s50.2.1))
noncomputable def S1__law_names (fw : Nat) (letters_12 : D) (alike_13 : D) (size_here_14 : D) (at__15 : D) (x16 : D) (s17 : D × List D × Unit) (kn18 : (D × List D × Unit) → PR (D)) (kb19 : (D × List D × Unit) → PR (D)) : PR (D) :=
    ptt alike_13 fun t119 => if (!t119) = true then ((modP s17.1 (.int 8)).bind fun z120 =>
    (addSP (.int 1) z120).bind fun z121 =>
    (divP s17.1 (.int 8)).bind fun z122 =>
    (J2__law_names fw kn18 letters_12 alike_13 at__15 s17.1 s17.2.1 x16 z122 z121))
    else ((J2__law_names fw kn18 letters_12 alike_13 at__15 s17.1 s17.2.1 x16 s17.1 size_here_14))
noncomputable def PF__law_names (fw : Nat) (cell : D) (many : D) : PR (D) :=
    (modP cell (.int 2)).bind fun z1 =>
    ((eqP false) z1 (.int 0)).bind fun z2 =>
    (divP cell (.int 2)).bind fun z3 =>
    (modP z3 (.int 8)).bind fun z4 =>
    (addSP (.int 1) z4).bind fun z5 =>
    (divP cell (.int 16)).bind fun z6 =>
    (modP z6 z5).bind fun z7 =>
    (divP cell (.int 128)).bind fun z8 =>
    (rng1P [many]).bind fun xs9 =>
    foldK (S1__law_names fw (.str (Str.ofString "abcdefghijklmnopqrstuvwxyz")) z2 z5 z7) xs9 (z8, [], ()) fun s123 =>
    .ok (.list s123.2.1)
noncomputable def P__law_names : D → D → PR (D) := PF__law_names fuelW
noncomputable def J1__law_form (r__law_form : List D → D → D → PR (D × List D)) (cells_3 : List D) (basics_4 : D) (left_5 : D) (first_6 : D) : PR (D × List D) :=
    (divP first_6 (.int 6)).bind fun z7 =>
    (subP left_5 (.int 1)).bind fun z8 =>
    (modP z7 z8).bind fun z9 =>
    (addSP (.int 1) z9).bind fun z10 =>
    (r__law_form cells_3 basics_4 z10).bind fun z11 =>
    (divP first_6 (.int 3)).bind fun z12 =>
    (modP z12 (.int 2)).bind fun z13 =>
    (ixP (.list [(.str (Str.ofString "/")), (.str (Str.ofString "\\"))]) z13).bind fun z14 =>
    (subP left_5 z10).bind fun z15 =>
    (r__law_form z11.2 basics_4 z15).bind fun z16 =>
    .ok ((.tuple [z14, z11.1, z16.1]), z16.2)
noncomputable def J2__law_form (r__law_form : List D → D → D → PR (D × List D)) (cells_19 : List D) (basics_20 : D) (left_21 : D) (first_22 : D) (t23 : Bool) : PR (D × List D) :=
    if t23 = true then ((divP first_22 (.int 3)).bind fun z24 =>
    (lenP [basics_20]).bind fun z25 =>
    (modP z24 z25).bind fun z26 =>
    (ixP basics_20 z26).bind fun z27 =>
    .ok ((.tuple [(.str (Str.ofString "basic")), z27]), cells_19))
    else ((J1__law_form r__law_form cells_19 basics_20 left_21 first_22))
noncomputable def B__law_form (r__law_form : List D → D → D → PR (D × List D)) (cells : List D) (basics : D) (left : D) : PR (D × List D) :=
    (powP (.int 10) (.int 12)).bind fun z1 =>
    (P__law_take cells z1).bind fun z2 =>
    (ltP left (.int 2)).bind fun z17 =>
    ptb z17 fun t18 => if t18 = true then (J2__law_form r__law_form z2.2 basics left z2.1 true) else ((modP z2.1 (.int 3)).bind fun z28 =>
    ((eqP false) z28 (.int 0)).bind fun z29 =>
    ptb z29 fun t30 => (J2__law_form r__law_form z2.2 basics left z2.1 t30))
noncomputable def P__law_form : Nat → List D → D → D → PR (D × List D)
  | 0, _, _, _ => .bad
  | n + 1, a0, a1, a2 => B__law_form (P__law_form n) a0 a1 a2
noncomputable def S1__law_spread (cell_5 : D) (x7 : D) (s8 : D × D × List D × Unit) (kn9 : (D × D × List D × Unit) → PR (D)) (kb10 : (D × D × List D × Unit) → PR (D)) : PR (D) :=
    (mulP s8.1 (.int 48271)).bind fun z11 =>
    (modP z11 (.int 2147483647)).bind fun z12 =>
    (powP (.int 10) (.int 12)).bind fun z13 =>
    (modP s8.2.1 z13).bind fun z14 =>
    (powP (.int 10) (.int 12)).bind fun z15 =>
    (divP s8.2.1 z15).bind fun z16 =>
    (mulP z12 (.int 69621)).bind fun z17 =>
    (modP z17 (.int 2147483629)).bind fun z18 =>
    (modP cell_5 (.int 2)).bind fun z19 =>
    (ixP (.list [z14, z18]) z19).bind fun z20 =>
    (appendP s8.2.2.1 [z20]).bind fun z21 =>
    kn9 (z12, z16, z21.2, ())
noncomputable def P__law_spread (cell : D) (many : D) : PR (D) :=
    (modP cell (.int 2147483646)).bind fun z1 =>
    (addSP z1 (.int 1)).bind fun z2 =>
    (divP cell (.int 2)).bind fun z3 =>
    (rng1P [many]).bind fun xs4 =>
    foldK (S1__law_spread cell) xs4 (z2, z3, [], ()) fun s22 =>
    .ok (.list s22.2.2.1)
noncomputable def B__law_size (r__law_size : D → PR (D)) (form_here : D) : PR (D) :=
    (ixP form_here (.int 0)).bind fun z1 =>
    ((eqP false) z1 (.str (Str.ofString "basic"))).bind fun z2 =>
    ptb z2 fun t3 => if t3 = true then (.ok (.int 1))
    else ((ixP form_here (.int 1)).bind fun z4 =>
    (r__law_size z4).bind fun z5 =>
    (ixP form_here (.int 2)).bind fun z6 =>
    (r__law_size z6).bind fun z7 =>
    (addP z5 z7).bind fun z8 =>
    .ok z8)
noncomputable def P__law_size : Nat → D → PR (D)
  | 0, _ => .bad
  | n + 1, a0 => B__law_size (P__law_size n) a0
noncomputable def J3__law_more (form_here_14 : D) (other_15 : D) : PR (D) :=
    (ixP form_here_14 (.int 0)).bind fun z18 =>
    ((eqP false) z18 (.str (Str.ofString "\\"))).bind fun z19 =>
    ptb z19 fun t20 => if t20 = true then ((ixP form_here_14 (.int 2)).bind fun z21 =>
    (ixP form_here_14 (.int 1)).bind fun z22 =>
    .ok (.tuple [(.str (Str.ofString "<")), z21, z22, (.bool true)]))
    else ((ixP form_here_14 (.int 0)).bind fun z23 =>
    ((eqP false) z23 (.str (Str.ofString "/"))).bind fun z24 =>
    ptb z24 fun t25 => if t25 = true then ((ixP form_here_14 (.int 2)).bind fun z26 =>
    (ixP form_here_14 (.int 1)).bind fun z27 =>
    .ok (.tuple [(.str (Str.ofString ">>")), (.tuple [(.str (Str.ofString "/")), z26, other_15]), (.tuple [(.str (Str.ofString "/")), z27, other_15]), (.bool false)]))
    else (.ok (.tuple [(.str (Str.ofString ">")), (.tuple [(.str (Str.ofString "/")), other_15, form_here_14]), other_15, (.bool true)])))
noncomputable def J4__law_more (form_here_34 : D) (other_35 : D) (t38 : Bool) : PR (D) :=
    if t38 = true then ((ixP form_here_34 (.int 2)).bind fun z39 =>
    (ixP form_here_34 (.int 1)).bind fun z40 =>
    .ok (.tuple [(.str (Str.ofString ">")), z39, z40, (.bool false)]))
    else ((J3__law_more form_here_34 other_35))
noncomputable def J2__law_more (form_here_10 : D) (other_11 : D) (way_13 : D) : PR (D) :=
    (ixP form_here_10 (.int 0)).bind fun z28 =>
    ((eqP false) z28 (.str (Str.ofString "/"))).bind fun z29 =>
    ptb z29 fun t30 => if t30 = true then ((modP way_13 (.int 2)).bind fun z31 =>
    ((eqP false) z31 (.int 0)).bind fun z32 =>
    ptb z32 fun t33 => (J4__law_more form_here_10 other_11 t33)) else (J4__law_more form_here_10 other_11 false)
noncomputable def J5__law_more (form_here_46 : D) (other_47 : D) (way_49 : D) (t50 : Bool) : PR (D) :=
    if t50 = true then ((ixP form_here_46 (.int 1)).bind fun z51 =>
    (ixP form_here_46 (.int 2)).bind fun z52 =>
    .ok (.tuple [(.str (Str.ofString "<<")), (.tuple [(.str (Str.ofString "\\")), other_47, z51]), (.tuple [(.str (Str.ofString "\\")), other_47, z52]), (.bool false)]))
    else ((J2__law_more form_here_46 other_47 way_49))
noncomputable def J1__law_more (form_here_6 : D) (other_7 : D) (way_9 : D) : PR (D) :=
    ((eqP false) way_9 (.int 3)).bind fun z41 =>
    ptb z41 fun t42 => if t42 = true then ((ixP form_here_6 (.int 0)).bind fun z43 =>
    ((eqP false) z43 (.str (Str.ofString "\\"))).bind fun z44 =>
    ptb z44 fun t45 => (J5__law_more form_here_6 other_7 way_9 t45)) else (J5__law_more form_here_6 other_7 way_9 false)
noncomputable def J6__law_more (form_here_58 : D) (other_59 : D) (way_61 : D) (t62 : Bool) : PR (D) :=
    if t62 = true then ((ixP form_here_58 (.int 1)).bind fun z63 =>
    (ixP form_here_58 (.int 2)).bind fun z64 =>
    .ok (.tuple [(.str (Str.ofString ">>")), (.tuple [(.str (Str.ofString "/")), other_59, z63]), (.tuple [(.str (Str.ofString "/")), other_59, z64]), (.bool true)]))
    else ((J1__law_more form_here_58 other_59 way_61))
noncomputable def P__law_more (form_here : D) (other : D) (cell : D) : PR (D) :=
    (modP cell (.int 6)).bind fun z1 =>
    ((eqP false) z1 (.int 0)).bind fun z2 =>
    ptb z2 fun t3 => if t3 = true then (.ok (.tuple [(.str (Str.ofString ">")), (.tuple [(.str (Str.ofString "/")), other, form_here]), other, (.bool true)]))
    else (((eqP false) z1 (.int 1)).bind fun z4 =>
    ptb z4 fun t5 => if t5 = true then (.ok (.tuple [(.str (Str.ofString "<")), (.tuple [(.str (Str.ofString "\\")), other, form_here]), other, (.bool false)]))
    else (((eqP false) z1 (.int 2)).bind fun z53 =>
    ptb z53 fun t54 => if t54 = true then ((ixP form_here (.int 0)).bind fun z55 =>
    ((eqP false) z55 (.str (Str.ofString "/"))).bind fun z56 =>
    ptb z56 fun t57 => (J6__law_more form_here other z1 t57)) else (J6__law_more form_here other z1 false)))
noncomputable def J3_law (kn28 : (D × D × D × Unit) → PR (D)) (form_here_60 : D) (term_61 : D) (size_here_62 : D) (k__64 : D) (sign_68 : D) (neighbour_69 : D) (due_70 : D) (ahead_71 : D) : PR (D) :=
    (addSP k__64 (.int 1)).bind fun z72 =>
    (intP1 [ahead_71]).bind fun z73 =>
    (ixP (.list [(.tuple [form_here_60, neighbour_69, term_61, (.tuple [(.str (Str.ofString "leaf")), z72, neighbour_69])]), (.tuple [neighbour_69, form_here_60, (.tuple [(.str (Str.ofString "leaf")), z72, neighbour_69]), term_61])]) z73).bind fun z74 =>
    (ixP z74 (.int 0)).bind fun z75 =>
    (ixP z74 (.int 1)).bind fun z76 =>
    (P_made z75 z76).bind fun z77 =>
    ((eqP true) z77 (.tuple [sign_68, due_70])).bind fun z78 =>
    ptb z78 fun t79 => if t79 = true then (.ok (.bool false))
    else ((ixP z74 (.int 0)).bind fun z80 =>
    (ixP z74 (.int 1)).bind fun z81 =>
    (ixP z74 (.int 2)).bind fun z82 =>
    (ixP z74 (.int 3)).bind fun z83 =>
    (P_meant sign_68 z80 z81 z82 z83).bind fun z84 =>
    (lenP [sign_68]).bind fun z85 =>
    ((eqP false) z85 (.int 2)).bind fun z86 =>
    (intP1 [z86]).bind fun z87 =>
    (ixP (.list [(.int 2), (.int 5)]) z87).bind fun z88 =>
    (addP size_here_62 z88).bind fun z89 =>
    kn28 (due_70, z84, z89, ()))
noncomputable def J4_law (kn28 : (D × D × D × Unit) → PR (D)) (form_here_96 : D) (term_97 : D) (size_here_98 : D) (k__100 : D) (sign_104 : D) (neighbour_105 : D) (due_106 : D) (ahead_107 : D) (t108 : Bool) : PR (D) :=
    if t108 = true then (kn28 (form_here_96, term_97, size_here_98, ()))
    else ((J3_law kn28 form_here_96 term_97 size_here_98 k__100 sign_104 neighbour_105 due_106 ahead_107))
noncomputable def S2_law (basics_24 : D) (x26 : D) (s27 : D × D × D × Unit) (kn28 : (D × D × D × Unit) → PR (D)) (kb29 : (D × D × D × Unit) → PR (D)) : PR (D) :=
    ptup x26 fun u30 => pcons u30 fun k__31 u32 => pcons u32 fun cell_33 u34 => pnil u34 ((divP cell_33 (.int 6)).bind fun z35 =>
    (powP (.int 10) (.int 6)).bind fun z36 =>
    (modP z35 z36).bind fun z37 =>
    (powP (.int 10) (.int 6)).bind fun z38 =>
    (divP z35 z38).bind fun z39 =>
    (powP (.int 10) (.int 6)).bind fun z40 =>
    (modP z39 z40).bind fun z41 =>
    (powP (.int 10) (.int 12)).bind fun z42 =>
    (divP z35 z42).bind fun z43 =>
    (powP (.int 10) (.int 6)).bind fun z44 =>
    (modP z43 z44).bind fun z45 =>
    (P__law_form fuelR [z37, z41, z45] basics_24 (.int 2)).bind fun z46 =>
    (P__law_more s27.1 z46.1 cell_33).bind fun z47 =>
    ptup z47 fun u48 => pcons u48 fun sign_49 u50 => pcons u50 fun neighbour_51 u52 => pcons u52 fun due_53 u54 => pcons u54 fun ahead_55 u56 => pnil u56 ((P__law_size fuelR neighbour_51).bind fun z90 =>
    (gtP z90 (.int 9)).bind fun z91 =>
    ptb z91 fun t92 => if t92 = true then (J4_law kn28 s27.1 s27.2.1 s27.2.2.1 k__31 sign_49 neighbour_51 due_53 ahead_55 true) else ((P__law_size fuelR due_53).bind fun z109 =>
    (gtP z109 (.int 9)).bind fun z110 =>
    ptb z110 fun t111 => (J4_law kn28 s27.1 s27.2.1 s27.2.2.1 k__31 sign_49 neighbour_51 due_53 ahead_55 t111))))
noncomputable def J5_law (form_here_116 : D) (term_117 : D) : PR (D) :=
    (P_kind_of (.list []) term_117).bind fun z120 =>
    (P_kind_of_form fuelR form_here_116).bind fun z121 =>
    ((eqP false) z120 z121).bind fun z122 =>
    .ok z122
noncomputable def J1_law (basics_16 : D) (form_here_17 : D) (term_18 : D) (size_here_19 : D) (more_here_20 : D) : PR (D) :=
    (enumP [more_here_20]).bind fun xs21 =>
    foldK (S2_law basics_16) xs21 (form_here_17, term_18, size_here_19, ()) fun s112 =>
    (P_size_of fuelT s112.2.1).bind fun z123 =>
    ((eqP true) z123 s112.2.2.1).bind fun z124 =>
    ptb z124 fun t125 => if t125 = true then if true = true then (.ok (.bool false))
    else ((J5_law s112.1 s112.2.1)) else ((P_is_closed s112.2.1).bind fun z126 =>
    ptt z126 fun t127 => if (!t127) = true then if true = true then (.ok (.bool false))
    else ((J5_law s112.1 s112.2.1)) else ((P_is_sparing fuelT s112.2.1).bind fun z128 =>
    ptt z128 fun t129 => if (!t129) = true then (.ok (.bool false))
    else ((J5_law s112.1 s112.2.1))))
noncomputable def P_law (script : List D) : PR (D) :=
    pti (.int 8) fun i1 => (slP (.list script) none (some i1)).bind fun z2 =>
    (listP [z2]).bind fun z3 =>
    ptl z3 fun cells_4 =>
    (powP (.int 10) (.int 64)).bind fun z5 =>
    (powP (.int 10) (.int 64)).bind fun z6 =>
    (mulP z5 z6).bind fun z7 =>
    (P__law_take cells_4 z7).bind fun z8 =>
    (P__law_names z8.1 (.int 3)).bind fun z9 =>
    (P__law_form fuelR z8.2 z9 (.int 3)).bind fun z10 =>
    pti (.int 2) fun i11 => pti (.int 42) fun i12 => (slP (.list script) (some i11) (some i12)).bind fun z13 =>
    (addP (.list script) (.list [(.int 0)])).bind fun z130 =>
    (ixP z130 (.int 0)).bind fun z131 =>
    (modP z131 (.int 8)).bind fun z132 =>
    ((eqP false) z132 (.int 5)).bind fun z133 =>
    ptb z133 fun t134 => if t134 = true then ((ixP (.list script) (.int 0)).bind fun z135 =>
    (divP z135 (.int 8)).bind fun z136 =>
    (P__law_spread z136 (.int 20)).bind fun z137 =>
    (addP z13 z137).bind fun z138 =>
    (lenP [z13]).bind fun z139 =>
    (maxP2 [(.int 20), z139]).bind fun z140 =>
    pti z140 fun i141 => (slP z138 none (some i141)).bind fun z142 =>
    (J1_law z9 z10.1 (.tuple [(.str (Str.ofString "leaf")), (.int 0), z10.1]) (.int 1) z142))
    else ((J1_law z9 z10.1 (.tuple [(.str (Str.ofString "leaf")), (.int 0), z10.1]) (.int 1) z13))
end K32

set_option Elab.async false
set_option linter.all false
set_option maxRecDepth 100000
set_option maxHeartbeats 4000000
namespace K32
open PySem L2 M
noncomputable def F_made : FF := dataF PL_made
noncomputable def F_meant : FF := dataF PL_meant
noncomputable def m_kind_of_form (r_kind_of_form : FF) : SF :=
    (sSeq (sIf (tBool (eOp (eqW false) (eOp ixW (eVar 0) (eC (.int 0))) (eC (.str (Str.ofString "basic"))))) (sRet (eOp ixW (eVar 0) (eC (.int 1)))) sNx)
    (sRet (eTup (aCons (eFrz (eCallF r_kind_of_form (aCons (eOp ixW (eVar 0) (eC (.int 2))) aNil))) (aCons (eFrz (eCallF r_kind_of_form (aCons (eOp ixW (eVar 0) (eC (.int 1))) aNil))) aNil)))))
noncomputable def F_kind_of_form : Nat → FF
  | 0 => badF
  | n + 1 => runF 1 (m_kind_of_form (F_kind_of_form n))
noncomputable def m_handed_on : SF :=
    (sRet (eTup (aCons (eC (.str (Str.ofString "fn"))) (aCons (eFrz (eCallF (F_kind_of_form 40) (aCons (eOp ixW (eVar 0) (eC (.int 2))) aNil))) (aCons (eTup (aCons (eC (.str (Str.ofString "of"))) (aCons (eVar 1) (aCons (eTup (aCons (eC (.str (Str.ofString "of"))) (aCons (eVar 2) (aCons (eTup (aCons (eC (.str (Str.ofString "bound"))) (aCons (eC (.int 0)) aNil))) aNil)))) aNil)))) aNil)))))
noncomputable def F_handed_on : FF := runF 3 m_handed_on
noncomputable def m_RightTaken__sign : SF :=
    (sRet (eC (.str (Str.ofString ">"))))
noncomputable def m_RightTaken__joined : SF :=
    (sSeq (sIf (tAndF (tBool (eOp (eqW false) (eOp ixW (eVar 1) (eC (.int 0))) (eC (.str (Str.ofString "/"))))) (tBool (eOp (eqW false) (eOp ixW (eVar 1) (eC (.int 2))) (eVar 2)))) (sRet (eOp ixW (eVar 1) (eC (.int 1)))) sNx)
    (sRet (eC .none)))
noncomputable def m_RightTaken__meant : SF :=
    (sRet (eTup (aCons (eC (.str (Str.ofString "of"))) (aCons (eVar 3) (aCons (eVar 4) aNil)))))
noncomputable def m_LeftTaken__sign : SF :=
    (sRet (eC (.str (Str.ofString "<"))))
noncomputable def m_LeftTaken__joined : SF :=
    (sSeq (sIf (tAndF (tBool (eOp (eqW false) (eOp ixW (eVar 2) (eC (.int 0))) (eC (.str (Str.ofString "\\"))))) (tBool (eOp (eqW false) (eOp ixW (eVar 2) (eC (.int 2))) (eVar 1)))) (sRet (eOp ixW (eVar 2) (eC (.int 1)))) sNx)
    (sRet (eC .none)))
noncomputable def m_LeftTaken__meant : SF :=
    (sRet (eTup (aCons (eC (.str (Str.ofString "of"))) (aCons (eVar 4) (aCons (eVar 3) aNil)))))
noncomputable def m_RightHanded__sign : SF :=
    (sRet (eC (.str (Str.ofString ">>"))))
noncomputable def m_RightHanded__joined : SF :=
    (sSeq (sIf (tAndF (tBool (eOp (eqW false) (eOp ixW (eVar 1) (eC (.int 0))) (eC (.str (Str.ofString "/"))))) (tAndF (tBool (eOp (eqW false) (eOp ixW (eVar 2) (eC (.int 0))) (eC (.str (Str.ofString "/"))))) (tBool (eOp (eqW false) (eOp ixW (eVar 1) (eC (.int 2))) (eOp ixW (eVar 2) (eC (.int 1))))))) (sRet (eTup (aCons (eC (.str (Str.ofString "/"))) (aCons (eOp ixW (eVar 1) (eC (.int 1))) (aCons (eOp ixW (eVar 2) (eC (.int 2))) aNil))))) sNx)
    (sRet (eC .none)))
noncomputable def m_RightHanded__meant : SF :=
    (sRet (eCallF F_handed_on (aCons (eVar 2) (aCons (eVar 3) (aCons (eVar 4) aNil)))))
noncomputable def m_LeftHanded__sign : SF :=
    (sRet (eC (.str (Str.ofString "<<"))))
noncomputable def m_LeftHanded__joined : SF :=
    (sSeq (sIf (tAndF (tBool (eOp (eqW false) (eOp ixW (eVar 1) (eC (.int 0))) (eC (.str (Str.ofString "\\"))))) (tAndF (tBool (eOp (eqW false) (eOp ixW (eVar 2) (eC (.int 0))) (eC (.str (Str.ofString "\\"))))) (tBool (eOp (eqW false) (eOp ixW (eVar 2) (eC (.int 2))) (eOp ixW (eVar 1) (eC (.int 1))))))) (sRet (eTup (aCons (eC (.str (Str.ofString "\\"))) (aCons (eOp ixW (eVar 2) (eC (.int 1))) (aCons (eOp ixW (eVar 1) (eC (.int 2))) aNil))))) sNx)
    (sRet (eC .none)))
noncomputable def m_LeftHanded__meant : SF :=
    (sRet (eCallF F_handed_on (aCons (eVar 1) (aCons (eVar 4) (aCons (eVar 3) aNil)))))
noncomputable def m_within : SF :=
    (sSeq (sIf (tBool (eOp (eqW false) (eOp ixW (eVar 0) (eC (.int 0))) (eC (.str (Str.ofString "fn"))))) (sRet (eLst (aCons (eOp ixW (eVar 0) (eC (.int 2))) aNil))) sNx)
    (sSeq (sIf (tBool (eOp (eqW false) (eOp ixW (eVar 0) (eC (.int 0))) (eC (.str (Str.ofString "of"))))) (sRet (eLst (aCons (eOp ixW (eVar 0) (eC (.int 1))) (aCons (eOp ixW (eVar 0) (eC (.int 2))) aNil)))) sNx)
    (sRet (eLst aNil))))
noncomputable def F_within : FF := runF 1 m_within
noncomputable def m_size_of (r_size_of : FF) : SF :=
    (sRet (eOp addAW (eC (.int 1)) (eCall sumW (aCons (eLc (iSeq (eCallF F_within (aCons (eVar 0) aNil))) (gSet 1) tYesF (eFrz (eCallF r_size_of (aCons (eVar 1) aNil))) [1]) aNil))))
noncomputable def F_size_of : Nat → FF
  | 0 => badF
  | n + 1 => runF 2 (m_size_of (F_size_of n))
noncomputable def m_closed_in (r_closed_in : FF) : SF :=
    (sSeq (sIf (tBool (eOp (eqW false) (eOp ixW (eVar 0) (eC (.int 0))) (eC (.str (Str.ofString "bound"))))) (sRet (eOp ltW (eOp ixW (eVar 0) (eC (.int 1))) (eVar 1))) sNx)
    (sSeq (sAsg (eOp addAW (eVar 1) (eCall intW1 (aCons (eOp (eqW false) (eOp ixW (eVar 0) (eC (.int 0))) (eC (.str (Str.ofString "fn")))) aNil))) (gSet 2))
    (sRet (eCall allW (aCons (eLc (iSeq (eCallF F_within (aCons (eVar 0) aNil))) (gSet 3) tYesF (eFrz (eCallF r_closed_in (aCons (eVar 3) (aCons (eVar 2) aNil)))) [3]) aNil)))))
noncomputable def F_closed_in : Nat → FF
  | 0 => badF
  | n + 1 => runF 4 (m_closed_in (F_closed_in n))
noncomputable def m_is_closed : SF :=
    (sRet (eCallF (F_closed_in 130) (aCons (eVar 0) (aCons (eC (.int 0)) aNil))))
noncomputable def F_is_closed : FF := runF 1 m_is_closed
noncomputable def m_uses_of (r_uses_of : FF) (r_is_sparing : FF) : SF :=
    (sSeq (sIf (tBool (eOp (eqW false) (eOp ixW (eVar 0) (eC (.int 0))) (eC (.str (Str.ofString "bound"))))) (sRet (eCall intW1 (aCons (eOp (eqW false) (eOp ixW (eVar 0) (eC (.int 1))) (eVar 1)) aNil))) sNx)
    (sSeq (sAsg (eOp addAW (eVar 1) (eCall intW1 (aCons (eOp (eqW false) (eOp ixW (eVar 0) (eC (.int 0))) (eC (.str (Str.ofString "fn")))) aNil))) (gSet 2))
    (sRet (eCall sumW (aCons (eLc (iSeq (eCallF F_within (aCons (eVar 0) aNil))) (gSet 3) tYesF (eFrz (eCallF r_uses_of (aCons (eVar 3) (aCons (eVar 2) aNil)))) [3]) aNil)))))
noncomputable def m_is_sparing (r_uses_of : FF) (r_is_sparing : FF) : SF :=
    (sSeq (sIf (tAndF (tBool (eOp (eqW false) (eOp ixW (eVar 0) (eC (.int 0))) (eC (.str (Str.ofString "fn"))))) (tBool (eOp gtW (eCallF r_uses_of (aCons (eOp ixW (eVar 0) (eC (.int 2))) (aCons (eC (.int 0)) aNil))) (eC (.int 1))))) (sRet (eC (.bool false))) sNx)
    (sRet (eCall allW (aCons (eLc (iSeq (eCallF F_within (aCons (eVar 0) aNil))) (gSet 1) tYesF (eFrz (eCallF r_is_sparing (aCons (eVar 1) aNil))) [1]) aNil))))
mutual
noncomputable def F_uses_of : Nat → FF
  | 0 => badF
  | n + 1 => runF 4 (m_uses_of (F_uses_of n) (F_is_sparing n))
noncomputable def F_is_sparing : Nat → FF
  | 0 => badF
  | n + 1 => runF 2 (m_is_sparing (F_uses_of n) (F_is_sparing n))
end
noncomputable def m_kind_within (r_kind_within : FF) : SF :=
    (sSeq (sAsg (eOp ixW (eVar 2) (eC (.int 0))) (gSet 3))
    (sSeq (sIf (tBool (eOp (eqW false) (eVar 3) (eC (.str (Str.ofString "name"))))) (sSeq (sIf (tBool (eOp (dinW true) (eOp ixW (eVar 2) (eC (.int 1))) (eVar 0))) (sRaise "NoKind") sNx)
    (sRet (eOp dgetW (eVar 0) (eOp ixW (eVar 2) (eC (.int 1)))))) sNx)
    (sSeq (sIf (tBool (eOp (eqW false) (eVar 3) (eC (.str (Str.ofString "leaf"))))) (sRet (eCallF (F_kind_of_form 40) (aCons (eOp ixW (eVar 2) (eC (.int 2))) aNil))) sNx)
    (sSeq (sIf (tBool (eOp (eqW false) (eVar 3) (eC (.str (Str.ofString "bound"))))) (sRet (eOp ixW (eVar 1) (eOp ixW (eVar 2) (eC (.int 1))))) sNx)
    (sSeq (sIf (tBool (eOp (eqW false) (eVar 3) (eC (.str (Str.ofString "fn"))))) (sRet (eTup (aCons (eOp ixW (eVar 2) (eC (.int 1))) (aCons (eFrz (eCallF r_kind_within (aCons (eObj (eVar 0)) (aCons (eOp addAW (eTup (aCons (eOp ixW (eVar 2) (eC (.int 1))) aNil)) (eVar 1)) (aCons (eOp ixW (eVar 2) (eC (.int 2))) aNil))))) aNil)))) sNx)
    (sSeq (sAsg (eFrz (eCallF r_kind_within (aCons (eObj (eVar 0)) (aCons (eVar 1) (aCons (eOp ixW (eVar 2) (eC (.int 1))) aNil))))) (gSet 4))
    (sSeq (sAsg (eFrz (eCallF r_kind_within (aCons (eObj (eVar 0)) (aCons (eVar 1) (aCons (eOp ixW (eVar 2) (eC (.int 2))) aNil))))) (gSet 5))
    (sSeq (sIf (tOrF (tTru (eIsi [.str] (eVar 4))) (tBool (eOp (eqW true) (eOp ixW (eVar 4) (eC (.int 0))) (eVar 5)))) (sRaise "NoKind") sNx)
    (sRet (eOp ixW (eVar 4) (eC (.int 1))))))))))))
noncomputable def F_kind_within : Nat → FF
  | 0 => badF
  | n + 1 => runF 6 (m_kind_within (F_kind_within n))
noncomputable def b1_kind_of : SF :=
    (sSetD (eVar 2) (eVar 3) (eVar 4))
noncomputable def m_kind_of : SF :=
    (sSeq (sAsg (eDict [] aNil) (gSet 2))
    (sSeq (sFor (iSeq (eVar 0)) (gTupF 2 (gsCons (gSet 3) (gsCons (gSet 4) gsNil))) b1_kind_of)
    (sRet (eCallF (F_kind_within 130) (aCons (eObj (eVar 2)) (aCons (eTup aNil) (aCons (eVar 1) aNil)))))))
noncomputable def F_kind_of : FF := runF 5 m_kind_of
noncomputable def m__law_take : SF :=
    (sSeq (sIf (tBool (eOp (eqW false) (eVar 0) (eLst aNil))) (sRet (eC (.int 0))) sNx)
    (sRet (eOp modW (eMt "list" popAtW (eVar 0) (aCons (eC (.int 0)) aNil)) (eVar 1))))
noncomputable def F__law_take : FF := runF 2 m__law_take
noncomputable def b1__law_names : SF :=
    (sSeq (sDrop (eMt "list" appendW (eVar 11) (aCons (eOp ixW (eVar 2) (eOp modW (eVar 9) (eC (.int 26)))) aNil)))
    (sAsg (eOp divW (eVar 9) (eC (.int 26))) (gSet 9)))
noncomputable def b2__law_names : SF :=
    (sIf (tBool (eOp (eqW false) (eVar 11) (eLst (aCons (eC (.str (Str.ofString "a"))) (aCons (eC (.str (Str.ofString "n"))) (aCons (eC (.str (Str.ofString "y"))) aNil)))))) (sAsg (eObj (eLst (aCons (eC (.str (Str.ofString "y"))) (aCons (eC (.str (Str.ofString "n"))) (aCons (eC (.str (Str.ofString "a"))) aNil))))) (gSet 11)) (sSetI (eVar 11) (eC (.int 0)) (eOp ixW (eVar 2) (eOp modW (eOp addAW (eMt "str" sindexW (eVar 2) (aCons (eOp ixW (eVar 11) (eC (.int 0))) aNil)) (eC (.int 1))) (eC (.int 26))))))
noncomputable def b3__law_names : SF :=
    (sSeq (sAsg (eVar 6) (gSet 9))
    (sSeq (sAsg (eVar 4) (gSet 10))
    (sSeq (sIf (tNotF (tTru (eVar 3))) (sSeq (sAsg (eOp addAW (eC (.int 1)) (eOp modW (eVar 6) (eC (.int 8)))) (gSet 10))
    (sAsg (eOp divW (eVar 6) (eC (.int 8))) (gSet 9))) sNx)
    (sSeq (sAsg (eObj (eLst aNil)) (gSet 11))
    (sSeq (sFor (iRange1 (aCons (eVar 10) aNil)) (gSet 12) b1__law_names)
    (sSeq (sIf (tTru (eVar 3)) (sSetI (eVar 11) (eVar 5) (eOp ixW (eVar 2) (eOp modW (eOp addAW (eMt "str" sindexW (eVar 2) (aCons (eOp ixW (eVar 11) (eVar 5)) aNil)) (eVar 8)) (eC (.int 26))))) (sAsg (eVar 9) (gSet 6)))
    (sSeq (whileM (tOrF (tBool (eOp (inW false) (eMt "str" joinW (eC (.str (Str.ofString ""))) (aCons (eVar 11) aNil)) (eVar 7))) (tBool (eOp (eqW false) (eVar 11) (eLst (aCons (eC (.str (Str.ofString "a"))) (aCons (eC (.str (Str.ofString "n"))) (aCons (eC (.str (Str.ofString "y"))) aNil))))))) b2__law_names fuelW)
    (sDrop (eMt "list" appendW (eVar 7) (aCons (eMt "str" joinW (eC (.str (Str.ofString ""))) (aCons (eVar 11) aNil)) aNil))))))))))
noncomputable def m__law_names : SF :=
    (sSeq (sAsg (eC (.str (Str.ofString "abcdefghijklmnopqrstuvwxyz"))) (gSet 2))
    (sSeq (sAsg (eOp (eqW false) (eOp modW (eVar 0) (eC (.int 2))) (eC (.int 0))) (gSet 3))
    (sSeq (sAsg (eOp addAW (eC (.int 1)) (eOp modW (eOp divW (eVar 0) (eC (.int 2))) (eC (.int 8)))) (gSet 4))
    (sSeq (sAsg (eOp modW (eOp divW (eVar 0) (eC (.int 16))) (eVar 4)) (gSet 5))
    (sSeq (sAsg (eOp divW (eVar 0) (eC (.int 128))) (gSet 6))
    (sSeq (sAsg (eObj (eLst aNil)) (gSet 7))
    (sSeq (sFor (iRange1 (aCons (eVar 1) aNil)) (gSet 8) b3__law_names)
    (sRet (eVar 7)))))))))
noncomputable def F__law_names : FF := runF 13 m__law_names
noncomputable def m__law_form (r__law_form : FF) : SF :=
    (sSeq (sAsg (eFrz (eCallF F__law_take (aCons (eObj (eVar 0)) (aCons (eOp powW (eC (.int 10)) (eC (.int 12))) aNil)))) (gSet 3))
    (sSeq (sIf (tOrF (tBool (eOp ltW (eVar 2) (eC (.int 2)))) (tBool (eOp (eqW false) (eOp modW (eVar 3) (eC (.int 3))) (eC (.int 0))))) (sRet (eTup (aCons (eC (.str (Str.ofString "basic"))) (aCons (eOp ixW (eVar 1) (eOp modW (eOp divW (eVar 3) (eC (.int 3))) (eCall lenW (aCons (eVar 1) aNil)))) aNil)))) sNx)
    (sSeq (sAsg (eOp addAW (eC (.int 1)) (eOp modW (eOp divW (eVar 3) (eC (.int 6))) (eOp subW (eVar 2) (eC (.int 1))))) (gSet 4))
    (sSeq (sAsg (eFrz (eCallF r__law_form (aCons (eObj (eVar 0)) (aCons (eVar 1) (aCons (eVar 4) aNil))))) (gSet 5))
    (sRet (eTup (aCons (eOp ixW (eLst (aCons (eC (.str (Str.ofString "/"))) (aCons (eC (.str (Str.ofString "\\"))) aNil))) (eOp modW (eOp divW (eVar 3) (eC (.int 3))) (eC (.int 2)))) (aCons (eVar 5) (aCons (eFrz (eCallF r__law_form (aCons (eObj (eVar 0)) (aCons (eVar 1) (aCons (eOp subW (eVar 2) (eVar 4)) aNil))))) aNil)))))))))
noncomputable def F__law_form : Nat → FF
  | 0 => badF
  | n + 1 => runF 6 (m__law_form (F__law_form n))
noncomputable def b1__law_spread : SF :=
    (sSeq (sAsg (eOp modW (eOp mulW (eVar 2) (eC (.int 48271))) (eC (.int 2147483647))) (gSet 2))
    (sSeq (sAsg (eOp modW (eVar 3) (eOp powW (eC (.int 10)) (eC (.int 12)))) (gSet 6))
    (sSeq (sAsg (eOp divW (eVar 3) (eOp powW (eC (.int 10)) (eC (.int 12)))) (gSet 3))
    (sDrop (eMt "list" appendW (eVar 4) (aCons (eOp ixW (eLst (aCons (eVar 6) (aCons (eOp modW (eOp mulW (eVar 2) (eC (.int 69621))) (eC (.int 2147483629))) aNil))) (eOp modW (eVar 0) (eC (.int 2)))) aNil))))))
noncomputable def m__law_spread : SF :=
    (sSeq (sAsg (eOp addAW (eOp modW (eVar 0) (eC (.int 2147483646))) (eC (.int 1))) (gSet 2))
    (sSeq (sAsg (eOp divW (eVar 0) (eC (.int 2))) (gSet 3))
    (sSeq (sAsg (eObj (eLst aNil)) (gSet 4))
    (sSeq (sFor (iRange1 (aCons (eVar 1) aNil)) (gSet 5) b1__law_spread)
    (sRet (eVar 4))))))
noncomputable def F__law_spread : FF := runF 7 m__law_spread
noncomputable def m__law_size (r__law_size : FF) : SF :=
    (sSeq (sIf (tBool (eOp (eqW false) (eOp ixW (eVar 0) (eC (.int 0))) (eC (.str (Str.ofString "basic"))))) (sRet (eC (.int 1))) sNx)
    (sRet (eOp addAW (eCallF r__law_size (aCons (eOp ixW (eVar 0) (eC (.int 1))) aNil)) (eCallF r__law_size (aCons (eOp ixW (eVar 0) (eC (.int 2))) aNil)))))
noncomputable def F__law_size : Nat → FF
  | 0 => badF
  | n + 1 => runF 1 (m__law_size (F__law_size n))
noncomputable def m__law_more : SF :=
    (sSeq (sAsg (eOp modW (eVar 2) (eC (.int 6))) (gSet 3))
    (sSeq (sIf (tBool (eOp (eqW false) (eVar 3) (eC (.int 0)))) (sRet (eTup (aCons (eC (.str (Str.ofString ">"))) (aCons (eTup (aCons (eC (.str (Str.ofString "/"))) (aCons (eVar 1) (aCons (eVar 0) aNil)))) (aCons (eVar 1) (aCons (eC (.bool true)) aNil)))))) sNx)
    (sSeq (sIf (tBool (eOp (eqW false) (eVar 3) (eC (.int 1)))) (sRet (eTup (aCons (eC (.str (Str.ofString "<"))) (aCons (eTup (aCons (eC (.str (Str.ofString "\\"))) (aCons (eVar 1) (aCons (eVar 0) aNil)))) (aCons (eVar 1) (aCons (eC (.bool false)) aNil)))))) sNx)
    (sSeq (sIf (tAndF (tBool (eOp (eqW false) (eVar 3) (eC (.int 2)))) (tBool (eOp (eqW false) (eOp ixW (eVar 0) (eC (.int 0))) (eC (.str (Str.ofString "/")))))) (sRet (eTup (aCons (eC (.str (Str.ofString ">>"))) (aCons (eTup (aCons (eC (.str (Str.ofString "/"))) (aCons (eVar 1) (aCons (eOp ixW (eVar 0) (eC (.int 1))) aNil)))) (aCons (eTup (aCons (eC (.str (Str.ofString "/"))) (aCons (eVar 1) (aCons (eOp ixW (eVar 0) (eC (.int 2))) aNil)))) (aCons (eC (.bool true)) aNil)))))) sNx)
    (sSeq (sIf (tAndF (tBool (eOp (eqW false) (eVar 3) (eC (.int 3)))) (tBool (eOp (eqW false) (eOp ixW (eVar 0) (eC (.int 0))) (eC (.str (Str.ofString "\\")))))) (sRet (eTup (aCons (eC (.str (Str.ofString "<<"))) (aCons (eTup (aCons (eC (.str (Str.ofString "\\"))) (aCons (eVar 1) (aCons (eOp ixW (eVar 0) (eC (.int 1))) aNil)))) (aCons (eTup (aCons (eC (.str (Str.ofString "\\"))) (aCons (eVar 1) (aCons (eOp ixW (eVar 0) (eC (.int 2))) aNil)))) (aCons (eC (.bool false)) aNil)))))) sNx)
    (sSeq (sIf (tAndF (tBool (eOp (eqW false) (eOp ixW (eVar 0) (eC (.int 0))) (eC (.str (Str.ofString "/"))))) (tBool (eOp (eqW false) (eOp modW (eVar 3) (eC (.int 2))) (eC (.int 0))))) (sRet (eTup (aCons (eC (.str (Str.ofString ">"))) (aCons (eOp ixW (eVar 0) (eC (.int 2))) (aCons (eOp ixW (eVar 0) (eC (.int 1))) (aCons (eC (.bool false)) aNil)))))) sNx)
    (sSeq (sIf (tBool (eOp (eqW false) (eOp ixW (eVar 0) (eC (.int 0))) (eC (.str (Str.ofString "\\"))))) (sRet (eTup (aCons (eC (.str (Str.ofString "<"))) (aCons (eOp ixW (eVar 0) (eC (.int 2))) (aCons (eOp ixW (eVar 0) (eC (.int 1))) (aCons (eC (.bool true)) aNil)))))) sNx)
    (sSeq (sIf (tBool (eOp (eqW false) (eOp ixW (eVar 0) (eC (.int 0))) (eC (.str (Str.ofString "/"))))) (sRet (eTup (aCons (eC (.str (Str.ofString ">>"))) (aCons (eTup (aCons (eC (.str (Str.ofString "/"))) (aCons (eOp ixW (eVar 0) (eC (.int 2))) (aCons (eVar 1) aNil)))) (aCons (eTup (aCons (eC (.str (Str.ofString "/"))) (aCons (eOp ixW (eVar 0) (eC (.int 1))) (aCons (eVar 1) aNil)))) (aCons (eC (.bool false)) aNil)))))) sNx)
    (sRet (eTup (aCons (eC (.str (Str.ofString ">"))) (aCons (eTup (aCons (eC (.str (Str.ofString "/"))) (aCons (eVar 1) (aCons (eVar 0) aNil)))) (aCons (eVar 1) (aCons (eC (.bool true)) aNil))))))))))))))
noncomputable def F__law_more : FF := runF 4 m__law_more
noncomputable def b1_law : SF :=
    (sSeq (sAsg (eOp divW (eVar 8) (eC (.int 6))) (gSet 9))
    (sSeq (sAsg (eFrz (eCallF (F__law_form 40) (aCons (eObj (eLst (aCons (eOp modW (eVar 9) (eOp powW (eC (.int 10)) (eC (.int 6)))) (aCons (eOp modW (eOp divW (eVar 9) (eOp powW (eC (.int 10)) (eC (.int 6)))) (eOp powW (eC (.int 10)) (eC (.int 6)))) (aCons (eOp modW (eOp divW (eVar 9) (eOp powW (eC (.int 10)) (eC (.int 12)))) (eOp powW (eC (.int 10)) (eC (.int 6)))) aNil))))) (aCons (eVar 2) (aCons (eC (.int 2)) aNil))))) (gSet 10))
    (sSeq (sAsg (eFrz (eCallF F__law_more (aCons (eVar 3) (aCons (eVar 10) (aCons (eVar 8) aNil))))) (gTupF 4 (gsCons (gSet 11) (gsCons (gSet 12) (gsCons (gSet 13) (gsCons (gSet 14) gsNil))))))
    (sSeq (sIf (tOrF (tBool (eOp gtW (eCallF (F__law_size 40) (aCons (eVar 12) aNil)) (eC (.int 9)))) (tBool (eOp gtW (eCallF (F__law_size 40) (aCons (eVar 13) aNil)) (eC (.int 9))))) sCt sNx)
    (sSeq (sAsg (eTup (aCons (eC (.str (Str.ofString "leaf"))) (aCons (eOp addAW (eVar 7) (eC (.int 1))) (aCons (eVar 12) aNil)))) (gSet 15))
    (sSeq (sAsg (eOp ixW (eLst (aCons (eTup (aCons (eVar 3) (aCons (eVar 12) (aCons (eVar 4) (aCons (eVar 15) aNil))))) (aCons (eTup (aCons (eVar 12) (aCons (eVar 3) (aCons (eVar 15) (aCons (eVar 4) aNil))))) aNil))) (eCall intW1 (aCons (eVar 14) aNil))) (gSet 16))
    (sSeq (sIf (tBool (eOp (eqW true) (eCallF F_made (aCons (eOp ixW (eVar 16) (eC (.int 0))) (aCons (eOp ixW (eVar 16) (eC (.int 1))) aNil))) (eTup (aCons (eVar 11) (aCons (eVar 13) aNil))))) (sRet (eC (.bool false))) sNx)
    (sSeq (sAsg (eFrz (eCallF F_meant (aCons (eVar 11) (aCons (eOp ixW (eVar 16) (eC (.int 0))) (aCons (eOp ixW (eVar 16) (eC (.int 1))) (aCons (eOp ixW (eVar 16) (eC (.int 2))) (aCons (eOp ixW (eVar 16) (eC (.int 3))) aNil))))))) (gSet 4))
    (sSeq (sAsg (eVar 13) (gSet 3))
    (sAsg (eFrz (eOp addAW (eVar 5) (eOp ixW (eLst (aCons (eC (.int 2)) (aCons (eC (.int 5)) aNil))) (eCall intW1 (aCons (eOp (eqW false) (eCall lenW (aCons (eVar 11) aNil)) (eC (.int 2))) aNil))))) (gSet 5)))))))))))
noncomputable def m_law : SF :=
    (sSeq (sAsg (eObj (eCall listW (aCons (eSl slW (eVar 0) oNone (oSome (eC (.int 8)))) aNil))) (gSet 1))
    (sSeq (sAsg (eFrz (eCallF F__law_names (aCons (eFrz (eCallF F__law_take (aCons (eObj (eVar 1)) (aCons (eOp mulW (eOp powW (eC (.int 10)) (eC (.int 64))) (eOp powW (eC (.int 10)) (eC (.int 64)))) aNil)))) (aCons (eC (.int 3)) aNil)))) (gSet 2))
    (sSeq (sAsg (eFrz (eCallF (F__law_form 40) (aCons (eObj (eVar 1)) (aCons (eVar 2) (aCons (eC (.int 3)) aNil))))) (gSet 3))
    (sSeq (sAsg (eTup (aCons (eC (.str (Str.ofString "leaf"))) (aCons (eC (.int 0)) (aCons (eVar 3) aNil)))) (gSet 4))
    (sSeq (sAsg (eC (.int 1)) (gSet 5))
    (sSeq (sAsg (eFrz (eSl slW (eVar 0) (oSome (eC (.int 2))) (oSome (eC (.int 42))))) (gSet 6))
    (sSeq (sIf (tBool (eOp (eqW false) (eOp modW (eOp ixW (eOp addAW (eVar 0) (eLst (aCons (eC (.int 0)) aNil))) (eC (.int 0))) (eC (.int 8))) (eC (.int 5)))) (sAsg (eFrz (eSl slW (eOp addAW (eVar 6) (eCallF F__law_spread (aCons (eOp divW (eOp ixW (eVar 0) (eC (.int 0))) (eC (.int 8))) (aCons (eC (.int 20)) aNil)))) oNone (oSome (eCall maxW2 (aCons (eC (.int 20)) (aCons (eCall lenW (aCons (eVar 6) aNil)) aNil)))))) (gSet 6)) sNx)
    (sSeq (sFor (iEnumF (aCons (eVar 6) aNil)) (gTupF 2 (gsCons (gSet 7) (gsCons (gSet 8) gsNil))) b1_law)
    (sSeq (sIf (tOrF (tBool (eOp (eqW true) (eCallF (F_size_of 130) (aCons (eVar 4) aNil)) (eVar 5))) (tOrF (tNotF (tTru (eCallF F_is_closed (aCons (eVar 4) aNil)))) (tNotF (tTru (eCallF (F_is_sparing 130) (aCons (eVar 4) aNil)))))) (sRet (eC (.bool false))) sNx)
    (sRet (eOp (eqW false) (eCallF F_kind_of (aCons (eFrz (eLst aNil)) (aCons (eVar 4) aNil))) (eCallF (F_kind_of_form 40) (aCons (eVar 3) aNil)))))))))))))
noncomputable def F_law : FF := runF 17 m_law
end K32

set_option Elab.async false
set_option linter.all false
set_option maxRecDepth 100000
set_option maxHeartbeats 4000000
namespace K32
open PySem L2 M
noncomputable def g_kind_of_form (w_kind_of_form : GFn) : GSx :=
    (gsSeq (gsIf (gBool (gOp (eqP false) (gOp ixP (gVarD 0) (gC (.int 0))) (gC (.str (Str.ofString "basic"))))) (gsRet (gOp ixP (gVarD 0) (gC (.int 1)))) gsNx)
    (gsRet (gTup (gaCons (gCall [false] [.d] w_kind_of_form (gaCons (gOp ixP (gVarD 0) (gC (.int 2))) gaNil)) (gaCons (gCall [false] [.d] w_kind_of_form (gaCons (gOp ixP (gVarD 0) (gC (.int 1))) gaNil)) gaNil)))))
noncomputable def W_kind_of_form (n : Nat) : GFn := fun γ avs K => match avs with
  | [.d a0] => (P_kind_of_form n a0).bind fun r => K r []
  | _ => .bad
theorem e_kind_of_form (n : Nat) (a0 : D) : runG (g_kind_of_form (W_kind_of_form n)) (init0 1 [.d a0]) out0 = B_kind_of_form (P_kind_of_form n) a0 := by kernel_rfl
theorem rs_kind_of_form {n : Nat} (ih_kind_of_form : SpG (F_kind_of_form n) 2 (W_kind_of_form n)) : RS 7 [false] (m_kind_of_form (F_kind_of_form n)) (g_kind_of_form (W_kind_of_form n)) :=
    (rs_seq (rs_if (rt_bool (RE.up (s' := 3) (re_op eqP_ok (RE.up (s' := 3) (re_op ixP_ok (RE.up (s' := 3) (re_varD 0) rfl) (RE.up (s' := 3) (re_c (.int 0)) rfl)) rfl) (RE.up (s' := 3) (re_c (.str (Str.ofString "basic"))) rfl)) rfl)) (rs_ret (RE.up (s' := 7) (re_op ixP_ok (RE.up (s' := 3) (re_varD 0) rfl) (RE.up (s' := 3) (re_c (.int 1)) rfl)) rfl)) rs_nx)
    (rs_ret (RE.up (s' := 7) (re_tup (ra_cons (re_frz (re_call (ks := [.d]) ih_kind_of_form (ra_cons (re_op ixP_ok (RE.up (s' := 3) (re_varD 0) rfl) (RE.up (s' := 3) (re_c (.int 2)) rfl)) ra_nil))) (ra_cons (re_frz (re_call (ks := [.d]) ih_kind_of_form (ra_cons (re_op ixP_ok (RE.up (s' := 3) (re_varD 0) rfl) (RE.up (s' := 3) (re_c (.int 1)) rfl)) ra_nil))) ra_nil))) rfl)))
theorem ss_kind_of_form {n : Nat} (ih_kind_of_form : SpG (F_kind_of_form n) 2 (W_kind_of_form n)) : SpG (F_kind_of_form (n + 1)) 2 (W_kind_of_form (n + 1)) := by
  intro γ m ws avs J K hcl hA hn hd nb
  unfold W_kind_of_form at nb ⊢
  split at nb
  · rename_i a0
    exact sp_fin (N := 1) (res := id) (us := fun _ => []) (rs_kind_of_form ih_kind_of_form) rfl hcl hA hn hd (e_kind_of_form n a0) (out0_ok rfl) nb
  · exact absurd rfl nb
theorem sp_kind_of_form : ∀ n : Nat, SpG (F_kind_of_form n) 2 (W_kind_of_form n)
  | 0 => by
    intro γ m ws avs J K hcl hA hn hd nb
    exfalso
    unfold W_kind_of_form at nb
    split at nb
    · exact nb rfl
    · exact nb rfl
  | n + 1 => ss_kind_of_form (sp_kind_of_form n)
noncomputable def g_handed_on : GSx :=
    (gsRet (gTup (gaCons (gC (.str (Str.ofString "fn"))) (gaCons (gCall [false, false, false] [.d] (W_kind_of_form 40) (gaCons (gOp ixP (gVarD 0) (gC (.int 2))) gaNil)) (gaCons (gTup (gaCons (gC (.str (Str.ofString "of"))) (gaCons (gVarD 1) (gaCons (gTup (gaCons (gC (.str (Str.ofString "of"))) (gaCons (gVarD 2) (gaCons (gTup (gaCons (gC (.str (Str.ofString "bound"))) (gaCons (gC (.int 0)) gaNil))) gaNil)))) gaNil)))) gaNil)))))
noncomputable def W_handed_on : GFn := fun γ avs K => match avs with
  | [.d a0, .d a1, .d a2] => (P_handed_on a0 a1 a2).bind fun r => K r []
  | _ => .bad
theorem e_handed_on (a0 : D) (a1 : D) (a2 : D) : runG (g_handed_on) (init0 3 [.d a0, .d a1, .d a2]) out0 = P_handed_on a0 a1 a2 := by kernel_rfl
theorem rs_handed_on : RS 7 [false, false, false] m_handed_on (g_handed_on) :=
    (rs_ret (RE.up (s' := 7) (re_tup (ra_cons (re_c (.str (Str.ofString "fn"))) (ra_cons (re_frz (re_call (ks := [.d]) (sp_kind_of_form 40) (ra_cons (re_op ixP_ok (RE.up (s' := 3) (re_varD 0) rfl) (RE.up (s' := 3) (re_c (.int 2)) rfl)) ra_nil))) (ra_cons (re_tup (ra_cons (re_c (.str (Str.ofString "of"))) (ra_cons (re_varD 1) (ra_cons (re_tup (ra_cons (re_c (.str (Str.ofString "of"))) (ra_cons (re_varD 2) (ra_cons (re_tup (ra_cons (re_c (.str (Str.ofString "bound"))) (ra_cons (re_c (.int 0)) ra_nil))) ra_nil)))) ra_nil)))) ra_nil)))) rfl))
theorem sp_handed_on : SpG F_handed_on 2 W_handed_on := by
  intro γ m ws avs J K hcl hA hn hd nb
  unfold W_handed_on at nb ⊢
  split at nb
  · rename_i a0 a1 a2
    exact sp_fin (N := 3) (res := id) (us := fun _ => []) rs_handed_on rfl hcl hA hn hd (e_handed_on a0 a1 a2) (out0_ok rfl) nb
  · exact absurd rfl nb
noncomputable def g_RightTaken__sign : GSx :=
    (gsRet (gC (.str (Str.ofString ">"))))
theorem e_RightTaken__sign : runG (g_RightTaken__sign) (ro0 0 []) out0 = PL_RightTaken__sign [] := by kernel_rfl
theorem rs_RightTaken__sign : RS 7 [false] m_RightTaken__sign (g_RightTaken__sign) :=
    (rs_ret (RE.up (s' := 7) (re_c (.str (Str.ofString ">"))) rfl))
noncomputable def g_RightTaken__joined : GSx :=
    (gsSeq (gsIf (gtAnd (gBool (gOp (eqP false) (gOp ixP (gVarD 1) (gC (.int 0))) (gC (.str (Str.ofString "/"))))) (gBool (gOp (eqP false) (gOp ixP (gVarD 1) (gC (.int 2))) (gVarD 2)))) (gsRet (gOp ixP (gVarD 1) (gC (.int 1)))) gsNx)
    (gsRet (gC .none)))
theorem e_RightTaken__joined (a1 : D) (a2 : D) : runG (g_RightTaken__joined) (ro0 2 [a1, a2]) out0 = PL_RightTaken__joined [a1, a2] := by kernel_rfl
theorem rs_RightTaken__joined : RS 7 [false, false, false] m_RightTaken__joined (g_RightTaken__joined) :=
    (rs_seq (rs_if (rt_and (rt_bool (RE.up (s' := 3) (re_op eqP_ok (RE.up (s' := 3) (re_op ixP_ok (RE.up (s' := 3) (re_varD 1) rfl) (RE.up (s' := 3) (re_c (.int 0)) rfl)) rfl) (RE.up (s' := 3) (re_c (.str (Str.ofString "/"))) rfl)) rfl)) (rt_bool (RE.up (s' := 3) (re_op eqP_ok (RE.up (s' := 3) (re_op ixP_ok (RE.up (s' := 3) (re_varD 1) rfl) (RE.up (s' := 3) (re_c (.int 2)) rfl)) rfl) (RE.up (s' := 3) (re_varD 2) rfl)) rfl))) (rs_ret (RE.up (s' := 7) (re_op ixP_ok (RE.up (s' := 3) (re_varD 1) rfl) (RE.up (s' := 3) (re_c (.int 1)) rfl)) rfl)) rs_nx)
    (rs_ret (RE.up (s' := 7) (re_c .none) rfl)))
noncomputable def g_RightTaken__meant : GSx :=
    (gsRet (gTup (gaCons (gC (.str (Str.ofString "of"))) (gaCons (gVarD 3) (gaCons (gVarD 4) gaNil)))))
theorem e_RightTaken__meant (a1 : D) (a2 : D) (a3 : D) (a4 : D) : runG (g_RightTaken__meant) (ro0 4 [a1, a2, a3, a4]) out0 = PL_RightTaken__meant [a1, a2, a3, a4] := by kernel_rfl
theorem rs_RightTaken__meant : RS 7 [false, false, false, false, false] m_RightTaken__meant (g_RightTaken__meant) :=
    (rs_ret (RE.up (s' := 7) (re_tup (ra_cons (re_c (.str (Str.ofString "of"))) (ra_cons (re_varD 3) (ra_cons (re_varD 4) ra_nil)))) rfl))
noncomputable def g_LeftTaken__sign : GSx :=
    (gsRet (gC (.str (Str.ofString "<"))))
theorem e_LeftTaken__sign : runG (g_LeftTaken__sign) (ro0 0 []) out0 = PL_LeftTaken__sign [] := by kernel_rfl
theorem rs_LeftTaken__sign : RS 7 [false] m_LeftTaken__sign (g_LeftTaken__sign) :=
    (rs_ret (RE.up (s' := 7) (re_c (.str (Str.ofString "<"))) rfl))
noncomputable def g_LeftTaken__joined : GSx :=
    (gsSeq (gsIf (gtAnd (gBool (gOp (eqP false) (gOp ixP (gVarD 2) (gC (.int 0))) (gC (.str (Str.ofString "\\"))))) (gBool (gOp (eqP false) (gOp ixP (gVarD 2) (gC (.int 2))) (gVarD 1)))) (gsRet (gOp ixP (gVarD 2) (gC (.int 1)))) gsNx)
    (gsRet (gC .none)))
theorem e_LeftTaken__joined (a1 : D) (a2 : D) : runG (g_LeftTaken__joined) (ro0 2 [a1, a2]) out0 = PL_LeftTaken__joined [a1, a2] := by kernel_rfl
theorem rs_LeftTaken__joined : RS 7 [false, false, false] m_LeftTaken__joined (g_LeftTaken__joined) :=
    (rs_seq (rs_if (rt_and (rt_bool (RE.up (s' := 3) (re_op eqP_ok (RE.up (s' := 3) (re_op ixP_ok (RE.up (s' := 3) (re_varD 2) rfl) (RE.up (s' := 3) (re_c (.int 0)) rfl)) rfl) (RE.up (s' := 3) (re_c (.str (Str.ofString "\\"))) rfl)) rfl)) (rt_bool (RE.up (s' := 3) (re_op eqP_ok (RE.up (s' := 3) (re_op ixP_ok (RE.up (s' := 3) (re_varD 2) rfl) (RE.up (s' := 3) (re_c (.int 2)) rfl)) rfl) (RE.up (s' := 3) (re_varD 1) rfl)) rfl))) (rs_ret (RE.up (s' := 7) (re_op ixP_ok (RE.up (s' := 3) (re_varD 2) rfl) (RE.up (s' := 3) (re_c (.int 1)) rfl)) rfl)) rs_nx)
    (rs_ret (RE.up (s' := 7) (re_c .none) rfl)))
noncomputable def g_LeftTaken__meant : GSx :=
    (gsRet (gTup (gaCons (gC (.str (Str.ofString "of"))) (gaCons (gVarD 4) (gaCons (gVarD 3) gaNil)))))
theorem e_LeftTaken__meant (a1 : D) (a2 : D) (a3 : D) (a4 : D) : runG (g_LeftTaken__meant) (ro0 4 [a1, a2, a3, a4]) out0 = PL_LeftTaken__meant [a1, a2, a3, a4] := by kernel_rfl
theorem rs_LeftTaken__meant : RS 7 [false, false, false, false, false] m_LeftTaken__meant (g_LeftTaken__meant) :=
    (rs_ret (RE.up (s' := 7) (re_tup (ra_cons (re_c (.str (Str.ofString "of"))) (ra_cons (re_varD 4) (ra_cons (re_varD 3) ra_nil)))) rfl))
noncomputable def g_RightHanded__sign : GSx :=
    (gsRet (gC (.str (Str.ofString ">>"))))
theorem e_RightHanded__sign : runG (g_RightHanded__sign) (ro0 0 []) out0 = PL_RightHanded__sign [] := by kernel_rfl
theorem rs_RightHanded__sign : RS 7 [false] m_RightHanded__sign (g_RightHanded__sign) :=
    (rs_ret (RE.up (s' := 7) (re_c (.str (Str.ofString ">>"))) rfl))
noncomputable def g_RightHanded__joined : GSx :=
    (gsSeq (gsIf (gtAnd (gBool (gOp (eqP false) (gOp ixP (gVarD 1) (gC (.int 0))) (gC (.str (Str.ofString "/"))))) (gtAnd (gBool (gOp (eqP false) (gOp ixP (gVarD 2) (gC (.int 0))) (gC (.str (Str.ofString "/"))))) (gBool (gOp (eqP false) (gOp ixP (gVarD 1) (gC (.int 2))) (gOp ixP (gVarD 2) (gC (.int 1))))))) (gsRet (gTup (gaCons (gC (.str (Str.ofString "/"))) (gaCons (gOp ixP (gVarD 1) (gC (.int 1))) (gaCons (gOp ixP (gVarD 2) (gC (.int 2))) gaNil))))) gsNx)
    (gsRet (gC .none)))
theorem e_RightHanded__joined (a1 : D) (a2 : D) : runG (g_RightHanded__joined) (ro0 2 [a1, a2]) out0 = PL_RightHanded__joined [a1, a2] := by kernel_rfl
theorem rs_RightHanded__joined : RS 7 [false, false, false] m_RightHanded__joined (g_RightHanded__joined) :=
    (rs_seq (rs_if (rt_and (rt_bool (RE.up (s' := 3) (re_op eqP_ok (RE.up (s' := 3) (re_op ixP_ok (RE.up (s' := 3) (re_varD 1) rfl) (RE.up (s' := 3) (re_c (.int 0)) rfl)) rfl) (RE.up (s' := 3) (re_c (.str (Str.ofString "/"))) rfl)) rfl)) (rt_and (rt_bool (RE.up (s' := 3) (re_op eqP_ok (RE.up (s' := 3) (re_op ixP_ok (RE.up (s' := 3) (re_varD 2) rfl) (RE.up (s' := 3) (re_c (.int 0)) rfl)) rfl) (RE.up (s' := 3) (re_c (.str (Str.ofString "/"))) rfl)) rfl)) (rt_bool (RE.up (s' := 3) (re_op eqP_ok (RE.up (s' := 3) (re_op ixP_ok (RE.up (s' := 3) (re_varD 1) rfl) (RE.up (s' := 3) (re_c (.int 2)) rfl)) rfl) (RE.up (s' := 3) (re_op ixP_ok (RE.up (s' := 3) (re_varD 2) rfl) (RE.up (s' := 3) (re_c (.int 1)) rfl)) rfl)) rfl)))) (rs_ret (RE.up (s' := 7) (re_tup (ra_cons (re_c (.str (Str.ofString "/"))) (ra_cons (re_op ixP_ok (RE.up (s' := 3) (re_varD 1) rfl) (RE.up (s' := 3) (re_c (.int 1)) rfl)) (ra_cons (re_op ixP_ok (RE.up (s' := 3) (re_varD 2) rfl) (RE.up (s' := 3) (re_c (.int 2)) rfl)) ra_nil)))) rfl)) rs_nx)
    (rs_ret (RE.up (s' := 7) (re_c .none) rfl)))
noncomputable def g_RightHanded__meant : GSx :=
    (gsRet (gCall [false, false, false, false, false] [.d, .d, .d] W_handed_on (gaCons (gVarD 2) (gaCons (gVarD 3) (gaCons (gVarD 4) gaNil)))))
theorem e_RightHanded__meant (a1 : D) (a2 : D) (a3 : D) (a4 : D) : runG (g_RightHanded__meant) (ro0 4 [a1, a2, a3, a4]) out0 = PL_RightHanded__meant [a1, a2, a3, a4] := by kernel_rfl
theorem rs_RightHanded__meant : RS 7 [false, false, false, false, false] m_RightHanded__meant (g_RightHanded__meant) :=
    (rs_ret (RE.up (s' := 7) (re_call (ks := [.d, .d, .d]) sp_handed_on (ra_cons (re_varD 2) (ra_cons (re_varD 3) (ra_cons (re_varD 4) ra_nil)))) rfl))
noncomputable def g_LeftHanded__sign : GSx :=
    (gsRet (gC (.str (Str.ofString "<<"))))
theorem e_LeftHanded__sign : runG (g_LeftHanded__sign) (ro0 0 []) out0 = PL_LeftHanded__sign [] := by kernel_rfl
theorem rs_LeftHanded__sign : RS 7 [false] m_LeftHanded__sign (g_LeftHanded__sign) :=
    (rs_ret (RE.up (s' := 7) (re_c (.str (Str.ofString "<<"))) rfl))
noncomputable def g_LeftHanded__joined : GSx :=
    (gsSeq (gsIf (gtAnd (gBool (gOp (eqP false) (gOp ixP (gVarD 1) (gC (.int 0))) (gC (.str (Str.ofString "\\"))))) (gtAnd (gBool (gOp (eqP false) (gOp ixP (gVarD 2) (gC (.int 0))) (gC (.str (Str.ofString "\\"))))) (gBool (gOp (eqP false) (gOp ixP (gVarD 2) (gC (.int 2))) (gOp ixP (gVarD 1) (gC (.int 1))))))) (gsRet (gTup (gaCons (gC (.str (Str.ofString "\\"))) (gaCons (gOp ixP (gVarD 2) (gC (.int 1))) (gaCons (gOp ixP (gVarD 1) (gC (.int 2))) gaNil))))) gsNx)
    (gsRet (gC .none)))
theorem e_LeftHanded__joined (a1 : D) (a2 : D) : runG (g_LeftHanded__joined) (ro0 2 [a1, a2]) out0 = PL_LeftHanded__joined [a1, a2] := by kernel_rfl
theorem rs_LeftHanded__joined : RS 7 [false, false, false] m_LeftHanded__joined (g_LeftHanded__joined) :=
    (rs_seq (rs_if (rt_and (rt_bool (RE.up (s' := 3) (re_op eqP_ok (RE.up (s' := 3) (re_op ixP_ok (RE.up (s' := 3) (re_varD 1) rfl) (RE.up (s' := 3) (re_c (.int 0)) rfl)) rfl) (RE.up (s' := 3) (re_c (.str (Str.ofString "\\"))) rfl)) rfl)) (rt_and (rt_bool (RE.up (s' := 3) (re_op eqP_ok (RE.up (s' := 3) (re_op ixP_ok (RE.up (s' := 3) (re_varD 2) rfl) (RE.up (s' := 3) (re_c (.int 0)) rfl)) rfl) (RE.up (s' := 3) (re_c (.str (Str.ofString "\\"))) rfl)) rfl)) (rt_bool (RE.up (s' := 3) (re_op eqP_ok (RE.up (s' := 3) (re_op ixP_ok (RE.up (s' := 3) (re_varD 2) rfl) (RE.up (s' := 3) (re_c (.int 2)) rfl)) rfl) (RE.up (s' := 3) (re_op ixP_ok (RE.up (s' := 3) (re_varD 1) rfl) (RE.up (s' := 3) (re_c (.int 1)) rfl)) rfl)) rfl)))) (rs_ret (RE.up (s' := 7) (re_tup (ra_cons (re_c (.str (Str.ofString "\\"))) (ra_cons (re_op ixP_ok (RE.up (s' := 3) (re_varD 2) rfl) (RE.up (s' := 3) (re_c (.int 1)) rfl)) (ra_cons (re_op ixP_ok (RE.up (s' := 3) (re_varD 1) rfl) (RE.up (s' := 3) (re_c (.int 2)) rfl)) ra_nil)))) rfl)) rs_nx)
    (rs_ret (RE.up (s' := 7) (re_c .none) rfl)))
noncomputable def g_LeftHanded__meant : GSx :=
    (gsRet (gCall [false, false, false, false, false] [.d, .d, .d] W_handed_on (gaCons (gVarD 1) (gaCons (gVarD 4) (gaCons (gVarD 3) gaNil)))))
theorem e_LeftHanded__meant (a1 : D) (a2 : D) (a3 : D) (a4 : D) : runG (g_LeftHanded__meant) (ro0 4 [a1, a2, a3, a4]) out0 = PL_LeftHanded__meant [a1, a2, a3, a4] := by kernel_rfl
theorem rs_LeftHanded__meant : RS 7 [false, false, false, false, false] m_LeftHanded__meant (g_LeftHanded__meant) :=
    (rs_ret (RE.up (s' := 7) (re_call (ks := [.d, .d, .d]) sp_handed_on (ra_cons (re_varD 1) (ra_cons (re_varD 4) (ra_cons (re_varD 3) ra_nil)))) rfl))
noncomputable def W_made : GFn := dataW 2 PL_made
theorem sp_made : SpG F_made 2 W_made := sp_data 2 PL_made
noncomputable def W_meant : GFn := dataW 5 PL_meant
theorem sp_meant : SpG F_meant 2 W_meant := sp_data 5 PL_meant
noncomputable def g_within : GSx :=
    (gsSeq (gsIf (gBool (gOp (eqP false) (gOp ixP (gVarD 0) (gC (.int 0))) (gC (.str (Str.ofString "fn"))))) (gsRet (gLst (gaCons (gOp ixP (gVarD 0) (gC (.int 2))) gaNil))) gsNx)
    (gsSeq (gsIf (gBool (gOp (eqP false) (gOp ixP (gVarD 0) (gC (.int 0))) (gC (.str (Str.ofString "of"))))) (gsRet (gLst (gaCons (gOp ixP (gVarD 0) (gC (.int 1))) (gaCons (gOp ixP (gVarD 0) (gC (.int 2))) gaNil)))) gsNx)
    (gsRet (gLst gaNil))))
noncomputable def W_within : GFn := fun γ avs K => match avs with
  | [.d a0] => (P_within a0).bind fun r => K r []
  | _ => .bad
theorem e_within (a0 : D) : runG (g_within) (init0 1 [.d a0]) out0 = P_within a0 := by kernel_rfl
theorem rs_within : RS 7 [false] m_within (g_within) :=
    (rs_seq (rs_if (rt_bool (RE.up (s' := 3) (re_op eqP_ok (RE.up (s' := 3) (re_op ixP_ok (RE.up (s' := 3) (re_varD 0) rfl) (RE.up (s' := 3) (re_c (.int 0)) rfl)) rfl) (RE.up (s' := 3) (re_c (.str (Str.ofString "fn"))) rfl)) rfl)) (rs_ret (RE.up (s' := 7) (re_lst (ra_cons (re_op ixP_ok (RE.up (s' := 3) (re_varD 0) rfl) (RE.up (s' := 3) (re_c (.int 2)) rfl)) ra_nil)) rfl)) rs_nx)
    (rs_seq (rs_if (rt_bool (RE.up (s' := 3) (re_op eqP_ok (RE.up (s' := 3) (re_op ixP_ok (RE.up (s' := 3) (re_varD 0) rfl) (RE.up (s' := 3) (re_c (.int 0)) rfl)) rfl) (RE.up (s' := 3) (re_c (.str (Str.ofString "of"))) rfl)) rfl)) (rs_ret (RE.up (s' := 7) (re_lst (ra_cons (re_op ixP_ok (RE.up (s' := 3) (re_varD 0) rfl) (RE.up (s' := 3) (re_c (.int 1)) rfl)) (ra_cons (re_op ixP_ok (RE.up (s' := 3) (re_varD 0) rfl) (RE.up (s' := 3) (re_c (.int 2)) rfl)) ra_nil))) rfl)) rs_nx)
    (rs_ret (RE.up (s' := 7) (re_lst ra_nil) rfl))))
theorem sp_within : SpG F_within 2 W_within := by
  intro γ m ws avs J K hcl hA hn hd nb
  unfold W_within at nb ⊢
  split at nb
  · rename_i a0
    exact sp_fin (N := 1) (res := id) (us := fun _ => []) rs_within rfl hcl hA hn hd (e_within a0) (out0_ok rfl) nb
  · exact absurd rfl nb
noncomputable def g_size_of (w_size_of : GFn) : GSx :=
    (gsRet (gOp addSP (gC (.int 1)) (gCa sumP (gaCons (gLc [] [false, true] (giSeq (gCall [false, true] [.d] W_within (gaCons (gVarD 0) gaNil))) (gtSet 1) gtYes (gCall [false, true] [.d] w_size_of (gaCons (gVarD 1) gaNil))) gaNil))))
noncomputable def W_size_of (n : Nat) : GFn := fun γ avs K => match avs with
  | [.d a0] => (P_size_of n a0).bind fun r => K r []
  | _ => .bad
theorem e_size_of (n : Nat) (a0 : D) : runG (g_size_of (W_size_of n)) (init0 2 [.d a0]) out0 = B_size_of (P_size_of n) a0 := by kernel_rfl
theorem rs_size_of {n : Nat} (ih_size_of : SpG (F_size_of n) 2 (W_size_of n)) : RS 7 [false, true] (m_size_of (F_size_of n)) (g_size_of (W_size_of n)) :=
    (rs_ret (RE.up (s' := 7) (re_op addASP_ok (RE.up (s' := 3) (re_c (.int 1)) rfl) (RE.up (s' := 3) (re_ca sumP_ok (ra_cons (RE.up (s' := 3) (re_lc (ds := []) (mb := [false, true]) (mt := [false, true]) (ri_seq (RE.up (s' := 3) (re_call (ks := [.d]) sp_within (ra_cons (re_varD 0) ra_nil)) rfl)) (rg_set 1) rt_yes (re_frz (re_call (ks := [.d]) ih_size_of (ra_cons (re_varD 1) ra_nil)))) rfl) ra_nil)) rfl)) rfl))
theorem ss_size_of {n : Nat} (ih_size_of : SpG (F_size_of n) 2 (W_size_of n)) : SpG (F_size_of (n + 1)) 2 (W_size_of (n + 1)) := by
  intro γ m ws avs J K hcl hA hn hd nb
  unfold W_size_of at nb ⊢
  split at nb
  · rename_i a0
    exact sp_fin (N := 2) (res := id) (us := fun _ => []) (rs_size_of ih_size_of) rfl hcl hA hn hd (e_size_of n a0) (out0_ok rfl) nb
  · exact absurd rfl nb
theorem sp_size_of : ∀ n : Nat, SpG (F_size_of n) 2 (W_size_of n)
  | 0 => by
    intro γ m ws avs J K hcl hA hn hd nb
    exfalso
    unfold W_size_of at nb
    split at nb
    · exact nb rfl
    · exact nb rfl
  | n + 1 => ss_size_of (sp_size_of n)
noncomputable def g_closed_in (w_closed_in : GFn) : GSx :=
    (gsSeq (gsIf (gBool (gOp (eqP false) (gOp ixP (gVarD 0) (gC (.int 0))) (gC (.str (Str.ofString "bound"))))) (gsRet (gOp ltP (gOp ixP (gVarD 0) (gC (.int 1))) (gVarD 1))) gsNx)
    (gsSeq (gsAsg (gOp addSP (gVarD 1) (gCa intP1 (gaCons (gOp (eqP false) (gOp ixP (gVarD 0) (gC (.int 0))) (gC (.str (Str.ofString "fn")))) gaNil))) (gtSet 2))
    (gsRet (gCa allP (gaCons (gLc [] [false, false, false, true] (giSeq (gCall [false, false, true, true] [.d] W_within (gaCons (gVarD 0) gaNil))) (gtSet 3) gtYes (gCall [false, false, false, true] [.d, .d] w_closed_in (gaCons (gVarD 3) (gaCons (gVarD 2) gaNil)))) gaNil)))))
noncomputable def W_closed_in (n : Nat) : GFn := fun γ avs K => match avs with
  | [.d a0, .d a1] => (P_closed_in n a0 a1).bind fun r => K r []
  | _ => .bad
theorem e_closed_in (n : Nat) (a0 : D) (a1 : D) : runG (g_closed_in (W_closed_in n)) (init0 4 [.d a0, .d a1]) out0 = B_closed_in (P_closed_in n) a0 a1 := by kernel_rfl
theorem rs_closed_in {n : Nat} (ih_closed_in : SpG (F_closed_in n) 2 (W_closed_in n)) : RS 7 [false, false, true, true] (m_closed_in (F_closed_in n)) (g_closed_in (W_closed_in n)) :=
    (rs_seq (rs_if (rt_bool (RE.up (s' := 3) (re_op eqP_ok (RE.up (s' := 3) (re_op ixP_ok (RE.up (s' := 3) (re_varD 0) rfl) (RE.up (s' := 3) (re_c (.int 0)) rfl)) rfl) (RE.up (s' := 3) (re_c (.str (Str.ofString "bound"))) rfl)) rfl)) (rs_ret (RE.up (s' := 7) (re_op ltP_ok (RE.up (s' := 3) (re_op ixP_ok (RE.up (s' := 3) (re_varD 0) rfl) (RE.up (s' := 3) (re_c (.int 1)) rfl)) rfl) (RE.up (s' := 3) (re_varD 1) rfl)) rfl)) rs_nx)
    (rs_seq (rs_asg (re_op addASP_ok (RE.up (s' := 3) (re_varD 1) rfl) (RE.up (s' := 3) (re_ca intP1_ok (ra_cons (RE.up (s' := 3) (re_op eqP_ok (RE.up (s' := 3) (re_op ixP_ok (RE.up (s' := 3) (re_varD 0) rfl) (RE.up (s' := 3) (re_c (.int 0)) rfl)) rfl) (RE.up (s' := 3) (re_c (.str (Str.ofString "fn"))) rfl)) rfl) ra_nil)) rfl)) (rg_set 2))
    (rs_ret (RE.up (s' := 7) (re_ca allP_ok (ra_cons (RE.up (s' := 3) (re_lc (ds := []) (mb := [false, false, false, true]) (mt := [false, false, false, true]) (ri_seq (RE.up (s' := 3) (re_call (ks := [.d]) sp_within (ra_cons (re_varD 0) ra_nil)) rfl)) (rg_set 3) rt_yes (re_frz (re_call (ks := [.d, .d]) ih_closed_in (ra_cons (re_varD 3) (ra_cons (re_varD 2) ra_nil))))) rfl) ra_nil)) rfl))))
theorem ss_closed_in {n : Nat} (ih_closed_in : SpG (F_closed_in n) 2 (W_closed_in n)) : SpG (F_closed_in (n + 1)) 2 (W_closed_in (n + 1)) := by
  intro γ m ws avs J K hcl hA hn hd nb
  unfold W_closed_in at nb ⊢
  split at nb
  · rename_i a0 a1
    exact sp_fin (N := 4) (res := id) (us := fun _ => []) (rs_closed_in ih_closed_in) rfl hcl hA hn hd (e_closed_in n a0 a1) (out0_ok rfl) nb
  · exact absurd rfl nb
theorem sp_closed_in : ∀ n : Nat, SpG (F_closed_in n) 2 (W_closed_in n)
  | 0 => by
    intro γ m ws avs J K hcl hA hn hd nb
    exfalso
    unfold W_closed_in at nb
    split at nb
    · exact nb rfl
    · exact nb rfl
  | n + 1 => ss_closed_in (sp_closed_in n)
noncomputable def g_is_closed : GSx :=
    (gsRet (gCall [false] [.d, .d] (W_closed_in 130) (gaCons (gVarD 0) (gaCons (gC (.int 0)) gaNil))))
noncomputable def W_is_closed : GFn := fun γ avs K => match avs with
  | [.d a0] => (P_is_closed a0).bind fun r => K r []
  | _ => .bad
theorem e_is_closed (a0 : D) : runG (g_is_closed) (init0 1 [.d a0]) out0 = P_is_closed a0 := by kernel_rfl
theorem rs_is_closed : RS 7 [false] m_is_closed (g_is_closed) :=
    (rs_ret (RE.up (s' := 7) (re_call (ks := [.d, .d]) (sp_closed_in 130) (ra_cons (re_varD 0) (ra_cons (re_c (.int 0)) ra_nil))) rfl))
theorem sp_is_closed : SpG F_is_closed 2 W_is_closed := by
  intro γ m ws avs J K hcl hA hn hd nb
  unfold W_is_closed at nb ⊢
  split at nb
  · rename_i a0
    exact sp_fin (N := 1) (res := id) (us := fun _ => []) rs_is_closed rfl hcl hA hn hd (e_is_closed a0) (out0_ok rfl) nb
  · exact absurd rfl nb
noncomputable def g_uses_of (w_uses_of : GFn) (w_is_sparing : GFn) : GSx :=
    (gsSeq (gsIf (gBool (gOp (eqP false) (gOp ixP (gVarD 0) (gC (.int 0))) (gC (.str (Str.ofString "bound"))))) (gsRet (gCa intP1 (gaCons (gOp (eqP false) (gOp ixP (gVarD 0) (gC (.int 1))) (gVarD 1)) gaNil))) gsNx)
    (gsSeq (gsAsg (gOp addSP (gVarD 1) (gCa intP1 (gaCons (gOp (eqP false) (gOp ixP (gVarD 0) (gC (.int 0))) (gC (.str (Str.ofString "fn")))) gaNil))) (gtSet 2))
    (gsRet (gCa sumP (gaCons (gLc [] [false, false, false, true] (giSeq (gCall [false, false, true, true] [.d] W_within (gaCons (gVarD 0) gaNil))) (gtSet 3) gtYes (gCall [false, false, false, true] [.d, .d] w_uses_of (gaCons (gVarD 3) (gaCons (gVarD 2) gaNil)))) gaNil)))))
noncomputable def W_uses_of (n : Nat) : GFn := fun γ avs K => match avs with
  | [.d a0, .d a1] => (P_uses_of n a0 a1).bind fun r => K r []
  | _ => .bad
noncomputable def g_is_sparing (w_uses_of : GFn) (w_is_sparing : GFn) : GSx :=
    (gsSeq (gsIf (gtAnd (gBool (gOp (eqP false) (gOp ixP (gVarD 0) (gC (.int 0))) (gC (.str (Str.ofString "fn"))))) (gBool (gOp gtP (gCall [false, true] [.d, .d] w_uses_of (gaCons (gOp ixP (gVarD 0) (gC (.int 2))) (gaCons (gC (.int 0)) gaNil))) (gC (.int 1))))) (gsRet (gC (.bool false))) gsNx)
    (gsRet (gCa allP (gaCons (gLc [] [false, true] (giSeq (gCall [false, true] [.d] W_within (gaCons (gVarD 0) gaNil))) (gtSet 1) gtYes (gCall [false, true] [.d] w_is_sparing (gaCons (gVarD 1) gaNil))) gaNil))))
noncomputable def W_is_sparing (n : Nat) : GFn := fun γ avs K => match avs with
  | [.d a0] => (P_is_sparing n a0).bind fun r => K r []
  | _ => .bad
theorem e_uses_of (n : Nat) (a0 : D) (a1 : D) : runG (g_uses_of (W_uses_of n) (W_is_sparing n)) (init0 4 [.d a0, .d a1]) out0 = B_uses_of (P_uses_of n) (P_is_sparing n) a0 a1 := by kernel_rfl
theorem rs_uses_of {n : Nat} (ih_uses_of : SpG (F_uses_of n) 2 (W_uses_of n)) (ih_is_sparing : SpG (F_is_sparing n) 2 (W_is_sparing n)) : RS 7 [false, false, true, true] (m_uses_of (F_uses_of n) (F_is_sparing n)) (g_uses_of (W_uses_of n) (W_is_sparing n)) :=
    (rs_seq (rs_if (rt_bool (RE.up (s' := 3) (re_op eqP_ok (RE.up (s' := 3) (re_op ixP_ok (RE.up (s' := 3) (re_varD 0) rfl) (RE.up (s' := 3) (re_c (.int 0)) rfl)) rfl) (RE.up (s' := 3) (re_c (.str (Str.ofString "bound"))) rfl)) rfl)) (rs_ret (RE.up (s' := 7) (re_ca intP1_ok (ra_cons (RE.up (s' := 3) (re_op eqP_ok (RE.up (s' := 3) (re_op ixP_ok (RE.up (s' := 3) (re_varD 0) rfl) (RE.up (s' := 3) (re_c (.int 1)) rfl)) rfl) (RE.up (s' := 3) (re_varD 1) rfl)) rfl) ra_nil)) rfl)) rs_nx)
    (rs_seq (rs_asg (re_op addASP_ok (RE.up (s' := 3) (re_varD 1) rfl) (RE.up (s' := 3) (re_ca intP1_ok (ra_cons (RE.up (s' := 3) (re_op eqP_ok (RE.up (s' := 3) (re_op ixP_ok (RE.up (s' := 3) (re_varD 0) rfl) (RE.up (s' := 3) (re_c (.int 0)) rfl)) rfl) (RE.up (s' := 3) (re_c (.str (Str.ofString "fn"))) rfl)) rfl) ra_nil)) rfl)) (rg_set 2))
    (rs_ret (RE.up (s' := 7) (re_ca sumP_ok (ra_cons (RE.up (s' := 3) (re_lc (ds := []) (mb := [false, false, false, true]) (mt := [false, false, false, true]) (ri_seq (RE.up (s' := 3) (re_call (ks := [.d]) sp_within (ra_cons (re_varD 0) ra_nil)) rfl)) (rg_set 3) rt_yes (re_frz (re_call (ks := [.d, .d]) ih_uses_of (ra_cons (re_varD 3) (ra_cons (re_varD 2) ra_nil))))) rfl) ra_nil)) rfl))))
theorem ss_uses_of {n : Nat} (ih_uses_of : SpG (F_uses_of n) 2 (W_uses_of n)) (ih_is_sparing : SpG (F_is_sparing n) 2 (W_is_sparing n)) : SpG (F_uses_of (n + 1)) 2 (W_uses_of (n + 1)) := by
  intro γ m ws avs J K hcl hA hn hd nb
  unfold W_uses_of at nb ⊢
  split at nb
  · rename_i a0 a1
    exact sp_fin (N := 4) (res := id) (us := fun _ => []) (rs_uses_of ih_uses_of ih_is_sparing) rfl hcl hA hn hd (e_uses_of n a0 a1) (out0_ok rfl) nb
  · exact absurd rfl nb
theorem e_is_sparing (n : Nat) (a0 : D) : runG (g_is_sparing (W_uses_of n) (W_is_sparing n)) (init0 2 [.d a0]) out0 = B_is_sparing (P_uses_of n) (P_is_sparing n) a0 := by kernel_rfl
theorem rs_is_sparing {n : Nat} (ih_uses_of : SpG (F_uses_of n) 2 (W_uses_of n)) (ih_is_sparing : SpG (F_is_sparing n) 2 (W_is_sparing n)) : RS 7 [false, true] (m_is_sparing (F_uses_of n) (F_is_sparing n)) (g_is_sparing (W_uses_of n) (W_is_sparing n)) :=
    (rs_seq (rs_if (rt_and (rt_bool (RE.up (s' := 3) (re_op eqP_ok (RE.up (s' := 3) (re_op ixP_ok (RE.up (s' := 3) (re_varD 0) rfl) (RE.up (s' := 3) (re_c (.int 0)) rfl)) rfl) (RE.up (s' := 3) (re_c (.str (Str.ofString "fn"))) rfl)) rfl)) (rt_bool (RE.up (s' := 3) (re_op gtP_ok (RE.up (s' := 3) (re_call (ks := [.d, .d]) ih_uses_of (ra_cons (re_op ixP_ok (RE.up (s' := 3) (re_varD 0) rfl) (RE.up (s' := 3) (re_c (.int 2)) rfl)) (ra_cons (re_c (.int 0)) ra_nil))) rfl) (RE.up (s' := 3) (re_c (.int 1)) rfl)) rfl))) (rs_ret (RE.up (s' := 7) (re_c (.bool false)) rfl)) rs_nx)
    (rs_ret (RE.up (s' := 7) (re_ca allP_ok (ra_cons (RE.up (s' := 3) (re_lc (ds := []) (mb := [false, true]) (mt := [false, true]) (ri_seq (RE.up (s' := 3) (re_call (ks := [.d]) sp_within (ra_cons (re_varD 0) ra_nil)) rfl)) (rg_set 1) rt_yes (re_frz (re_call (ks := [.d]) ih_is_sparing (ra_cons (re_varD 1) ra_nil)))) rfl) ra_nil)) rfl)))
theorem ss_is_sparing {n : Nat} (ih_uses_of : SpG (F_uses_of n) 2 (W_uses_of n)) (ih_is_sparing : SpG (F_is_sparing n) 2 (W_is_sparing n)) : SpG (F_is_sparing (n + 1)) 2 (W_is_sparing (n + 1)) := by
  intro γ m ws avs J K hcl hA hn hd nb
  unfold W_is_sparing at nb ⊢
  split at nb
  · rename_i a0
    exact sp_fin (N := 2) (res := id) (us := fun _ => []) (rs_is_sparing ih_uses_of ih_is_sparing) rfl hcl hA hn hd (e_is_sparing n a0) (out0_ok rfl) nb
  · exact absurd rfl nb
theorem sps_uses_of : ∀ n : Nat, SpG (F_uses_of n) 2 (W_uses_of n) ∧ SpG (F_is_sparing n) 2 (W_is_sparing n)
  | 0 => ⟨by
    intro γ m ws avs J K hcl hA hn hd nb
    exfalso
    unfold W_uses_of at nb
    split at nb
    · exact nb rfl
    · exact nb rfl, by
    intro γ m ws avs J K hcl hA hn hd nb
    exfalso
    unfold W_is_sparing at nb
    split at nb
    · exact nb rfl
    · exact nb rfl⟩
  | n + 1 => by
    have ih := sps_uses_of n
    exact ⟨ss_uses_of ih.1 ih.2, ss_is_sparing ih.1 ih.2⟩
theorem sp_uses_of (n : Nat) : SpG (F_uses_of n) 2 (W_uses_of n) := (sps_uses_of n).1
theorem sp_is_sparing (n : Nat) : SpG (F_is_sparing n) 2 (W_is_sparing n) := (sps_uses_of n).2
noncomputable def g_kind_within (w_kind_within : GFn) : GSx :=
    (gsSeq (gsAsg (gOp ixP (gVarD 2) (gC (.int 0))) (gtSet 3))
    (gsSeq (gsIf (gBool (gOp (eqP false) (gVarD 3) (gC (.str (Str.ofString "name"))))) (gsSeq (gsIf (gBool (gDin true 0 (gOp ixP (gVarD 2) (gC (.int 1))))) (gsRaise "NoKind") gsNx)
    (gsRet (gDget 0 (gOp ixP (gVarD 2) (gC (.int 1)))))) gsNx)
    (gsSeq (gsIf (gBool (gOp (eqP false) (gVarD 3) (gC (.str (Str.ofString "leaf"))))) (gsRet (gCall [false, false, false, true, true, true] [.d] (W_kind_of_form 40) (gaCons (gOp ixP (gVarD 2) (gC (.int 2))) gaNil))) gsNx)
    (gsSeq (gsIf (gBool (gOp (eqP false) (gVarD 3) (gC (.str (Str.ofString "bound"))))) (gsRet (gOp ixP (gVarD 1) (gOp ixP (gVarD 2) (gC (.int 1))))) gsNx)
    (gsSeq (gsIf (gBool (gOp (eqP false) (gVarD 3) (gC (.str (Str.ofString "fn"))))) (gsRet (gTup (gaCons (gOp ixP (gVarD 2) (gC (.int 1))) (gaCons (gCall [false, false, false, true, true, true] [.n, .d, .d] w_kind_within (gaCons (gVarT 0) (gaCons (gOp addSP (gTup (gaCons (gOp ixP (gVarD 2) (gC (.int 1))) gaNil)) (gVarD 1)) (gaCons (gOp ixP (gVarD 2) (gC (.int 2))) gaNil)))) gaNil)))) gsNx)
    (gsSeq (gsAsg (gCall [false, false, false, true, true, true] [.n, .d, .d] w_kind_within (gaCons (gVarT 0) (gaCons (gVarD 1) (gaCons (gOp ixP (gVarD 2) (gC (.int 1))) gaNil)))) (gtSet 4))
    (gsSeq (gsAsg (gCall [false, false, false, true, true, true] [.n, .d, .d] w_kind_within (gaCons (gVarT 0) (gaCons (gVarD 1) (gaCons (gOp ixP (gVarD 2) (gC (.int 2))) gaNil)))) (gtSet 5))
    (gsSeq (gsIf (gtOr (gTru (gIsi [.str] (gVarD 4))) (gBool (gOp (eqP true) (gOp ixP (gVarD 4) (gC (.int 0))) (gVarD 5)))) (gsRaise "NoKind") gsNx)
    (gsRet (gOp ixP (gVarD 4) (gC (.int 1))))))))))))
noncomputable def W_kind_within (n : Nat) : GFn := fun γ avs K => match avs with
  | [.n a0, .d a1, .d a2] => (P_kind_within n a0 a1 a2).bind fun r => K r []
  | _ => .bad
theorem e_kind_within (n : Nat) (a0 : List (Str × D)) (a1 : D) (a2 : D) : runG (g_kind_within (W_kind_within n)) (init0 6 [.n a0, .d a1, .d a2]) out0 = B_kind_within (P_kind_within n) a0 a1 a2 := by kernel_rfl
theorem rs_kind_within {n : Nat} (ih_kind_within : SpG (F_kind_within n) 2 (W_kind_within n)) : RS 7 [false, false, false, true, true, true] (m_kind_within (F_kind_within n)) (g_kind_within (W_kind_within n)) :=
    (rs_seq (rs_asg (re_op ixP_ok (RE.up (s' := 3) (re_varD 2) rfl) (RE.up (s' := 3) (re_c (.int 0)) rfl)) (rg_set 3))
    (rs_seq (rs_if (rt_bool (RE.up (s' := 3) (re_op eqP_ok (RE.up (s' := 3) (re_varD 3) rfl) (RE.up (s' := 3) (re_c (.str (Str.ofString "name"))) rfl)) rfl)) (rs_seq (rs_if (rt_bool (RE.up (s' := 3) (re_din 0 (re_op ixP_ok (RE.up (s' := 3) (re_varD 2) rfl) (RE.up (s' := 3) (re_c (.int 1)) rfl))) rfl)) (rs_raise "NoKind") rs_nx)
    (rs_ret (RE.up (s' := 7) (re_dget 0 (re_op ixP_ok (RE.up (s' := 3) (re_varD 2) rfl) (RE.up (s' := 3) (re_c (.int 1)) rfl))) rfl))) rs_nx)
    (rs_seq (rs_if (rt_bool (RE.up (s' := 3) (re_op eqP_ok (RE.up (s' := 3) (re_varD 3) rfl) (RE.up (s' := 3) (re_c (.str (Str.ofString "leaf"))) rfl)) rfl)) (rs_ret (RE.up (s' := 7) (re_call (ks := [.d]) (sp_kind_of_form 40) (ra_cons (re_op ixP_ok (RE.up (s' := 3) (re_varD 2) rfl) (RE.up (s' := 3) (re_c (.int 2)) rfl)) ra_nil)) rfl)) rs_nx)
    (rs_seq (rs_if (rt_bool (RE.up (s' := 3) (re_op eqP_ok (RE.up (s' := 3) (re_varD 3) rfl) (RE.up (s' := 3) (re_c (.str (Str.ofString "bound"))) rfl)) rfl)) (rs_ret (RE.up (s' := 7) (re_op ixP_ok (RE.up (s' := 3) (re_varD 1) rfl) (RE.up (s' := 3) (re_op ixP_ok (RE.up (s' := 3) (re_varD 2) rfl) (RE.up (s' := 3) (re_c (.int 1)) rfl)) rfl)) rfl)) rs_nx)
    (rs_seq (rs_if (rt_bool (RE.up (s' := 3) (re_op eqP_ok (RE.up (s' := 3) (re_varD 3) rfl) (RE.up (s' := 3) (re_c (.str (Str.ofString "fn"))) rfl)) rfl)) (rs_ret (RE.up (s' := 7) (re_tup (ra_cons (re_op ixP_ok (RE.up (s' := 3) (re_varD 2) rfl) (RE.up (s' := 3) (re_c (.int 1)) rfl)) (ra_cons (re_frz (re_call (ks := [.n, .d, .d]) ih_kind_within (ra_cons (re_objT (s := 4) 0) (ra_cons (re_op addASP_ok (RE.up (s' := 3) (re_tup (ra_cons (re_op ixP_ok (RE.up (s' := 3) (re_varD 2) rfl) (RE.up (s' := 3) (re_c (.int 1)) rfl)) ra_nil)) rfl) (RE.up (s' := 3) (re_varD 1) rfl)) (ra_cons (re_op ixP_ok (RE.up (s' := 3) (re_varD 2) rfl) (RE.up (s' := 3) (re_c (.int 2)) rfl)) ra_nil))))) ra_nil))) rfl)) rs_nx)
    (rs_seq (rs_asg (re_frz (re_call (ks := [.n, .d, .d]) ih_kind_within (ra_cons (re_objT (s := 4) 0) (ra_cons (re_varD 1) (ra_cons (re_op ixP_ok (RE.up (s' := 3) (re_varD 2) rfl) (RE.up (s' := 3) (re_c (.int 1)) rfl)) ra_nil))))) (rg_set 4))
    (rs_seq (rs_asg (re_frz (re_call (ks := [.n, .d, .d]) ih_kind_within (ra_cons (re_objT (s := 4) 0) (ra_cons (re_varD 1) (ra_cons (re_op ixP_ok (RE.up (s' := 3) (re_varD 2) rfl) (RE.up (s' := 3) (re_c (.int 2)) rfl)) ra_nil))))) (rg_set 5))
    (rs_seq (rs_if (rt_or (rt_tru (RE.up (s' := 3) (re_isi (RE.up (s' := 3) (re_varD 4) rfl)) rfl)) (rt_bool (RE.up (s' := 3) (re_op eqP_ok (RE.up (s' := 3) (re_op ixP_ok (RE.up (s' := 3) (re_varD 4) rfl) (RE.up (s' := 3) (re_c (.int 0)) rfl)) rfl) (RE.up (s' := 3) (re_varD 5) rfl)) rfl))) (rs_raise "NoKind") rs_nx)
    (rs_ret (RE.up (s' := 7) (re_op ixP_ok (RE.up (s' := 3) (re_varD 4) rfl) (RE.up (s' := 3) (re_c (.int 1)) rfl)) rfl))))))))))
theorem ss_kind_within {n : Nat} (ih_kind_within : SpG (F_kind_within n) 2 (W_kind_within n)) : SpG (F_kind_within (n + 1)) 2 (W_kind_within (n + 1)) := by
  intro γ m ws avs J K hcl hA hn hd nb
  unfold W_kind_within at nb ⊢
  split at nb
  · rename_i a0 a1 a2
    exact sp_fin (N := 6) (res := id) (us := fun _ => []) (rs_kind_within ih_kind_within) rfl hcl hA hn hd (e_kind_within n a0 a1 a2) (out0_ok rfl) nb
  · exact absurd rfl nb
theorem sp_kind_within : ∀ n : Nat, SpG (F_kind_within n) 2 (W_kind_within n)
  | 0 => by
    intro γ m ws avs J K hcl hA hn hd nb
    exfalso
    unfold W_kind_within at nb
    split at nb
    · exact nb rfl
    · exact nb rfl
  | n + 1 => ss_kind_within (sp_kind_within n)
noncomputable def g_kind_of : GSx :=
    (gsSeq (gsNewD 2)
    (gsSeq (gsFor [(2, .m)] [false, false, true, true, true] (giSeq (gVarD 0)) (gtTup (gtsCons (gtSet 3) (gtsCons (gtSet 4) gtsNil))) (gsPutD 2 (gVarD 3) (gVarD 4)))
    (gsRet (gCall [false, false, true, true, true] [.n, .d, .d] (W_kind_within 130) (gaCons (gVarT 2) (gaCons (gTup gaNil) (gaCons (gVarD 1) gaNil)))))))
noncomputable def W_kind_of : GFn := fun γ avs K => match avs with
  | [.d a0, .d a1] => (P_kind_of a0 a1).bind fun r => K r []
  | _ => .bad
theorem e_kind_of (a0 : D) (a1 : D) : runG (g_kind_of) (init0 5 [.d a0, .d a1]) out0 = P_kind_of a0 a1 := by kernel_rfl
theorem rs_kind_of : RS 7 [false, false, true, true, true] m_kind_of (g_kind_of) :=
    (rs_seq (rs_newD 2)
    (rs_seq (rs_for (ds := [(2, .m)]) (mb := [false, false, true, true, true]) (ri_seq (RE.up (s' := 3) (re_varD 0) rfl)) (rg_tup (rgs_cons (rg_set 3) (rgs_cons (rg_set 4) rgs_nil))) (rs_putD 2 (re_varD 3) (re_varD 4)))
    (rs_ret (RE.up (s' := 7) (re_call (ks := [.n, .d, .d]) (sp_kind_within 130) (ra_cons (re_objT (s := 4) 2) (ra_cons (re_tup ra_nil) (ra_cons (re_varD 1) ra_nil)))) rfl))))
theorem sp_kind_of : SpG F_kind_of 2 W_kind_of := by
  intro γ m ws avs J K hcl hA hn hd nb
  unfold W_kind_of at nb ⊢
  split at nb
  · rename_i a0 a1
    exact sp_fin (N := 5) (res := id) (us := fun _ => []) rs_kind_of rfl hcl hA hn hd (e_kind_of a0 a1) (out0_ok rfl) nb
  · exact absurd rfl nb
noncomputable def g__law_take : GSx :=
    (gsSeq (gsIf (gBool (gOp (eqP false) (gVarO 0) (gLst gaNil))) (gsRet (gC (.int 0))) gsNx)
    (gsRet (gOp modP (gMu popAtP 0 (gaCons (gC (.int 0)) gaNil)) (gVarD 1))))
noncomputable def W__law_take : GFn := fun γ avs K => match avs with
  | [.l i0 a0, .d a1] => (P__law_take a0 a1).bind fun r => K r.1 [(i0, .l r.2)]
  | _ => .bad
theorem e__law_take (a0 : List D) (i0 : Nat) (a1 : D) : runG (g__law_take) (init0 2 [.l i0 a0, .d a1]) (outL 0) = P__law_take a0 a1 := by kernel_rfl
theorem rs__law_take : RS 7 [true, false] m__law_take (g__law_take) :=
    (rs_seq (rs_if (rt_bool (RE.up (s' := 3) (re_op eqP_ok (re_varO (s := 3) 0 rfl) (RE.up (s' := 3) (re_lst ra_nil) rfl)) rfl)) (rs_ret (RE.up (s' := 7) (re_c (.int 0)) rfl)) rs_nx)
    (rs_ret (RE.up (s' := 7) (re_op modP_ok (RE.up (s' := 3) (re_mu popAtP_ok 0 (ra_cons (re_c (.int 0)) ra_nil)) rfl) (RE.up (s' := 3) (re_varD 1) rfl)) rfl)))
theorem sp__law_take : SpG F__law_take 2 W__law_take := by
  intro γ m ws avs J K hcl hA hn hd nb
  unfold W__law_take at nb ⊢
  split at nb
  · rename_i i0 a0 a1
    exact sp_fin (N := 2) (res := Prod.fst) (us := fun r => [(i0, .l r.2)]) rs__law_take rfl hcl hA hn hd (e__law_take a0 i0 a1) (outL_ok (a := 0) rfl rfl) nb
  · exact absurd rfl nb
noncomputable def g__law_names (fw : Nat) : GSx :=
    (gsSeq (gsAsg (gC (.str (Str.ofString "abcdefghijklmnopqrstuvwxyz"))) (gtSet 2))
    (gsSeq (gsAsg (gOp (eqP false) (gOp modP (gVarD 0) (gC (.int 2))) (gC (.int 0))) (gtSet 3))
    (gsSeq (gsAsg (gOp addSP (gC (.int 1)) (gOp modP (gOp divP (gVarD 0) (gC (.int 2))) (gC (.int 8)))) (gtSet 4))
    (gsSeq (gsAsg (gOp modP (gOp divP (gVarD 0) (gC (.int 16))) (gVarD 4)) (gtSet 5))
    (gsSeq (gsAsg (gOp divP (gVarD 0) (gC (.int 128))) (gtSet 6))
    (gsSeq (gsAsgL (gLst gaNil) 7)
    (gsSeq (gsFor [(6, .d), (7, .l false)] [false, false, false, false, false, false, true, true, true, true, true, true, true] (giCa rng1P (gaCons (gVarD 1) gaNil)) (gtSet 8) (gsSeq (gsAsg (gVarD 6) (gtSet 9))
    (gsSeq (gsAsg (gVarD 4) (gtSet 10))
    (gsSeq (gsIf (gtNot (gTru (gVarD 3))) (gsSeq (gsAsg (gOp addSP (gC (.int 1)) (gOp modP (gVarD 6) (gC (.int 8)))) (gtSet 10))
    (gsAsg (gOp divP (gVarD 6) (gC (.int 8))) (gtSet 9))) gsNx)
    (gsSeq (gsAsgL (gLst gaNil) 11)
    (gsSeq (gsFor [(9, .d), (11, .l false)] [false, false, false, false, false, false, false, false, false, true, false, true, true] (giCa rng1P (gaCons (gVarD 10) gaNil)) (gtSet 12) (gsSeq (gsDrop (gMu appendP 11 (gaCons (gOp ixP (gVarD 2) (gOp modP (gVarD 9) (gC (.int 26)))) gaNil)))
    (gsAsg (gOp divP (gVarD 9) (gC (.int 26))) (gtSet 9))))
    (gsSeq (gsIf (gTru (gVarD 3)) (gsSetI 11 (gVarD 5) (gOp ixP (gVarD 2) (gOp modP (gOp addSP (gSm sindexP (gVarD 2) (gaCons (gOp ixP (gVarO 11) (gVarD 5)) gaNil)) (gVarD 8)) (gC (.int 26))))) (gsAsg (gVarD 9) (gtSet 6)))
    (gsSeq (gsWhile [(11, .l false)] [false, false, false, false, false, false, false, false, false, false, false, true, false] (gtOr (gBool (gOp (inP false) (gSm joinP (gC (.str (Str.ofString ""))) (gaCons (gVarO 11) gaNil)) (gVarO 7))) (gBool (gOp (eqP false) (gVarO 11) (gLst (gaCons (gC (.str (Str.ofString "a"))) (gaCons (gC (.str (Str.ofString "n"))) (gaCons (gC (.str (Str.ofString "y"))) gaNil))))))) (gsIf (gBool (gOp (eqP false) (gVarO 11) (gLst (gaCons (gC (.str (Str.ofString "a"))) (gaCons (gC (.str (Str.ofString "n"))) (gaCons (gC (.str (Str.ofString "y"))) gaNil)))))) (gsAsgL (gLst (gaCons (gC (.str (Str.ofString "y"))) (gaCons (gC (.str (Str.ofString "n"))) (gaCons (gC (.str (Str.ofString "a"))) gaNil)))) 11) (gsSetI 11 (gC (.int 0)) (gOp ixP (gVarD 2) (gOp modP (gOp addSP (gSm sindexP (gVarD 2) (gaCons (gOp ixP (gVarO 11) (gC (.int 0))) gaNil)) (gC (.int 1))) (gC (.int 26)))))) fw)
    (gsDrop (gMu appendP 7 (gaCons (gSm joinP (gC (.str (Str.ofString ""))) (gaCons (gVarO 11) gaNil)) gaNil)))))))))))
    (gsRet (gVarO 7)))))))))
noncomputable def W__law_names : GFn := fun γ avs K => match avs with
  | [.d a0, .d a1] => (P__law_names a0 a1).bind fun r => K r []
  | _ => .bad
theorem e__law_names (fw : Nat) (a0 : D) (a1 : D) : runG (g__law_names fw) (init0 13 [.d a0, .d a1]) out0 = PF__law_names fw a0 a1 := by kernel_rfl
theorem rs__law_names : RS 7 [false, false, true, true, true, true, true, true, true, true, true, true, true] m__law_names (g__law_names fuelW) :=
    (rs_seq (rs_asg (re_c (.str (Str.ofString "abcdefghijklmnopqrstuvwxyz"))) (rg_set 2))
    (rs_seq (rs_asg (re_op eqP_ok (RE.up (s' := 3) (re_op modP_ok (RE.up (s' := 3) (re_varD 0) rfl) (RE.up (s' := 3) (re_c (.int 2)) rfl)) rfl) (RE.up (s' := 3) (re_c (.int 0)) rfl)) (rg_set 3))
    (rs_seq (rs_asg (re_op addASP_ok (RE.up (s' := 3) (re_c (.int 1)) rfl) (RE.up (s' := 3) (re_op modP_ok (RE.up (s' := 3) (re_op divP_ok (RE.up (s' := 3) (re_varD 0) rfl) (RE.up (s' := 3) (re_c (.int 2)) rfl)) rfl) (RE.up (s' := 3) (re_c (.int 8)) rfl)) rfl)) (rg_set 4))
    (rs_seq (rs_asg (re_op modP_ok (RE.up (s' := 3) (re_op divP_ok (RE.up (s' := 3) (re_varD 0) rfl) (RE.up (s' := 3) (re_c (.int 16)) rfl)) rfl) (RE.up (s' := 3) (re_varD 4) rfl)) (rg_set 5))
    (rs_seq (rs_asg (re_op divP_ok (RE.up (s' := 3) (re_varD 0) rfl) (RE.up (s' := 3) (re_c (.int 128)) rfl)) (rg_set 6))
    (rs_seq (rs_asgL 7 (re_lst ra_nil))
    (rs_seq (rs_for (ds := [(6, .d), (7, .l false)]) (mb := [false, false, false, false, false, false, true, true, true, true, true, true, true]) (ri_range1 (ra_cons (RE.up (s' := 3) (re_varD 1) rfl) ra_nil)) (rg_set 8) (rs_seq (rs_asg (re_varD 6) (rg_set 9))
    (rs_seq (rs_asg (re_varD 4) (rg_set 10))
    (rs_seq (rs_if (rt_not (rt_tru (RE.up (s' := 3) (re_varD 3) rfl))) (rs_seq (rs_asg (re_op addASP_ok (RE.up (s' := 3) (re_c (.int 1)) rfl) (RE.up (s' := 3) (re_op modP_ok (RE.up (s' := 3) (re_varD 6) rfl) (RE.up (s' := 3) (re_c (.int 8)) rfl)) rfl)) (rg_set 10))
    (rs_asg (re_op divP_ok (RE.up (s' := 3) (re_varD 6) rfl) (RE.up (s' := 3) (re_c (.int 8)) rfl)) (rg_set 9))) rs_nx)
    (rs_seq (rs_asgL 11 (re_lst ra_nil))
    (rs_seq (rs_for (ds := [(9, .d), (11, .l false)]) (mb := [false, false, false, false, false, false, false, false, false, true, false, true, true]) (ri_range1 (ra_cons (RE.up (s' := 3) (re_varD 10) rfl) ra_nil)) (rg_set 12) (rs_seq (rs_drop (RE.up (s' := 3) (re_mu appendP_ok 11 (ra_cons (re_op ixP_ok (RE.up (s' := 3) (re_varD 2) rfl) (RE.up (s' := 3) (re_op modP_ok (RE.up (s' := 3) (re_varD 9) rfl) (RE.up (s' := 3) (re_c (.int 26)) rfl)) rfl)) ra_nil)) rfl))
    (rs_asg (re_op divP_ok (RE.up (s' := 3) (re_varD 9) rfl) (RE.up (s' := 3) (re_c (.int 26)) rfl)) (rg_set 9))))
    (rs_seq (rs_if (rt_tru (RE.up (s' := 3) (re_varD 3) rfl)) (rs_setI 11 (re_op ixP_ok (RE.up (s' := 3) (re_varD 2) rfl) (RE.up (s' := 3) (re_op modP_ok (RE.up (s' := 3) (re_op addASP_ok (RE.up (s' := 3) (re_sm sindexP_ok (RE.up (s' := 3) (re_varD 2) rfl) (ra_cons (re_op ixP_ok (re_varO (s := 3) 11 rfl) (RE.up (s' := 3) (re_varD 5) rfl)) ra_nil)) rfl) (RE.up (s' := 3) (re_varD 8) rfl)) rfl) (RE.up (s' := 3) (re_c (.int 26)) rfl)) rfl)) (RE.up (s' := 3) (re_varD 5) rfl)) (rs_asg (re_varD 9) (rg_set 6)))
    (rs_seq (rs_while (ds := [(11, .l false)]) (mb := [false, false, false, false, false, false, false, false, false, false, false, true, false]) fuelW (rt_or (rt_bool (RE.up (s' := 3) (re_op inP_ok (RE.up (s' := 3) (re_sm joinP_ok (RE.up (s' := 3) (re_c (.str (Str.ofString ""))) rfl) (ra_cons (re_varO (s := 3) 11 rfl) ra_nil)) rfl) (re_varO (s := 3) 7 rfl)) rfl)) (rt_bool (RE.up (s' := 3) (re_op eqP_ok (re_varO (s := 3) 11 rfl) (RE.up (s' := 3) (re_lst (ra_cons (re_c (.str (Str.ofString "a"))) (ra_cons (re_c (.str (Str.ofString "n"))) (ra_cons (re_c (.str (Str.ofString "y"))) ra_nil)))) rfl)) rfl))) (rs_if (rt_bool (RE.up (s' := 3) (re_op eqP_ok (re_varO (s := 3) 11 rfl) (RE.up (s' := 3) (re_lst (ra_cons (re_c (.str (Str.ofString "a"))) (ra_cons (re_c (.str (Str.ofString "n"))) (ra_cons (re_c (.str (Str.ofString "y"))) ra_nil)))) rfl)) rfl)) (rs_asgL 11 (re_lst (ra_cons (re_c (.str (Str.ofString "y"))) (ra_cons (re_c (.str (Str.ofString "n"))) (ra_cons (re_c (.str (Str.ofString "a"))) ra_nil))))) (rs_setI 11 (re_op ixP_ok (RE.up (s' := 3) (re_varD 2) rfl) (RE.up (s' := 3) (re_op modP_ok (RE.up (s' := 3) (re_op addASP_ok (RE.up (s' := 3) (re_sm sindexP_ok (RE.up (s' := 3) (re_varD 2) rfl) (ra_cons (re_op ixP_ok (re_varO (s := 3) 11 rfl) (RE.up (s' := 3) (re_c (.int 0)) rfl)) ra_nil)) rfl) (RE.up (s' := 3) (re_c (.int 1)) rfl)) rfl) (RE.up (s' := 3) (re_c (.int 26)) rfl)) rfl)) (RE.up (s' := 3) (re_c (.int 0)) rfl))))
    (rs_drop (RE.up (s' := 3) (re_mu appendP_ok 7 (ra_cons (re_sm joinP_ok (RE.up (s' := 3) (re_c (.str (Str.ofString ""))) rfl) (ra_cons (re_varO (s := 3) 11 rfl) ra_nil)) ra_nil)) rfl))))))))))
    (rs_ret (re_varO (s := 7) 7 rfl)))))))))
theorem sp__law_names : SpG F__law_names 2 W__law_names := by
  intro γ m ws avs J K hcl hA hn hd nb
  unfold W__law_names at nb ⊢
  split at nb
  · rename_i a0 a1
    exact sp_fin (N := 13) (res := id) (us := fun _ => []) rs__law_names rfl hcl hA hn hd (e__law_names fuelW a0 a1) (out0_ok rfl) nb
  · exact absurd rfl nb
noncomputable def g__law_form (w__law_form : GFn) : GSx :=
    (gsSeq (gsAsg (gCall [true, false, false, true, true, true] [.l, .d] W__law_take (gaCons (gVarO 0) (gaCons (gOp powP (gC (.int 10)) (gC (.int 12))) gaNil))) (gtSet 3))
    (gsSeq (gsIf (gtOr (gBool (gOp ltP (gVarD 2) (gC (.int 2)))) (gBool (gOp (eqP false) (gOp modP (gVarD 3) (gC (.int 3))) (gC (.int 0))))) (gsRet (gTup (gaCons (gC (.str (Str.ofString "basic"))) (gaCons (gOp ixP (gVarD 1) (gOp modP (gOp divP (gVarD 3) (gC (.int 3))) (gCa lenP (gaCons (gVarD 1) gaNil)))) gaNil)))) gsNx)
    (gsSeq (gsAsg (gOp addSP (gC (.int 1)) (gOp modP (gOp divP (gVarD 3) (gC (.int 6))) (gOp subP (gVarD 2) (gC (.int 1))))) (gtSet 4))
    (gsSeq (gsAsg (gCall [true, false, false, true, true, true] [.l, .d, .d] w__law_form (gaCons (gVarO 0) (gaCons (gVarD 1) (gaCons (gVarD 4) gaNil)))) (gtSet 5))
    (gsRet (gTup (gaCons (gOp ixP (gLst (gaCons (gC (.str (Str.ofString "/"))) (gaCons (gC (.str (Str.ofString "\\"))) gaNil))) (gOp modP (gOp divP (gVarD 3) (gC (.int 3))) (gC (.int 2)))) (gaCons (gVarD 5) (gaCons (gCall [true, false, false, true, true, true] [.l, .d, .d] w__law_form (gaCons (gVarO 0) (gaCons (gVarD 1) (gaCons (gOp subP (gVarD 2) (gVarD 4)) gaNil)))) gaNil)))))))))
noncomputable def W__law_form (n : Nat) : GFn := fun γ avs K => match avs with
  | [.l i0 a0, .d a1, .d a2] => (P__law_form n a0 a1 a2).bind fun r => K r.1 [(i0, .l r.2)]
  | _ => .bad
theorem e__law_form (n : Nat) (a0 : List D) (i0 : Nat) (a1 : D) (a2 : D) : runG (g__law_form (W__law_form n)) (init0 6 [.l i0 a0, .d a1, .d a2]) (outL 0) = B__law_form (P__law_form n) a0 a1 a2 := by kernel_rfl
theorem rs__law_form {n : Nat} (ih__law_form : SpG (F__law_form n) 2 (W__law_form n)) : RS 7 [true, false, false, true, true, true] (m__law_form (F__law_form n)) (g__law_form (W__law_form n)) :=
    (rs_seq (rs_asg (re_frz (re_call (ks := [.l, .d]) sp__law_take (ra_cons (re_objV (s := 4) 0) (ra_cons (re_op powP_ok (RE.up (s' := 3) (re_c (.int 10)) rfl) (RE.up (s' := 3) (re_c (.int 12)) rfl)) ra_nil)))) (rg_set 3))
    (rs_seq (rs_if (rt_or (rt_bool (RE.up (s' := 3) (re_op ltP_ok (RE.up (s' := 3) (re_varD 2) rfl) (RE.up (s' := 3) (re_c (.int 2)) rfl)) rfl)) (rt_bool (RE.up (s' := 3) (re_op eqP_ok (RE.up (s' := 3) (re_op modP_ok (RE.up (s' := 3) (re_varD 3) rfl) (RE.up (s' := 3) (re_c (.int 3)) rfl)) rfl) (RE.up (s' := 3) (re_c (.int 0)) rfl)) rfl))) (rs_ret (RE.up (s' := 7) (re_tup (ra_cons (re_c (.str (Str.ofString "basic"))) (ra_cons (re_op ixP_ok (RE.up (s' := 3) (re_varD 1) rfl) (RE.up (s' := 3) (re_op modP_ok (RE.up (s' := 3) (re_op divP_ok (RE.up (s' := 3) (re_varD 3) rfl) (RE.up (s' := 3) (re_c (.int 3)) rfl)) rfl) (RE.up (s' := 3) (re_ca lenP_ok (ra_cons (RE.up (s' := 3) (re_varD 1) rfl) ra_nil)) rfl)) rfl)) ra_nil))) rfl)) rs_nx)
    (rs_seq (rs_asg (re_op addASP_ok (RE.up (s' := 3) (re_c (.int 1)) rfl) (RE.up (s' := 3) (re_op modP_ok (RE.up (s' := 3) (re_op divP_ok (RE.up (s' := 3) (re_varD 3) rfl) (RE.up (s' := 3) (re_c (.int 6)) rfl)) rfl) (RE.up (s' := 3) (re_op subP_ok (RE.up (s' := 3) (re_varD 2) rfl) (RE.up (s' := 3) (re_c (.int 1)) rfl)) rfl)) rfl)) (rg_set 4))
    (rs_seq (rs_asg (re_frz (re_call (ks := [.l, .d, .d]) ih__law_form (ra_cons (re_objV (s := 4) 0) (ra_cons (re_varD 1) (ra_cons (re_varD 4) ra_nil))))) (rg_set 5))
    (rs_ret (RE.up (s' := 7) (re_tup (ra_cons (re_op ixP_ok (RE.up (s' := 3) (re_lst (ra_cons (re_c (.str (Str.ofString "/"))) (ra_cons (re_c (.str (Str.ofString "\\"))) ra_nil))) rfl) (RE.up (s' := 3) (re_op modP_ok (RE.up (s' := 3) (re_op divP_ok (RE.up (s' := 3) (re_varD 3) rfl) (RE.up (s' := 3) (re_c (.int 3)) rfl)) rfl) (RE.up (s' := 3) (re_c (.int 2)) rfl)) rfl)) (ra_cons (re_varD 5) (ra_cons (re_frz (re_call (ks := [.l, .d, .d]) ih__law_form (ra_cons (re_objV (s := 4) 0) (ra_cons (re_varD 1) (ra_cons (re_op subP_ok (RE.up (s' := 3) (re_varD 2) rfl) (RE.up (s' := 3) (re_varD 4) rfl)) ra_nil))))) ra_nil)))) rfl))))))
theorem ss__law_form {n : Nat} (ih__law_form : SpG (F__law_form n) 2 (W__law_form n)) : SpG (F__law_form (n + 1)) 2 (W__law_form (n + 1)) := by
  intro γ m ws avs J K hcl hA hn hd nb
  unfold W__law_form at nb ⊢
  split at nb
  · rename_i i0 a0 a1 a2
    exact sp_fin (N := 6) (res := Prod.fst) (us := fun r => [(i0, .l r.2)]) (rs__law_form ih__law_form) rfl hcl hA hn hd (e__law_form n a0 i0 a1 a2) (outL_ok (a := 0) rfl rfl) nb
  · exact absurd rfl nb
theorem sp__law_form : ∀ n : Nat, SpG (F__law_form n) 2 (W__law_form n)
  | 0 => by
    intro γ m ws avs J K hcl hA hn hd nb
    exfalso
    unfold W__law_form at nb
    split at nb
    · exact nb rfl
    · exact nb rfl
  | n + 1 => ss__law_form (sp__law_form n)
noncomputable def g__law_spread : GSx :=
    (gsSeq (gsAsg (gOp addSP (gOp modP (gVarD 0) (gC (.int 2147483646))) (gC (.int 1))) (gtSet 2))
    (gsSeq (gsAsg (gOp divP (gVarD 0) (gC (.int 2))) (gtSet 3))
    (gsSeq (gsAsgL (gLst gaNil) 4)
    (gsSeq (gsFor [(2, .d), (3, .d), (4, .l false)] [false, false, true, true, true, true, true] (giCa rng1P (gaCons (gVarD 1) gaNil)) (gtSet 5) (gsSeq (gsAsg (gOp modP (gOp mulP (gVarD 2) (gC (.int 48271))) (gC (.int 2147483647))) (gtSet 2))
    (gsSeq (gsAsg (gOp modP (gVarD 3) (gOp powP (gC (.int 10)) (gC (.int 12)))) (gtSet 6))
    (gsSeq (gsAsg (gOp divP (gVarD 3) (gOp powP (gC (.int 10)) (gC (.int 12)))) (gtSet 3))
    (gsDrop (gMu appendP 4 (gaCons (gOp ixP (gLst (gaCons (gVarD 6) (gaCons (gOp modP (gOp mulP (gVarD 2) (gC (.int 69621))) (gC (.int 2147483629))) gaNil))) (gOp modP (gVarD 0) (gC (.int 2)))) gaNil)))))))
    (gsRet (gVarO 4))))))
noncomputable def W__law_spread : GFn := fun γ avs K => match avs with
  | [.d a0, .d a1] => (P__law_spread a0 a1).bind fun r => K r []
  | _ => .bad
theorem e__law_spread (a0 : D) (a1 : D) : runG (g__law_spread) (init0 7 [.d a0, .d a1]) out0 = P__law_spread a0 a1 := by kernel_rfl
theorem rs__law_spread : RS 7 [false, false, true, true, true, true, true] m__law_spread (g__law_spread) :=
    (rs_seq (rs_asg (re_op addASP_ok (RE.up (s' := 3) (re_op modP_ok (RE.up (s' := 3) (re_varD 0) rfl) (RE.up (s' := 3) (re_c (.int 2147483646)) rfl)) rfl) (RE.up (s' := 3) (re_c (.int 1)) rfl)) (rg_set 2))
    (rs_seq (rs_asg (re_op divP_ok (RE.up (s' := 3) (re_varD 0) rfl) (RE.up (s' := 3) (re_c (.int 2)) rfl)) (rg_set 3))
    (rs_seq (rs_asgL 4 (re_lst ra_nil))
    (rs_seq (rs_for (ds := [(2, .d), (3, .d), (4, .l false)]) (mb := [false, false, true, true, true, true, true]) (ri_range1 (ra_cons (RE.up (s' := 3) (re_varD 1) rfl) ra_nil)) (rg_set 5) (rs_seq (rs_asg (re_op modP_ok (RE.up (s' := 3) (re_op mulP_ok (RE.up (s' := 3) (re_varD 2) rfl) (RE.up (s' := 3) (re_c (.int 48271)) rfl)) rfl) (RE.up (s' := 3) (re_c (.int 2147483647)) rfl)) (rg_set 2))
    (rs_seq (rs_asg (re_op modP_ok (RE.up (s' := 3) (re_varD 3) rfl) (RE.up (s' := 3) (re_op powP_ok (RE.up (s' := 3) (re_c (.int 10)) rfl) (RE.up (s' := 3) (re_c (.int 12)) rfl)) rfl)) (rg_set 6))
    (rs_seq (rs_asg (re_op divP_ok (RE.up (s' := 3) (re_varD 3) rfl) (RE.up (s' := 3) (re_op powP_ok (RE.up (s' := 3) (re_c (.int 10)) rfl) (RE.up (s' := 3) (re_c (.int 12)) rfl)) rfl)) (rg_set 3))
    (rs_drop (RE.up (s' := 3) (re_mu appendP_ok 4 (ra_cons (re_op ixP_ok (RE.up (s' := 3) (re_lst (ra_cons (re_varD 6) (ra_cons (re_op modP_ok (RE.up (s' := 3) (re_op mulP_ok (RE.up (s' := 3) (re_varD 2) rfl) (RE.up (s' := 3) (re_c (.int 69621)) rfl)) rfl) (RE.up (s' := 3) (re_c (.int 2147483629)) rfl)) ra_nil))) rfl) (RE.up (s' := 3) (re_op modP_ok (RE.up (s' := 3) (re_varD 0) rfl) (RE.up (s' := 3) (re_c (.int 2)) rfl)) rfl)) ra_nil)) rfl))))))
    (rs_ret (re_varO (s := 7) 4 rfl))))))
theorem sp__law_spread : SpG F__law_spread 2 W__law_spread := by
  intro γ m ws avs J K hcl hA hn hd nb
  unfold W__law_spread at nb ⊢
  split at nb
  · rename_i a0 a1
    exact sp_fin (N := 7) (res := id) (us := fun _ => []) rs__law_spread rfl hcl hA hn hd (e__law_spread a0 a1) (out0_ok rfl) nb
  · exact absurd rfl nb
noncomputable def g__law_size (w__law_size : GFn) : GSx :=
    (gsSeq (gsIf (gBool (gOp (eqP false) (gOp ixP (gVarD 0) (gC (.int 0))) (gC (.str (Str.ofString "basic"))))) (gsRet (gC (.int 1))) gsNx)
    (gsRet (gOp addP (gCall [false] [.d] w__law_size (gaCons (gOp ixP (gVarD 0) (gC (.int 1))) gaNil)) (gCall [false] [.d] w__law_size (gaCons (gOp ixP (gVarD 0) (gC (.int 2))) gaNil)))))
noncomputable def W__law_size (n : Nat) : GFn := fun γ avs K => match avs with
  | [.d a0] => (P__law_size n a0).bind fun r => K r []
  | _ => .bad
theorem e__law_size (n : Nat) (a0 : D) : runG (g__law_size (W__law_size n)) (init0 1 [.d a0]) out0 = B__law_size (P__law_size n) a0 := by kernel_rfl
theorem rs__law_size {n : Nat} (ih__law_size : SpG (F__law_size n) 2 (W__law_size n)) : RS 7 [false] (m__law_size (F__law_size n)) (g__law_size (W__law_size n)) :=
    (rs_seq (rs_if (rt_bool (RE.up (s' := 3) (re_op eqP_ok (RE.up (s' := 3) (re_op ixP_ok (RE.up (s' := 3) (re_varD 0) rfl) (RE.up (s' := 3) (re_c (.int 0)) rfl)) rfl) (RE.up (s' := 3) (re_c (.str (Str.ofString "basic"))) rfl)) rfl)) (rs_ret (RE.up (s' := 7) (re_c (.int 1)) rfl)) rs_nx)
    (rs_ret (RE.up (s' := 7) (re_op addAP_ok (RE.up (s' := 3) (re_call (ks := [.d]) ih__law_size (ra_cons (re_op ixP_ok (RE.up (s' := 3) (re_varD 0) rfl) (RE.up (s' := 3) (re_c (.int 1)) rfl)) ra_nil)) rfl) (RE.up (s' := 3) (re_call (ks := [.d]) ih__law_size (ra_cons (re_op ixP_ok (RE.up (s' := 3) (re_varD 0) rfl) (RE.up (s' := 3) (re_c (.int 2)) rfl)) ra_nil)) rfl)) rfl)))
theorem ss__law_size {n : Nat} (ih__law_size : SpG (F__law_size n) 2 (W__law_size n)) : SpG (F__law_size (n + 1)) 2 (W__law_size (n + 1)) := by
  intro γ m ws avs J K hcl hA hn hd nb
  unfold W__law_size at nb ⊢
  split at nb
  · rename_i a0
    exact sp_fin (N := 1) (res := id) (us := fun _ => []) (rs__law_size ih__law_size) rfl hcl hA hn hd (e__law_size n a0) (out0_ok rfl) nb
  · exact absurd rfl nb
theorem sp__law_size : ∀ n : Nat, SpG (F__law_size n) 2 (W__law_size n)
  | 0 => by
    intro γ m ws avs J K hcl hA hn hd nb
    exfalso
    unfold W__law_size at nb
    split at nb
    · exact nb rfl
    · exact nb rfl
  | n + 1 => ss__law_size (sp__law_size n)
noncomputable def g__law_more : GSx :=
    (gsSeq (gsAsg (gOp modP (gVarD 2) (gC (.int 6))) (gtSet 3))
    (gsSeq (gsIf (gBool (gOp (eqP false) (gVarD 3) (gC (.int 0)))) (gsRet (gTup (gaCons (gC (.str (Str.ofString ">"))) (gaCons (gTup (gaCons (gC (.str (Str.ofString "/"))) (gaCons (gVarD 1) (gaCons (gVarD 0) gaNil)))) (gaCons (gVarD 1) (gaCons (gC (.bool true)) gaNil)))))) gsNx)
    (gsSeq (gsIf (gBool (gOp (eqP false) (gVarD 3) (gC (.int 1)))) (gsRet (gTup (gaCons (gC (.str (Str.ofString "<"))) (gaCons (gTup (gaCons (gC (.str (Str.ofString "\\"))) (gaCons (gVarD 1) (gaCons (gVarD 0) gaNil)))) (gaCons (gVarD 1) (gaCons (gC (.bool false)) gaNil)))))) gsNx)
    (gsSeq (gsIf (gtAnd (gBool (gOp (eqP false) (gVarD 3) (gC (.int 2)))) (gBool (gOp (eqP false) (gOp ixP (gVarD 0) (gC (.int 0))) (gC (.str (Str.ofString "/")))))) (gsRet (gTup (gaCons (gC (.str (Str.ofString ">>"))) (gaCons (gTup (gaCons (gC (.str (Str.ofString "/"))) (gaCons (gVarD 1) (gaCons (gOp ixP (gVarD 0) (gC (.int 1))) gaNil)))) (gaCons (gTup (gaCons (gC (.str (Str.ofString "/"))) (gaCons (gVarD 1) (gaCons (gOp ixP (gVarD 0) (gC (.int 2))) gaNil)))) (gaCons (gC (.bool true)) gaNil)))))) gsNx)
    (gsSeq (gsIf (gtAnd (gBool (gOp (eqP false) (gVarD 3) (gC (.int 3)))) (gBool (gOp (eqP false) (gOp ixP (gVarD 0) (gC (.int 0))) (gC (.str (Str.ofString "\\")))))) (gsRet (gTup (gaCons (gC (.str (Str.ofString "<<"))) (gaCons (gTup (gaCons (gC (.str (Str.ofString "\\"))) (gaCons (gVarD 1) (gaCons (gOp ixP (gVarD 0) (gC (.int 1))) gaNil)))) (gaCons (gTup (gaCons (gC (.str (Str.ofString "\\"))) (gaCons (gVarD 1) (gaCons (gOp ixP (gVarD 0) (gC (.int 2))) gaNil)))) (gaCons (gC (.bool false)) gaNil)))))) gsNx)
    (gsSeq (gsIf (gtAnd (gBool (gOp (eqP false) (gOp ixP (gVarD 0) (gC (.int 0))) (gC (.str (Str.ofString "/"))))) (gBool (gOp (eqP false) (gOp modP (gVarD 3) (gC (.int 2))) (gC (.int 0))))) (gsRet (gTup (gaCons (gC (.str (Str.ofString ">"))) (gaCons (gOp ixP (gVarD 0) (gC (.int 2))) (gaCons (gOp ixP (gVarD 0) (gC (.int 1))) (gaCons (gC (.bool false)) gaNil)))))) gsNx)
    (gsSeq (gsIf (gBool (gOp (eqP false) (gOp ixP (gVarD 0) (gC (.int 0))) (gC (.str (Str.ofString "\\"))))) (gsRet (gTup (gaCons (gC (.str (Str.ofString "<"))) (gaCons (gOp ixP (gVarD 0) (gC (.int 2))) (gaCons (gOp ixP (gVarD 0) (gC (.int 1))) (gaCons (gC (.bool true)) gaNil)))))) gsNx)
    (gsSeq (gsIf (gBool (gOp (eqP false) (gOp ixP (gVarD 0) (gC (.int 0))) (gC (.str (Str.ofString "/"))))) (gsRet (gTup (gaCons (gC (.str (Str.ofString ">>"))) (gaCons (gTup (gaCons (gC (.str (Str.ofString "/"))) (gaCons (gOp ixP (gVarD 0) (gC (.int 2))) (gaCons (gVarD 1) gaNil)))) (gaCons (gTup (gaCons (gC (.str (Str.ofString "/"))) (gaCons (gOp ixP (gVarD 0) (gC (.int 1))) (gaCons (gVarD 1) gaNil)))) (gaCons (gC (.bool false)) gaNil)))))) gsNx)
    (gsRet (gTup (gaCons (gC (.str (Str.ofString ">"))) (gaCons (gTup (gaCons (gC (.str (Str.ofString "/"))) (gaCons (gVarD 1) (gaCons (gVarD 0) gaNil)))) (gaCons (gVarD 1) (gaCons (gC (.bool true)) gaNil))))))))))))))
noncomputable def W__law_more : GFn := fun γ avs K => match avs with
  | [.d a0, .d a1, .d a2] => (P__law_more a0 a1 a2).bind fun r => K r []
  | _ => .bad
theorem e__law_more (a0 : D) (a1 : D) (a2 : D) : runG (g__law_more) (init0 4 [.d a0, .d a1, .d a2]) out0 = P__law_more a0 a1 a2 := by kernel_rfl
theorem rs__law_more : RS 7 [false, false, false, true] m__law_more (g__law_more) :=
    (rs_seq (rs_asg (re_op modP_ok (RE.up (s' := 3) (re_varD 2) rfl) (RE.up (s' := 3) (re_c (.int 6)) rfl)) (rg_set 3))
    (rs_seq (rs_if (rt_bool (RE.up (s' := 3) (re_op eqP_ok (RE.up (s' := 3) (re_varD 3) rfl) (RE.up (s' := 3) (re_c (.int 0)) rfl)) rfl)) (rs_ret (RE.up (s' := 7) (re_tup (ra_cons (re_c (.str (Str.ofString ">"))) (ra_cons (re_tup (ra_cons (re_c (.str (Str.ofString "/"))) (ra_cons (re_varD 1) (ra_cons (re_varD 0) ra_nil)))) (ra_cons (re_varD 1) (ra_cons (re_c (.bool true)) ra_nil))))) rfl)) rs_nx)
    (rs_seq (rs_if (rt_bool (RE.up (s' := 3) (re_op eqP_ok (RE.up (s' := 3) (re_varD 3) rfl) (RE.up (s' := 3) (re_c (.int 1)) rfl)) rfl)) (rs_ret (RE.up (s' := 7) (re_tup (ra_cons (re_c (.str (Str.ofString "<"))) (ra_cons (re_tup (ra_cons (re_c (.str (Str.ofString "\\"))) (ra_cons (re_varD 1) (ra_cons (re_varD 0) ra_nil)))) (ra_cons (re_varD 1) (ra_cons (re_c (.bool false)) ra_nil))))) rfl)) rs_nx)
    (rs_seq (rs_if (rt_and (rt_bool (RE.up (s' := 3) (re_op eqP_ok (RE.up (s' := 3) (re_varD 3) rfl) (RE.up (s' := 3) (re_c (.int 2)) rfl)) rfl)) (rt_bool (RE.up (s' := 3) (re_op eqP_ok (RE.up (s' := 3) (re_op ixP_ok (RE.up (s' := 3) (re_varD 0) rfl) (RE.up (s' := 3) (re_c (.int 0)) rfl)) rfl) (RE.up (s' := 3) (re_c (.str (Str.ofString "/"))) rfl)) rfl))) (rs_ret (RE.up (s' := 7) (re_tup (ra_cons (re_c (.str (Str.ofString ">>"))) (ra_cons (re_tup (ra_cons (re_c (.str (Str.ofString "/"))) (ra_cons (re_varD 1) (ra_cons (re_op ixP_ok (RE.up (s' := 3) (re_varD 0) rfl) (RE.up (s' := 3) (re_c (.int 1)) rfl)) ra_nil)))) (ra_cons (re_tup (ra_cons (re_c (.str (Str.ofString "/"))) (ra_cons (re_varD 1) (ra_cons (re_op ixP_ok (RE.up (s' := 3) (re_varD 0) rfl) (RE.up (s' := 3) (re_c (.int 2)) rfl)) ra_nil)))) (ra_cons (re_c (.bool true)) ra_nil))))) rfl)) rs_nx)
    (rs_seq (rs_if (rt_and (rt_bool (RE.up (s' := 3) (re_op eqP_ok (RE.up (s' := 3) (re_varD 3) rfl) (RE.up (s' := 3) (re_c (.int 3)) rfl)) rfl)) (rt_bool (RE.up (s' := 3) (re_op eqP_ok (RE.up (s' := 3) (re_op ixP_ok (RE.up (s' := 3) (re_varD 0) rfl) (RE.up (s' := 3) (re_c (.int 0)) rfl)) rfl) (RE.up (s' := 3) (re_c (.str (Str.ofString "\\"))) rfl)) rfl))) (rs_ret (RE.up (s' := 7) (re_tup (ra_cons (re_c (.str (Str.ofString "<<"))) (ra_cons (re_tup (ra_cons (re_c (.str (Str.ofString "\\"))) (ra_cons (re_varD 1) (ra_cons (re_op ixP_ok (RE.up (s' := 3) (re_varD 0) rfl) (RE.up (s' := 3) (re_c (.int 1)) rfl)) ra_nil)))) (ra_cons (re_tup (ra_cons (re_c (.str (Str.ofString "\\"))) (ra_cons (re_varD 1) (ra_cons (re_op ixP_ok (RE.up (s' := 3) (re_varD 0) rfl) (RE.up (s' := 3) (re_c (.int 2)) rfl)) ra_nil)))) (ra_cons (re_c (.bool false)) ra_nil))))) rfl)) rs_nx)
    (rs_seq (rs_if (rt_and (rt_bool (RE.up (s' := 3) (re_op eqP_ok (RE.up (s' := 3) (re_op ixP_ok (RE.up (s' := 3) (re_varD 0) rfl) (RE.up (s' := 3) (re_c (.int 0)) rfl)) rfl) (RE.up (s' := 3) (re_c (.str (Str.ofString "/"))) rfl)) rfl)) (rt_bool (RE.up (s' := 3) (re_op eqP_ok (RE.up (s' := 3) (re_op modP_ok (RE.up (s' := 3) (re_varD 3) rfl) (RE.up (s' := 3) (re_c (.int 2)) rfl)) rfl) (RE.up (s' := 3) (re_c (.int 0)) rfl)) rfl))) (rs_ret (RE.up (s' := 7) (re_tup (ra_cons (re_c (.str (Str.ofString ">"))) (ra_cons (re_op ixP_ok (RE.up (s' := 3) (re_varD 0) rfl) (RE.up (s' := 3) (re_c (.int 2)) rfl)) (ra_cons (re_op ixP_ok (RE.up (s' := 3) (re_varD 0) rfl) (RE.up (s' := 3) (re_c (.int 1)) rfl)) (ra_cons (re_c (.bool false)) ra_nil))))) rfl)) rs_nx)
    (rs_seq (rs_if (rt_bool (RE.up (s' := 3) (re_op eqP_ok (RE.up (s' := 3) (re_op ixP_ok (RE.up (s' := 3) (re_varD 0) rfl) (RE.up (s' := 3) (re_c (.int 0)) rfl)) rfl) (RE.up (s' := 3) (re_c (.str (Str.ofString "\\"))) rfl)) rfl)) (rs_ret (RE.up (s' := 7) (re_tup (ra_cons (re_c (.str (Str.ofString "<"))) (ra_cons (re_op ixP_ok (RE.up (s' := 3) (re_varD 0) rfl) (RE.up (s' := 3) (re_c (.int 2)) rfl)) (ra_cons (re_op ixP_ok (RE.up (s' := 3) (re_varD 0) rfl) (RE.up (s' := 3) (re_c (.int 1)) rfl)) (ra_cons (re_c (.bool true)) ra_nil))))) rfl)) rs_nx)
    (rs_seq (rs_if (rt_bool (RE.up (s' := 3) (re_op eqP_ok (RE.up (s' := 3) (re_op ixP_ok (RE.up (s' := 3) (re_varD 0) rfl) (RE.up (s' := 3) (re_c (.int 0)) rfl)) rfl) (RE.up (s' := 3) (re_c (.str (Str.ofString "/"))) rfl)) rfl)) (rs_ret (RE.up (s' := 7) (re_tup (ra_cons (re_c (.str (Str.ofString ">>"))) (ra_cons (re_tup (ra_cons (re_c (.str (Str.ofString "/"))) (ra_cons (re_op ixP_ok (RE.up (s' := 3) (re_varD 0) rfl) (RE.up (s' := 3) (re_c (.int 2)) rfl)) (ra_cons (re_varD 1) ra_nil)))) (ra_cons (re_tup (ra_cons (re_c (.str (Str.ofString "/"))) (ra_cons (re_op ixP_ok (RE.up (s' := 3) (re_varD 0) rfl) (RE.up (s' := 3) (re_c (.int 1)) rfl)) (ra_cons (re_varD 1) ra_nil)))) (ra_cons (re_c (.bool false)) ra_nil))))) rfl)) rs_nx)
    (rs_ret (RE.up (s' := 7) (re_tup (ra_cons (re_c (.str (Str.ofString ">"))) (ra_cons (re_tup (ra_cons (re_c (.str (Str.ofString "/"))) (ra_cons (re_varD 1) (ra_cons (re_varD 0) ra_nil)))) (ra_cons (re_varD 1) (ra_cons (re_c (.bool true)) ra_nil))))) rfl))))))))))
theorem sp__law_more : SpG F__law_more 2 W__law_more := by
  intro γ m ws avs J K hcl hA hn hd nb
  unfold W__law_more at nb ⊢
  split at nb
  · rename_i a0 a1 a2
    exact sp_fin (N := 4) (res := id) (us := fun _ => []) rs__law_more rfl hcl hA hn hd (e__law_more a0 a1 a2) (out0_ok rfl) nb
  · exact absurd rfl nb
noncomputable def g_law : GSx :=
    (gsSeq (gsAsgL (gCa listP (gaCons (gSl (gVarB 0) goNone (goSome (gC (.int 8)))) gaNil)) 1)
    (gsSeq (gsAsg (gCall [false, true, true, true, true, true, true, true, true, true, true, true, true, true, true, true, true] [.d, .d] W__law_names (gaCons (gCall [false, true, true, true, true, true, true, true, true, true, true, true, true, true, true, true, true] [.l, .d] W__law_take (gaCons (gVarO 1) (gaCons (gOp mulP (gOp powP (gC (.int 10)) (gC (.int 64))) (gOp powP (gC (.int 10)) (gC (.int 64)))) gaNil))) (gaCons (gC (.int 3)) gaNil))) (gtSet 2))
    (gsSeq (gsAsg (gCall [false, true, true, true, true, true, true, true, true, true, true, true, true, true, true, true, true] [.l, .d, .d] (W__law_form 40) (gaCons (gVarO 1) (gaCons (gVarD 2) (gaCons (gC (.int 3)) gaNil)))) (gtSet 3))
    (gsSeq (gsAsg (gTup (gaCons (gC (.str (Str.ofString "leaf"))) (gaCons (gC (.int 0)) (gaCons (gVarD 3) gaNil)))) (gtSet 4))
    (gsSeq (gsAsg (gC (.int 1)) (gtSet 5))
    (gsSeq (gsAsg (gSl (gVarB 0) (goSome (gC (.int 2))) (goSome (gC (.int 42)))) (gtSet 6))
    (gsSeq (gsIf (gBool (gOp (eqP false) (gOp modP (gOp ixP (gOp addP (gVarB 0) (gLst (gaCons (gC (.int 0)) gaNil))) (gC (.int 0))) (gC (.int 8))) (gC (.int 5)))) (gsAsg (gSl (gOp addP (gVarD 6) (gCall [false, true, true, true, true, true, true, true, true, true, true, true, true, true, true, true, true] [.d, .d] W__law_spread (gaCons (gOp divP (gOp ixP (gVarB 0) (gC (.int 0))) (gC (.int 8))) (gaCons (gC (.int 20)) gaNil)))) goNone (goSome (gCa maxP2 (gaCons (gC (.int 20)) (gaCons (gCa lenP (gaCons (gVarD 6) gaNil)) gaNil))))) (gtSet 6)) gsNx)
    (gsSeq (gsFor [(3, .d), (4, .d), (5, .d)] [false, false, false, true, true, true, false, true, true, true, true, true, true, true, true, true, true] (giCa enumP (gaCons (gVarD 6) gaNil)) (gtTup (gtsCons (gtSet 7) (gtsCons (gtSet 8) gtsNil))) (gsSeq (gsAsg (gOp divP (gVarD 8) (gC (.int 6))) (gtSet 9))
    (gsSeq (gsAsg (gCallN [false, false, false, true, true, true, false, true, true, true, true, true, true, true, true, true, true] [.d, .d] (W__law_form 40) (gLst (gaCons (gOp modP (gVarD 9) (gOp powP (gC (.int 10)) (gC (.int 6)))) (gaCons (gOp modP (gOp divP (gVarD 9) (gOp powP (gC (.int 10)) (gC (.int 6)))) (gOp powP (gC (.int 10)) (gC (.int 6)))) (gaCons (gOp modP (gOp divP (gVarD 9) (gOp powP (gC (.int 10)) (gC (.int 12)))) (gOp powP (gC (.int 10)) (gC (.int 6)))) gaNil)))) (gaCons (gVarD 2) (gaCons (gC (.int 2)) gaNil))) (gtSet 10))
    (gsSeq (gsAsg (gCall [false, false, false, true, true, true, false, true, true, true, true, true, true, true, true, true, true] [.d, .d, .d] W__law_more (gaCons (gVarD 3) (gaCons (gVarD 10) (gaCons (gVarD 8) gaNil)))) (gtTup (gtsCons (gtSet 11) (gtsCons (gtSet 12) (gtsCons (gtSet 13) (gtsCons (gtSet 14) gtsNil))))))
    (gsSeq (gsIf (gtOr (gBool (gOp gtP (gCall [false, false, false, true, true, true, false, true, true, true, true, true, true, true, true, true, true] [.d] (W__law_size 40) (gaCons (gVarD 12) gaNil)) (gC (.int 9)))) (gBool (gOp gtP (gCall [false, false, false, true, true, true, false, true, true, true, true, true, true, true, true, true, true] [.d] (W__law_size 40) (gaCons (gVarD 13) gaNil)) (gC (.int 9))))) gsCt gsNx)
    (gsSeq (gsAsg (gTup (gaCons (gC (.str (Str.ofString "leaf"))) (gaCons (gOp addSP (gVarD 7) (gC (.int 1))) (gaCons (gVarD 12) gaNil)))) (gtSet 15))
    (gsSeq (gsAsg (gOp ixP (gLst (gaCons (gTup (gaCons (gVarD 3) (gaCons (gVarD 12) (gaCons (gVarD 4) (gaCons (gVarD 15) gaNil))))) (gaCons (gTup (gaCons (gVarD 12) (gaCons (gVarD 3) (gaCons (gVarD 15) (gaCons (gVarD 4) gaNil))))) gaNil))) (gCa intP1 (gaCons (gVarD 14) gaNil))) (gtSet 16))
    (gsSeq (gsIf (gBool (gOp (eqP true) (gCall [false, false, false, true, true, true, false, true, true, true, true, true, true, true, true, true, true] [.d, .d] W_made (gaCons (gOp ixP (gVarD 16) (gC (.int 0))) (gaCons (gOp ixP (gVarD 16) (gC (.int 1))) gaNil))) (gTup (gaCons (gVarD 11) (gaCons (gVarD 13) gaNil))))) (gsRet (gC (.bool false))) gsNx)
    (gsSeq (gsAsg (gCall [false, false, false, true, true, true, false, true, true, true, true, true, true, true, true, true, true] [.d, .d, .d, .d, .d] W_meant (gaCons (gVarD 11) (gaCons (gOp ixP (gVarD 16) (gC (.int 0))) (gaCons (gOp ixP (gVarD 16) (gC (.int 1))) (gaCons (gOp ixP (gVarD 16) (gC (.int 2))) (gaCons (gOp ixP (gVarD 16) (gC (.int 3))) gaNil)))))) (gtSet 4))
    (gsSeq (gsAsg (gVarD 13) (gtSet 3))
    (gsAsg (gOp addP (gVarD 5) (gOp ixP (gLst (gaCons (gC (.int 2)) (gaCons (gC (.int 5)) gaNil))) (gCa intP1 (gaCons (gOp (eqP false) (gCa lenP (gaCons (gVarD 11) gaNil)) (gC (.int 2))) gaNil)))) (gtSet 5))))))))))))
    (gsSeq (gsIf (gtOr (gBool (gOp (eqP true) (gCall [false, true, true, true, true, true, true, true, true, true, true, true, true, true, true, true, true] [.d] (W_size_of 130) (gaCons (gVarD 4) gaNil)) (gVarD 5))) (gtOr (gtNot (gTru (gCall [false, true, true, true, true, true, true, true, true, true, true, true, true, true, true, true, true] [.d] W_is_closed (gaCons (gVarD 4) gaNil)))) (gtNot (gTru (gCall [false, true, true, true, true, true, true, true, true, true, true, true, true, true, true, true, true] [.d] (W_is_sparing 130) (gaCons (gVarD 4) gaNil)))))) (gsRet (gC (.bool false))) gsNx)
    (gsRet (gOp (eqP false) (gCall [false, true, true, true, true, true, true, true, true, true, true, true, true, true, true, true, true] [.d, .d] W_kind_of (gaCons (gLst gaNil) (gaCons (gVarD 4) gaNil))) (gCall [false, true, true, true, true, true, true, true, true, true, true, true, true, true, true, true, true] [.d] (W_kind_of_form 40) (gaCons (gVarD 3) gaNil)))))))))))))
noncomputable def W_law : GFn := fun γ avs K => match avs with
  | [.b a0] => (P_law a0).bind fun r => K r []
  | _ => .bad
theorem e_law (a0 : List D) : runG (g_law) (init0 17 [.b a0]) out0 = P_law a0 := by kernel_rfl
theorem rs_law : RS 7 [false, true, true, true, true, true, true, true, true, true, true, true, true, true, true, true, true] m_law (g_law) :=
    (rs_seq (rs_asgL 1 (re_ca listP_ok (ra_cons (RE.up (s' := 3) (re_sl (RE.up (s' := 3) (re_varB 0) rfl) ro_none (ro_some (RE.up (s' := 3) (re_c (.int 8)) rfl))) rfl) ra_nil)))
    (rs_seq (rs_asg (re_frz (re_call (ks := [.d, .d]) sp__law_names (ra_cons (re_frz (re_call (ks := [.l, .d]) sp__law_take (ra_cons (re_objV (s := 4) 1) (ra_cons (re_op mulP_ok (RE.up (s' := 3) (re_op powP_ok (RE.up (s' := 3) (re_c (.int 10)) rfl) (RE.up (s' := 3) (re_c (.int 64)) rfl)) rfl) (RE.up (s' := 3) (re_op powP_ok (RE.up (s' := 3) (re_c (.int 10)) rfl) (RE.up (s' := 3) (re_c (.int 64)) rfl)) rfl)) ra_nil)))) (ra_cons (re_c (.int 3)) ra_nil)))) (rg_set 2))
    (rs_seq (rs_asg (re_frz (re_call (ks := [.l, .d, .d]) (sp__law_form 40) (ra_cons (re_objV (s := 4) 1) (ra_cons (re_varD 2) (ra_cons (re_c (.int 3)) ra_nil))))) (rg_set 3))
    (rs_seq (rs_asg (re_tup (ra_cons (re_c (.str (Str.ofString "leaf"))) (ra_cons (re_c (.int 0)) (ra_cons (re_varD 3) ra_nil)))) (rg_set 4))
    (rs_seq (rs_asg (re_c (.int 1)) (rg_set 5))
    (rs_seq (rs_asg (re_frz (RE.up (s' := 2) (re_sl (RE.up (s' := 3) (re_varB 0) rfl) (ro_some (RE.up (s' := 3) (re_c (.int 2)) rfl)) (ro_some (RE.up (s' := 3) (re_c (.int 42)) rfl))) rfl)) (rg_set 6))
    (rs_seq (rs_if (rt_bool (RE.up (s' := 3) (re_op eqP_ok (RE.up (s' := 3) (re_op modP_ok (RE.up (s' := 3) (re_op ixP_ok (RE.up (s' := 3) (re_op addAP_ok (RE.up (s' := 3) (re_varB 0) rfl) (RE.up (s' := 3) (re_lst (ra_cons (re_c (.int 0)) ra_nil)) rfl)) rfl) (RE.up (s' := 3) (re_c (.int 0)) rfl)) rfl) (RE.up (s' := 3) (re_c (.int 8)) rfl)) rfl) (RE.up (s' := 3) (re_c (.int 5)) rfl)) rfl)) (rs_asg (re_frz (RE.up (s' := 2) (re_sl (RE.up (s' := 3) (re_op addAP_ok (RE.up (s' := 3) (re_varD 6) rfl) (RE.up (s' := 3) (re_call (ks := [.d, .d]) sp__law_spread (ra_cons (re_op divP_ok (RE.up (s' := 3) (re_op ixP_ok (RE.up (s' := 3) (re_varB 0) rfl) (RE.up (s' := 3) (re_c (.int 0)) rfl)) rfl) (RE.up (s' := 3) (re_c (.int 8)) rfl)) (ra_cons (re_c (.int 20)) ra_nil))) rfl)) rfl) ro_none (ro_some (RE.up (s' := 3) (re_ca maxP2_ok (ra_cons (RE.up (s' := 3) (re_c (.int 20)) rfl) (ra_cons (RE.up (s' := 3) (re_ca lenP_ok (ra_cons (RE.up (s' := 3) (re_varD 6) rfl) ra_nil)) rfl) ra_nil))) rfl))) rfl)) (rg_set 6)) rs_nx)
    (rs_seq (rs_for (ds := [(3, .d), (4, .d), (5, .d)]) (mb := [false, false, false, true, true, true, false, true, true, true, true, true, true, true, true, true, true]) (ri_enum (ra_cons (re_varD 6) ra_nil)) (rg_tup (rgs_cons (rg_set 7) (rgs_cons (rg_set 8) rgs_nil))) (rs_seq (rs_asg (re_op divP_ok (RE.up (s' := 3) (re_varD 8) rfl) (RE.up (s' := 3) (re_c (.int 6)) rfl)) (rg_set 9))
    (rs_seq (rs_asg (re_frz (re_callN (ks := [.d, .d]) (sp__law_form 40) (re_lst (ra_cons (re_op modP_ok (RE.up (s' := 3) (re_varD 9) rfl) (RE.up (s' := 3) (re_op powP_ok (RE.up (s' := 3) (re_c (.int 10)) rfl) (RE.up (s' := 3) (re_c (.int 6)) rfl)) rfl)) (ra_cons (re_op modP_ok (RE.up (s' := 3) (re_op divP_ok (RE.up (s' := 3) (re_varD 9) rfl) (RE.up (s' := 3) (re_op powP_ok (RE.up (s' := 3) (re_c (.int 10)) rfl) (RE.up (s' := 3) (re_c (.int 6)) rfl)) rfl)) rfl) (RE.up (s' := 3) (re_op powP_ok (RE.up (s' := 3) (re_c (.int 10)) rfl) (RE.up (s' := 3) (re_c (.int 6)) rfl)) rfl)) (ra_cons (re_op modP_ok (RE.up (s' := 3) (re_op divP_ok (RE.up (s' := 3) (re_varD 9) rfl) (RE.up (s' := 3) (re_op powP_ok (RE.up (s' := 3) (re_c (.int 10)) rfl) (RE.up (s' := 3) (re_c (.int 12)) rfl)) rfl)) rfl) (RE.up (s' := 3) (re_op powP_ok (RE.up (s' := 3) (re_c (.int 10)) rfl) (RE.up (s' := 3) (re_c (.int 6)) rfl)) rfl)) ra_nil)))) (ra_cons (re_varD 2) (ra_cons (re_c (.int 2)) ra_nil)) (pua_cons (pu_var 2) (pua_cons (pu_c _) pua_nil)))) (rg_set 10))
    (rs_seq (rs_asg (re_frz (re_call (ks := [.d, .d, .d]) sp__law_more (ra_cons (re_varD 3) (ra_cons (re_varD 10) (ra_cons (re_varD 8) ra_nil))))) (rg_tup (rgs_cons (rg_set 11) (rgs_cons (rg_set 12) (rgs_cons (rg_set 13) (rgs_cons (rg_set 14) rgs_nil))))))
    (rs_seq (rs_if (rt_or (rt_bool (RE.up (s' := 3) (re_op gtP_ok (RE.up (s' := 3) (re_call (ks := [.d]) (sp__law_size 40) (ra_cons (re_varD 12) ra_nil)) rfl) (RE.up (s' := 3) (re_c (.int 9)) rfl)) rfl)) (rt_bool (RE.up (s' := 3) (re_op gtP_ok (RE.up (s' := 3) (re_call (ks := [.d]) (sp__law_size 40) (ra_cons (re_varD 13) ra_nil)) rfl) (RE.up (s' := 3) (re_c (.int 9)) rfl)) rfl))) rs_ct rs_nx)
    (rs_seq (rs_asg (re_tup (ra_cons (re_c (.str (Str.ofString "leaf"))) (ra_cons (re_op addASP_ok (RE.up (s' := 3) (re_varD 7) rfl) (RE.up (s' := 3) (re_c (.int 1)) rfl)) (ra_cons (re_varD 12) ra_nil)))) (rg_set 15))
    (rs_seq (rs_asg (re_op ixP_ok (RE.up (s' := 3) (re_lst (ra_cons (re_tup (ra_cons (re_varD 3) (ra_cons (re_varD 12) (ra_cons (re_varD 4) (ra_cons (re_varD 15) ra_nil))))) (ra_cons (re_tup (ra_cons (re_varD 12) (ra_cons (re_varD 3) (ra_cons (re_varD 15) (ra_cons (re_varD 4) ra_nil))))) ra_nil))) rfl) (RE.up (s' := 3) (re_ca intP1_ok (ra_cons (RE.up (s' := 3) (re_varD 14) rfl) ra_nil)) rfl)) (rg_set 16))
    (rs_seq (rs_if (rt_bool (RE.up (s' := 3) (re_op eqP_ok (RE.up (s' := 3) (re_call (ks := [.d, .d]) sp_made (ra_cons (re_op ixP_ok (RE.up (s' := 3) (re_varD 16) rfl) (RE.up (s' := 3) (re_c (.int 0)) rfl)) (ra_cons (re_op ixP_ok (RE.up (s' := 3) (re_varD 16) rfl) (RE.up (s' := 3) (re_c (.int 1)) rfl)) ra_nil))) rfl) (RE.up (s' := 3) (re_tup (ra_cons (re_varD 11) (ra_cons (re_varD 13) ra_nil))) rfl)) rfl)) (rs_ret (RE.up (s' := 7) (re_c (.bool false)) rfl)) rs_nx)
    (rs_seq (rs_asg (re_frz (re_call (ks := [.d, .d, .d, .d, .d]) sp_meant (ra_cons (re_varD 11) (ra_cons (re_op ixP_ok (RE.up (s' := 3) (re_varD 16) rfl) (RE.up (s' := 3) (re_c (.int 0)) rfl)) (ra_cons (re_op ixP_ok (RE.up (s' := 3) (re_varD 16) rfl) (RE.up (s' := 3) (re_c (.int 1)) rfl)) (ra_cons (re_op ixP_ok (RE.up (s' := 3) (re_varD 16) rfl) (RE.up (s' := 3) (re_c (.int 2)) rfl)) (ra_cons (re_op ixP_ok (RE.up (s' := 3) (re_varD 16) rfl) (RE.up (s' := 3) (re_c (.int 3)) rfl)) ra_nil))))))) (rg_set 4))
    (rs_seq (rs_asg (re_varD 13) (rg_set 3))
    (rs_asg (re_frz (RE.up (s' := 2) (re_op addAP_ok (RE.up (s' := 3) (re_varD 5) rfl) (RE.up (s' := 3) (re_op ixP_ok (RE.up (s' := 3) (re_lst (ra_cons (re_c (.int 2)) (ra_cons (re_c (.int 5)) ra_nil))) rfl) (RE.up (s' := 3) (re_ca intP1_ok (ra_cons (RE.up (s' := 3) (re_op eqP_ok (RE.up (s' := 3) (re_ca lenP_ok (ra_cons (RE.up (s' := 3) (re_varD 11) rfl) ra_nil)) rfl) (RE.up (s' := 3) (re_c (.int 2)) rfl)) rfl) ra_nil)) rfl)) rfl)) rfl)) (rg_set 5))))))))))))
    (rs_seq (rs_if (rt_or (rt_bool (RE.up (s' := 3) (re_op eqP_ok (RE.up (s' := 3) (re_call (ks := [.d]) (sp_size_of 130) (ra_cons (re_varD 4) ra_nil)) rfl) (RE.up (s' := 3) (re_varD 5) rfl)) rfl)) (rt_or (rt_not (rt_tru (RE.up (s' := 3) (re_call (ks := [.d]) sp_is_closed (ra_cons (re_varD 4) ra_nil)) rfl))) (rt_not (rt_tru (RE.up (s' := 3) (re_call (ks := [.d]) (sp_is_sparing 130) (ra_cons (re_varD 4) ra_nil)) rfl))))) (rs_ret (RE.up (s' := 7) (re_c (.bool false)) rfl)) rs_nx)
    (rs_ret (RE.up (s' := 7) (re_op eqP_ok (RE.up (s' := 3) (re_call (ks := [.d, .d]) sp_kind_of (ra_cons (re_frz (RE.up (s' := 2) (re_lst ra_nil) rfl)) (ra_cons (re_varD 4) ra_nil))) rfl) (RE.up (s' := 3) (re_call (ks := [.d]) (sp_kind_of_form 40) (ra_cons (re_varD 3) ra_nil)) rfl)) rfl)))))))))))
theorem sp_law : SpG F_law 2 W_law := by
  intro γ m ws avs J K hcl hA hn hd nb
  unfold W_law at nb ⊢
  split at nb
  · rename_i a0
    exact sp_fin (N := 17) (res := id) (us := fun _ => []) rs_law rfl hcl hA hn hd (e_law a0) (out0_ok rfl) nb
  · exact absurd rfl nb
theorem law_true (hP : ∀ ns : List Int, ns.length ≤ 63 → P_law (ns.map .int) = .ok (.bool true)) : ∀ ns : List Int, ns.length ≤ 63 → ∃ m, F_law [.ro (ns.map .int)] [] = .ok (.d (.bool true)) m :=
  law_of sp_law (fun _ => rfl) hP
end K32

set_option Elab.async false
set_option linter.all false
set_option maxRecDepth 100000
set_option maxHeartbeats 1000000
namespace K32
open PySem L2 M
def isC (c : Nat) : Bool := decide (97 ≤ c) && decide (c ≤ 122)
structure isW (w : List Nat) : Prop where
  lo : 1 ≤ w.length
  hi : w.length ≤ 8
  ab : ∀ c ∈ w, 97 ≤ c ∧ c ≤ 122
def abc : List Nat := (List.range 26).map (· + 97)
theorem abc_eq : Str.ofString "abcdefghijklmnopqrstuvwxyz" = S abc := by decide +kernel
theorem abc_len : abc.length = 26 := rfl
theorem abc_get {k : Nat} (h : k < 26) : abc[k]? = some (k + 97) := by
  unfold abc
  rw [List.getElem?_map, List.getElem?_range h]
  rfl
theorem ab_at {i : Int} (h0 : 0 ≤ i) (h1 : i < 26) : L2.atI abc i = some (i.toNat + 97) := by
  rw [atI_of h0]
  exact abc_get (by omega)
theorem okC_ab {w : List Nat} (h : ∀ c ∈ w, 97 ≤ c ∧ c ≤ 122) : okC w = true := by
  unfold okC
  rw [List.all_eq_true]
  intro c hc
  have := h c hc
  exact decide_eq_true (by omega)
theorem nil_eq : Str.ofString "" = S [] := by decide +kernel
def sts (ws : List (List Nat)) : List D := ws.map fun w => .str (S w)
theorem pigeon {α : Type} [DecidableEq α] (f : Nat → α) : ∀ (l : List α) (s : List Nat), s.Nodup → (∀ i ∈ s, ∀ j ∈ s, f i = f j → i = j) → l.length < s.length → ∃ j ∈ s, f j ∉ l
  | [], s, _, _, h => by
    cases s with
    | nil => simp at h
    | cons a r => exact ⟨a, List.mem_cons_self, by simp⟩
  | a :: t, s, nd, inj, h => by
    by_cases ha : ∃ j ∈ s, f j = a
    · obtain ⟨j, hj, e⟩ := ha
      obtain ⟨k, hk, hn⟩ := pigeon f t (s.erase j) (nd.erase j) (fun x hx y hy => inj x (List.mem_of_mem_erase hx) y (List.mem_of_mem_erase hy)) (by
        rw [List.length_erase_of_mem hj]
        simp at h
        omega)
      have hks := List.mem_of_mem_erase hk
      refine ⟨k, hks, fun z => ?_⟩
      rcases List.mem_cons.mp z with z | z
      · have : k = j := inj k hks j hj (z.trans e.symm)
        subst this
        exact (List.Nodup.not_mem_erase nd) hk
      · exact hn z
    · obtain ⟨k, hk, hn⟩ := pigeon f t s nd inj (by simp at h; omega)
      refine ⟨k, hk, fun z => ?_⟩
      rcases List.mem_cons.mp z with z | z
      · exact ha ⟨k, hk, z⟩
      · exact hn z
theorem canLayAll0_sts : ∀ {ws : List (List Nat)}, (∀ w ∈ ws, okC w = true) → PyData.canLayAll0 (sts ws) = true
  | [], _ => by simp [sts, PyData.canLayAll0]
  | w :: ws, h => by
    have := canLayAll0_sts (ws := ws) fun u hu => h u (List.mem_cons_of_mem _ hu)
    unfold sts at this
    simp [sts, PyData.canLayAll0, PyData.canLay0, strOk_S, h w List.mem_cons_self, this]
theorem depthAll_sts : ∀ ws : List (List Nat), PyData.depthAll (sts ws) = 0
  | [] => by simp [sts, PyData.depthAll]
  | w :: ws => by
    have := depthAll_sts ws
    unfold sts at this
    simp [sts, PyData.depthAll, PyData.depth, this]
theorem shaped_sts {ws : List (List Nat)} (h : ∀ w ∈ ws, okC w = true) : SeqAt.shaped (.list (sts ws)) = true := by
  show ((PyData.list (sts ws)).canLay0 && decide ((PyData.list (sts ws)).depth ≤ 64)) = _
  simp [PyData.canLay0, PyData.depth, canLayAll0_sts h, depthAll_sts]
theorem any_sts (w : List Nat) (ws : List (List Nat)) : ((sts ws).any fun z => PyData.eqv z (.str (S w))) = decide (w ∈ ws) := by
  rw [Bool.eq_iff_iff, List.any_eq_true]
  unfold sts
  constructor
  · rintro ⟨x, hx, e⟩
    obtain ⟨u, hu, rfl⟩ := List.mem_map.mp hx
    have e : u = w := by simpa using e
    rw [← e]
    exact decide_eq_true hu
  · intro h
    exact ⟨_, List.mem_map.mpr ⟨w, of_decide_eq_true h, rfl⟩, by simp⟩
theorem inW_sts {m : Mem} {x : W} {w : List Nat} {ws : List (List Nat)} {neg : Bool} (h : asL x m = some (sts ws)) (hx : ∀ y, x ≠ .d y) (hw : okC w = true) (hs : ∀ w ∈ ws, okC w = true) : inW neg (.d (.str (S w))) x m = .ok (.d (.bool (ngB neg (decide (w ∈ ws))))) m := by
  have go : ∀ x : W, (∀ y, x ≠ .d y) → inW neg (.d (.str (S w))) x m = match asD (.d (.str (S w))) m, asL x m with
      | some a, some ds => if (SeqAt.shaped a && SeqAt.shaped (.list ds)) = true then .ok (.d (.bool (ngB neg (ds.any fun z => PyData.eqv z a)))) m else .bad
      | _, _ => .bad := fun x hx => by
    cases x with
    | d y => exact absurd rfl (hx y)
    | _ => rfl
  rw [go x hx, h]
  simp only [asD, shaped_str, hw, shaped_sts hs, Bool.and_self, if_true, any_sts]
theorem isW.okC {w : List Nat} (h : isW w) : okC w = true := okC_ab h.ab
theorem isW.last {w : List Nat} (h : isW w) : ∃ p c, w = p ++ [c] := by
  have : w ≠ [] := fun e => by have := h.lo; rw [e] at this; simp at this
  exact ⟨w.dropLast, w.getLast this, (List.dropLast_concat_getLast this).symm⟩

/-! ### words from the deck -/
def spell : Nat → Nat → List Nat
  | 0, _ => []
  | k + 1, n => (97 + n % 26) :: spell k (n / 26)
theorem spell_len : ∀ k n, (spell k n).length = k
  | 0, _ => rfl
  | k + 1, n => by rw [spell, List.length_cons, spell_len k]
theorem spell_ab : ∀ k n, ∀ c ∈ spell k n, 97 ≤ c ∧ c ≤ 122
  | 0, _, c, h => nomatch h
  | k + 1, n, c, h => by
    rcases List.mem_cons.mp h with rfl | h
    · omega
    · exact spell_ab k _ c h
theorem spell_inj : ∀ k n n', spell k n = spell k n' → n % 26 ^ k = n' % 26 ^ k
  | 0, n, n', _ => by rw [Nat.pow_zero, Nat.mod_one, Nat.mod_one]
  | k + 1, n, n', h => by
    have h1 := (List.cons.inj h).1
    have h2 := spell_inj k _ _ (List.cons.inj h).2
    have e : ∀ n : Nat, n % 26 ^ (k + 1) = n % 26 + 26 * (n / 26 % 26 ^ k) := fun n => by
      rw [Nat.pow_succ, Nat.mul_comm, Nat.mod_mul]
    rw [e, e, h2]
    omega
theorem isW_spell {k n : Nat} (h : 1 ≤ k) (h' : k ≤ 8) : isW (spell k n) := ⟨by rw [spell_len]; exact h, by rw [spell_len]; exact h', spell_ab k n⟩
def anyL : List Nat := [97, 110, 121]
theorem okC_any : okC anyL = true := by decide
/-- a word that is free comes -/
theorem word_free (n s : Nat) (h1 : 1 ≤ s) (h8 : s ≤ 8) (ws : List (List Nat)) (hl : ws.length ≤ 100) : ∃ J, 1 ≤ J ∧ J ≤ 900 ∧ spell ((s - 1 + J) % 8 + 1) (n + J) ∉ ws ∧ spell ((s - 1 + J) % 8 + 1) (n + J) ≠ anyL := by
  obtain ⟨i8, hi1, hi2, hi3⟩ : ∃ i8, 1 ≤ i8 ∧ i8 ≤ 8 ∧ (s - 1 + i8) % 8 = 7 := by
    by_cases h : s = 8
    · exact ⟨8, by omega, by omega, by omega⟩
    · exact ⟨8 - s, by omega, by omega, by omega⟩
  have e : ∀ j, (s - 1 + (i8 + 8 * j)) % 8 + 1 = 8 := fun j => by omega
  obtain ⟨j, hj, hn⟩ := pigeon (fun j => spell 8 (n + (i8 + 8 * j))) ws (List.range (ws.length + 1)) List.nodup_range (fun i hi j hj h => by
    have h := spell_inj 8 _ _ h
    have hi := List.mem_range.mp hi
    have hj := List.mem_range.mp hj
    have : (26 : Nat) ^ 8 = 208827064576 := by decide
    rw [this] at h
    omega) (by simp)
  have hj := List.mem_range.mp hj
  refine ⟨i8 + 8 * j, by omega, by omega, by rw [e]; exact hn, fun z => ?_⟩
  have := congrArg List.length z
  rw [e, spell_len] at this
  cases this

/-! ### names, as the laws of books draw them -/
theorem ix_ab {i : Int} (h0 : 0 ≤ i) (h1 : i < 26) : ixP (.str (S abc)) (.int i) = .ok (.str (S [i.toNat + 97])) :=
  ixP_str (by rw [abc_len, sizeLine_eq]; decide) (ab_at h0 h1)
theorem inP_sts {w : List Nat} {ws : List (List Nat)} (h : okC w = true) (hw : ∀ w ∈ ws, okC w = true) : inP false (.str (S w)) (.list (sts ws)) = .ok (.bool (decide (w ∈ ws))) := by
  rw [inP_list (by rw [shaped_str, h, shaped_sts hw]; rfl), ngB_f, any_sts]
theorem sts_snoc (ws : List (List Nat)) (w : List Nat) : sts ws ++ [.str (S w)] = sts (ws ++ [w]) := by simp [sts]
theorem sts_len (ws : List (List Nat)) : (sts ws).length = ws.length := by simp [sts]
def lts (w : List Nat) : List D := w.map fun c => .str (S [c])
theorem lts_len (w : List Nat) : (lts w).length = w.length := by simp [lts]
theorem lts_sts (w : List Nat) : lts w = sts (w.map fun c => [c]) := by simp [lts, sts]
theorem join_lts {w : List Nat} (h : w.length ≤ 1000) : joinP (S []) [.list (lts w)] = .ok (.str (S w)) := by
  have hf : ∀ w : List Nat, (w.map fun c => [c]).flatten = w := by
    intro w
    induction w with
    | nil => rfl
    | cons c w ih => rw [List.map_cons, List.flatten_cons, ih]; rfl
  have := joinP_nil (ls := w.map fun c => [c]) (by rw [hf]; omega)
  rw [hf, List.map_map] at this
  exact this
theorem eqvAll_sts : ∀ ws vs : List (List Nat), PyData.eqvAll (sts ws) (sts vs) = decide (ws = vs)
  | [], [] => by simp [sts, PyData.eqvAll]
  | [], v :: vs => by simp [sts, PyData.eqvAll]
  | w :: ws, [] => by simp [sts, PyData.eqvAll]
  | w :: ws, v :: vs => by
    have ih := eqvAll_sts ws vs
    have e1 : sts (w :: ws) = .str (S w) :: sts ws := rfl
    have e2 : sts (v :: vs) = .str (S v) :: sts vs := rfl
    rw [e1, e2, PyData.eqvAll, ih, eqv_str, S_beq]
    simp [Bool.decide_and]
theorem eqP_sts {n : Bool} {ws vs : List (List Nat)} (h : ∀ w ∈ ws, okC w = true) (h' : ∀ w ∈ vs, okC w = true) : eqP n (.list (sts ws)) (.list (sts vs)) = .ok (.bool (ngB n (decide (ws = vs)))) := by
  unfold eqP
  rw [shaped_sts h, shaped_sts h']
  have : PyData.eqv (.list (sts ws)) (.list (sts vs)) = decide (ws = vs) := by rw [PyData.eqv, eqvAll_sts]
  rw [this]
  cases n <;> rfl
theorem eq_any {v : List Nat} (h : ∀ c ∈ v, 97 ≤ c ∧ c ≤ 122) : eqP false (.list (lts v)) (.list [.str (S [97]), .str (S [110]), .str (S [121])]) = .ok (.bool (decide (v = anyL))) := by
  have e : ([.str (S [97]), .str (S [110]), .str (S [121])] : List D) = sts ([97, 110, 121].map fun c => [c]) := rfl
  rw [lts_sts, e, eqP_sts (fun w hw => by
    obtain ⟨c, hc, rfl⟩ := List.mem_map.mp hw
    exact okC_ab fun d hd => by rw [List.mem_singleton.mp hd]; exact h c hc) (by decide)]
  have : (v.map (fun c => [c]) = [97, 110, 121].map fun c => [c]) ↔ v = anyL := by
    constructor
    · intro z
      exact List.map_inj_right (fun a b q => by simpa using q) |>.mp z
    · intro z; rw [z]; rfl
  simp only [ngB_f, this]
/-- the next try -/
def nxw (w : List Nat) : List Nat := if w = anyL then [121, 110, 97] else match w with
  | [] => []
  | c :: p => (97 + (c - 97 + 1) % 26) :: p
def sq : Nat → List Nat → List Nat
  | 0, w => w
  | j + 1, w => sq j (nxw w)
theorem sq_succ : ∀ (j : Nat) (w : List Nat), sq (j + 1) w = nxw (sq j w)
  | 0, w => rfl
  | j + 1, w => sq_succ j (nxw w)
theorem sq_add : ∀ (i j : Nat) (w : List Nat), sq (i + j) w = sq j (sq i w)
  | 0, j, w => by rw [Nat.zero_add]; rfl
  | i + 1, j, w => by rw [show i + 1 + j = (i + j) + 1 by omega]; exact sq_add i j (nxw w)
theorem isW_nxw {w : List Nat} (h : isW w) : isW (nxw w) := by
  unfold nxw
  split
  · exact ⟨by decide, by decide, by decide⟩
  · cases w with
    | nil => have := h.lo; simp at this
    | cons c p =>
      refine ⟨by simp, h.hi, fun d hd => ?_⟩
      rcases List.mem_cons.mp hd with rfl | hd
      · omega
      · exact h.ab d (List.mem_cons_of_mem _ hd)
theorem isW_sq : ∀ (j : Nat) {w : List Nat}, isW w → isW (sq j w)
  | 0, _, h => h
  | j + 1, _, h => isW_sq j (isW_nxw h)
def fam (c : Nat) (p : List Nat) (j : Nat) : List Nat := (97 + (c - 97 + j) % 26) :: p
theorem nxw_fam {c : Nat} {p : List Nat} {j : Nat} (h : fam c p j ≠ anyL) : nxw (fam c p j) = fam c p (j + 1) := by
  unfold nxw
  rw [if_neg h]
  unfold fam
  simp only
  congr 1
  omega
theorem sq_fam {c : Nat} {p : List Nat} (hc : 97 ≤ c ∧ c ≤ 122) : ∀ j, (∀ i, i < j → fam c p i ≠ anyL) → sq j (c :: p) = fam c p j
  | 0, _ => by
    show c :: p = _
    unfold fam
    congr 1
    omega
  | j + 1, h => by rw [sq_succ, sq_fam hc j fun i hi => h i (by omega), nxw_fam (h j (by omega))]
theorem free1 {c : Nat} {p : List Nat} {found : List (List Nat)} (hc : 97 ≤ c ∧ c ≤ 122) (hp : p ≠ [110, 121]) (hl : found.length < 26) : ∃ J, J < 26 ∧ sq J (c :: p) ∉ found ∧ sq J (c :: p) ≠ anyL := by
  have ne : ∀ i, fam c p i ≠ anyL := fun i h => by
    unfold fam anyL at h
    exact hp (List.cons.inj h).2
  obtain ⟨j, hj, hn⟩ := pigeon (fam c p) found (List.range 26) List.nodup_range (fun i hi j hj e => by
    have hi := List.mem_range.mp hi
    have hj := List.mem_range.mp hj
    unfold fam at e
    have := (List.cons.inj e).1
    omega) (by simpa using hl)
  refine ⟨j, List.mem_range.mp hj, ?_⟩
  rw [sq_fam hc j fun i _ => ne i]
  exact ⟨hn, ne j⟩
theorem freeJ {w : List Nat} (h : isW w) {found : List (List Nat)} (hl : found.length < 26) : ∃ J, J ≤ 60 ∧ sq J w ∉ found ∧ sq J w ≠ anyL := by
  cases w with
  | nil => have := h.lo; simp at this
  | cons c p =>
    have hc := h.ab c List.mem_cons_self
    by_cases hp : p = [110, 121]
    · subst hp
      have hk : ∃ k0, k0 ≤ 26 ∧ (∀ i, i < k0 → fam c [110, 121] i ≠ anyL) ∧ fam c [110, 121] k0 = anyL := by
        refine ⟨(123 - c) % 26, by omega, fun i hi z => ?_, ?_⟩
        · unfold fam anyL at z
          have := (List.cons.inj z).1
          omega
        · unfold fam anyL
          congr 1
          omega
      obtain ⟨k0, k1, k2, k3⟩ := hk
      have e1 : sq (k0 + 1) (c :: [110, 121]) = [121, 110, 97] := by
        rw [sq_succ, sq_fam hc k0 k2, k3]
        rfl
      obtain ⟨J, j1, j2, j3⟩ := free1 (c := 121) (p := [110, 97]) (found := found) (by decide) (by decide) hl
      refine ⟨k0 + 1 + J, by omega, ?_⟩
      rw [sq_add, e1]
      exact ⟨j2, j3⟩
    · obtain ⟨J, j1, j2⟩ := free1 hc hp hl
      exact ⟨J, by omega, j2⟩
theorem lett_ix {c : Nat} (hc : 97 ≤ c ∧ c ≤ 122) : sindexP (S abc) [.str (S [c])] = .ok (.int ((c - 97 : Nat) : Int)) := by
  obtain ⟨q, rfl⟩ : ∃ q, c = q + 97 := ⟨c - 97, by omega⟩
  rw [show q + 97 - 97 = q by omega]
  exact sindexP_one (by rw [abc_get (by omega)]) (fun k hk => by rw [abc_get (by omega)]; simp; omega)
theorem lett_nx {c k : Nat} : ixP (.str (S abc)) (.int ((((c - 97 : Nat) : Int) + (k : Int)) % 26)) = .ok (.str (S [97 + (c - 97 + k) % 26])) := by
  rw [ix_ab (by omega) (by omega)]
  congr 4
  omega
theorem ix_lts {v : List Nat} {i c : Nat} (h : v[i]? = some c) : ixP (.list (lts v)) (.int (i : Int)) = .ok (.str (S [c])) := by
  refine ixP_list ?_
  rw [atI_cast]
  unfold lts
  rw [List.getElem?_map, h]
  rfl
theorem pix_at {γ : Type} {xs : List D} {i : Nat} (h : i < xs.length) (k : Nat → PR γ) : pix xs (i : Int) k = k i := by
  have : ixN xs.length (i : Int) = some i := by
    unfold ixN
    simp
    omega
  unfold pix
  rw [this]
theorem set_lts (v : List Nat) (i c : Nat) : (lts v).set i (.str (S [c])) = lts (v.set i c) := by
  unfold lts
  rw [List.map_set]
theorem J6_ok {v : List Nat} (hv : isW v) (kn kb : List D × Unit → PR D) : J6__law_names kn kb (.str (S abc)) (lts v) true = kn (lts (nxw v), ()) := by
  unfold J6__law_names
  simp only [if_true, lt0, lt1, lt2, lt3, lt4, lt5, lt6, lt7, lt8, lt9, lt10, lt11, lt15, lt16, lt17, lt18, eq_any hv.ab, PR.bind_ok, ptb_bool]
  by_cases h : v = anyL
  · simp only [h, decide_true, if_true, nxw]
    rfl
  · cases v with
    | nil => have := hv.lo; simp at this
    | cons c p =>
      have hc := hv.ab c List.mem_cons_self
      have e0 : ixP (.list (lts (c :: p))) (.int 0) = .ok (.str (S [c])) := ix_lts (i := 0) rfl
      have e1 := lett_nx (c := c) (k := 1)
      rw [show ((1 : Nat) : Int) = 1 from rfl] at e1
      have e2 : ∀ k : Nat → PR D, pix (lts (c :: p)) 0 k = k 0 := fun k => pix_at (i := 0) (by simp [lts]) k
      simp only [h, decide_false, Bool.false_eq_true, if_false, pts_str, e0, PR.bind_ok, lett_ix hc, addSP_int, modP_s (show (0 : Int) < 26 by decide), e1, pti_int, e2, set_lts]
      unfold nxw
      rw [if_neg h]
      rfl
theorem nm_loop {w : List Nat} (hw : isW w) {found : List (List Nat)} (hf : ∀ w ∈ found, isW w) (hl : found.length < 26) : ∃ v, isW v ∧ v ∉ found ∧ v ≠ anyL ∧ ∀ k : List D × Unit → PR D, whileK (S5__law_names (.str (S abc)) (sts found)) fuelW (lts w, ()) k = k (lts v, ()) := by
  obtain ⟨J, hJ60, hJ1, hJ2⟩ := freeJ hw hl
  have okf : ∀ w ∈ found, okC w = true := fun w hw => (hf w hw).okC
  obtain ⟨s', ⟨v, h1, h2, h3, rfl⟩, h4⟩ := whileK_invU (γ := D) (step := S5__law_names (.str (S abc)) (sts found)) (n := fuelW) (m := J) (s := (lts w, ()))
    (fun m t => ∃ j, j + m = J ∧ t = (lts (sq j w), ()))
    (fun t => ∃ v, isW v ∧ v ∉ found ∧ v ≠ anyL ∧ t = (lts v, ()))
    (fun m t ht => by
      obtain ⟨j, hj, rfl⟩ := ht
      have hv := isW_sq j hw
      have hhi := hv.hi
      have hin := inP_sts hv.okC okf
      have hjn := join_lts (w := sq j w) (by omega)
      have next : (sq j w ∈ found ∨ sq j w = anyL) → ∃ m' s', m' < m ∧ (∃ j, j + m' = J ∧ s' = (lts (sq j w), ())) ∧ (lts (nxw (sq j w)), ()) = s' := fun hz => by
        have hm : 0 < m := by
          rcases Nat.eq_zero_or_pos m with z | z
          · exfalso
            have : j = J := by omega
            subst this
            exact hz.elim hJ1 hJ2
          · exact z
        exact ⟨m - 1, _, by omega, ⟨j + 1, by omega, rfl⟩, by rw [sq_succ]⟩
      by_cases h : sq j w ∈ found
      · obtain ⟨m', s', a, b, rfl⟩ := next (.inl h)
        refine .inr ⟨m', _, a, b, fun kn kb => ?_⟩
        simp only [S5__law_names, lt0, lt1, lt2, lt3, lt4, lt5, lt6, lt7, lt8, lt9, lt10, lt11, lt15, lt16, lt17, lt18, pts_str, hjn, PR.bind_ok, hin, h, decide_true, ptb_bool, if_true, J6_ok hv]
      · by_cases h' : sq j w = anyL
        · obtain ⟨m', s', a, b, rfl⟩ := next (.inr h')
          refine .inr ⟨m', _, a, b, fun kn kb => ?_⟩
          simp only [S5__law_names, lt0, lt1, lt2, lt3, lt4, lt5, lt6, lt7, lt8, lt9, lt10, lt11, lt15, lt16, lt17, lt18, pts_str, hjn, PR.bind_ok, hin, h, decide_false, ptb_bool, Bool.false_eq_true, if_false, eq_any hv.ab]
          simp only [h', decide_true]
          rw [h'] at hv
          exact J6_ok hv kn kb
        · refine .inl ⟨_, ⟨_, hv, h, h', rfl⟩, fun kn kb => ?_⟩
          simp only [S5__law_names, lt0, lt1, lt2, lt3, lt4, lt5, lt6, lt7, lt8, lt9, lt10, lt11, lt15, lt16, lt17, lt18, pts_str, hjn, PR.bind_ok, hin, h, decide_false, ptb_bool, Bool.false_eq_true, if_false, eq_any hv.ab, h', J6__law_names])
    ⟨0, by omega, rfl⟩ (by rw [fuelW_eq]; omega)
  exact ⟨v, h1, h2, h3, h4⟩
theorem nm_word (o : Int) (n : Nat) (hn : n ≤ 100) : ∃ (w : List Nat) (o' : Int), w.length = n ∧ (∀ c ∈ w, 97 ≤ c ∧ c ≤ 122) ∧ ∀ k : D × List D × Unit → PR D, foldK (S3__law_names (.str (S abc))) ((List.range n).map fun (k : Nat) => PyData.int (k : Int)) (.int o, [], ()) k = k (.int o', lts w, ()) := by
  obtain ⟨s', ⟨w, o', rfl, h1, h2⟩, h3⟩ := foldK_invU (γ := D) (step := S3__law_names (.str (S abc))) (xs := (List.range n).map fun (k : Nat) => PyData.int (k : Int)) (i := 0) (s := (.int o, [], ()))
    (fun i s => ∃ (w : List Nat) (o' : Int), s = (.int o', lts w, ()) ∧ w.length = i ∧ ∀ c ∈ w, 97 ≤ c ∧ c ≤ 122)
    (fun m x s hx => by
      rintro ⟨w, o', rfl, hl, hc⟩
      have hm : m < n := by
        have := (List.getElem?_eq_some_iff.mp hx).1
        simpa using this
      have q0 := Int.emod_nonneg o' (show (26 : Int) ≠ 0 by decide)
      have q1 := Int.emod_lt_of_pos o' (show (0 : Int) < 26 by decide)
      refine ⟨(.int (o' / 26), lts (w ++ [(o' % 26).toNat + 97]), ()), ⟨_, _, rfl, by rw [List.length_append, List.length_singleton, hl], fun c hc' => ?_⟩, fun kn kb => ?_⟩
      · rcases List.mem_append.mp hc' with h | h
        · exact hc c h
        · rw [List.mem_singleton.mp h]; omega
      · have e : lts w ++ [.str (S [(o' % 26).toNat + 97])] = lts (w ++ [(o' % 26).toNat + 97]) := by simp [lts]
        simp only [S3__law_names, modP_s (show (0 : Int) < 26 by decide), PR.bind_ok, ix_ab q0 q1, appendP_s _ (show (lts w).length < sizeLine by rw [sizeLine_eq, lts_len]; omega), divP_s (show (0 : Int) < 26 by decide) (by decide), e])
    ⟨[], o, rfl, rfl, fun c hc => by cases hc⟩
  exact ⟨w, o', by simpa using h1, h2, h3⟩
theorem nm_fin {w : List Nat} (hw : isW w) {found : List (List Nat)} (hf : ∀ w ∈ found, isW w) (hl : found.length < 26) : ∃ v, isW v ∧ v ∉ found ∧ v ≠ anyL ∧ ∀ (nb : D) (kn : D × List D × Unit → PR D), J4__law_names fuelW kn (.str (S abc)) nb (sts found) (lts w) = kn (nb, sts (found ++ [v]), ()) := by
  obtain ⟨v, v1, v2, v3, v4⟩ := nm_loop hw hf hl
  have hhi := v1.hi
  refine ⟨v, v1, v2, v3, fun nb kn => ?_⟩
  unfold J4__law_names
  rw [v4]
  simp only [lt0, lt1, lt2, lt3, lt4, lt5, lt6, lt7, lt8, lt9, lt10, lt11, lt15, lt16, lt17, lt18, pts_str, join_lts (w := v) (by omega), PR.bind_ok, appendP_s _ (show (sts found).length < sizeLine by rw [sizeLine_eq, sts_len]; omega), sts_snoc]
theorem P_names (c : Int) (n : Nat) (hn : n ≤ 25) : ∃ ws, ws.length = n ∧ (∀ w ∈ ws, isW w) ∧ anyL ∉ ws ∧ ws.Nodup ∧ P__law_names (.int c) (.int (n : Int)) = .ok (.list (sts ws)) := by
  show ∃ ws, ws.length = n ∧ (∀ w ∈ ws, isW w) ∧ anyL ∉ ws ∧ ws.Nodup ∧ PF__law_names fuelW (.int c) (.int (n : Int)) = .ok (.list (sts ws))
  obtain ⟨sz, hsz⟩ : ∃ sz : Nat, 1 + c / 2 % 8 = (sz : Int) := ⟨(1 + c / 2 % 8).toNat, by omega⟩
  have hs8 : 1 ≤ sz ∧ sz ≤ 8 := by omega
  obtain ⟨a, ha⟩ : ∃ a : Nat, c / 16 % (sz : Int) = (a : Int) := ⟨(c / 16 % (sz : Int)).toNat, by
    have := Int.emod_nonneg (c / 16) (show (sz : Int) ≠ 0 by omega)
    omega⟩
  have ha8 : a < sz := by
    have := Int.emod_lt_of_pos (c / 16) (show 0 < (sz : Int) by omega)
    omega
  obtain ⟨s', ⟨nb, ws, rfl, h1, h2, h3, h4⟩, h5⟩ := foldK_inv (step := S1__law_names fuelW (.str (S abc)) (.bool (decide (c % 2 = 0))) (.int (sz : Int)) (.int (a : Int))) (xs := (List.range n).map fun (k : Nat) => PyData.int (k : Int)) (i := 0) (s := (.int (c / 128), sts [], ())) (k := fun s123 => .ok (.list s123.2.1))
    (fun i s => ∃ (nb : Int) (ws : List (List Nat)), s = (.int nb, sts ws, ()) ∧ ws.length = i ∧ (∀ w ∈ ws, isW w) ∧ anyL ∉ ws ∧ ws.Nodup)
    (fun m x s hx => by
      rintro ⟨nb, ws, rfl, hl, hw, hA, hN⟩
      have hm : m < n := by
        have := (List.getElem?_eq_some_iff.mp hx).1
        simpa using this
      have hx2 : x = .int (m : Int) := by
        rw [List.getElem?_map, List.getElem?_range hm] at hx
        simpa using hx.symm
      subst hx2
      have hl26 : ws.length < 26 := by omega
      have done : ∀ (nb' : Int) (v : List Nat), isW v → v ∉ ws → v ≠ anyL → ∃ (nb2 : Int) (ws2 : List (List Nat)), ((.int nb', sts (ws ++ [v]), ()) : D × List D × Unit) = (.int nb2, sts ws2, ()) ∧ ws2.length = 0 + m + 1 ∧ (∀ w ∈ ws2, isW w) ∧ anyL ∉ ws2 ∧ ws2.Nodup := fun nb' v v1 v2 v3 => by
        refine ⟨nb', ws ++ [v], rfl, by rw [List.length_append, List.length_singleton]; omega, fun w hw' => ?_, fun z => ?_, ?_⟩
        · rcases List.mem_append.mp hw' with h | h
          · exact hw w h
          · rw [List.mem_singleton.mp h]; exact v1
        · rcases List.mem_append.mp z with h | h
          · exact hA h
          · exact v3 (List.mem_singleton.mp h).symm
        · rw [List.nodup_append]
          exact ⟨hN, by simp, fun x hx y hy e => by rw [List.mem_singleton.mp hy] at e; subst e; exact v2 hx⟩
      by_cases hal : c % 2 = 0
      · obtain ⟨w, o', w1, w2, w3⟩ := nm_word nb sz (by omega)
        obtain ⟨d, hd⟩ : ∃ d, w[a]? = some d := ⟨w[a]'(by omega), List.getElem?_eq_getElem (by omega)⟩
        have hdc := w2 d (List.mem_of_getElem? hd)
        have hw1 : isW (w.set a (97 + (d - 97 + m) % 26)) := ⟨by rw [List.length_set]; omega, by rw [List.length_set]; omega, fun e he => by
          rcases List.mem_or_eq_of_mem_set he with h | h
          · exact w2 e h
          · omega⟩
        obtain ⟨v, v1, v2, v3, v4⟩ := nm_fin hw1 hw hl26
        refine ⟨_, done nb v v1 v2 v3, fun kn kb => ?_⟩
        have hp : ∀ k : Nat → PR D, pix (lts w) (a : Int) k = k a := fun k => pix_at (by rw [lts_len]; omega) k
        simp only [S1__law_names, hal, decide_true, ptt_b, Bool.not_true, Bool.false_eq_true, if_false, J2__law_names, rng1P_s (show -1000000 ≤ (sz : Int) by omega) (by omega), PR.bind_ok, Int.toNat_natCast, w3, if_true, pts_str, ix_lts hd, lett_ix hdc, addSP_int, modP_s (show (0 : Int) < 26 by decide), lett_nx, pti_int, hp, set_lts, v4]
      · obtain ⟨lg, hlg⟩ : ∃ lg : Nat, 1 + nb % 8 = (lg : Int) := ⟨(1 + nb % 8).toNat, by omega⟩
        obtain ⟨w, o', w1, w2, w3⟩ := nm_word (nb / 8) lg (by omega)
        obtain ⟨v, v1, v2, v3, v4⟩ := nm_fin (w := w) ⟨by omega, by omega, w2⟩ hw hl26
        refine ⟨_, done o' v v1 v2 v3, fun kn kb => ?_⟩
        simp only [S1__law_names, hal, decide_false, ptt_b, Bool.not_false, Bool.false_eq_true, if_true, if_false, modP_s (show (0 : Int) < 8 by decide), PR.bind_ok, addSP_int, hlg, divP_s (show (0 : Int) < 8 by decide) (by decide), J2__law_names, rng1P_s (show -1000000 ≤ (lg : Int) by omega) (by omega), Int.toNat_natCast, w3, v4])
    ⟨_, [], rfl, rfl, fun w hw => (by cases hw), (by intro h; cases h), List.nodup_nil⟩
  refine ⟨ws, by simpa using h1, h2, h3, h4, ?_⟩
  unfold PF__law_names
  simp only [modP_s (show (0 : Int) < 2 by decide), PR.bind_ok, eqP_int, ngB_f, divP_s (show (0 : Int) < 2 by decide) (by decide), modP_s (show (0 : Int) < 8 by decide), addSP_int, hsz, divP_s (show (0 : Int) < 16 by decide) (by decide), modP_s (show 0 < (sz : Int) by omega), ha, divP_s (show (0 : Int) < 128 by decide) (by decide), rng1P_s (show -1000000 ≤ (n : Int) by omega) (by omega), Int.toNat_natCast, abc_eq]
  exact h5

end K32

set_option Elab.async false
set_option linter.all false
set_option maxRecDepth 100000
set_option maxHeartbeats 1000000
namespace K32
open PySem L2 M
/-! ### forms -/
inductive Fm where
  | b (w : List Nat)
  | n (s : Bool) (x y : Fm)
def slash (s : Bool) : List Nat := if s then [92] else [47]
def enc : Fm → D
  | .b w => .tuple [.str (S [98, 97, 115, 105, 99]), .str (S w)]
  | .n s x y => .tuple [.str (S (slash s)), enc x, enc y]
def Fm.size : Fm → Nat
  | .b _ => 1
  | .n _ x y => x.size + y.size
def Fm.wf : Fm → Prop
  | .b w => isW w
  | .n _ x y => x.wf ∧ y.wf
theorem Fm.size_pos : ∀ f : Fm, 1 ≤ f.size
  | .b _ => Nat.le_refl _
  | .n _ x y => by have := x.size_pos; show 1 ≤ x.size + y.size; omega
/-- the first thing of a form -/
def hdF : Fm → List Nat
  | .b _ => [98, 97, 115, 105, 99]
  | .n s _ _ => slash s
@[simp] theorem ixF0 (f : Fm) : ixP (enc f) (.int 0) = .ok (.str (S (hdF f))) := by cases f <;> simp [enc, hdF]
@[simp] theorem ixF1 (s : Bool) (x y : Fm) : ixP (enc (.n s x y)) (.int 1) = .ok (enc x) := by simp [enc]
@[simp] theorem ixF2 (s : Bool) (x y : Fm) : ixP (enc (.n s x y)) (.int 2) = .ok (enc y) := by simp [enc]
@[simp] theorem ixFb (w : List Nat) : ixP (enc (.b w)) (.int 1) = .ok (.str (S w)) := by simp [enc]
theorem okC_hdF (f : Fm) : okC (hdF f) = true := by
  cases f with
  | b w => exact (by decide : okC [98, 97, 115, 105, 99] = true)
  | n s x y => exact (by cases s <;> decide : okC (slash s) = true)
@[simp] theorem hdF_b (w : List Nat) : hdF (.b w) = [98, 97, 115, 105, 99] := rfl
@[simp] theorem hdF_n (s : Bool) (x y : Fm) : hdF (.n s x y) = slash s := rfl
@[simp] theorem slash_t : slash true = [92] := rfl
@[simp] theorem slash_f : slash false = [47] := rfl
theorem slash_ne (s : Bool) : ¬ slash s = [98, 97, 115, 105, 99] := by cases s <;> decide
theorem okC_slash (s : Bool) : okC (slash s) = true := by cases s <;> decide

def Fm.isB : Fm → Bool
  | .b _ => true
  | .n .. => false
@[simp] theorem isB_b (w : List Nat) : (Fm.b w).isB = true := rfl
@[simp] theorem isB_n (s : Bool) (x y : Fm) : (Fm.n s x y).isB = false := rfl
theorem eq_hd (n : Bool) (f : Fm) : eqP n (.str (S (hdF f))) (.str (S [98, 97, 115, 105, 99])) = .ok (.bool (ngB n f.isB)) := by
  rw [eqP_str (okC_hdF f) (by decide)]
  cases f with
  | b w => simp [Fm.isB]
  | n s x y => simp [Fm.isB, slash_ne]

/-! ### forms from cells, as the laws of books draw them -/
theorem eqP_nilI (n : Bool) (xs : List Int) : eqP n (.list (xs.map .int)) (.list []) = .ok (.bool (ngB n (decide (xs = [])))) := by
  have := eqP_ints (n := n) xs []
  rwa [List.map_nil] at this
theorem P_take (cs : List Int) {k : Int} (hk : 0 < k) : ∃ (c : Int) (r : List Int), 0 ≤ c ∧ c < k ∧ r.length ≤ cs.length ∧ P__law_take (cs.map .int) (.int k) = .ok (.int c, r.map .int) := by
  unfold P__law_take
  simp only [eqP_nilI, PR.bind_ok, ngB_f, ptb_bool]
  cases cs with
  | nil =>
    refine ⟨0, [], by omega, hk, Nat.le_refl _, ?_⟩
    simp
  | cons c r =>
    refine ⟨c % k, r, Int.emod_nonneg _ (by omega), Int.emod_lt_of_pos _ hk, by simp, ?_⟩
    simp only [reduceCtorEq, decide_false, Bool.false_eq_true, if_false, List.map_cons, popAtP_0, PR.bind_ok, modP_s hk]
theorem pw12 : powP (.int 10) (.int 12) = .ok (.int 1000000000000) := by
  rw [powP_s (by decide) (by decide) (by decide)]
  rfl
theorem sts_at {ws : List (List Nat)} {i : Int} (h : 0 ≤ i) (h' : i < ws.length) : ∃ w ∈ ws, ixP (.list (sts ws)) (.int i) = .ok (.str (S w)) := by
  have hl : i.toNat < ws.length := by omega
  refine ⟨ws[i.toNat], List.getElem_mem hl, ixP_list ?_⟩
  rw [atI_of h]
  unfold sts
  rw [List.getElem?_map, List.getElem?_eq_getElem hl]
  rfl
theorem slashL_at {i : Int} (h : i = 0 ∨ i = 1) : ∃ s : Bool, ixP (.list [.str (S [47]), .str (S [92])]) (.int i) = .ok (.str (S (slash s))) := by
  rcases h with rfl | rfl
  · exact ⟨false, ixP_list (by simp)⟩
  · exact ⟨true, ixP_list (by simp)⟩
theorem P_form {ws : List (List Nat)} (hw : ∀ w ∈ ws, isW w) (hl : 0 < ws.length) : ∀ (n most : Nat), 1 ≤ most → most ≤ n → ∀ (cs : List Int),
    ∃ f cs', Fm.wf f ∧ f.size ≤ most ∧ (cs' : List Int).length ≤ cs.length ∧ P__law_form n (cs.map .int) (.list (sts ws)) (.int (most : Int)) = .ok (enc f, (cs' : List Int).map .int)
  | 0, most, h, h', _ => by omega
  | n + 1, most, hm1, hmn, cs => by
    obtain ⟨c, r', c0, c1, hr', hT⟩ := P_take cs (k := 1000000000000) (by decide)
    show ∃ f cs', Fm.wf f ∧ f.size ≤ most ∧ (cs' : List Int).length ≤ cs.length ∧ B__law_form (P__law_form n) (cs.map .int) (.list (sts ws)) (.int (most : Int)) = .ok (enc f, (cs' : List Int).map .int)
    unfold B__law_form
    simp only [pw12, hT, PR.bind_ok, ltP_int, eqP_int, ngB_f, ptb_bool, modP_s (show (0 : Int) < 3 by decide)]
    have yes : ∃ f cs', Fm.wf f ∧ f.size ≤ most ∧ (cs' : List Int).length ≤ cs.length ∧ J2__law_form (P__law_form n) (r'.map .int) (.list (sts ws)) (.int (most : Int)) (.int c) true = .ok (enc f, (cs' : List Int).map .int) := by
      obtain ⟨w, hwm, hat⟩ := sts_at (ws := ws) (i := c / 3 % (ws.length : Int)) (Int.emod_nonneg _ (by omega)) (Int.emod_lt_of_pos _ (by omega))
      refine ⟨.b w, r', hw w hwm, by show 1 ≤ most; exact hm1, hr', ?_⟩
      simp only [J2__law_form, if_true, divP_s (show (0 : Int) < 3 by decide) (by decide), PR.bind_ok, lenP_list, sts_len, modP_s (show 0 < (ws.length : Int) by omega), hat, lt0, lt1, lt2, lt3, lt4, lt5, lt6, lt7, lt8, lt9, lt10, lt11, lt15, lt16, lt17, lt18, enc]
    by_cases h1 : most < 2
    · have h3 : (most : Int) < 2 := by omega
      simp only [h3, decide_true, if_true]
      exact yes
    · have h3 : ¬ ((most : Int) < 2) := by omega
      simp only [h3, decide_false, Bool.false_eq_true, if_false]
      by_cases h2 : c % 3 = 0
      · simp only [h2, decide_true]
        exact yes
      · obtain ⟨s, hs⟩ : ∃ s : Nat, 1 + c / 6 % ((most : Int) - 1) = (s : Int) := ⟨(1 + c / 6 % ((most : Int) - 1)).toNat, by
          have := Int.emod_nonneg (c / 6) (show (most : Int) - 1 ≠ 0 by omega)
          omega⟩
        have hsb : 1 ≤ s ∧ s ≤ most - 1 := by
          have h5 := Int.emod_nonneg (c / 6) (show (most : Int) - 1 ≠ 0 by omega)
          have h6 := Int.emod_lt_of_pos (c / 6) (show 0 < (most : Int) - 1 by omega)
          omega
        obtain ⟨f1, c1, wf1, sz1, n1, hF1⟩ := P_form hw hl n s hsb.1 (by omega) r'
        obtain ⟨f2, c2, wf2, sz2, n2, hF2⟩ := P_form hw hl n (most - s) (by omega) (by omega) c1
        have e4 : (most : Int) - (s : Int) = ((most - s : Nat) : Int) := by omega
        obtain ⟨t, ht⟩ := slashL_at (i := c / 3 % 2) (by omega)
        refine ⟨.n t f1 f2, c2, ⟨wf1, wf2⟩, by show f1.size + f2.size ≤ most; omega, by omega, ?_⟩
        simp only [h2, decide_false, J2__law_form, Bool.false_eq_true, if_false, J1__law_form, divP_s (show (0 : Int) < 6 by decide) (by decide), PR.bind_ok, subP_int, modP_s (show 0 < (most : Int) - 1 by omega), addSP_int, hs, hF1, divP_s (show (0 : Int) < 3 by decide) (by decide), modP_s (show (0 : Int) < 2 by decide), lt0, lt1, lt2, lt3, lt4, lt5, lt6, lt7, lt8, lt9, lt10, lt11, lt15, lt16, lt17, lt18, ht, e4, hF2, enc]

/-! ### forms as data: alike, laid -/
def Fm.beq : Fm → Fm → Bool
  | .b w, .b v => decide (w = v)
  | .n s x y, .n t u v => decide (s = t) && Fm.beq x u && Fm.beq y v
  | _, _ => false
theorem Fm.beq_iff : ∀ f g : Fm, Fm.beq f g = true ↔ f = g
  | .b w, .b v => by simp [Fm.beq]
  | .b w, .n t x y => by simp [Fm.beq]
  | .n t x y, .b w => by simp [Fm.beq]
  | .n s x y, .n t u v => by
    have h1 := Fm.beq_iff x u
    have h2 := Fm.beq_iff y v
    simp [Fm.beq, h1, h2, and_assoc]
instance : DecidableEq Fm := fun f g => decidable_of_iff (Fm.beq f g = true) (Fm.beq_iff f g)
theorem shaped_iff {d : D} : SeqAt.shaped d = true ↔ d.canLay0 = true ∧ d.depth ≤ 64 := by
  show (d.canLay0 && decide (d.depth ≤ 64)) = true ↔ _
  simp
theorem eqv_tup (xs ys : List D) : PyData.eqv (.tuple xs) (.tuple ys) = PyData.eqvAll xs ys := by rw [PyData.eqv]
theorem eqvAll_cc (x y : D) (xs ys : List D) : PyData.eqvAll (x :: xs) (y :: ys) = (PyData.eqv x y && PyData.eqvAll xs ys) := by rw [PyData.eqvAll]
theorem eqvAll_nn : PyData.eqvAll [] [] = true := by rw [PyData.eqvAll]
theorem basic_sl (s : Bool) : decide ([98, 97, 115, 105, 99] = slash s) = false := by cases s <;> rfl
theorem sl_basic (s : Bool) : decide (slash s = [98, 97, 115, 105, 99]) = false := by cases s <;> rfl
theorem sl_sl (s t : Bool) : decide (slash s = slash t) = decide (s = t) := by cases s <;> cases t <;> rfl
theorem eqv_enc : ∀ f g : Fm, PyData.eqv (enc f) (enc g) = decide (f = g)
  | .b w, .b v => by simp only [enc, eqv_tup, eqvAll_cc, eqvAll_nn, eqv_str, S_beq, Bool.and_true, decide_true, Bool.true_and, Fm.b.injEq]
  | .b w, .n t x y => by simp only [enc, eqv_tup, eqvAll_cc, eqv_str, S_beq, basic_sl, Bool.false_and, reduceCtorEq, decide_false]
  | .n t x y, .b w => by simp only [enc, eqv_tup, eqvAll_cc, eqv_str, S_beq, sl_basic, Bool.false_and, reduceCtorEq, decide_false]
  | .n t x y, .n t' x' y' => by
    simp only [enc, eqv_tup, eqvAll_cc, eqvAll_nn, eqv_str, S_beq, sl_sl, eqv_enc x x', eqv_enc y y', Bool.and_true, Fm.n.injEq, Bool.decide_and]
theorem lay_enc : ∀ f : Fm, f.wf → (enc f).canLay0 = true
  | .b w, h => by
    have := isW.okC h
    simp [enc, PyData.canLay0, PyData.canLayAll0, strOk_S, this]
  | .n s x y, h => by
    have h1 := lay_enc x h.1
    have h2 := lay_enc y h.2
    have := okC_slash s
    simp [enc, PyData.canLay0, PyData.canLayAll0, strOk_S, this, h1, h2]
theorem depth_enc : ∀ f : Fm, (enc f).depth ≤ f.size
  | .b w => by simp [enc, PyData.depth, PyData.depthAll, Fm.size]
  | .n s x y => by
    have h1 := depth_enc x
    have h2 := depth_enc y
    have p1 := x.size_pos
    have p2 := y.size_pos
    simp only [enc, PyData.depth, PyData.depthAll, Fm.size]
    omega
theorem shaped_enc {f : Fm} (h : f.wf) (hs : f.size ≤ 64) : SeqAt.shaped (enc f) = true := shaped_iff.mpr ⟨lay_enc f h, by have := depth_enc f; omega⟩
theorem eqP_enc {n : Bool} {f g : Fm} (hf : f.wf) (hg : g.wf) (h1 : f.size ≤ 64) (h2 : g.size ≤ 64) : eqP n (enc f) (enc g) = .ok (.bool (ngB n (decide (f = g)))) := by
  unfold eqP
  rw [shaped_enc hf h1, shaped_enc hg h2, eqv_enc]
  cases n <;> rfl

/-! ### the rules over forms -/
def j1 (f g : Fm) : Option Fm := match f with
  | .n false x y => if y = g then some x else none
  | _ => none
def j2 (f g : Fm) : Option Fm := match g with
  | .n true x y => if y = f then some x else none
  | _ => none
def j3 (f g : Fm) : Option Fm := match f, g with
  | .n false a b, .n false c d => if b = c then some (.n false a d) else none
  | _, _ => none
def j4 (f g : Fm) : Option Fm := match f, g with
  | .n true a b, .n true c d => if d = a then some (.n true c b) else none
  | _, _ => none
def optE : Option Fm → D
  | none => .none
  | some f => enc f
def encM : Option (List Nat × Fm) → D
  | none => .none
  | some (s, f) => .tuple [.str (S s), enc f]
/-- what the rules make of two forms -/
def mk (f g : Fm) : Option (List Nat × Fm) := match j1 f g with
  | some x => some ([62], x)
  | none => match j2 f g with
    | some x => some ([60], x)
    | none => match j3 f g with
      | some x => some ([62, 62], x)
      | none => match j4 f g with
        | some x => some ([60, 60], x)
        | none => none
theorem sg_gt : Str.ofString ">" = S [62] := by decide +kernel
theorem sg_lt : Str.ofString "<" = S [60] := by decide +kernel
theorem sg_gg : Str.ofString ">>" = S [62, 62] := by decide +kernel
theorem sg_ll : Str.ofString "<<" = S [60, 60] := by decide +kernel
theorem sl_f : Str.ofString "/" = S [47] := by decide +kernel
theorem sl_b : Str.ofString "\\" = S [92] := by decide +kernel
theorem eq_f (f : Fm) : eqP false (.str (S (hdF f))) (.str (S [47])) = .ok (.bool (match f with | .n false _ _ => true | _ => false)) := by
  rw [eqP_str (okC_hdF f) (by decide)]
  cases f with
  | b w => simp
  | n s x y => cases s <;> rfl
theorem eq_b (f : Fm) : eqP false (.str (S (hdF f))) (.str (S [92])) = .ok (.bool (match f with | .n true _ _ => true | _ => false)) := by
  rw [eqP_str (okC_hdF f) (by decide)]
  cases f with
  | b w => simp
  | n s x y => cases s <;> rfl
section
variable {f g : Fm}
theorem P_j1 (hf : f.wf) (hg : g.wf) (h1 : f.size ≤ 64) (h2 : g.size ≤ 64) : PL_RightTaken__joined [enc f, enc g] = .ok (optE (j1 f g)) := by
  show P_RightTaken__joined (enc f) (enc g) = _
  unfold P_RightTaken__joined
  simp only [ixF0, PR.bind_ok, sl_f, eq_f, ptb_bool]
  cases f with
  | b w => simp [j1, optE]
  | n s x y =>
    have h1 : x.size + y.size ≤ 64 := h1
    cases s with
    | true => simp [j1, optE]
    | false =>
      simp only [if_true, ixF2, PR.bind_ok, eqP_enc hf.2 hg (by omega) h2, ngB_f, ptb_bool, ixF1, j1]
      by_cases h : y = g
      · simp only [h, decide_true, if_true, optE]
      · simp only [h, decide_false, Bool.false_eq_true, if_false, optE]
theorem P_j2 (hf : f.wf) (hg : g.wf) (h1 : f.size ≤ 64) (h2 : g.size ≤ 64) : PL_LeftTaken__joined [enc f, enc g] = .ok (optE (j2 f g)) := by
  show P_LeftTaken__joined (enc f) (enc g) = _
  unfold P_LeftTaken__joined
  simp only [ixF0, PR.bind_ok, sl_b, eq_b, ptb_bool]
  cases g with
  | b w => simp [j2, optE]
  | n s x y =>
    have h2 : x.size + y.size ≤ 64 := h2
    cases s with
    | false => simp [j2, optE]
    | true =>
      simp only [if_true, ixF2, PR.bind_ok, eqP_enc hg.2 hf (by omega) h1, ngB_f, ptb_bool, ixF1, j2]
      by_cases h : y = f
      · simp only [h, decide_true, if_true, optE]
      · simp only [h, decide_false, Bool.false_eq_true, if_false, optE]
theorem P_j3 (hf : f.wf) (hg : g.wf) (h1 : f.size ≤ 64) (h2 : g.size ≤ 64) : PL_RightHanded__joined [enc f, enc g] = .ok (optE (j3 f g)) := by
  show P_RightHanded__joined (enc f) (enc g) = _
  unfold P_RightHanded__joined
  simp only [ixF0, PR.bind_ok, sl_f, eq_f, ptb_bool]
  cases f with
  | b w => simp [j3, optE, J1_RightHanded__joined]
  | n s x y =>
    have h1 : x.size + y.size ≤ 64 := h1
    cases s with
    | true => simp [j3, optE, J1_RightHanded__joined]
    | false =>
      simp only [if_true]
      cases g with
      | b w => simp [j3, optE, J1_RightHanded__joined]
      | n t u v =>
        have h2 : u.size + v.size ≤ 64 := h2
        cases t with
        | true => simp [j3, optE, J1_RightHanded__joined]
        | false =>
          simp only [if_true, ixF1, ixF2, PR.bind_ok, eqP_enc hf.2 hg.1 (by omega) (by omega), ngB_f, ptb_bool, J1_RightHanded__joined, j3]
          by_cases h : y = u
          · simp only [h, decide_true, if_true, optE, sl_f]
            rfl
          · simp only [h, decide_false, Bool.false_eq_true, if_false, optE]
theorem P_j4 (hf : f.wf) (hg : g.wf) (h1 : f.size ≤ 64) (h2 : g.size ≤ 64) : PL_LeftHanded__joined [enc f, enc g] = .ok (optE (j4 f g)) := by
  show P_LeftHanded__joined (enc f) (enc g) = _
  unfold P_LeftHanded__joined
  simp only [ixF0, PR.bind_ok, sl_b, eq_b, ptb_bool]
  cases f with
  | b w => simp [j4, optE, J1_LeftHanded__joined]
  | n s x y =>
    have h1 : x.size + y.size ≤ 64 := h1
    cases s with
    | false => simp [j4, optE, J1_LeftHanded__joined]
    | true =>
      simp only [if_true]
      cases g with
      | b w => simp [j4, optE, J1_LeftHanded__joined]
      | n t u v =>
        have h2 : u.size + v.size ≤ 64 := h2
        cases t with
        | false => simp [j4, optE, J1_LeftHanded__joined]
        | true =>
          simp only [if_true, ixF1, ixF2, PR.bind_ok, eqP_enc hg.2 hf.1 (by omega) (by omega), ngB_f, ptb_bool, J1_LeftHanded__joined, j4]
          by_cases h : v = x
          · simp only [h, decide_true, if_true, optE, sl_b]
            rfl
          · simp only [h, decide_false, Bool.false_eq_true, if_false, optE]
theorem madeGo_opt (o : Option Fm) (s : D) (r : List (PR D × D)) : madeGo ((.ok (optE o), s) :: r) = match o with
    | some f => .ok (.tuple [s, enc f])
    | none => madeGo r := by
  cases o with
  | none => rfl
  | some f =>
    show (match enc f with | .none => madeGo r | z => .ok (.tuple [s, z])) = _
    cases f <;> rfl
theorem P_mk (hf : f.wf) (hg : g.wf) (h1 : f.size ≤ 64) (h2 : g.size ≤ 64) : P_made (enc f) (enc g) = .ok (encM (mk f g)) := by
  unfold P_made PL_made
  dsimp only
  rw [P_j1 hf hg h1 h2, P_j2 hf hg h1 h2, P_j3 hf hg h1 h2, P_j4 hf hg h1 h2]
  refine noE_of ?_
  simp only [madeGo_opt, sg_gt, sg_lt, sg_gg, sg_ll]
  unfold mk
  cases j1 f g with
  | some x => rfl
  | none =>
    cases j2 f g with
    | some x => rfl
    | none =>
      cases j3 f g with
      | some x => rfl
      | none => cases j4 f g <;> rfl
end
theorem lt_n (s : Bool) (x y : Fm) : x.size < (Fm.n s x y).size ∧ y.size < (Fm.n s x y).size := by
  have h1 := x.size_pos
  have h2 := y.size_pos
  show x.size < x.size + y.size ∧ y.size < x.size + y.size
  omega
/-- at most one rule takes two forms -/
theorem j12 {f g : Fm} (h : (j1 f g).isSome = true) : j2 f g = none ∧ j3 f g = none ∧ j4 f g = none := by
  cases f with
  | b w => simp [j1] at h
  | n s x y =>
    cases s with
    | true => simp [j1] at h
    | false =>
      have hy : y = g := by
        by_cases q : y = g
        · exact q
        · simp [j1, q] at h
      subst hy
      have hlt := lt_n false x y
      refine ⟨?_, ?_, rfl⟩
      · cases y with
        | b w => rfl
        | n t u v =>
          cases t with
          | false => rfl
          | true =>
            have := lt_n true u v
            have : v ≠ .n false x (.n true u v) := fun z => by rw [← z] at hlt; omega
            simp [j2, this]
      · cases y with
        | b w => rfl
        | n t u v =>
          cases t with
          | true => rfl
          | false =>
            have := lt_n false u v
            have : Fm.n false u v ≠ u := fun z => by rw [z] at this; omega
            simp [j3, this]
theorem j23 {f g : Fm} (h : (j2 f g).isSome = true) : j3 f g = none ∧ j4 f g = none := by
  cases g with
  | b w => simp [j2] at h
  | n s x y =>
    cases s with
    | false => simp [j2] at h
    | true =>
      have hy : y = f := by
        by_cases q : y = f
        · exact q
        · simp [j2, q] at h
      subst hy
      refine ⟨?_, ?_⟩
      · cases y with
        | b w => rfl
        | n t u v => cases t <;> rfl
      · cases y with
        | b w => rfl
        | n t u v =>
          cases t with
          | false => rfl
          | true =>
            have := lt_n true u v
            have : Fm.n true u v ≠ u := fun z => by rw [z] at this; omega
            simp [j4, this]
theorem j34 {f g : Fm} (h : (j3 f g).isSome = true) : j4 f g = none := by
  cases f with
  | b w => rfl
  | n s x y =>
    cases s with
    | true => cases g <;> simp [j3] at h
    | false => rfl

/-! ### kinds of forms -/
def kdD : Fm → D
  | .b w => .str (S w)
  | .n _ x y => .tuple [kdD y, kdD x]
theorem lay_kd : ∀ f : Fm, f.wf → (kdD f).canLay0 = true
  | .b w, h => by
    have := isW.okC h
    simp [kdD, PyData.canLay0, strOk_S, this]
  | .n s x y, h => by
    have h1 := lay_kd x h.1
    have h2 := lay_kd y h.2
    simp [kdD, PyData.canLay0, PyData.canLayAll0, h1, h2]
theorem depth_kd : ∀ f : Fm, (kdD f).depth + 1 ≤ f.size
  | .b w => by simp [kdD, PyData.depth, Fm.size]
  | .n s x y => by
    have h1 := depth_kd x
    have h2 := depth_kd y
    simp only [kdD, PyData.depth, PyData.depthAll, Fm.size]
    omega

theorem P_kindOf : ∀ (n : Nat) (f : Fm), f.size ≤ n → P_kind_of_form n (enc f) = .ok (kdD f)
  | 0, f, h => by have := f.size_pos; omega
  | n + 1, .b w, h => by
    show B_kind_of_form (P_kind_of_form n) (enc (.b w)) = _
    unfold B_kind_of_form
    simp only [ixF0, PR.bind_ok, lt0, lt1, lt2, lt3, lt4, lt5, lt6, lt7, lt8, lt9, lt10, lt11, lt15, lt16, lt17, lt18, eq_hd, ptb_bool, ngB_f, isB_b, if_true, ixFb, kdD]
  | n + 1, .n s x y, h => by
    have px := x.size_pos
    have py := y.size_pos
    have h : x.size + y.size ≤ n + 1 := h
    show B_kind_of_form (P_kind_of_form n) (enc (.n s x y)) = _
    unfold B_kind_of_form
    simp only [ixF0, PR.bind_ok, lt0, lt1, lt2, lt3, lt4, lt5, lt6, lt7, lt8, lt9, lt10, lt11, lt15, lt16, lt17, lt18, eq_hd, ptb_bool, ngB_f, isB_n, Bool.false_eq_true, if_false, ixF1, ixF2, P_kindOf n x (by omega), P_kindOf n y (by omega), kdD]

/-! ### meanings by the rules, over any data -/
def tOf (f a : D) : D := .tuple [.str (Str.ofString "of"), f, a]
def tFn (k b : D) : D := .tuple [.str (Str.ofString "fn"), k, b]
def tB0 : D := .tuple [.str (Str.ofString "bound"), .int 0]
theorem meant_gt (l r f g : D) : P_meant (.str (S [62])) l r f g = .ok (tOf f g) := by
  unfold P_meant PL_meant
  simp only [meantGo, sg_gt, eqP_str (show okC [62] = true from rfl) (show okC [62] = true from rfl), decide_true, ngB_f, PR.bind_ok, ptb_bool, if_true]
  rfl
theorem meant_lt (l r f g : D) : P_meant (.str (S [60])) l r f g = .ok (tOf g f) := by
  unfold P_meant PL_meant
  simp only [meantGo, sg_gt, sg_lt, eqP_str (show okC [62] = true from rfl) (show okC [60] = true from rfl), eqP_str (show okC [60] = true from rfl) (show okC [60] = true from rfl), show ¬ ([62] : List Nat) = [60] by decide, decide_true, decide_false, ngB_f, PR.bind_ok, ptb_bool, if_true, Bool.false_eq_true, if_false]
  rfl
theorem meant_gg (l f g : D) {s : Bool} {x y : Fm} (h : y.size ≤ 40) : P_meant (.str (S [62, 62])) l (enc (.n s x y)) f g = .ok (tFn (kdD y) (tOf f (tOf g tB0))) := by
  have e : PL_RightHanded__meant [l, enc (.n s x y), f, g] = .ok (tFn (kdD y) (tOf f (tOf g tB0))) := by
    show P_RightHanded__meant l (enc (.n s x y)) f g = _
    unfold P_RightHanded__meant P_handed_on
    simp only [ixF2, PR.bind_ok, P_kindOf fuelR y (by rw [fuelR_eq]; omega)]
    rfl
  unfold P_meant PL_meant
  simp only [meantGo, sg_gt, sg_lt, sg_gg, eqP_str (show okC [62] = true from rfl) (show okC [62, 62] = true from rfl), eqP_str (show okC [60] = true from rfl) (show okC [62, 62] = true from rfl), eqP_str (show okC [62, 62] = true from rfl) (show okC [62, 62] = true from rfl), show ¬ ([62] : List Nat) = [62, 62] by decide, show ¬ ([60] : List Nat) = [62, 62] by decide, decide_true, decide_false, ngB_f, PR.bind_ok, ptb_bool, if_true, Bool.false_eq_true, if_false, e]
  rfl
theorem meant_ll (r f g : D) {s : Bool} {x y : Fm} (h : y.size ≤ 40) : P_meant (.str (S [60, 60])) (enc (.n s x y)) r f g = .ok (tFn (kdD y) (tOf g (tOf f tB0))) := by
  have e : PL_LeftHanded__meant [enc (.n s x y), r, f, g] = .ok (tFn (kdD y) (tOf g (tOf f tB0))) := by
    show P_LeftHanded__meant (enc (.n s x y)) r f g = _
    unfold P_LeftHanded__meant P_handed_on
    simp only [ixF2, PR.bind_ok, P_kindOf fuelR y (by rw [fuelR_eq]; omega)]
    rfl
  unfold P_meant PL_meant
  simp only [meantGo, sg_gt, sg_lt, sg_gg, sg_ll, eqP_str (show okC [62] = true from rfl) (show okC [60, 60] = true from rfl), eqP_str (show okC [60] = true from rfl) (show okC [60, 60] = true from rfl), eqP_str (show okC [62, 62] = true from rfl) (show okC [60, 60] = true from rfl), eqP_str (show okC [60, 60] = true from rfl) (show okC [60, 60] = true from rfl), show ¬ ([62] : List Nat) = [60, 60] by decide, show ¬ ([60] : List Nat) = [60, 60] by decide, show ¬ ([62, 62] : List Nat) = [60, 60] by decide, decide_true, decide_false, ngB_f, PR.bind_ok, ptb_bool, if_true, Bool.false_eq_true, if_false, e]
  rfl
/-! ### what each rule makes -/
theorem mk_gt (x y : Fm) : mk (.n false x y) y = some ([62], x) := by simp [mk, j1]
theorem mk_lt (x y : Fm) : mk y (.n true x y) = some ([60], x) := by
  have h2 : j2 y (.n true x y) = some x := by simp [j2]
  have h1 : j1 y (.n true x y) = none := by
    cases h : j1 y (.n true x y) with
    | none => rfl
    | some z =>
      have := (j12 (f := y) (g := .n true x y) (by rw [h]; rfl)).1
      rw [h2] at this
      cases this
  simp [mk, h1, h2]
theorem mk_gg (x y z : Fm) : mk (.n false x y) (.n false y z) = some ([62, 62], .n false x z) := by
  have h3 : j3 (.n false x y) (.n false y z) = some (.n false x z) := by simp [j3]
  have h1 : j1 (.n false x y) (.n false y z) = none := by
    cases h : j1 (.n false x y) (.n false y z) with
    | none => rfl
    | some q =>
      have := (j12 (f := .n false x y) (g := .n false y z) (by rw [h]; rfl)).2.1
      rw [h3] at this
      cases this
  have h2 : j2 (.n false x y) (.n false y z) = none := rfl
  simp [mk, h1, h2, h3]
theorem mk_ll (x y z : Fm) : mk (.n true y z) (.n true x y) = some ([60, 60], .n true x z) := by
  have h4 : j4 (.n true y z) (.n true x y) = some (.n true x z) := by simp [j4]
  have h1 : j1 (.n true y z) (.n true x y) = none := rfl
  have h2 : j2 (.n true y z) (.n true x y) = none := by
    cases h : j2 (.n true y z) (.n true x y) with
    | none => rfl
    | some q =>
      have := (j23 (f := .n true y z) (g := .n true x y) (by rw [h]; rfl)).2
      rw [h4] at this
      cases this
  have h3 : j3 (.n true y z) (.n true x y) = none := rfl
  simp [mk, h1, h2, h3, h4]

end K32

set_option Elab.async false
set_option linter.all false
set_option maxRecDepth 100000
set_option maxHeartbeats 1000000
namespace K32
open PySem L2 M
/-! ### terms put together: what the program says of them -/
def xOf (f a : D) : D := .tuple [.str (S [111, 102]), f, a]
def xFn (k b : D) : D := .tuple [.str (S [102, 110]), k, b]
def xB0 : D := .tuple [.str (S [98, 111, 117, 110, 100]), .int 0]
def xLf (i : Int) (f : D) : D := .tuple [.str (S [108, 101, 97, 102]), .int i, f]
theorem tOf_x (f a : D) : tOf f a = xOf f a := by
  unfold tOf xOf
  rw [show Str.ofString "of" = S [111, 102] by decide +kernel]
theorem tFn_x (f a : D) : tFn f a = xFn f a := by
  unfold tFn xFn
  rw [show Str.ofString "fn" = S [102, 110] by decide +kernel]
theorem tB0_x : tB0 = xB0 := by
  unfold tB0 xB0
  rw [show Str.ofString "bound" = S [98, 111, 117, 110, 100] by decide +kernel]
theorem eqS {a b : List Nat} (ha : okC a = true) (hb : okC b = true) : eqP false (.str (S a)) (.str (S b)) = .ok (.bool (decide (a = b))) := by rw [eqP_str ha hb, ngB_f]
theorem xO0 (f a : D) : ixP (xOf f a) (.int 0) = .ok (.str (S [111, 102])) := by simp [xOf]
theorem xO1 (f a : D) : ixP (xOf f a) (.int 1) = .ok f := by simp [xOf]
theorem xO2 (f a : D) : ixP (xOf f a) (.int 2) = .ok a := by simp [xOf]
theorem xF0 (f a : D) : ixP (xFn f a) (.int 0) = .ok (.str (S [102, 110])) := by simp [xFn]
theorem xF1 (f a : D) : ixP (xFn f a) (.int 1) = .ok f := by simp [xFn]
theorem xF2 (f a : D) : ixP (xFn f a) (.int 2) = .ok a := by simp [xFn]
theorem xB_0 : ixP xB0 (.int 0) = .ok (.str (S [98, 111, 117, 110, 100])) := by simp [xB0]
theorem xB_1 : ixP xB0 (.int 1) = .ok (.int 0) := by simp [xB0]
theorem xL0 (i : Int) (f : D) : ixP (xLf i f) (.int 0) = .ok (.str (S [108, 101, 97, 102])) := by simp [xLf]
theorem xL2 (i : Int) (f : D) : ixP (xLf i f) (.int 2) = .ok f := by simp [xLf]
theorem in_of (f a : D) : P_within (xOf f a) = .ok (.list [f, a]) := by
  unfold P_within
  simp only [lt0, lt1, lt2, lt3, lt4, lt5, lt6, lt7, lt8, lt9, lt10, lt11, lt15, lt16, lt17, lt18]
  rw [xO0, PR.bind_ok, eqS (by decide) (by decide), PR.bind_ok, ptb_bool, PR.bind_ok, eqS (by decide) (by decide), PR.bind_ok, ptb_bool, xO1, PR.bind_ok, xO2, PR.bind_ok]
  rfl
theorem in_fn (f a : D) : P_within (xFn f a) = .ok (.list [a]) := by
  unfold P_within
  simp only [lt0, lt1, lt2, lt3, lt4, lt5, lt6, lt7, lt8, lt9, lt10, lt11, lt15, lt16, lt17, lt18]
  rw [xF0, PR.bind_ok, eqS (by decide) (by decide), PR.bind_ok, ptb_bool, PR.bind_ok, eqS (by decide) (by decide), PR.bind_ok, ptb_bool, xF2, PR.bind_ok]
  rfl
theorem in_b0 : P_within xB0 = .ok (.list []) := by
  unfold P_within
  simp only [lt0, lt1, lt2, lt3, lt4, lt5, lt6, lt7, lt8, lt9, lt10, lt11, lt15, lt16, lt17, lt18]
  rw [xB_0, PR.bind_ok, eqS (by decide) (by decide), PR.bind_ok, ptb_bool, PR.bind_ok, eqS (by decide) (by decide), PR.bind_ok, ptb_bool]
  rfl
theorem in_lf (i : Int) (f : D) : P_within (xLf i f) = .ok (.list []) := by
  unfold P_within
  simp only [lt0, lt1, lt2, lt3, lt4, lt5, lt6, lt7, lt8, lt9, lt10, lt11, lt15, lt16, lt17, lt18]
  rw [xL0, PR.bind_ok, eqS (by decide) (by decide), PR.bind_ok, ptb_bool, PR.bind_ok, eqS (by decide) (by decide), PR.bind_ok, ptb_bool]
  rfl
theorem lcO_s {γ : Type} {acc : List D} {y : D} {k : List D → PR γ} (h : acc.length < 10) : lcO acc (some y) k = k (acc ++ [y]) := by
  unfold lcO
  dsimp only
  rw [if_pos (by rw [sizeLine_eq]; omega)]
section
variable {σ γ : Type} {b : D → σ → PR (Option D × σ)} {s : σ} {k : List D → σ → PR γ}
theorem lc0 : lcK b [] s [] k = k [] s := rfl
theorem lc1 {x u : D} (h : b x s = .ok (some u, s)) : lcK b [x] s [] k = k [u] s := by
  show (lcN (b x s) fun r => lcO [] r.1 fun acc' => k acc' r.2) = _
  rw [h, lcN_ok]
  dsimp only
  rw [lcO_s (by decide)]
  rfl
theorem lc2 {x y u v : D} (h : b x s = .ok (some u, s)) (h' : b y s = .ok (some v, s)) : lcK b [x, y] s [] k = k [u, v] s := by
  show (lcN (b x s) fun r => lcO [] r.1 fun acc' => lcN (b y r.2) fun r => lcO acc' r.1 fun acc' => k acc' r.2) = _
  rw [h, lcN_ok]
  dsimp only
  rw [lcO_s (by decide), h', lcN_ok]
  dsimp only
  rw [List.nil_append, lcO_s (by simp)]
  rfl
end
theorem sum0 : sumP [.list []] = .ok (.int 0) := rfl
theorem sum1 (i : Int) : sumP [.list [.int i]] = .ok (.int i) := by simp [sumP, lst1P, dInts]
theorem sum2 (i j : Int) : sumP [.list [.int i, .int j]] = .ok (.int (i + j)) := by simp [sumP, lst1P, dInts]
theorem all0 : allP [.list []] = .ok (.bool true) := rfl
theorem all1 : allP [.list [.bool true]] = .ok (.bool true) := rfl
theorem all2 : allP [.list [.bool true, .bool true]] = .ok (.bool true) := rfl
/-- a term with at most one thing (o: 1) bound outside, used once -/
structure Gd (o : Nat) (k0 : List D) (k : D) (s dp : Nat) (d : D) : Prop where
  sz : ∀ n, dp < n → P_size_of n d = .ok (.int (s : Int))
  cl : ∀ n (c : Nat), dp < n → P_closed_in n d (.int ((c + o : Nat) : Int)) = .ok (.bool true)
  us : ∀ n (c : Nat), dp < n → P_uses_of n d (.int (c : Int)) = .ok (.int (if c = 0 then (o : Int) else 0))
  sp : ∀ n, dp < n → dp ≤ 125 → P_is_sparing n d = .ok (.bool true)
  kd : ∀ n (ar : List D), dp < n → ar.length + dp ≤ 900 → P_kind_within n [] (.tuple (k0 ++ ar)) d = .ok k
theorem pos_n {n dp : Nat} (h : dp < n) : ∃ n', n = n' + 1 := ⟨n - 1, by omega⟩
theorem Gd.up {o : Nat} {k0 : List D} {k d : D} {s dp dp' : Nat} (h : Gd o k0 k s dp d) (hd : dp ≤ dp') : Gd o k0 k s dp' d :=
  ⟨fun n hn => h.sz n (by omega), fun n c hn => h.cl n c (by omega), fun n c hn => h.us n c (by omega), fun n hn hm => h.sp n (by omega) (by omega), fun n ar hn hm => h.kd n ar (by omega) (by omega)⟩
theorem gd_lf (i : Int) {f : Fm} (hf : f.size ≤ 40) : Gd 0 [] (kdD f) 1 0 (xLf i (enc f)) := by
  refine ⟨fun n hn => ?_, fun n c hn => ?_, fun n c hn => ?_, fun n hn _ => ?_, fun n ar hn _ => ?_⟩ <;> obtain ⟨n, rfl⟩ := pos_n hn
  · show B_size_of (P_size_of n) _ = _
    unfold B_size_of
    rw [in_lf, PR.bind_ok, itemsP_list, PR.bind_ok, lc0, sum0, PR.bind_ok, addSP_int, PR.bind_ok]
    rfl
  · show B_closed_in (P_closed_in n) _ _ = _
    unfold B_closed_in
    simp only [lt0, lt1, lt2, lt3, lt4, lt5, lt6, lt7, lt8, lt9, lt10, lt11, lt15, lt16, lt17, lt18]
    rw [xL0, PR.bind_ok, eqS (by decide) (by decide), PR.bind_ok, ptb_bool, PR.bind_ok, eqS (by decide) (by decide), PR.bind_ok, intP1_b, PR.bind_ok, addSP_int, PR.bind_ok, in_lf, PR.bind_ok, itemsP_list, PR.bind_ok, lc0, all0, PR.bind_ok]
    rfl
  · show B_uses_of (P_uses_of n) (P_is_sparing n) _ _ = _
    unfold B_uses_of
    simp only [lt0, lt1, lt2, lt3, lt4, lt5, lt6, lt7, lt8, lt9, lt10, lt11, lt15, lt16, lt17, lt18]
    rw [xL0, PR.bind_ok, eqS (by decide) (by decide), PR.bind_ok, ptb_bool, PR.bind_ok, eqS (by decide) (by decide), PR.bind_ok, intP1_b, PR.bind_ok, addSP_int, PR.bind_ok, in_lf, PR.bind_ok, itemsP_list, PR.bind_ok, lc0, sum0, PR.bind_ok]
    simp
  · show B_is_sparing (P_uses_of n) (P_is_sparing n) _ = _
    unfold B_is_sparing
    simp only [lt0, lt1, lt2, lt3, lt4, lt5, lt6, lt7, lt8, lt9, lt10, lt11, lt15, lt16, lt17, lt18]
    have j : J1_is_sparing (P_is_sparing n) (xLf i (enc f)) = .ok (.bool true) := by
      unfold J1_is_sparing
      rw [in_lf, PR.bind_ok, itemsP_list, PR.bind_ok, lc0, all0, PR.bind_ok]
    rw [xL0, PR.bind_ok, eqS (by decide) (by decide), PR.bind_ok, ptb_bool, j]
    rfl
  · show B_kind_within (P_kind_within n) _ _ _ = _
    unfold B_kind_within
    simp only [lt0, lt1, lt2, lt3, lt4, lt5, lt6, lt7, lt8, lt9, lt10, lt11, lt15, lt16, lt17, lt18]
    rw [xL0, PR.bind_ok, eqS (by decide) (by decide), PR.bind_ok, ptb_bool, eqS (by decide) (by decide), PR.bind_ok, ptb_bool, xL2, PR.bind_ok, fuelR_eq, P_kindOf 40 f hf, PR.bind_ok]
    rfl
theorem gd_b0 (k : D) : Gd 1 [k] k 1 0 xB0 := by
  refine ⟨fun n hn => ?_, fun n c hn => ?_, fun n c hn => ?_, fun n hn _ => ?_, fun n ar hn _ => ?_⟩ <;> obtain ⟨n, rfl⟩ := pos_n hn
  · show B_size_of (P_size_of n) _ = _
    unfold B_size_of
    rw [in_b0, PR.bind_ok, itemsP_list, PR.bind_ok, lc0, sum0, PR.bind_ok, addSP_int, PR.bind_ok]
    rfl
  · show B_closed_in (P_closed_in n) _ _ = _
    unfold B_closed_in
    simp only [lt0, lt1, lt2, lt3, lt4, lt5, lt6, lt7, lt8, lt9, lt10, lt11, lt15, lt16, lt17, lt18]
    rw [xB_0, PR.bind_ok, eqS (by decide) (by decide), PR.bind_ok, ptb_bool, xB_1, PR.bind_ok, ltP_int, PR.bind_ok]
    simp only [decide_true, if_true]
    rw [show decide ((0 : Int) < ((c + 1 : Nat) : Int)) = true from decide_eq_true (by omega)]
  · show B_uses_of (P_uses_of n) (P_is_sparing n) _ _ = _
    unfold B_uses_of
    simp only [lt0, lt1, lt2, lt3, lt4, lt5, lt6, lt7, lt8, lt9, lt10, lt11, lt15, lt16, lt17, lt18]
    rw [xB_0, PR.bind_ok, eqS (by decide) (by decide), PR.bind_ok, ptb_bool, xB_1, PR.bind_ok, eqP_int, PR.bind_ok, ngB_f, intP1_b, PR.bind_ok]
    simp only [decide_true, if_true]
    by_cases z : c = 0
    · subst z; rfl
    · rw [if_neg z, if_neg (by simp; omega)]
  · show B_is_sparing (P_uses_of n) (P_is_sparing n) _ = _
    unfold B_is_sparing
    simp only [lt0, lt1, lt2, lt3, lt4, lt5, lt6, lt7, lt8, lt9, lt10, lt11, lt15, lt16, lt17, lt18]
    have j : J1_is_sparing (P_is_sparing n) xB0 = .ok (.bool true) := by
      unfold J1_is_sparing
      rw [in_b0, PR.bind_ok, itemsP_list, PR.bind_ok, lc0, all0, PR.bind_ok]
    rw [xB_0, PR.bind_ok, eqS (by decide) (by decide), PR.bind_ok, ptb_bool, j]
    rfl
  · show B_kind_within (P_kind_within n) _ _ _ = _
    unfold B_kind_within
    simp only [lt0, lt1, lt2, lt3, lt4, lt5, lt6, lt7, lt8, lt9, lt10, lt11, lt15, lt16, lt17, lt18]
    rw [xB_0, PR.bind_ok, eqS (by decide) (by decide), PR.bind_ok, ptb_bool, eqS (by decide) (by decide), PR.bind_ok, ptb_bool, eqS (by decide) (by decide), PR.bind_ok, ptb_bool, if_neg (by decide), if_neg (by decide), if_pos (by decide), xB_1, PR.bind_ok, ixP_tup (c := k) (by rw [atI_of (by omega)]; rfl), PR.bind_ok]
theorem gd_of {o : Nat} {k0 : List D} {kf ka kr f a : D} {s s' dp : Nat} (hk0 : k0.length ≤ 1) (hf : Gd 0 [] kf s dp f) (ha : Gd o k0 ka s' dp a) (hk : kf = .tuple [ka, kr]) (hs : SeqAt.shaped ka = true) : Gd o k0 kr (s + s' + 1) (dp + 1) (xOf f a) := by
  refine ⟨fun n hn => ?_, fun n c hn => ?_, fun n c hn => ?_, fun n hn hm => ?_, fun n ar hn hm => ?_⟩ <;> obtain ⟨n, rfl⟩ := pos_n hn
  · show B_size_of (P_size_of n) _ = _
    unfold B_size_of
    rw [in_of, PR.bind_ok, itemsP_list, PR.bind_ok, lc2 (b := C1_size_of (P_size_of n)) (u := .int (s : Int)) (v := .int (s' : Int)) (by unfold C1_size_of; rw [hf.sz n (by omega), PR.bind_ok]) (by unfold C1_size_of; rw [ha.sz n (by omega), PR.bind_ok]), sum2, PR.bind_ok, addSP_int, PR.bind_ok]
    congr 2
    omega
  · show B_closed_in (P_closed_in n) _ _ = _
    unfold B_closed_in
    simp only [lt0, lt1, lt2, lt3, lt4, lt5, lt6, lt7, lt8, lt9, lt10, lt11, lt15, lt16, lt17, lt18]
    have e0 : ∀ i : Int, i + (if decide (([111, 102] : List Nat) = [102, 110]) = true then 1 else 0) = i := fun i => by rw [if_neg (by decide)]; omega
    rw [xO0, PR.bind_ok, eqS (by decide) (by decide), PR.bind_ok, ptb_bool, PR.bind_ok, eqS (by decide) (by decide), PR.bind_ok, intP1_b, PR.bind_ok, addSP_int, PR.bind_ok, in_of, PR.bind_ok, itemsP_list, PR.bind_ok, e0,
      lc2 (b := C1_closed_in (P_closed_in n) (.int ((c + o : Nat) : Int))) (u := .bool true) (v := .bool true) (by unfold C1_closed_in; have := hf.cl n (c + o) (by omega); rw [Nat.add_zero] at this; rw [this, PR.bind_ok]) (by unfold C1_closed_in; rw [ha.cl n c (by omega), PR.bind_ok]), all2, PR.bind_ok]
    rfl
  · show B_uses_of (P_uses_of n) (P_is_sparing n) _ _ = _
    unfold B_uses_of
    simp only [lt0, lt1, lt2, lt3, lt4, lt5, lt6, lt7, lt8, lt9, lt10, lt11, lt15, lt16, lt17, lt18]
    have e0 : ∀ i : Int, i + (if decide (([111, 102] : List Nat) = [102, 110]) = true then 1 else 0) = i := fun i => by rw [if_neg (by decide)]; omega
    rw [xO0, PR.bind_ok, eqS (by decide) (by decide), PR.bind_ok, ptb_bool, PR.bind_ok, eqS (by decide) (by decide), PR.bind_ok, intP1_b, PR.bind_ok, addSP_int, PR.bind_ok, in_of, PR.bind_ok, itemsP_list, PR.bind_ok, e0,
      lc2 (b := C1_uses_of (P_uses_of n) (.int (c : Int))) (u := .int (if c = 0 then ((0 : Nat) : Int) else 0)) (v := .int (if c = 0 then (o : Int) else 0)) (by unfold C1_uses_of; rw [hf.us n c (by omega), PR.bind_ok]) (by unfold C1_uses_of; rw [ha.us n c (by omega), PR.bind_ok]), sum2, PR.bind_ok]
    simp
  · show B_is_sparing (P_uses_of n) (P_is_sparing n) _ = _
    unfold B_is_sparing
    simp only [lt0, lt1, lt2, lt3, lt4, lt5, lt6, lt7, lt8, lt9, lt10, lt11, lt15, lt16, lt17, lt18]
    have j : J1_is_sparing (P_is_sparing n) (xOf f a) = .ok (.bool true) := by
      unfold J1_is_sparing
      rw [in_of, PR.bind_ok, itemsP_list, PR.bind_ok, lc2 (b := C2_is_sparing (P_is_sparing n)) (u := .bool true) (v := .bool true) (by unfold C2_is_sparing; rw [hf.sp n (by omega) (by omega), PR.bind_ok]) (by unfold C2_is_sparing; rw [ha.sp n (by omega) (by omega), PR.bind_ok]), all2, PR.bind_ok]
    rw [xO0, PR.bind_ok, eqS (by decide) (by decide), PR.bind_ok, ptb_bool, j]
    rfl
  · show B_kind_within (P_kind_within n) _ _ _ = _
    have h1 := hf.kd n (k0 ++ ar) (by omega) (by rw [List.length_append]; omega)
    have h2 := ha.kd n ar (by omega) (by omega)
    rw [List.nil_append, hk] at h1
    unfold B_kind_within
    simp only [lt0, lt1, lt2, lt3, lt4, lt5, lt6, lt7, lt8, lt9, lt10, lt11, lt15, lt16, lt17, lt18]
    rw [xO0, PR.bind_ok, eqS (by decide) (by decide), PR.bind_ok, ptb_bool, eqS (by decide) (by decide), PR.bind_ok, ptb_bool, eqS (by decide) (by decide), PR.bind_ok, ptb_bool, eqS (by decide) (by decide), PR.bind_ok, ptb_bool, if_neg (by decide), if_neg (by decide), if_neg (by decide), if_neg (by decide), xO1, PR.bind_ok, h1, PR.bind_ok, xO2, PR.bind_ok, h2, PR.bind_ok]
    have e0 : ixP (.tuple [ka, kr]) (.int 0) = .ok ka := by simp
    have e1 : ixP (.tuple [ka, kr]) (.int 1) = .ok kr := by simp
    have ee : eqP true ka ka = .ok (.bool false) := by
      unfold eqP
      rw [hs, (SeqAt.eqv_refl ka) (shaped_iff.mp hs).1]
      rfl
    rw [show ∀ K : D → PR D, pisi [.str] (.tuple [ka, kr]) K = K (.bool false) from fun K => rfl, ptt_b, e0, PR.bind_ok, ee, PR.bind_ok, ptb_bool, e1, PR.bind_ok]
    rfl
theorem gd_fn {k kr b : D} {s dp : Nat} (hb : Gd 1 [k] kr s dp b) : Gd 0 [] (.tuple [k, kr]) (s + 1) (dp + 1) (xFn k b) := by
  refine ⟨fun n hn => ?_, fun n c hn => ?_, fun n c hn => ?_, fun n hn hm => ?_, fun n ar hn hm => ?_⟩ <;> obtain ⟨n, rfl⟩ := pos_n hn
  · show B_size_of (P_size_of n) _ = _
    unfold B_size_of
    rw [in_fn, PR.bind_ok, itemsP_list, PR.bind_ok, lc1 (b := C1_size_of (P_size_of n)) (u := .int (s : Int)) (by unfold C1_size_of; rw [hb.sz n (by omega), PR.bind_ok]), sum1, PR.bind_ok, addSP_int, PR.bind_ok]
    congr 2
    omega
  · show B_closed_in (P_closed_in n) _ _ = _
    unfold B_closed_in
    simp only [lt0, lt1, lt2, lt3, lt4, lt5, lt6, lt7, lt8, lt9, lt10, lt11, lt15, lt16, lt17, lt18]
    have e0 : ((c + 0 : Nat) : Int) + (if decide (([102, 110] : List Nat) = [102, 110]) = true then 1 else 0) = ((c + 1 : Nat) : Int) := by rw [if_pos (by decide)]; omega
    rw [xF0, PR.bind_ok, eqS (by decide) (by decide), PR.bind_ok, ptb_bool, PR.bind_ok, eqS (by decide) (by decide), PR.bind_ok, intP1_b, PR.bind_ok, addSP_int, PR.bind_ok, in_fn, PR.bind_ok, itemsP_list, PR.bind_ok, e0,
      lc1 (b := C1_closed_in (P_closed_in n) (.int ((c + 1 : Nat) : Int))) (u := .bool true) (by unfold C1_closed_in; rw [hb.cl n c (by omega), PR.bind_ok]), all1, PR.bind_ok]
    rfl
  · show B_uses_of (P_uses_of n) (P_is_sparing n) _ _ = _
    unfold B_uses_of
    simp only [lt0, lt1, lt2, lt3, lt4, lt5, lt6, lt7, lt8, lt9, lt10, lt11, lt15, lt16, lt17, lt18]
    have e0 : (c : Int) + (if decide (([102, 110] : List Nat) = [102, 110]) = true then 1 else 0) = ((c + 1 : Nat) : Int) := by rw [if_pos (by decide)]; omega
    rw [xF0, PR.bind_ok, eqS (by decide) (by decide), PR.bind_ok, ptb_bool, PR.bind_ok, eqS (by decide) (by decide), PR.bind_ok, intP1_b, PR.bind_ok, addSP_int, PR.bind_ok, in_fn, PR.bind_ok, itemsP_list, PR.bind_ok, e0,
      lc1 (b := C1_uses_of (P_uses_of n) (.int ((c + 1 : Nat) : Int))) (u := .int (if c + 1 = 0 then ((1 : Nat) : Int) else 0)) (by unfold C1_uses_of; rw [hb.us n (c + 1) (by omega), PR.bind_ok]), sum1, PR.bind_ok]
    simp
  · show B_is_sparing (P_uses_of n) (P_is_sparing n) _ = _
    unfold B_is_sparing
    simp only [lt0, lt1, lt2, lt3, lt4, lt5, lt6, lt7, lt8, lt9, lt10, lt11, lt15, lt16, lt17, lt18]
    have j : J1_is_sparing (P_is_sparing n) (xFn k b) = .ok (.bool true) := by
      unfold J1_is_sparing
      rw [in_fn, PR.bind_ok, itemsP_list, PR.bind_ok, lc1 (b := C2_is_sparing (P_is_sparing n)) (u := .bool true) (by unfold C2_is_sparing; rw [hb.sp n (by omega) (by omega), PR.bind_ok]), all1, PR.bind_ok]
    have hu := hb.us n 0 (by omega)
    rw [show ((0 : Nat) : Int) = 0 from rfl] at hu
    rw [xF0, PR.bind_ok, eqS (by decide) (by decide), PR.bind_ok, ptb_bool, xF2, PR.bind_ok, hu, PR.bind_ok, gtP_int, PR.bind_ok, ptb_bool, j]
    rfl
  · show B_kind_within (P_kind_within n) _ _ _ = _
    have h1 := hb.kd n ar (by omega) (by omega)
    unfold B_kind_within
    simp only [lt0, lt1, lt2, lt3, lt4, lt5, lt6, lt7, lt8, lt9, lt10, lt11, lt15, lt16, lt17, lt18]
    rw [xF0, PR.bind_ok, eqS (by decide) (by decide), PR.bind_ok, ptb_bool, eqS (by decide) (by decide), PR.bind_ok, ptb_bool, eqS (by decide) (by decide), PR.bind_ok, ptb_bool, eqS (by decide) (by decide), PR.bind_ok, ptb_bool, if_neg (by decide), if_neg (by decide), if_neg (by decide), if_pos (by decide), xF1, PR.bind_ok, PR.bind_ok, addSP_tup (by rw [sizeLine_eq]; simp; omega), PR.bind_ok, xF2, PR.bind_ok, List.nil_append, h1, PR.bind_ok]

end K32

set_option Elab.async false
set_option linter.all false
set_option maxRecDepth 100000
set_option maxHeartbeats 1000000
namespace K32
open PySem L2 M
/-! ### k32 -/
theorem sh_kd {f : Fm} (hw : f.wf) (hf : f.size ≤ 40) : SeqAt.shaped (kdD f) = true := shaped_iff.mpr ⟨lay_kd f hw, by have := depth_kd f; omega⟩
/-- a neighbour's leaf put to a term -/
structure Lk (o f nb due : Fm) (sg : List Nat) (ah : Bool) : Prop where
  sz : nb.size ≤ f.size + o.size ∧ due.size ≤ f.size + o.size
  w1 : nb.wf
  w2 : due.wf
  ok : okC sg = true
  ln : sg.length ≤ 2
  mk' : mk (if ah then nb else f) (if ah then f else nb) = some (sg, due)
  mt : f.wf → f.size ≤ 9 → nb.size ≤ 9 → due.size ≤ 9 → ∀ {tm lf : D} {s dp : Nat}, Gd 0 [] (kdD f) s dp tm → Gd 0 [] (kdD nb) 1 dp lf →
    ∃ d, P_meant (.str (S sg)) (enc (if ah then nb else f)) (enc (if ah then f else nb)) (if ah then lf else tm) (if ah then tm else lf) = .ok d ∧ Gd 0 [] (kdD due) (s + (if sg.length = 2 then 5 else 2)) (dp + 3) d
theorem gd_one {kf ka kr f a : D} {s s' t dp : Nat} (hf : Gd 0 [] kf s dp f) (ha : Gd 0 [] ka s' dp a) (hk : kf = .tuple [ka, kr]) (hs : SeqAt.shaped ka = true) (ht : t = s + s' + 1) : Gd 0 [] kr t (dp + 3) (tOf f a) := by
  rw [tOf_x, ht]
  exact (gd_of (by simp) hf ha hk hs).up (by omega)
theorem gd_two {kf kg ka kb kr f g : D} {s s' t dp : Nat} (hf : Gd 0 [] kf s dp f) (hg : Gd 0 [] kg s' dp g) (h1 : kf = .tuple [ka, kr]) (h2 : kg = .tuple [kb, ka]) (hs : SeqAt.shaped ka = true) (hs' : SeqAt.shaped kb = true) (ht : t = s + s' + 4) : Gd 0 [] (.tuple [kb, kr]) t (dp + 3) (tFn kb (tOf f (tOf g tB0))) := by
  rw [tFn_x, tOf_x, tOf_x, tB0_x, ht]
  have b1 := gd_of (k0 := [kb]) (by simp) hg ((gd_b0 kb).up (Nat.zero_le dp)) h2 hs'
  have b2 := gd_of (k0 := [kb]) (by simp) (hf.up (Nat.le_succ dp)) b1 h1 hs
  have := gd_fn b2
  rw [show s + s' + 4 = s + (s' + 1 + 1) + 1 + 1 by omega]
  exact this
theorem lk0 (f o : Fm) (hf : f.wf) (ho : o.wf) : Lk o f (.n false o f) o [62] true := ⟨⟨by first | omega | (simp only [Fm.size]; omega), by first | omega | (simp only [Fm.size]; omega)⟩, ⟨ho, hf⟩, ho, rfl, by decide, mk_gt o f, fun hw h1 h2 h3 tm lf s dp ht hl => ⟨_, meant_gt _ _ _ _, gd_one hl ht rfl (sh_kd hw (by omega)) (by simp; omega)⟩⟩
theorem lk1 (f o : Fm) (hf : f.wf) (ho : o.wf) : Lk o f (.n true o f) o [60] false := ⟨⟨by first | omega | (simp only [Fm.size]; omega), by first | omega | (simp only [Fm.size]; omega)⟩, ⟨ho, hf⟩, ho, rfl, by decide, mk_lt o f, fun hw h1 h2 h3 tm lf s dp ht hl => ⟨_, meant_lt _ _ _ _, gd_one hl ht rfl (sh_kd hw (by omega)) (by simp; omega)⟩⟩
theorem lk2 (p q o : Fm) (hp : p.wf) (hq : q.wf) (ho : o.wf) : Lk o (.n false p q) (.n false o p) (.n false o q) [62, 62] true := ⟨⟨by first | omega | (simp only [Fm.size]; omega), by first | omega | (simp only [Fm.size]; omega)⟩, ⟨ho, hp⟩, ⟨ho, hq⟩, rfl, by decide, mk_gg o p q, fun hw h1 h2 h3 tm lf s dp ht hl => by
  have h1 : p.size + q.size ≤ 9 := h1
  exact ⟨_, meant_gg _ _ _ (by omega), gd_two hl ht rfl rfl (sh_kd hp (by omega)) (sh_kd hq (by omega)) (by simp; omega)⟩⟩
theorem lk3 (p q o : Fm) (hp : p.wf) (hq : q.wf) (ho : o.wf) : Lk o (.n true p q) (.n true o p) (.n true o q) [60, 60] false := ⟨⟨by first | omega | (simp only [Fm.size]; omega), by first | omega | (simp only [Fm.size]; omega)⟩, ⟨ho, hp⟩, ⟨ho, hq⟩, rfl, by decide, mk_ll o p q, fun hw h1 h2 h3 tm lf s dp ht hl => by
  have h1 : p.size + q.size ≤ 9 := h1
  exact ⟨_, meant_ll _ _ _ (by omega), gd_two hl ht rfl rfl (sh_kd hp (by omega)) (sh_kd hq (by omega)) (by simp; omega)⟩⟩
theorem lk4 (p q o : Fm) (hp : p.wf) (hq : q.wf) : Lk o (.n false p q) q p [62] false := ⟨⟨by first | omega | (simp only [Fm.size]; omega), by first | omega | (simp only [Fm.size]; omega)⟩, hq, hp, rfl, by decide, mk_gt p q, fun hw h1 h2 h3 tm lf s dp ht hl => ⟨_, meant_gt _ _ _ _, gd_one ht hl rfl (sh_kd hq (by omega)) (by simp)⟩⟩
theorem lk5 (p q o : Fm) (hp : p.wf) (hq : q.wf) : Lk o (.n true p q) q p [60] true := ⟨⟨by first | omega | (simp only [Fm.size]; omega), by first | omega | (simp only [Fm.size]; omega)⟩, hq, hp, rfl, by decide, mk_lt p q, fun hw h1 h2 h3 tm lf s dp ht hl => ⟨_, meant_lt _ _ _ _, gd_one ht hl rfl (sh_kd hq (by omega)) (by simp)⟩⟩
theorem lk6 (p q o : Fm) (hp : p.wf) (hq : q.wf) (ho : o.wf) : Lk o (.n false p q) (.n false q o) (.n false p o) [62, 62] false := ⟨⟨by first | omega | (simp only [Fm.size]; omega), by first | omega | (simp only [Fm.size]; omega)⟩, ⟨hq, ho⟩, ⟨hp, ho⟩, rfl, by decide, mk_gg p q o, fun hw h1 h2 h3 tm lf s dp ht hl => by
  have h1 : p.size + q.size ≤ 9 := h1
  have h2 : q.size + o.size ≤ 9 := h2
  exact ⟨_, meant_gg _ _ _ (by omega), gd_two ht hl rfl rfl (sh_kd hq (by omega)) (sh_kd ho (by omega)) (by simp)⟩⟩
theorem P_more {f o : Fm} (hf : f.wf) (ho : o.wf) (c : Int) : ∃ nb due sg ah, P__law_more (enc f) (enc o) (.int c) = .ok (.tuple [.str (S sg), enc nb, enc due, .bool ah]) ∧ Lk o f nb due sg ah := by
  have hs : ∀ w : List Nat, okC w = true → eqP false (.str (S (hdF f))) (.str (S w)) = .ok (.bool (decide (hdF f = w))) := fun w h => by rw [eqP_str (okC_hdF f) h, ngB_f]
  have j3 : ∃ nb due sg ah, J3__law_more (enc f) (enc o) = .ok (.tuple [.str (S sg), enc nb, enc due, .bool ah]) ∧ Lk o f nb due sg ah := by
    unfold J3__law_more
    simp only [lt0, lt1, lt2, lt3, lt4, lt5, lt6, lt7, lt8, lt9, lt10, lt11, lt15, lt16, lt17, lt18]
    rw [ixF0, PR.bind_ok, hs _ (by decide), PR.bind_ok, ptb_bool, PR.bind_ok, hs _ (by decide), PR.bind_ok, ptb_bool]
    cases f with
    | b w => exact ⟨_, _, _, _, rfl, lk0 (.b w) o hf ho⟩
    | n s p q =>
      cases s with
      | true => exact ⟨_, _, _, _, by rw [ixF2, PR.bind_ok, ixF1, PR.bind_ok]; rfl, lk5 p q o hf.1 hf.2⟩
      | false => exact ⟨_, _, _, _, by rw [ixF2, PR.bind_ok, ixF1, PR.bind_ok]; rfl, lk6 p q o hf.1 hf.2 ho⟩
  have j2 : ∀ w : Int, ∃ nb due sg ah, J2__law_more (enc f) (enc o) (.int w) = .ok (.tuple [.str (S sg), enc nb, enc due, .bool ah]) ∧ Lk o f nb due sg ah := fun w => by
    unfold J2__law_more
    simp only [lt0, lt1, lt2, lt3, lt4, lt5, lt6, lt7, lt8, lt9, lt10, lt11, lt15, lt16, lt17, lt18]
    rw [ixF0, PR.bind_ok, hs _ (by decide), PR.bind_ok, ptb_bool, modP_s (by decide), PR.bind_ok, eqP_int, PR.bind_ok, ptb_bool]
    have no : ∃ nb due sg ah, J4__law_more (enc f) (enc o) false = .ok (.tuple [.str (S sg), enc nb, enc due, .bool ah]) ∧ Lk o f nb due sg ah := j3
    cases f with
    | b v => exact no
    | n s p q =>
      cases s with
      | true => exact no
      | false =>
        rw [if_pos (show decide (_ = _) = true from rfl)]
        generalize ngB false (decide (w % 2 = 0)) = t
        cases t with
        | false => exact no
        | true =>
          unfold J4__law_more
          simp only [lt0, lt1, lt2, lt3, lt4, lt5, lt6, lt7, lt8, lt9, lt10, lt11, lt15, lt16, lt17, lt18, if_true]
          rw [ixF2, PR.bind_ok, ixF1, PR.bind_ok]
          exact ⟨_, _, _, _, rfl, lk4 p q o hf.1 hf.2⟩
  have j1 : ∀ w : Int, ∃ nb due sg ah, J1__law_more (enc f) (enc o) (.int w) = .ok (.tuple [.str (S sg), enc nb, enc due, .bool ah]) ∧ Lk o f nb due sg ah := fun w => by
    unfold J1__law_more
    simp only [lt0, lt1, lt2, lt3, lt4, lt5, lt6, lt7, lt8, lt9, lt10, lt11, lt15, lt16, lt17, lt18]
    rw [eqP_int, PR.bind_ok, ptb_bool, ixF0, PR.bind_ok, hs _ (by decide), PR.bind_ok, ptb_bool]
    have no : ∃ nb due sg ah, J5__law_more (enc f) (enc o) (.int w) false = .ok (.tuple [.str (S sg), enc nb, enc due, .bool ah]) ∧ Lk o f nb due sg ah := j2 w
    split
    · cases f with
      | b v => exact no
      | n s p q =>
        cases s with
        | false => exact no
        | true =>
          unfold J5__law_more
          simp only [lt0, lt1, lt2, lt3, lt4, lt5, lt6, lt7, lt8, lt9, lt10, lt11, lt15, lt16, lt17, lt18]
          rw [if_pos (show decide (_ = _) = true from rfl), ixF1, PR.bind_ok, ixF2, PR.bind_ok]
          exact ⟨_, _, _, _, rfl, lk3 p q o hf.1 hf.2 ho⟩
    · exact no
  unfold P__law_more
  simp only [lt0, lt1, lt2, lt3, lt4, lt5, lt6, lt7, lt8, lt9, lt10, lt11, lt15, lt16, lt17, lt18]
  rw [modP_s (by decide), PR.bind_ok, eqP_int, PR.bind_ok, ptb_bool, eqP_int, PR.bind_ok, ptb_bool, eqP_int, PR.bind_ok, ptb_bool, ixF0, PR.bind_ok, hs _ (by decide), PR.bind_ok, ptb_bool]
  split
  · exact ⟨_, _, _, _, rfl, lk0 f o hf ho⟩
  · split
    · exact ⟨_, _, _, _, rfl, lk1 f o hf ho⟩
    · have no : ∃ nb due sg ah, J6__law_more (enc f) (enc o) (.int (c % 6)) false = .ok (.tuple [.str (S sg), enc nb, enc due, .bool ah]) ∧ Lk o f nb due sg ah := j1 _
      split
      · cases f with
        | b v => exact no
        | n s p q =>
          cases s with
          | true => exact no
          | false =>
            unfold J6__law_more
            simp only [lt0, lt1, lt2, lt3, lt4, lt5, lt6, lt7, lt8, lt9, lt10, lt11, lt15, lt16, lt17, lt18]
            rw [if_pos (show decide (_ = _) = true from rfl), ixF1, PR.bind_ok, ixF2, PR.bind_ok]
            exact ⟨_, _, _, _, rfl, lk2 p q o hf.1 hf.2 ho⟩
      · exact no
theorem P_fsize : ∀ (n : Nat) (f : Fm), f.size ≤ n → P__law_size n (enc f) = .ok (.int (f.size : Int))
  | 0, f, h => by have := f.size_pos; omega
  | n + 1, .b w, h => by
    show B__law_size (P__law_size n) (enc (.b w)) = _
    unfold B__law_size
    simp only [ixF0, PR.bind_ok, lt0, lt1, lt2, lt3, lt4, lt5, lt6, lt7, lt8, lt9, lt10, lt11, lt15, lt16, lt17, lt18, eq_hd, ptb_bool, ngB_f, isB_b, if_true]
    rfl
  | n + 1, .n s x y, h => by
    have px := x.size_pos
    have py := y.size_pos
    have h : x.size + y.size ≤ n + 1 := h
    show B__law_size (P__law_size n) (enc (.n s x y)) = _
    unfold B__law_size
    simp only [ixF0, PR.bind_ok, lt0, lt1, lt2, lt3, lt4, lt5, lt6, lt7, lt8, lt9, lt10, lt11, lt15, lt16, lt17, lt18, eq_hd, ptb_bool, ngB_f, isB_n, Bool.false_eq_true, if_false, ixF1, ixF2, P_fsize n x (by omega), P_fsize n y (by omega), addP_int]
    show _ = PR.ok (PyData.int ((x.size + y.size : Nat) : Int))
    congr 2

end K32

set_option Elab.async false
set_option linter.all false
set_option maxRecDepth 100000
set_option maxHeartbeats 1000000
namespace K32
open PySem L2 M
theorem pw64 : powP (.int 10) (.int 64) = .ok (.int (10 ^ 64)) := by
  rw [powP_s (by decide) (by decide) (by decide)]
  rfl
theorem mul128 : mulP (.int (10 ^ 64)) (.int (10 ^ 64)) = .ok (.int (10 ^ 128)) := by
  show (if mulOk _ _ = true then _ else _) = _
  rw [if_pos (show mulOk _ _ = true from grd_t (.inr (by decide +kernel)))]
  rfl
theorem pw6 : powP (.int 10) (.int 6) = .ok (.int 1000000) := by
  rw [powP_s (by decide) (by decide) (by decide)]
  rfl
theorem okd_sh {d : D} (h1 : d.canLay0 = true) (h2 : d.depth ≤ 64) : SeqAt.shaped d = true := shaped_iff.mpr ⟨h1, h2⟩
theorem sh_mk {sg : List Nat} {x : Fm} (hs : okC sg = true) (hx : x.wf) (h : x.size ≤ 9) : SeqAt.shaped (.tuple [.str (S sg), enc x]) = true := by
  have h1 := lay_enc x hx
  have h2 := depth_enc x
  refine shaped_iff.mpr ⟨by simp [PyData.canLay0, PyData.canLayAll0, strOk_S, hs, h1], ?_⟩
  simp only [PyData.depth, PyData.depthAll]
  omega
theorem S2_one {ws : List (List Nat)} (hw : ∀ w ∈ ws, isW w) (hl : 0 < ws.length) {f : Fm} {d : D} {s dp : Nat} (hf : f.wf) (hf9 : f.size ≤ 9) (hg : Gd 0 [] (kdD f) s dp d) (i c : Int) :
    ∃ f' d' s', f'.wf ∧ f'.size ≤ 9 ∧ Gd 0 [] (kdD f') s' (dp + 3) d' ∧ ∀ kn kb, S2_law (.list (sts ws)) (.tuple [.int i, .int c]) (enc f, d, .int (s : Int), ()) kn kb = kn (enc f', d', .int (s' : Int), ()) := by
  obtain ⟨o, r, o1, o2, _, o3⟩ := P_form hw hl 40 2 (by decide) (by decide) [c / 6 % 1000000, c / 6 / 1000000 % 1000000, c / 6 / 1000000000000 % 1000000]
  have o3 : P__law_form 40 [.int (c / 6 % 1000000), .int (c / 6 / 1000000 % 1000000), .int (c / 6 / 1000000000000 % 1000000)] (.list (sts ws)) (.int 2) = .ok (enc o, r.map .int) := o3
  obtain ⟨nb, due, sg, ah, m1, lk⟩ := P_more hf o1 c
  have psz : ∀ x : Fm, x.size ≤ 40 → P__law_size 40 (enc x) = .ok (.int (x.size : Int)) := fun x h => P_fsize 40 x h
  have bnd : nb.size ≤ 40 ∧ due.size ≤ 40 := by
    have := lk.sz
    omega
  by_cases big : nb.size ≤ 9 ∧ due.size ≤ 9
  · obtain ⟨d', e1, g1⟩ := lk.mt hf hf9 big.1 big.2 hg ((gd_lf (i + 1) (f := nb) (by omega)).up (Nat.zero_le dp))
    refine ⟨due, d', s + (if sg.length = 2 then 5 else 2), lk.w2, big.2, g1, fun kn kb => ?_⟩
    have j : J3_law kn (enc f) d (.int (s : Int)) (.int i) (.str (S sg)) (enc nb) (enc due) (.bool ah) = kn (enc due, d', .int ((s + (if sg.length = 2 then 5 else 2) : Nat) : Int), ()) := by
      have hlen : lenP [.str (S sg)] = .ok (.int (sg.length : Int)) := by
        rw [lenP_str (by rw [sizeLine_eq]; have := lk.ln; omega)]
      have hee : ∀ {x : Option (List Nat × Fm)}, x = some (sg, due) → eqP true (encM x) (.tuple [.str (S sg), enc due]) = .ok (.bool false) := fun h => by
        rw [h]
        have hsh := sh_mk lk.ok lk.w2 big.2
        show eqP true (.tuple [.str (S sg), enc due]) (.tuple [.str (S sg), enc due]) = _
        unfold eqP
        rw [hsh, (SeqAt.eqv_refl _) (shaped_iff.mp hsh).1]
        rfl
      have hmk := lk.mk'
      unfold J3_law
      simp only [lt0, lt1, lt2, lt3, lt4, lt5, lt6, lt7, lt8, lt9, lt10, lt11, lt15, lt16, lt17, lt18]
      rw [addSP_int, PR.bind_ok, intP1_b, PR.bind_ok]
      have t4 : ∀ a b c e : D, ixP (.tuple [a, b, c, e]) (.int 0) = .ok a ∧ ixP (.tuple [a, b, c, e]) (.int 1) = .ok b ∧ ixP (.tuple [a, b, c, e]) (.int 2) = .ok c ∧ ixP (.tuple [a, b, c, e]) (.int 3) = .ok e := fun a b c e => ⟨by simp, by simp, by simp, ixP_tup (by rw [atI_of (by omega)]; rfl)⟩
      have fin : ∀ {K : D → PR D}, ((lenP [PyData.str (S sg)]).bind fun z85 => (eqP false z85 (.int 2)).bind fun z86 => (intP1 [z86]).bind fun z87 => (ixP (.list [.int 2, .int 5]) z87).bind fun z88 => (addP (.int (s : Int)) z88).bind fun z89 => K z89) = K (.int ((s + (if sg.length = 2 then 5 else 2) : Nat) : Int)) := fun {K} => by
        rw [hlen, PR.bind_ok, eqP_int, PR.bind_ok, ngB_f, intP1_b, PR.bind_ok]
        by_cases z : sg.length = 2
        · rw [decide_eq_true (by omega), if_pos rfl, if_pos z, ixP_list (c := .int 5) (by rw [atI_of (by omega)]; rfl), PR.bind_ok, addP_int, PR.bind_ok]
          rfl
        · rw [decide_eq_false (by omega), if_neg (by decide), if_neg z, ixP_list (c := .int 2) (by rw [atI_of (by omega)]; rfl), PR.bind_ok, addP_int, PR.bind_ok]
          rfl
      cases ah with
      | true =>
        simp only [if_true] at e1 hmk ⊢
        rw [ixP_list (c := .tuple [enc nb, enc f, xLf (i + 1) (enc nb), d]) (by rw [atI_of (by omega)]; rfl), PR.bind_ok]
        obtain ⟨t0, t1, t2, t3⟩ := t4 (enc nb) (enc f) (xLf (i + 1) (enc nb)) d
        rw [t0, PR.bind_ok, t1, PR.bind_ok, P_mk lk.w1 hf (by omega) (by omega), PR.bind_ok, hee hmk, PR.bind_ok, ptb_bool, PR.bind_ok, PR.bind_ok, t2, PR.bind_ok, t3, PR.bind_ok, e1, PR.bind_ok, fin]
        rfl
      | false =>
        simp only [Bool.false_eq_true, if_false] at e1 hmk ⊢
        rw [ixP_list (c := .tuple [enc f, enc nb, d, xLf (i + 1) (enc nb)]) (by rw [atI_of (by omega)]; rfl), PR.bind_ok]
        obtain ⟨t0, t1, t2, t3⟩ := t4 (enc f) (enc nb) d (xLf (i + 1) (enc nb))
        rw [t0, PR.bind_ok, t1, PR.bind_ok, P_mk hf lk.w1 (by omega) (by omega), PR.bind_ok, hee hmk, PR.bind_ok, ptb_bool, PR.bind_ok, PR.bind_ok, t2, PR.bind_ok, t3, PR.bind_ok, e1, PR.bind_ok, fin]
        rfl
    unfold S2_law
    rw [ptup_tuple, pcons_cons, pcons_cons, pnil_nil, divP_s (by decide) (by decide), PR.bind_ok, pw6, PR.bind_ok, modP_s (by decide), PR.bind_ok, PR.bind_ok, divP_s (by decide) (by decide), PR.bind_ok, PR.bind_ok, modP_s (by decide), PR.bind_ok, pw12, PR.bind_ok, divP_s (by decide) (by decide), PR.bind_ok, PR.bind_ok, modP_s (by decide), PR.bind_ok, fuelR_eq, o3, PR.bind_ok]
    dsimp only
    rw [m1, PR.bind_ok, ptup_tuple, pcons_cons, pcons_cons, pcons_cons, pcons_cons, pnil_nil, psz nb bnd.1, PR.bind_ok, gtP_int, PR.bind_ok, ptb_bool, if_neg (by simp; omega), psz due bnd.2, PR.bind_ok, gtP_int, PR.bind_ok, ptb_bool]
    unfold J4_law
    rw [if_neg (by simp; omega), j]
  · refine ⟨f, d, s, hf, hf9, hg.up (by omega), fun kn kb => ?_⟩
    unfold S2_law
    rw [ptup_tuple, pcons_cons, pcons_cons, pnil_nil, divP_s (by decide) (by decide), PR.bind_ok, pw6, PR.bind_ok, modP_s (by decide), PR.bind_ok, PR.bind_ok, divP_s (by decide) (by decide), PR.bind_ok, PR.bind_ok, modP_s (by decide), PR.bind_ok, pw12, PR.bind_ok, divP_s (by decide) (by decide), PR.bind_ok, PR.bind_ok, modP_s (by decide), PR.bind_ok, fuelR_eq, o3, PR.bind_ok]
    dsimp only
    rw [m1, PR.bind_ok, ptup_tuple, pcons_cons, pcons_cons, pcons_cons, pcons_cons, pnil_nil, psz nb bnd.1, PR.bind_ok, gtP_int, PR.bind_ok, ptb_bool, psz due bnd.2, PR.bind_ok, gtP_int, PR.bind_ok, ptb_bool]
    unfold J4_law
    by_cases z : nb.size ≤ 9
    · rw [if_neg (by simp; omega), if_pos (by simp; omega)]
    · rw [if_pos (by simp; omega), if_pos rfl]
theorem J1_ok {ws : List (List Nat)} (hw : ∀ w ∈ ws, isW w) (hl : 0 < ws.length) {f : Fm} (hf : f.wf) (hf9 : f.size ≤ 9) (cs : List Int) (hc : cs.length ≤ 40) : J1_law (.list (sts ws)) (enc f) (xLf 0 (enc f)) (.int 1) (.list (cs.map .int)) = .ok (.bool true) := by
  unfold J1_law
  rw [show enumP [.list (cs.map PyData.int)] = .ok (enumD (cs.map .int)) from rfl, PR.bind_ok]
  obtain ⟨st, ⟨f', d', s', rfl, w1, w2, g⟩, hk⟩ := foldK_invU (γ := D) (step := S2_law (.list (sts ws))) (fun i st => ∃ (f : Fm) (d : D) (s : Nat), st = (enc f, d, .int (s : Int), ()) ∧ f.wf ∧ f.size ≤ 9 ∧ Gd 0 [] (kdD f) s (3 * i) d) (xs := enumD (cs.map .int)) (i := 0) (s := (enc f, xLf 0 (enc f), .int 1, ()))
    (fun m x st hx => by
      rintro ⟨f, d, s, rfl, h1, h2, h3⟩
      unfold enumD at hx
      rw [List.getElem?_map, Option.map_eq_some_iff] at hx
      obtain ⟨⟨y, j⟩, hy, rfl⟩ := hx
      have hym : y ∈ cs.map PyData.int := by
        have := List.mem_of_getElem? hy
        exact List.fst_mem_of_mem_zipIdx this
      obtain ⟨c, _, rfl⟩ := List.mem_map.mp hym
      obtain ⟨f', d', s', q1, q2, q3, q4⟩ := S2_one hw hl h1 h2 h3 (j : Int) c
      exact ⟨_, ⟨f', d', s', rfl, q1, q2, by rw [show 3 * (0 + m + 1) = 3 * (0 + m) + 3 by omega]; exact q3⟩, q4⟩)
    ⟨f, xLf 0 (enc f), 1, rfl, hf, hf9, gd_lf 0 (by omega)⟩
  have hlen : (enumD (cs.map PyData.int)).length ≤ 40 := by
    unfold enumD
    rw [List.length_map, List.length_zipIdx, List.length_map]
    exact hc
  rw [hk]
  dsimp only
  have hdp : 3 * (0 + (enumD (cs.map PyData.int)).length) ≤ 120 := by omega
  generalize 3 * (0 + (enumD (cs.map PyData.int)).length) = dp at g hdp
  have e1 := g.sz 130 (by omega)
  have e2 := g.cl 130 0 (by omega)
  have e3 := g.sp 130 (by omega) (by omega)
  have e4 := g.kd 130 [] (by omega) (by simp; omega)
  rw [fuelT_eq, e1, PR.bind_ok, eqP_int, PR.bind_ok, ptb_bool]
  have e2 : P_closed_in 130 d' (.int 0) = .ok (.bool true) := e2
  have e4 : P_kind_within 130 [] (.tuple []) d' = .ok (kdD f') := e4
  have ic : P_is_closed d' = .ok (.bool true) := by
    unfold P_is_closed
    rw [fuelT_eq, e2, PR.bind_ok]
  have ko : P_kind_of (.list []) d' = .ok (kdD f') := by
    unfold P_kind_of
    rw [itemsP_list, PR.bind_ok, foldK_nil]
    dsimp only
    rw [fuelT_eq, e4, PR.bind_ok]
  have j5 : J5_law (enc f') d' = .ok (.bool true) := by
    unfold J5_law
    have hsh := sh_kd w1 (f := f') (by omega)
    rw [ko, PR.bind_ok, fuelR_eq, P_kindOf 40 f' (by omega), PR.bind_ok]
    have : eqP false (kdD f') (kdD f') = .ok (.bool true) := by
      unfold eqP
      rw [hsh, (SeqAt.eqv_refl _) (shaped_iff.mp hsh).1]
      rfl
    rw [this, PR.bind_ok]
  rw [ic, PR.bind_ok, e3, PR.bind_ok, j5]
  simp
theorem P_spread (c : Int) (n : Nat) (hn : n ≤ 1000) : ∃ xs : List Int, xs.length = n ∧ P__law_spread (.int c) (.int (n : Int)) = .ok (.list (xs.map .int)) := by
  obtain ⟨st, ⟨a, b, xs, rfl, hx⟩, hk⟩ := foldK_invU (γ := D) (step := S1__law_spread (.int c)) (fun i st => ∃ (a b : Int) (xs : List Int), st = (.int a, .int b, xs.map .int, ()) ∧ xs.length = i) (xs := (List.range n).map fun (k : Nat) => PyData.int (k : Int)) (i := 0) (s := (.int (c % 2147483646 + 1), .int (c / 2), [], ()))
    (fun m x st hx => by
      rintro ⟨a, b, xs, rfl, hl⟩
      have hm : m < n := by
        have := (List.getElem?_eq_some_iff.mp hx).1
        simpa using this
      have h2 : c % 2 = 0 ∨ c % 2 = 1 := by omega
      have hix : ∃ y : Int, ixP (.list [.int (b % 1000000000000), .int (a * 48271 % 2147483647 * 69621 % 2147483629)]) (.int (c % 2)) = .ok (.int y) := by
        rcases h2 with h2 | h2 <;> rw [h2]
        · exact ⟨_, ixP_list (by rw [atI_of (by omega)]; rfl)⟩
        · exact ⟨_, ixP_list (by rw [atI_of (by omega)]; rfl)⟩
      obtain ⟨y, hy⟩ := hix
      refine ⟨(.int (a * 48271 % 2147483647), .int (b / 1000000000000), (xs ++ [y]).map .int, ()), ⟨_, _, xs ++ [y], rfl, by simp [hl]⟩, fun kn kb => ?_⟩
      unfold S1__law_spread
      dsimp only
      rw [mulP_s (by decide) (by decide), PR.bind_ok, modP_s (by decide), PR.bind_ok, pw12, PR.bind_ok, modP_s (by decide), PR.bind_ok, PR.bind_ok, divP_s (by decide) (by decide), PR.bind_ok, mulP_s (by decide) (by decide), PR.bind_ok, modP_s (by decide), PR.bind_ok, modP_s (by decide), PR.bind_ok, hy, PR.bind_ok, appendP_s _ (by rw [sizeLine_eq, List.length_map]; omega), PR.bind_ok]
      simp)
    ⟨_, _, [], rfl, rfl⟩
  refine ⟨xs, by rw [hx]; simp, ?_⟩
  unfold P__law_spread
  rw [modP_s (by decide), PR.bind_ok, addSP_int, PR.bind_ok, divP_s (by decide) (by decide), PR.bind_ok, rng1P_s (by omega) (by omega), PR.bind_ok, Int.toNat_natCast, hk]
theorem law_P : ∀ ns : List Int, ns.length ≤ 63 → P_law (ns.map .int) = .ok (.bool true) := by
  intro ns hns
  have hc8 : cutD (ns.map .int) none (some 8) = (ns.take 8).map .int := by
    rw [cutD_take (by omega)]
    simp
  have hc42 : cutD (ns.map .int) (some 2) (some 42) = ((ns.take 42).drop 2).map .int := by
    rw [cutD_mid (by omega) (by omega)]
    simp
  obtain ⟨c2, r2, b0, b1, _, b2⟩ := P_take (ns.take 8) (k := 10 ^ 128) (by decide)
  obtain ⟨ws, w1, w2, w3, w4, w5⟩ := P_names c2 3 (by omega)
  rw [show ((3 : Nat) : Int) = 3 from rfl] at w5
  obtain ⟨f, r3, f1, f2, _, f3⟩ := P_form w2 (by omega) 40 3 (by omega) (by omega) r2
  rw [show ((3 : Nat) : Int) = 3 from rfl] at f3
  unfold P_law
  rw [pti_int, slP_list, PR.bind_ok, hc8]
  show (PR.ok (PyData.list ((ns.take 8).map .int))).bind _ = _
  rw [PR.bind_ok, ptl_list, pw64, PR.bind_ok, PR.bind_ok, mul128, PR.bind_ok, b2, PR.bind_ok]
  dsimp only
  rw [w5, PR.bind_ok, fuelR_eq, f3, PR.bind_ok]
  dsimp only
  obtain ⟨x, ns', hx⟩ : ∃ x ns', ns ++ [0] = x :: ns' := by
    cases ns with
    | nil => exact ⟨_, _, rfl⟩
    | cons a l => exact ⟨_, _, rfl⟩
  have hadd : addP (.list (ns.map .int)) (.list [.int 0]) = .ok (.list (.int x :: ns'.map .int)) := by
    rw [addP_list (by rw [sizeLine_eq]; simp; omega), show ns.map PyData.int ++ [.int 0] = (ns ++ [0]).map .int by simp, hx]
    rfl
  have hlf : ∀ d : D, (PyData.tuple [.str (Str.ofString "leaf"), .int 0, d]) = xLf 0 d := fun d => by
    unfold xLf
    rw [show Str.ofString "leaf" = S [108, 101, 97, 102] by decide +kernel]
  rw [pti_int, pti_int, slP_list, PR.bind_ok, hc42, hadd, PR.bind_ok, ixP_list (c := .int x) (by rw [atI_of (by omega)]; rfl), PR.bind_ok, modP_s (by decide), PR.bind_ok, eqP_int, PR.bind_ok, ptb_bool, hlf]
  split
  · rename_i h5
    have hne : ∃ l, ns = x :: l := by
      cases ns with
      | nil =>
        have : x = 0 := by
          have : (0 : Int) :: [] = x :: ns' := hx
          injection this with h _
          exact h.symm
        rw [this] at h5
        exact absurd h5 (by decide)
      | cons a l =>
        have : a :: (l ++ [0]) = x :: ns' := hx
        injection this with h _
        exact ⟨l, by rw [h]⟩
    obtain ⟨l, hl⟩ := hne
    obtain ⟨ys, y1, y2⟩ := P_spread (x / 8) 20 (by omega)
    rw [show ((20 : Nat) : Int) = 20 from rfl] at y2
    have hmax : ∃ m : Nat, m ≤ 40 ∧ maxP2 [.int 20, .int ((((ns.take 42).drop 2).map PyData.int).length : Int)] = .ok (.int (m : Int)) := by
      refine ⟨if ((((ns.take 42).drop 2).map PyData.int).length : Int) > 20 then (((ns.take 42).drop 2).map PyData.int).length else 20, ?_, ?_⟩
      · split
        · simp only [List.length_map, List.length_drop, List.length_take]; omega
        · omega
      · show PR.ok (PyData.int (maxI _ _)) = _
        unfold maxI
        split <;> rfl
    obtain ⟨m, m1, m2⟩ := hmax
    have hix : ixP (.list (ns.map .int)) (.int 0) = .ok (.int x) := by
      rw [hl]
      exact ixP_list (by rw [atI_of (by omega)]; rfl)
    rw [hix, PR.bind_ok, divP_s (by decide) (by decide), PR.bind_ok, y2, PR.bind_ok, addP_list (by rw [sizeLine_eq]; simp only [List.length_map, List.length_drop, List.length_take]; omega), PR.bind_ok, lenP_list, PR.bind_ok, m2, PR.bind_ok, pti_int, slP_list, PR.bind_ok, ← List.map_append, cutD_take (by omega), Int.toNat_natCast, ← List.map_take]
    exact J1_ok w2 (by omega) f1 (by omega) _ (by rw [List.length_take]; omega)
  · exact J1_ok w2 (by omega) f1 (by omega) _ (by simp only [List.length_drop, List.length_take]; omega)

end K32

set_option Elab.async false
set_option linter.all false
set_option maxRecDepth 100000
set_option maxHeartbeats 4000000
namespace K32
open PySem L2 M
def top (i : Nat) : Stmt := PySem.Challenge.pw_slashwise_k32_whole_rows_put_together.main.body.getD i (.Pass ⟨0, 0, 0, 0⟩)
structure Txt (K : PySem.W.Frag) (mg : Str → Option Value) where
  cl_RightTaken : Addr
  cg_RightTaken : mg "RightTaken" = some (.ref cl_RightTaken)
  cc_RightTaken : Cls K cl_RightTaken
  cm_RightTaken : MkO K cl_RightTaken
  cl_LeftTaken : Addr
  cg_LeftTaken : mg "LeftTaken" = some (.ref cl_LeftTaken)
  cc_LeftTaken : Cls K cl_LeftTaken
  cm_LeftTaken : MkO K cl_LeftTaken
  cl_RightHanded : Addr
  cg_RightHanded : mg "RightHanded" = some (.ref cl_RightHanded)
  cc_RightHanded : Cls K cl_RightHanded
  cm_RightHanded : MkO K cl_RightHanded
  cl_LeftHanded : Addr
  cg_LeftHanded : mg "LeftHanded" = some (.ref cl_LeftHanded)
  cc_LeftHanded : Cls K cl_LeftHanded
  cm_LeftHanded : MkO K cl_LeftHanded
  ad_kind_of_form : Addr
  fd_kind_of_form : FuncData
  fn_kind_of_form : Fun K "kind_of_form" "kind_of_form" (top 4) ad_kind_of_form fd_kind_of_form
  bn_kind_of_form : Binds K fd_kind_of_form ["form"] []
  gl_kind_of_form : mg "kind_of_form" = some (.ref ad_kind_of_form)
  ad_handed_on : Addr
  fd_handed_on : FuncData
  fn_handed_on : Fun K "handed_on" "handed_on" (top 9) ad_handed_on fd_handed_on
  bn_handed_on : Binds K fd_handed_on ["form", "taker", "taken"] []
  gl_handed_on : mg "handed_on" = some (.ref ad_handed_on)
  ad_RightTaken__sign : Addr
  fd_RightTaken__sign : FuncData
  fn_RightTaken__sign : Fun K "sign" "RightTaken.sign" (inClass (top 7) 0) ad_RightTaken__sign fd_RightTaken__sign
  bn_RightTaken__sign : Binds K fd_RightTaken__sign ["self"] []
  mt_RightTaken__sign : Meth K cl_RightTaken "sign" ad_RightTaken__sign
  ad_RightTaken__joined : Addr
  fd_RightTaken__joined : FuncData
  fn_RightTaken__joined : Fun K "joined" "RightTaken.joined" (inClass (top 7) 1) ad_RightTaken__joined fd_RightTaken__joined
  bn_RightTaken__joined : Binds K fd_RightTaken__joined ["self", "left", "right"] []
  mt_RightTaken__joined : Meth K cl_RightTaken "joined" ad_RightTaken__joined
  ad_RightTaken__meant : Addr
  fd_RightTaken__meant : FuncData
  fn_RightTaken__meant : Fun K "meant" "RightTaken.meant" (inClass (top 7) 2) ad_RightTaken__meant fd_RightTaken__meant
  bn_RightTaken__meant : Binds K fd_RightTaken__meant ["self", "left", "right", "first", "second"] []
  mt_RightTaken__meant : Meth K cl_RightTaken "meant" ad_RightTaken__meant
  ad_LeftTaken__sign : Addr
  fd_LeftTaken__sign : FuncData
  fn_LeftTaken__sign : Fun K "sign" "LeftTaken.sign" (inClass (top 8) 0) ad_LeftTaken__sign fd_LeftTaken__sign
  bn_LeftTaken__sign : Binds K fd_LeftTaken__sign ["self"] []
  mt_LeftTaken__sign : Meth K cl_LeftTaken "sign" ad_LeftTaken__sign
  ad_LeftTaken__joined : Addr
  fd_LeftTaken__joined : FuncData
  fn_LeftTaken__joined : Fun K "joined" "LeftTaken.joined" (inClass (top 8) 1) ad_LeftTaken__joined fd_LeftTaken__joined
  bn_LeftTaken__joined : Binds K fd_LeftTaken__joined ["self", "left", "right"] []
  mt_LeftTaken__joined : Meth K cl_LeftTaken "joined" ad_LeftTaken__joined
  ad_LeftTaken__meant : Addr
  fd_LeftTaken__meant : FuncData
  fn_LeftTaken__meant : Fun K "meant" "LeftTaken.meant" (inClass (top 8) 2) ad_LeftTaken__meant fd_LeftTaken__meant
  bn_LeftTaken__meant : Binds K fd_LeftTaken__meant ["self", "left", "right", "first", "second"] []
  mt_LeftTaken__meant : Meth K cl_LeftTaken "meant" ad_LeftTaken__meant
  ad_RightHanded__sign : Addr
  fd_RightHanded__sign : FuncData
  fn_RightHanded__sign : Fun K "sign" "RightHanded.sign" (inClass (top 10) 0) ad_RightHanded__sign fd_RightHanded__sign
  bn_RightHanded__sign : Binds K fd_RightHanded__sign ["self"] []
  mt_RightHanded__sign : Meth K cl_RightHanded "sign" ad_RightHanded__sign
  ad_RightHanded__joined : Addr
  fd_RightHanded__joined : FuncData
  fn_RightHanded__joined : Fun K "joined" "RightHanded.joined" (inClass (top 10) 1) ad_RightHanded__joined fd_RightHanded__joined
  bn_RightHanded__joined : Binds K fd_RightHanded__joined ["self", "left", "right"] []
  mt_RightHanded__joined : Meth K cl_RightHanded "joined" ad_RightHanded__joined
  ad_RightHanded__meant : Addr
  fd_RightHanded__meant : FuncData
  fn_RightHanded__meant : Fun K "meant" "RightHanded.meant" (inClass (top 10) 2) ad_RightHanded__meant fd_RightHanded__meant
  bn_RightHanded__meant : Binds K fd_RightHanded__meant ["self", "left", "right", "first", "second"] []
  mt_RightHanded__meant : Meth K cl_RightHanded "meant" ad_RightHanded__meant
  ad_LeftHanded__sign : Addr
  fd_LeftHanded__sign : FuncData
  fn_LeftHanded__sign : Fun K "sign" "LeftHanded.sign" (inClass (top 11) 0) ad_LeftHanded__sign fd_LeftHanded__sign
  bn_LeftHanded__sign : Binds K fd_LeftHanded__sign ["self"] []
  mt_LeftHanded__sign : Meth K cl_LeftHanded "sign" ad_LeftHanded__sign
  ad_LeftHanded__joined : Addr
  fd_LeftHanded__joined : FuncData
  fn_LeftHanded__joined : Fun K "joined" "LeftHanded.joined" (inClass (top 11) 1) ad_LeftHanded__joined fd_LeftHanded__joined
  bn_LeftHanded__joined : Binds K fd_LeftHanded__joined ["self", "left", "right"] []
  mt_LeftHanded__joined : Meth K cl_LeftHanded "joined" ad_LeftHanded__joined
  ad_LeftHanded__meant : Addr
  fd_LeftHanded__meant : FuncData
  fn_LeftHanded__meant : Fun K "meant" "LeftHanded.meant" (inClass (top 11) 2) ad_LeftHanded__meant fd_LeftHanded__meant
  bn_LeftHanded__meant : Binds K fd_LeftHanded__meant ["self", "left", "right", "first", "second"] []
  mt_LeftHanded__meant : Meth K cl_LeftHanded "meant" ad_LeftHanded__meant
  ad_all_rules : Addr
  fd_all_rules : FuncData
  fn_all_rules : Fun K "all_rules" "all_rules" (top 12) ad_all_rules fd_all_rules
  bn_all_rules : Binds K fd_all_rules [] []
  gl_all_rules : mg "all_rules" = some (.ref ad_all_rules)
  ad_made : Addr
  fd_made : FuncData
  fn_made : Fun K "made" "made" (top 13) ad_made fd_made
  bn_made : Binds K fd_made ["left", "right"] []
  gl_made : mg "made" = some (.ref ad_made)
  ad_meant : Addr
  fd_meant : FuncData
  fn_meant : Fun K "meant" "meant" (top 14) ad_meant fd_meant
  bn_meant : Binds K fd_meant ["sign", "left", "right", "first", "second"] []
  gl_meant : mg "meant" = some (.ref ad_meant)
  ad_within : Addr
  fd_within : FuncData
  fn_within : Fun K "within" "within" (top 16) ad_within fd_within
  bn_within : Binds K fd_within ["term"] []
  gl_within : mg "within" = some (.ref ad_within)
  ad_size_of : Addr
  fd_size_of : FuncData
  fn_size_of : Fun K "size_of" "size_of" (top 17) ad_size_of fd_size_of
  bn_size_of : Binds K fd_size_of ["term"] []
  gl_size_of : mg "size_of" = some (.ref ad_size_of)
  ad_closed_in : Addr
  fd_closed_in : FuncData
  fn_closed_in : Fun K "closed_in" "closed_in" (top 18) ad_closed_in fd_closed_in
  bn_closed_in : Binds K fd_closed_in ["term", "many"] []
  gl_closed_in : mg "closed_in" = some (.ref ad_closed_in)
  ad_is_closed : Addr
  fd_is_closed : FuncData
  fn_is_closed : Fun K "is_closed" "is_closed" (top 19) ad_is_closed fd_is_closed
  bn_is_closed : Binds K fd_is_closed ["term"] []
  gl_is_closed : mg "is_closed" = some (.ref ad_is_closed)
  ad_uses_of : Addr
  fd_uses_of : FuncData
  fn_uses_of : Fun K "uses_of" "uses_of" (top 20) ad_uses_of fd_uses_of
  bn_uses_of : Binds K fd_uses_of ["term", "level"] []
  gl_uses_of : mg "uses_of" = some (.ref ad_uses_of)
  ad_is_sparing : Addr
  fd_is_sparing : FuncData
  fn_is_sparing : Fun K "is_sparing" "is_sparing" (top 21) ad_is_sparing fd_is_sparing
  bn_is_sparing : Binds K fd_is_sparing ["term"] []
  gl_is_sparing : mg "is_sparing" = some (.ref ad_is_sparing)
  ad_kind_within : Addr
  fd_kind_within : FuncData
  fn_kind_within : Fun K "kind_within" "kind_within" (top 22) ad_kind_within fd_kind_within
  bn_kind_within : Binds K fd_kind_within ["known", "around", "term"] []
  gl_kind_within : mg "kind_within" = some (.ref ad_kind_within)
  ad_kind_of : Addr
  fd_kind_of : FuncData
  fn_kind_of : Fun K "kind_of" "kind_of" (top 23) ad_kind_of fd_kind_of
  bn_kind_of : Binds K fd_kind_of ["names", "term"] []
  gl_kind_of : mg "kind_of" = some (.ref ad_kind_of)
  ad__law_take : Addr
  fd__law_take : FuncData
  fn__law_take : Fun K "_law_take" "_law_take" (top 25) ad__law_take fd__law_take
  bn__law_take : Binds K fd__law_take ["_law_cells", "_law_many"] []
  gl__law_take : mg "_law_take" = some (.ref ad__law_take)
  ad__law_names : Addr
  fd__law_names : FuncData
  fn__law_names : Fun K "_law_names" "_law_names" (top 26) ad__law_names fd__law_names
  bn__law_names : Binds K fd__law_names ["_law_cell", "_law_many"] []
  gl__law_names : mg "_law_names" = some (.ref ad__law_names)
  ad__law_form : Addr
  fd__law_form : FuncData
  fn__law_form : Fun K "_law_form" "_law_form" (top 27) ad__law_form fd__law_form
  bn__law_form : Binds K fd__law_form ["_law_cells", "_law_basics", "_law_left"] []
  gl__law_form : mg "_law_form" = some (.ref ad__law_form)
  ad__law_spread : Addr
  fd__law_spread : FuncData
  fn__law_spread : Fun K "_law_spread" "_law_spread" (top 28) ad__law_spread fd__law_spread
  bn__law_spread : Binds K fd__law_spread ["_law_cell", "_law_many"] []
  gl__law_spread : mg "_law_spread" = some (.ref ad__law_spread)
  ad__law_size : Addr
  fd__law_size : FuncData
  fn__law_size : Fun K "_law_size" "_law_size" (top 29) ad__law_size fd__law_size
  bn__law_size : Binds K fd__law_size ["_law_form_here"] []
  gl__law_size : mg "_law_size" = some (.ref ad__law_size)
  ad__law_more : Addr
  fd__law_more : FuncData
  fn__law_more : Fun K "_law_more" "_law_more" (top 30) ad__law_more fd__law_more
  bn__law_more : Binds K fd__law_more ["_law_form_here", "_law_other", "_law_cell"] []
  gl__law_more : mg "_law_more" = some (.ref ad__law_more)
  ad_law : Addr
  fd_law : FuncData
  fn_law : Fun K "law" "law" (top 31) ad_law fd_law
  bn_law : Binds K fd_law ["_law_script"] []
  gl_law : mg "law" = some (.ref ad_law)
  z_all : mg "all" = none
  z_enumerate : mg "enumerate" = none
  z_int : mg "int" = none
  z_isinstance : mg "isinstance" = none
  z_len : mg "len" = none
  z_list : mg "list" = none
  z_max : mg "max" = none
  z_range : mg "range" = none
  z_str : mg "str" = none
  z_sum : mg "sum" = none
  xc_NoKind : XC K mg "NoKind"
section
variable {P : Program} {w : World} {K : PySem.W.Frag} {mg : Str → Option Value} {base : Heap}
abbrev N_kind_of_form : List Str := ["form"]
theorem sc_kind_of_form : FnScope N_kind_of_form ["form"] (defScope (top 4)) := ⟨rfl, rfl, rfl, by decide +kernel, rfl, by decide +kernel, by decide +kernel⟩
theorem st_kind_of_form (T : Txt K mg) {n : Nat} (ih_kind_of_form : FnOk P w K mg base (L2.CX P w) (n + 0) T.ad_kind_of_form T.fd_kind_of_form ["form"] (SpM K mg 1 (F_kind_of_form n))) : FnOk P w K mg base (L2.CX P w) (n + 0 + 1) T.ad_kind_of_form T.fd_kind_of_form ["form"] (SpM K mg 1 (F_kind_of_form (n + 1))) :=
  okF T.fn_kind_of_form sc_kind_of_form fun cdv A outer s H E hr =>
    (mb_cons (ms_if (mt_cmp (op_eqD hr.units) eqW_ok (me_ix ix_seq ixW_ok (me_var 0) me_int) me_str) (mb_one (ms_ret (me_ix ix_seq ixW_ok (me_var 0) me_int))) mb_nil)
    (mb_one (ms_ret (me_tup (ma_cons (me_frz (me_call (takes_of rfl rfl rfl rfl) ih_kind_of_form hr T.gl_kind_of_form T.fn_kind_of_form.kp T.bn_kind_of_form (by rfl) (ma_cons (me_ix ix_seq ixW_ok (me_var 0) me_int) ma_nil) (aCons_len aNil_len))) (ma_cons (me_frz (me_call (takes_of rfl rfl rfl rfl) ih_kind_of_form hr T.gl_kind_of_form T.fn_kind_of_form.kp T.bn_kind_of_form (by rfl) (ma_cons (me_ix ix_seq ixW_ok (me_var 0) me_int) ma_nil) (aCons_len aNil_len))) ma_nil))))))
theorem ok_kind_of_form (T : Txt K mg) : ∀ n : Nat, FnOk P w K mg base (L2.CX P w) (n + 0) T.ad_kind_of_form T.fd_kind_of_form ["form"] (SpM K mg 1 (F_kind_of_form n))
  | 0 => okBad
  | n + 1 => (st_kind_of_form T (ok_kind_of_form T n)).mono (by omega)
abbrev N_handed_on : List Str := ["form", "taker", "taken"]
theorem sc_handed_on : FnScope N_handed_on ["form", "taker", "taken"] (defScope (top 9)) := ⟨rfl, rfl, rfl, by decide +kernel, rfl, by decide +kernel, by decide +kernel⟩
theorem ok_handed_on (T : Txt K mg) : FnOk P w K mg base (L2.CX P w) (41) T.ad_handed_on T.fd_handed_on ["form", "taker", "taken"] (SpM K mg 3 F_handed_on) :=
  okF T.fn_handed_on sc_handed_on fun cdv A outer s H E hr =>
    (mb_one (ms_ret (me_tup (ma_cons me_str (ma_cons (me_frz (me_call (takes_of rfl rfl rfl rfl) (ok_kind_of_form T 40) (hr.mono (by decide)) T.gl_kind_of_form T.fn_kind_of_form.kp T.bn_kind_of_form (by rfl) (ma_cons (me_ix ix_seq ixW_ok (me_var 0) me_int) ma_nil) (aCons_len aNil_len))) (ma_cons (me_tup (ma_cons me_str (ma_cons (me_var 1) (ma_cons (me_tup (ma_cons me_str (ma_cons (me_var 2) (ma_cons (me_tup (ma_cons me_str (ma_cons me_int ma_nil))) ma_nil)))) ma_nil)))) ma_nil))))))
abbrev N_RightTaken__sign : List Str := ["self"]
theorem sc_RightTaken__sign : FnScope N_RightTaken__sign ["self"] (defScope (inClass (top 7) 0)) := ⟨rfl, rfl, rfl, by decide +kernel, rfl, by decide +kernel, by decide +kernel⟩
theorem ok_RightTaken__sign (T : Txt K mg) : FnOk P w K mg base (L2.CX P w) (1) T.ad_RightTaken__sign T.fd_RightTaken__sign ["self"] (SpD K 0 PL_RightTaken__sign) :=
  okD (N' := 0) T.fn_RightTaken__sign sc_RightTaken__sign rfl rfl (fun cdv A outer s H E hr =>
    (mb_one (ms_ret me_str))) rs_RightTaken__sign (fun ds h => by match ds, h with | [], _ => exact e_RightTaken__sign )
abbrev N_RightTaken__joined : List Str := ["self", "left", "right"]
theorem sc_RightTaken__joined : FnScope N_RightTaken__joined ["self", "left", "right"] (defScope (inClass (top 7) 1)) := ⟨rfl, rfl, rfl, by decide +kernel, rfl, by decide +kernel, by decide +kernel⟩
theorem ok_RightTaken__joined (T : Txt K mg) : FnOk P w K mg base (L2.CX P w) (1) T.ad_RightTaken__joined T.fd_RightTaken__joined ["self", "left", "right"] (SpD K 2 PL_RightTaken__joined) :=
  okD (N' := 2) T.fn_RightTaken__joined sc_RightTaken__joined rfl rfl (fun cdv A outer s H E hr =>
    (mb_cons (ms_if (MP.mt (mp_and (mt_cmp (op_eqD hr.units) eqW_ok (me_ix ix_seq ixW_ok (me_var 1) me_int) me_str) (mp_and1 (mt_cmp (op_eqD hr.units) eqW_ok (me_ix ix_seq ixW_ok (me_var 1) me_int) (me_var 2))))) (mb_one (ms_ret (me_ix ix_seq ixW_ok (me_var 1) me_int))) mb_nil)
    (mb_one (ms_ret me_non)))) rs_RightTaken__joined (fun ds h => by match ds, h with | [a1, a2], _ => exact e_RightTaken__joined a1 a2)
abbrev N_RightTaken__meant : List Str := ["self", "left", "right", "first", "second"]
theorem sc_RightTaken__meant : FnScope N_RightTaken__meant ["self", "left", "right", "first", "second"] (defScope (inClass (top 7) 2)) := ⟨rfl, rfl, rfl, by decide +kernel, rfl, by decide +kernel, by decide +kernel⟩
theorem ok_RightTaken__meant (T : Txt K mg) : FnOk P w K mg base (L2.CX P w) (1) T.ad_RightTaken__meant T.fd_RightTaken__meant ["self", "left", "right", "first", "second"] (SpD K 4 PL_RightTaken__meant) :=
  okD (N' := 4) T.fn_RightTaken__meant sc_RightTaken__meant rfl rfl (fun cdv A outer s H E hr =>
    (mb_one (ms_ret (me_tup (ma_cons me_str (ma_cons (me_var 3) (ma_cons (me_var 4) ma_nil))))))) rs_RightTaken__meant (fun ds h => by match ds, h with | [a1, a2, a3, a4], _ => exact e_RightTaken__meant a1 a2 a3 a4)
abbrev N_LeftTaken__sign : List Str := ["self"]
theorem sc_LeftTaken__sign : FnScope N_LeftTaken__sign ["self"] (defScope (inClass (top 8) 0)) := ⟨rfl, rfl, rfl, by decide +kernel, rfl, by decide +kernel, by decide +kernel⟩
theorem ok_LeftTaken__sign (T : Txt K mg) : FnOk P w K mg base (L2.CX P w) (1) T.ad_LeftTaken__sign T.fd_LeftTaken__sign ["self"] (SpD K 0 PL_LeftTaken__sign) :=
  okD (N' := 0) T.fn_LeftTaken__sign sc_LeftTaken__sign rfl rfl (fun cdv A outer s H E hr =>
    (mb_one (ms_ret me_str))) rs_LeftTaken__sign (fun ds h => by match ds, h with | [], _ => exact e_LeftTaken__sign )
abbrev N_LeftTaken__joined : List Str := ["self", "left", "right"]
theorem sc_LeftTaken__joined : FnScope N_LeftTaken__joined ["self", "left", "right"] (defScope (inClass (top 8) 1)) := ⟨rfl, rfl, rfl, by decide +kernel, rfl, by decide +kernel, by decide +kernel⟩
theorem ok_LeftTaken__joined (T : Txt K mg) : FnOk P w K mg base (L2.CX P w) (1) T.ad_LeftTaken__joined T.fd_LeftTaken__joined ["self", "left", "right"] (SpD K 2 PL_LeftTaken__joined) :=
  okD (N' := 2) T.fn_LeftTaken__joined sc_LeftTaken__joined rfl rfl (fun cdv A outer s H E hr =>
    (mb_cons (ms_if (MP.mt (mp_and (mt_cmp (op_eqD hr.units) eqW_ok (me_ix ix_seq ixW_ok (me_var 2) me_int) me_str) (mp_and1 (mt_cmp (op_eqD hr.units) eqW_ok (me_ix ix_seq ixW_ok (me_var 2) me_int) (me_var 1))))) (mb_one (ms_ret (me_ix ix_seq ixW_ok (me_var 2) me_int))) mb_nil)
    (mb_one (ms_ret me_non)))) rs_LeftTaken__joined (fun ds h => by match ds, h with | [a1, a2], _ => exact e_LeftTaken__joined a1 a2)
abbrev N_LeftTaken__meant : List Str := ["self", "left", "right", "first", "second"]
theorem sc_LeftTaken__meant : FnScope N_LeftTaken__meant ["self", "left", "right", "first", "second"] (defScope (inClass (top 8) 2)) := ⟨rfl, rfl, rfl, by decide +kernel, rfl, by decide +kernel, by decide +kernel⟩
theorem ok_LeftTaken__meant (T : Txt K mg) : FnOk P w K mg base (L2.CX P w) (1) T.ad_LeftTaken__meant T.fd_LeftTaken__meant ["self", "left", "right", "first", "second"] (SpD K 4 PL_LeftTaken__meant) :=
  okD (N' := 4) T.fn_LeftTaken__meant sc_LeftTaken__meant rfl rfl (fun cdv A outer s H E hr =>
    (mb_one (ms_ret (me_tup (ma_cons me_str (ma_cons (me_var 4) (ma_cons (me_var 3) ma_nil))))))) rs_LeftTaken__meant (fun ds h => by match ds, h with | [a1, a2, a3, a4], _ => exact e_LeftTaken__meant a1 a2 a3 a4)
abbrev N_RightHanded__sign : List Str := ["self"]
theorem sc_RightHanded__sign : FnScope N_RightHanded__sign ["self"] (defScope (inClass (top 10) 0)) := ⟨rfl, rfl, rfl, by decide +kernel, rfl, by decide +kernel, by decide +kernel⟩
theorem ok_RightHanded__sign (T : Txt K mg) : FnOk P w K mg base (L2.CX P w) (1) T.ad_RightHanded__sign T.fd_RightHanded__sign ["self"] (SpD K 0 PL_RightHanded__sign) :=
  okD (N' := 0) T.fn_RightHanded__sign sc_RightHanded__sign rfl rfl (fun cdv A outer s H E hr =>
    (mb_one (ms_ret me_str))) rs_RightHanded__sign (fun ds h => by match ds, h with | [], _ => exact e_RightHanded__sign )
abbrev N_RightHanded__joined : List Str := ["self", "left", "right"]
theorem sc_RightHanded__joined : FnScope N_RightHanded__joined ["self", "left", "right"] (defScope (inClass (top 10) 1)) := ⟨rfl, rfl, rfl, by decide +kernel, rfl, by decide +kernel, by decide +kernel⟩
theorem ok_RightHanded__joined (T : Txt K mg) : FnOk P w K mg base (L2.CX P w) (1) T.ad_RightHanded__joined T.fd_RightHanded__joined ["self", "left", "right"] (SpD K 2 PL_RightHanded__joined) :=
  okD (N' := 2) T.fn_RightHanded__joined sc_RightHanded__joined rfl rfl (fun cdv A outer s H E hr =>
    (mb_cons (ms_if (MP.mt (mp_and (mt_cmp (op_eqD hr.units) eqW_ok (me_ix ix_seq ixW_ok (me_var 1) me_int) me_str) (mp_and (mt_cmp (op_eqD hr.units) eqW_ok (me_ix ix_seq ixW_ok (me_var 2) me_int) me_str) (mp_and1 (mt_cmp (op_eqD hr.units) eqW_ok (me_ix ix_seq ixW_ok (me_var 1) me_int) (me_ix ix_seq ixW_ok (me_var 2) me_int)))))) (mb_one (ms_ret (me_tup (ma_cons me_str (ma_cons (me_ix ix_seq ixW_ok (me_var 1) me_int) (ma_cons (me_ix ix_seq ixW_ok (me_var 2) me_int) ma_nil)))))) mb_nil)
    (mb_one (ms_ret me_non)))) rs_RightHanded__joined (fun ds h => by match ds, h with | [a1, a2], _ => exact e_RightHanded__joined a1 a2)
abbrev N_RightHanded__meant : List Str := ["self", "left", "right", "first", "second"]
theorem sc_RightHanded__meant : FnScope N_RightHanded__meant ["self", "left", "right", "first", "second"] (defScope (inClass (top 10) 2)) := ⟨rfl, rfl, rfl, by decide +kernel, rfl, by decide +kernel, by decide +kernel⟩
theorem ok_RightHanded__meant (T : Txt K mg) : FnOk P w K mg base (L2.CX P w) (42) T.ad_RightHanded__meant T.fd_RightHanded__meant ["self", "left", "right", "first", "second"] (SpD K 4 PL_RightHanded__meant) :=
  okD (N' := 4) T.fn_RightHanded__meant sc_RightHanded__meant rfl rfl (fun cdv A outer s H E hr =>
    (mb_one (ms_ret (me_call (takes_of rfl rfl rfl rfl) (ok_handed_on T) (hr.mono (by decide)) T.gl_handed_on T.fn_handed_on.kp T.bn_handed_on (by rfl) (ma_cons (me_var 2) (ma_cons (me_var 3) (ma_cons (me_var 4) ma_nil))) (aCons_len (aCons_len (aCons_len aNil_len))))))) rs_RightHanded__meant (fun ds h => by match ds, h with | [a1, a2, a3, a4], _ => exact e_RightHanded__meant a1 a2 a3 a4)
abbrev N_LeftHanded__sign : List Str := ["self"]
theorem sc_LeftHanded__sign : FnScope N_LeftHanded__sign ["self"] (defScope (inClass (top 11) 0)) := ⟨rfl, rfl, rfl, by decide +kernel, rfl, by decide +kernel, by decide +kernel⟩
theorem ok_LeftHanded__sign (T : Txt K mg) : FnOk P w K mg base (L2.CX P w) (1) T.ad_LeftHanded__sign T.fd_LeftHanded__sign ["self"] (SpD K 0 PL_LeftHanded__sign) :=
  okD (N' := 0) T.fn_LeftHanded__sign sc_LeftHanded__sign rfl rfl (fun cdv A outer s H E hr =>
    (mb_one (ms_ret me_str))) rs_LeftHanded__sign (fun ds h => by match ds, h with | [], _ => exact e_LeftHanded__sign )
abbrev N_LeftHanded__joined : List Str := ["self", "left", "right"]
theorem sc_LeftHanded__joined : FnScope N_LeftHanded__joined ["self", "left", "right"] (defScope (inClass (top 11) 1)) := ⟨rfl, rfl, rfl, by decide +kernel, rfl, by decide +kernel, by decide +kernel⟩
theorem ok_LeftHanded__joined (T : Txt K mg) : FnOk P w K mg base (L2.CX P w) (1) T.ad_LeftHanded__joined T.fd_LeftHanded__joined ["self", "left", "right"] (SpD K 2 PL_LeftHanded__joined) :=
  okD (N' := 2) T.fn_LeftHanded__joined sc_LeftHanded__joined rfl rfl (fun cdv A outer s H E hr =>
    (mb_cons (ms_if (MP.mt (mp_and (mt_cmp (op_eqD hr.units) eqW_ok (me_ix ix_seq ixW_ok (me_var 1) me_int) me_str) (mp_and (mt_cmp (op_eqD hr.units) eqW_ok (me_ix ix_seq ixW_ok (me_var 2) me_int) me_str) (mp_and1 (mt_cmp (op_eqD hr.units) eqW_ok (me_ix ix_seq ixW_ok (me_var 2) me_int) (me_ix ix_seq ixW_ok (me_var 1) me_int)))))) (mb_one (ms_ret (me_tup (ma_cons me_str (ma_cons (me_ix ix_seq ixW_ok (me_var 2) me_int) (ma_cons (me_ix ix_seq ixW_ok (me_var 1) me_int) ma_nil)))))) mb_nil)
    (mb_one (ms_ret me_non)))) rs_LeftHanded__joined (fun ds h => by match ds, h with | [a1, a2], _ => exact e_LeftHanded__joined a1 a2)
abbrev N_LeftHanded__meant : List Str := ["self", "left", "right", "first", "second"]
theorem sc_LeftHanded__meant : FnScope N_LeftHanded__meant ["self", "left", "right", "first", "second"] (defScope (inClass (top 11) 2)) := ⟨rfl, rfl, rfl, by decide +kernel, rfl, by decide +kernel, by decide +kernel⟩
theorem ok_LeftHanded__meant (T : Txt K mg) : FnOk P w K mg base (L2.CX P w) (42) T.ad_LeftHanded__meant T.fd_LeftHanded__meant ["self", "left", "right", "first", "second"] (SpD K 4 PL_LeftHanded__meant) :=
  okD (N' := 4) T.fn_LeftHanded__meant sc_LeftHanded__meant rfl rfl (fun cdv A outer s H E hr =>
    (mb_one (ms_ret (me_call (takes_of rfl rfl rfl rfl) (ok_handed_on T) (hr.mono (by decide)) T.gl_handed_on T.fn_handed_on.kp T.bn_handed_on (by rfl) (ma_cons (me_var 1) (ma_cons (me_var 4) (ma_cons (me_var 3) ma_nil))) (aCons_len (aCons_len (aCons_len aNil_len))))))) rs_LeftHanded__meant (fun ds h => by match ds, h with | [a1, a2, a3, a4], _ => exact e_LeftHanded__meant a1 a2 a3 a4)
theorem sc_all_rules : FnScope [] [] (defScope (top 12)) := ⟨rfl, rfl, rfl, by decide +kernel, rfl, by decide +kernel, by decide +kernel⟩
theorem ok_all_rules (T : Txt K mg) : FnOk P w K mg base (L2.CX P w) 1 T.ad_all_rules T.fd_all_rules [] (SpAll T.cl_RightTaken T.cl_LeftTaken T.cl_RightHanded T.cl_LeftHanded) := by
  refine T.fn_all_rules.okX sc_all_rules (fun vs H Q E h => by rw [h.1]; rfl) fun cdv A outer s H vs Q E hr h => ?_
  obtain ⟨rfl, k⟩ := h
  refine ⟨_, pss_one (ps_ret (pe_lst (pa_cons (pe_makeO T.cm_RightTaken (by rfl) T.cg_RightTaken) (pa_cons (pe_makeO T.cm_LeftTaken (by rfl) T.cg_LeftTaken) (pa_cons (pe_makeO T.cm_RightHanded (by rfl) T.cg_RightHanded) (pa_cons (pe_makeO T.cm_LeftHanded (by rfl) T.cg_LeftHanded) pa_nil)))))), ?_⟩
  intro x1 d1 a1 b1 _ x2 d2 a2 b2 _ x3 d3 a3 b3 _ x4 d4 a4 b4 _
  refine ⟨by show 4 ≤ sizeLine; decide, fun p np => ?_⟩
  have s1 := same_mk (C := T.cl_RightTaken) a1 b1
  have s2 := same_mk (C := T.cl_LeftTaken) a2 b2
  have s3 := same_mk (C := T.cl_RightHanded) a3 b3
  have s4 := same_mk (C := T.cl_LeftHanded) a4 b4
  have s5 := same_new (o := .lst [.ref x1, .ref x2, .ref x3, .ref x4]) np
  refine k _ p x1 x2 x3 x4 d1 d2 d3 d4 (fun b o e => s5 _ _ (s4 _ _ (s3 _ _ (s2 _ _ (s1 _ _ e))))) ?_ upd_same (s5 _ _ (s4 _ _ (s3 _ _ (s2 _ _ upd_same)))) (s5 _ _ (s4 _ _ (s3 _ _ upd_same))) (s5 _ _ (s4 _ _ upd_same)) (s5 _ _ upd_same)
  cases q : H p with
  | none => rfl
  | some o => rw [s4 _ _ (s3 _ _ (s2 _ _ (s1 _ _ q)))] at np; cases np
abbrev N_made : List Str := ["left", "right", "rule", "form"]
theorem sc_made : FnScope N_made ["left", "right"] (defScope (top 13)) := ⟨rfl, rfl, rfl, by decide +kernel, rfl, by decide +kernel, by decide +kernel⟩
theorem ok_made (T : Txt K mg) : FnOk P w K mg base (L2.CX P w) (2) T.ad_made T.fd_made ["left", "right"] (SpM K mg 2 F_made) := by
  refine T.fn_made.okX sc_made (fun vs H Q E ⟨G, ws, m, _, _, h, hl, _⟩ => (Paired.length h).trans hl) fun cdv A outer s H vs Q E hr ⟨G, ws, m, eH, R, hp, hl, hq⟩ => ?_
  subst eH
  obtain ⟨ds, z, rfl, hz, hR, hq⟩ := dataF_in hp hq
  rw [List.length_map] at hl
  match ds, hl, hR, hz with
  | [x, y], _, .cons (v := vl) rl (.cons (v := vr) rr .nil), hz =>
    have hr0 : Room 1 _ := hr.mono (by decide)
    refine ⟨_, pss_cons (ps_for (passes_of rfl) rfl (pi_list (pe_call0 (ok_all_rules T) hr0 (by rfl) T.gl_all_rules T.fn_all_rules.kp T.bn_all_rules .nil pass_no)) (pg_name (i := 2) sc_made.nd rfl (Or.inl rfl))
      (pss_cons (ps_set (i := 3) sc_made.nd rfl (Or.inl rfl) (pe_or (pe_meth (pv 2) T.cc_RightTaken T.mt_RightTaken__joined (ok_RightTaken__joined T) hr0 T.bn_RightTaken__joined .nil pass_no (pa_cons (pv 0) (pa_cons (pv 1) pa_nil)))
        (pe_or (pe_meth (pv 2) T.cc_LeftTaken T.mt_LeftTaken__joined (ok_LeftTaken__joined T) hr0 T.bn_LeftTaken__joined .nil pass_no (pa_cons (pv 0) (pa_cons (pv 1) pa_nil)))
        (pe_or (pe_meth (pv 2) T.cc_RightHanded T.mt_RightHanded__joined (ok_RightHanded__joined T) hr0 T.bn_RightHanded__joined .nil pass_no (pa_cons (pv 0) (pa_cons (pv 1) pa_nil)))
        (pe_meth (pv 2) T.cc_LeftHanded T.mt_LeftHanded__joined (ok_LeftHanded__joined T) hr0 T.bn_LeftHanded__joined .nil pass_no (pa_cons (pv 0) (pa_cons (pv 1) pa_nil)))))))
      (pss_one (ps_if (pt_cmpR op_notN (pv 3) pe_non (nomark _)) (pss_one (ps_ret (pe_tup (pa_cons (pe_or (pe_meth0 (pv 2) T.cc_RightTaken T.mt_RightTaken__sign (ok_RightTaken__sign T) hr0 T.bn_RightTaken__sign .nil pass_no)
        (pe_or (pe_meth0 (pv 2) T.cc_LeftTaken T.mt_LeftTaken__sign (ok_LeftTaken__sign T) hr0 T.bn_LeftTaken__sign .nil pass_no)
        (pe_or (pe_meth0 (pv 2) T.cc_RightHanded T.mt_RightHanded__sign (ok_RightHanded__sign T) hr0 T.bn_RightHanded__sign .nil pass_no)
        (pe_meth0 (pv 2) T.cc_LeftHanded T.mt_LeftHanded__sign (ok_LeftHanded__sign T) hr0 T.bn_LeftHanded__sign .nil pass_no)))) (pa_cons (pv 3) pa_nil))))) pss_nil))))
      (pss_one (ps_ret pe_non)), ?_⟩
    refine ⟨rfl, fun H1 p x1 x2 x3 x4 d1 d2 d3 d4 s0 np hp1 i1 i2 i3 i4 => ?_⟩
    have le1 := Le.same R s0
    have R1 := R.same s0
    have nl : ∀ {a : Addr} {o : HO}, H1 a = some o → G.H a = none → a ∉ G.lv := fun _ h z => R.lt _ z h
    have hn : ∀ {a : Addr} {C d : Addr}, H1 a = some (.ins C d []) → ¬ (a ∈ G.io ∧ a ∈ G.lv) := fun {a C d} h z => by
      cases q : G.H a with
      | none => exact R.lt _ z.2 q
      | some o =>
        obtain ⟨k, hk, ek⟩ := List.getElem_of_mem z.1
        have hm : k < m.length := by rw [← R.len]; exact hk
        have ob := R.ob k a m[k] (by rw [List.getElem?_eq_getElem hk, ek]) (List.getElem?_eq_getElem hm)
        cases om : m[k] with
        | lst ds => rw [om] at ob; obtain ⟨_, vs, e2, _⟩ := ob; rw [s0 _ _ e2] at h; cases h
        | fz ds => rw [om] at ob; exact ob.1 z.2
        | dct kvs => rw [om] at ob; obtain ⟨_, vs, e2, _⟩ := ob; rw [s0 _ _ e2] at h; cases h
        | lsw ws => rw [om] at ob; obtain ⟨_, vs, e2, _⟩ := ob; rw [s0 _ _ e2] at h; cases h
    let js : List (PR D × D) := [(PL_RightTaken__joined [x, y], .str (Str.ofString ">")), (PL_LeftTaken__joined [x, y], .str (Str.ofString "<")), (PL_RightHanded__joined [x, y], .str (Str.ofString ">>")), (PL_LeftHanded__joined [x, y], .str (Str.ofString "<<"))]
    refine ⟨p, rfl, ⟨_, SqL.of hp1⟩, for_list (K := K) (a := p) (xs := [.ref x1, .ref x2, .ref x3, .ref x4]) (fun i σ H' => ∃ (G' : Wd) (u2 u3 : Option V), σ = [some vl, some vr, u2, u3] ∧ G'.H = H' ∧ Le ⟨G.io, G.lv, H1⟩ G' ∧ RelM K G' m ∧ madeGo (js.drop i) = .ok z)
      ⟨_, none, none, rfl, rfl, Le.refl R1, R1, hz⟩ (fun i σ H' _ ⟨G', _, _, _, e, le, _, _⟩ => SqL.of (by rw [← e]; exact le.keep _ _ hp1 (fun z => R.lt _ z.2 np))) ?_ ?_⟩
    · rintro i v σ H' hi ⟨G', u2, u3, rfl, rfl, le, R', hg⟩
      have rl' := Rep.mono (le1.trans le).mo rl
      have rr' := Rep.mono (le1.trans le).mo rr
      match i, hi with
      | 0, hi =>
        cases hi
        cases hj : PL_RightTaken__joined [x, y] with
        | err e => exact absurd hg (by rw [show madeGo (js.drop 0) = (PL_RightTaken__joined [x, y]).bind _ from rfl, hj]; intro h; cases h)
        | bad => exact absurd hg (by rw [show madeGo (js.drop 0) = (PL_RightTaken__joined [x, y]).bind _ from rfl, hj]; intro h; cases h)
        | ok zj =>
          rw [show madeGo (js.drop 0) = (PL_RightTaken__joined [x, y]).bind _ from rfl, hj, PR.bind_ok] at hg
          refine .inl ?_
          refine ⟨_, rfl, x1, d1, [], rfl, le.keep _ _ i1 (hn i1), rfl, _, rfl, _, rfl, _, [vl, vr], G', [x, y], m, zj, rfl, rfl, R', .cons rl' (.cons rr' .nil), rfl, hj, fun v G2 le2 R2 r2 => ?_⟩
          have nx : zj = .none → madeGo (js.drop (0 + 1)) = .ok z := fun h => by subst h; exact hg
          have ret : zj ≠ .none → z = .tuple [.str (Str.ofString ">"), zj] := fun h => by
            cases zj with
            | none => exact absurd rfl h
            | _ => exact (PR.ok.inj hg).symm
          refine ⟨_, rfl, rfl, _, rfl, ?_⟩
          by_cases hz0 : zj = .none
          · subst hz0
            cases r2
            exact ⟨G2, _, _, rfl, rfl, le.trans le2, R2, nx rfl⟩
          · have hv : (!decide (v = .non)) = true := by
              cases r2 <;> first | exact absurd rfl hz0 | rfl
            have hz1 := ret hz0
            subst hz1
            dsimp only
            rw [if_pos hv]
            refine .inl ?_
            refine ⟨_, rfl, x1, d1, [], rfl, (le.trans le2).keep _ _ i1 (hn i1), rfl, _, [], G2, [], m, .str (Str.ofString ">"), rfl, rfl, R2, .nil, rfl, rfl, fun v' G3 le3 R3 r3 => ?_⟩
            refine ⟨_, rfl, (by show 2 ≤ sizeLine; decide), fun p' np' => ?_⟩
            have n3 := R3.ne np'
            refine hq _ ⟨G3.io, G3.lv, upd G3.H p' (.tup [v', v])⟩ (((le1.trans le).trans (le2.trans le3)).trans (Le.new R3 np')) (R3.new np') (.tup (.inl ⟨n3.2, upd_same⟩) (.cons (Rep.mono (Le.new R3 np').mo r3) (.cons (Rep.mono (le3.trans (Le.new R3 np')).mo r2) .nil)))
      | 1, hi =>
        cases hi
        cases hj : PL_LeftTaken__joined [x, y] with
        | err e => exact absurd hg (by rw [show madeGo (js.drop 1) = (PL_LeftTaken__joined [x, y]).bind _ from rfl, hj]; intro h; cases h)
        | bad => exact absurd hg (by rw [show madeGo (js.drop 1) = (PL_LeftTaken__joined [x, y]).bind _ from rfl, hj]; intro h; cases h)
        | ok zj =>
          rw [show madeGo (js.drop 1) = (PL_LeftTaken__joined [x, y]).bind _ from rfl, hj, PR.bind_ok] at hg
          refine .inr (.inl ?_)
          refine ⟨_, rfl, x2, d2, [], rfl, le.keep _ _ i2 (hn i2), rfl, _, rfl, _, rfl, _, [vl, vr], G', [x, y], m, zj, rfl, rfl, R', .cons rl' (.cons rr' .nil), rfl, hj, fun v G2 le2 R2 r2 => ?_⟩
          have nx : zj = .none → madeGo (js.drop (1 + 1)) = .ok z := fun h => by subst h; exact hg
          have ret : zj ≠ .none → z = .tuple [.str (Str.ofString "<"), zj] := fun h => by
            cases zj with
            | none => exact absurd rfl h
            | _ => exact (PR.ok.inj hg).symm
          refine ⟨_, rfl, rfl, _, rfl, ?_⟩
          by_cases hz0 : zj = .none
          · subst hz0
            cases r2
            exact ⟨G2, _, _, rfl, rfl, le.trans le2, R2, nx rfl⟩
          · have hv : (!decide (v = .non)) = true := by
              cases r2 <;> first | exact absurd rfl hz0 | rfl
            have hz1 := ret hz0
            subst hz1
            dsimp only
            rw [if_pos hv]
            refine .inr (.inl ?_)
            refine ⟨_, rfl, x2, d2, [], rfl, (le.trans le2).keep _ _ i2 (hn i2), rfl, _, [], G2, [], m, .str (Str.ofString "<"), rfl, rfl, R2, .nil, rfl, rfl, fun v' G3 le3 R3 r3 => ?_⟩
            refine ⟨_, rfl, (by show 2 ≤ sizeLine; decide), fun p' np' => ?_⟩
            have n3 := R3.ne np'
            refine hq _ ⟨G3.io, G3.lv, upd G3.H p' (.tup [v', v])⟩ (((le1.trans le).trans (le2.trans le3)).trans (Le.new R3 np')) (R3.new np') (.tup (.inl ⟨n3.2, upd_same⟩) (.cons (Rep.mono (Le.new R3 np').mo r3) (.cons (Rep.mono (le3.trans (Le.new R3 np')).mo r2) .nil)))
      | 2, hi =>
        cases hi
        cases hj : PL_RightHanded__joined [x, y] with
        | err e => exact absurd hg (by rw [show madeGo (js.drop 2) = (PL_RightHanded__joined [x, y]).bind _ from rfl, hj]; intro h; cases h)
        | bad => exact absurd hg (by rw [show madeGo (js.drop 2) = (PL_RightHanded__joined [x, y]).bind _ from rfl, hj]; intro h; cases h)
        | ok zj =>
          rw [show madeGo (js.drop 2) = (PL_RightHanded__joined [x, y]).bind _ from rfl, hj, PR.bind_ok] at hg
          refine .inr (.inr (.inl ?_))
          refine ⟨_, rfl, x3, d3, [], rfl, le.keep _ _ i3 (hn i3), rfl, _, rfl, _, rfl, _, [vl, vr], G', [x, y], m, zj, rfl, rfl, R', .cons rl' (.cons rr' .nil), rfl, hj, fun v G2 le2 R2 r2 => ?_⟩
          have nx : zj = .none → madeGo (js.drop (2 + 1)) = .ok z := fun h => by subst h; exact hg
          have ret : zj ≠ .none → z = .tuple [.str (Str.ofString ">>"), zj] := fun h => by
            cases zj with
            | none => exact absurd rfl h
            | _ => exact (PR.ok.inj hg).symm
          refine ⟨_, rfl, rfl, _, rfl, ?_⟩
          by_cases hz0 : zj = .none
          · subst hz0
            cases r2
            exact ⟨G2, _, _, rfl, rfl, le.trans le2, R2, nx rfl⟩
          · have hv : (!decide (v = .non)) = true := by
              cases r2 <;> first | exact absurd rfl hz0 | rfl
            have hz1 := ret hz0
            subst hz1
            dsimp only
            rw [if_pos hv]
            refine .inr (.inr (.inl ?_))
            refine ⟨_, rfl, x3, d3, [], rfl, (le.trans le2).keep _ _ i3 (hn i3), rfl, _, [], G2, [], m, .str (Str.ofString ">>"), rfl, rfl, R2, .nil, rfl, rfl, fun v' G3 le3 R3 r3 => ?_⟩
            refine ⟨_, rfl, (by show 2 ≤ sizeLine; decide), fun p' np' => ?_⟩
            have n3 := R3.ne np'
            refine hq _ ⟨G3.io, G3.lv, upd G3.H p' (.tup [v', v])⟩ (((le1.trans le).trans (le2.trans le3)).trans (Le.new R3 np')) (R3.new np') (.tup (.inl ⟨n3.2, upd_same⟩) (.cons (Rep.mono (Le.new R3 np').mo r3) (.cons (Rep.mono (le3.trans (Le.new R3 np')).mo r2) .nil)))
      | 3, hi =>
        cases hi
        cases hj : PL_LeftHanded__joined [x, y] with
        | err e => exact absurd hg (by rw [show madeGo (js.drop 3) = (PL_LeftHanded__joined [x, y]).bind _ from rfl, hj]; intro h; cases h)
        | bad => exact absurd hg (by rw [show madeGo (js.drop 3) = (PL_LeftHanded__joined [x, y]).bind _ from rfl, hj]; intro h; cases h)
        | ok zj =>
          rw [show madeGo (js.drop 3) = (PL_LeftHanded__joined [x, y]).bind _ from rfl, hj, PR.bind_ok] at hg
          refine .inr (.inr (.inr ?_))
          refine ⟨_, rfl, x4, d4, [], rfl, le.keep _ _ i4 (hn i4), rfl, _, rfl, _, rfl, _, [vl, vr], G', [x, y], m, zj, rfl, rfl, R', .cons rl' (.cons rr' .nil), rfl, hj, fun v G2 le2 R2 r2 => ?_⟩
          have nx : zj = .none → madeGo (js.drop (3 + 1)) = .ok z := fun h => by subst h; exact hg
          have ret : zj ≠ .none → z = .tuple [.str (Str.ofString "<<"), zj] := fun h => by
            cases zj with
            | none => exact absurd rfl h
            | _ => exact (PR.ok.inj hg).symm
          refine ⟨_, rfl, rfl, _, rfl, ?_⟩
          by_cases hz0 : zj = .none
          · subst hz0
            cases r2
            exact ⟨G2, _, _, rfl, rfl, le.trans le2, R2, nx rfl⟩
          · have hv : (!decide (v = .non)) = true := by
              cases r2 <;> first | exact absurd rfl hz0 | rfl
            have hz1 := ret hz0
            subst hz1
            dsimp only
            rw [if_pos hv]
            refine .inr (.inr (.inr ?_))
            refine ⟨_, rfl, x4, d4, [], rfl, (le.trans le2).keep _ _ i4 (hn i4), rfl, _, [], G2, [], m, .str (Str.ofString "<<"), rfl, rfl, R2, .nil, rfl, rfl, fun v' G3 le3 R3 r3 => ?_⟩
            refine ⟨_, rfl, (by show 2 ≤ sizeLine; decide), fun p' np' => ?_⟩
            have n3 := R3.ne np'
            refine hq _ ⟨G3.io, G3.lv, upd G3.H p' (.tup [v', v])⟩ (((le1.trans le).trans (le2.trans le3)).trans (Le.new R3 np')) (R3.new np') (.tup (.inl ⟨n3.2, upd_same⟩) (.cons (Rep.mono (Le.new R3 np').mo r3) (.cons (Rep.mono (le3.trans (Le.new R3 np')).mo r2) .nil)))
      | i + 4, hi => simp at hi
    · rintro σ H' ⟨G', u2, u3, rfl, rfl, le, R', hg⟩
      have : z = .none := by cases hg; rfl
      subst this
      exact hq _ _ (le1.trans le) R' .non
  | [], hl, _, _ => cases hl
  | [_], hl, _, _ => cases hl
  | _ :: _ :: _ :: _, hl, _, _ => simp at hl
abbrev N_meant : List Str := ["sign", "left", "right", "first", "second", "rule"]
theorem sc_meant : FnScope N_meant ["sign", "left", "right", "first", "second"] (defScope (top 14)) := ⟨rfl, rfl, rfl, by decide +kernel, rfl, by decide +kernel, by decide +kernel⟩
theorem ok_meant (T : Txt K mg) : FnOk P w K mg base (L2.CX P w) (43) T.ad_meant T.fd_meant ["sign", "left", "right", "first", "second"] (SpM K mg 5 F_meant) := by
  refine T.fn_meant.okX sc_meant (fun vs H Q E ⟨G, ws, m, _, _, h, hl, _⟩ => (Paired.length h).trans hl) fun cdv A outer s H vs Q E hr ⟨G, ws, m, eH, R, hp, hl, hq⟩ => ?_
  subst eH
  obtain ⟨ds, z, rfl, hz, hR, hQ⟩ := dataF_in hp hq
  rw [List.length_map] at hl
  match ds, hl, hR, hz with
  | [sg, x, y, f, g], _, .cons (v := vs) rs (.cons (v := vl) rl (.cons (v := vr) rr (.cons (v := vf) rf (.cons (v := vg) rg .nil)))), hz =>
    refine ⟨_, pss_cons (ps_for (passes_of rfl) rfl (pi_list (pe_call0 (ok_all_rules T) (hr.mono (by decide)) (by rfl) T.gl_all_rules T.fn_all_rules.kp T.bn_all_rules .nil pass_no)) (pg_name (i := 5) sc_meant.nd rfl (Or.inl rfl))
      (pss_one (ps_if (pt_cmpR (op_eqD hr.units) (pe_or (pe_meth0 (pv 5) T.cc_RightTaken T.mt_RightTaken__sign (ok_RightTaken__sign T) (hr.mono (by decide)) T.bn_RightTaken__sign .nil pass_no)
        (pe_or (pe_meth0 (pv 5) T.cc_LeftTaken T.mt_LeftTaken__sign (ok_LeftTaken__sign T) (hr.mono (by decide)) T.bn_LeftTaken__sign .nil pass_no)
        (pe_or (pe_meth0 (pv 5) T.cc_RightHanded T.mt_RightHanded__sign (ok_RightHanded__sign T) (hr.mono (by decide)) T.bn_RightHanded__sign .nil pass_no)
        (pe_meth0 (pv 5) T.cc_LeftHanded T.mt_LeftHanded__sign (ok_LeftHanded__sign T) (hr.mono (by decide)) T.bn_LeftHanded__sign .nil pass_no)))) (pv 0) (nomark _))
        (pss_one (ps_ret (pe_or (pe_meth (pv 5) T.cc_RightTaken T.mt_RightTaken__meant (ok_RightTaken__meant T) (hr.mono (by decide)) T.bn_RightTaken__meant .nil pass_no (pa_cons (pv 1) (pa_cons (pv 2) (pa_cons (pv 3) (pa_cons (pv 4) pa_nil)))))
        (pe_or (pe_meth (pv 5) T.cc_LeftTaken T.mt_LeftTaken__meant (ok_LeftTaken__meant T) (hr.mono (by decide)) T.bn_LeftTaken__meant .nil pass_no (pa_cons (pv 1) (pa_cons (pv 2) (pa_cons (pv 3) (pa_cons (pv 4) pa_nil)))))
        (pe_or (pe_meth (pv 5) T.cc_RightHanded T.mt_RightHanded__meant (ok_RightHanded__meant T) (hr.mono (by decide)) T.bn_RightHanded__meant .nil pass_no (pa_cons (pv 1) (pa_cons (pv 2) (pa_cons (pv 3) (pa_cons (pv 4) pa_nil)))))
        (pe_meth (pv 5) T.cc_LeftHanded T.mt_LeftHanded__meant (ok_LeftHanded__meant T) (hr.mono (by decide)) T.bn_LeftHanded__meant .nil pass_no (pa_cons (pv 1) (pa_cons (pv 2) (pa_cons (pv 3) (pa_cons (pv 4) pa_nil)))))))))) pss_nil)))
      (pss_one (ps_ret pe_non)), ?_⟩
    refine ⟨rfl, fun H1 p x1 x2 x3 x4 d1 d2 d3 d4 s0 np hp1 i1 i2 i3 i4 => ?_⟩
    have le1 := Le.same R s0
    have R1 := R.same s0
    have hn : ∀ {a : Addr} {C d : Addr}, H1 a = some (.ins C d []) → ¬ (a ∈ G.io ∧ a ∈ G.lv) := fun {a C d} h z => by
      cases q : G.H a with
      | none => exact R.lt _ z.2 q
      | some o =>
        obtain ⟨k, hk, ek⟩ := List.getElem_of_mem z.1
        have hm : k < m.length := by rw [← R.len]; exact hk
        have ob := R.ob k a m[k] (by rw [List.getElem?_eq_getElem hk, ek]) (List.getElem?_eq_getElem hm)
        cases om : m[k] with
        | lst ds => rw [om] at ob; obtain ⟨_, vs, e2, _⟩ := ob; rw [s0 _ _ e2] at h; cases h
        | fz ds => rw [om] at ob; exact ob.1 z.2
        | dct kvs => rw [om] at ob; obtain ⟨_, vs, e2, _⟩ := ob; rw [s0 _ _ e2] at h; cases h
        | lsw ws => rw [om] at ob; obtain ⟨_, vs, e2, _⟩ := ob; rw [s0 _ _ e2] at h; cases h
    let js : List (D × PR D) := [(.str (Str.ofString ">"), PL_RightTaken__meant [x, y, f, g]), (.str (Str.ofString "<"), PL_LeftTaken__meant [x, y, f, g]), (.str (Str.ofString ">>"), PL_RightHanded__meant [x, y, f, g]), (.str (Str.ofString "<<"), PL_LeftHanded__meant [x, y, f, g])]
    refine ⟨p, rfl, ⟨_, SqL.of hp1⟩, for_list (K := K) (a := p) (xs := [.ref x1, .ref x2, .ref x3, .ref x4]) (fun i σ H' => ∃ (G' : Wd) (u5 : Option V), σ = [some vs, some vl, some vr, some vf, some vg, u5] ∧ G'.H = H' ∧ Le ⟨G.io, G.lv, H1⟩ G' ∧ RelM K G' m ∧ meantGo sg (js.drop i) = .ok z)
      ⟨_, none, rfl, rfl, Le.refl R1, R1, hz⟩ (fun i σ H' _ ⟨G', _, _, e, le, _, _⟩ => SqL.of (by rw [← e]; exact le.keep _ _ hp1 (fun z => R.lt _ z.2 np))) ?_ ?_⟩
    · rintro i v σ H' hi ⟨G', u5, rfl, rfl, le, R', hg⟩
      match i, hi with
      | 0, hi =>
        cases hi
        refine .inl ?_
        refine ⟨_, rfl, x1, d1, [], rfl, le.keep _ _ i1 (hn i1), rfl, _, [], G', [], m, .str (Str.ofString ">"), rfl, rfl, R', .nil, rfl, rfl, fun v' G2 le2 R2 r2 => ?_⟩
        have lt := (le1.trans le).trans le2
        have e0 : meantGo sg (js.drop 0) = (eqP false (.str (Str.ofString ">")) sg).bind fun b => ptb b fun t => if t = true then PL_RightTaken__meant [x, y, f, g] else meantGo sg (js.drop (0 + 1)) := rfl
        rw [e0] at hg
        unfold eqP at hg
        by_cases hs : (SeqAt.shaped (.str (Str.ofString ">")) && SeqAt.shaped sg) = true
        · rw [if_pos hs] at hg
          have hs' := Bool.and_eq_true_iff.mp hs
          refine ⟨_, rfl, _, sg, r2.dp, (Rep.mono lt.mo rs).dp, hs'.1, hs'.2, _, rfl, ?_⟩
          have hg2 : (if PyData.eqv (.str (Str.ofString ">")) sg = true then PL_RightTaken__meant [x, y, f, g] else meantGo sg (js.drop (0 + 1))) = .ok z := hg
          dsimp only
          cases hb : PyData.eqv (.str (Str.ofString ">")) sg with
          | false =>
            rw [hb] at hg2
            exact ⟨G2, _, rfl, rfl, le.trans le2, R2, hg2⟩
          | true =>
            rw [hb] at hg2
            rw [if_pos rfl] at hg2 ⊢
            refine .inl ?_
            refine ⟨_, rfl, x1, d1, [], rfl, (le.trans le2).keep _ _ i1 (hn i1), rfl, _, rfl, _, rfl, _, rfl, _, rfl, _, [vl, vr, vf, vg], G2, [x, y, f, g], m, z, rfl, rfl, R2, .cons (Rep.mono lt.mo rl) (.cons (Rep.mono lt.mo rr) (.cons (Rep.mono lt.mo rf) (.cons (Rep.mono lt.mo rg) .nil))), rfl, hg2, fun v3 G3 le3 R3 r3 => ?_⟩
            exact hQ _ G3 (lt.trans le3) R3 r3
        · rw [if_neg hs] at hg
          cases hg
      | 1, hi =>
        cases hi
        refine .inr (.inl ?_)
        refine ⟨_, rfl, x2, d2, [], rfl, le.keep _ _ i2 (hn i2), rfl, _, [], G', [], m, .str (Str.ofString "<"), rfl, rfl, R', .nil, rfl, rfl, fun v' G2 le2 R2 r2 => ?_⟩
        have lt := (le1.trans le).trans le2
        have e0 : meantGo sg (js.drop 1) = (eqP false (.str (Str.ofString "<")) sg).bind fun b => ptb b fun t => if t = true then PL_LeftTaken__meant [x, y, f, g] else meantGo sg (js.drop (1 + 1)) := rfl
        rw [e0] at hg
        unfold eqP at hg
        by_cases hs : (SeqAt.shaped (.str (Str.ofString "<")) && SeqAt.shaped sg) = true
        · rw [if_pos hs] at hg
          have hs' := Bool.and_eq_true_iff.mp hs
          refine ⟨_, rfl, _, sg, r2.dp, (Rep.mono lt.mo rs).dp, hs'.1, hs'.2, _, rfl, ?_⟩
          have hg2 : (if PyData.eqv (.str (Str.ofString "<")) sg = true then PL_LeftTaken__meant [x, y, f, g] else meantGo sg (js.drop (1 + 1))) = .ok z := hg
          dsimp only
          cases hb : PyData.eqv (.str (Str.ofString "<")) sg with
          | false =>
            rw [hb] at hg2
            exact ⟨G2, _, rfl, rfl, le.trans le2, R2, hg2⟩
          | true =>
            rw [hb] at hg2
            rw [if_pos rfl] at hg2 ⊢
            refine .inr (.inl ?_)
            refine ⟨_, rfl, x2, d2, [], rfl, (le.trans le2).keep _ _ i2 (hn i2), rfl, _, rfl, _, rfl, _, rfl, _, rfl, _, [vl, vr, vf, vg], G2, [x, y, f, g], m, z, rfl, rfl, R2, .cons (Rep.mono lt.mo rl) (.cons (Rep.mono lt.mo rr) (.cons (Rep.mono lt.mo rf) (.cons (Rep.mono lt.mo rg) .nil))), rfl, hg2, fun v3 G3 le3 R3 r3 => ?_⟩
            exact hQ _ G3 (lt.trans le3) R3 r3
        · rw [if_neg hs] at hg
          cases hg
      | 2, hi =>
        cases hi
        refine .inr (.inr (.inl ?_))
        refine ⟨_, rfl, x3, d3, [], rfl, le.keep _ _ i3 (hn i3), rfl, _, [], G', [], m, .str (Str.ofString ">>"), rfl, rfl, R', .nil, rfl, rfl, fun v' G2 le2 R2 r2 => ?_⟩
        have lt := (le1.trans le).trans le2
        have e0 : meantGo sg (js.drop 2) = (eqP false (.str (Str.ofString ">>")) sg).bind fun b => ptb b fun t => if t = true then PL_RightHanded__meant [x, y, f, g] else meantGo sg (js.drop (2 + 1)) := rfl
        rw [e0] at hg
        unfold eqP at hg
        by_cases hs : (SeqAt.shaped (.str (Str.ofString ">>")) && SeqAt.shaped sg) = true
        · rw [if_pos hs] at hg
          have hs' := Bool.and_eq_true_iff.mp hs
          refine ⟨_, rfl, _, sg, r2.dp, (Rep.mono lt.mo rs).dp, hs'.1, hs'.2, _, rfl, ?_⟩
          have hg2 : (if PyData.eqv (.str (Str.ofString ">>")) sg = true then PL_RightHanded__meant [x, y, f, g] else meantGo sg (js.drop (2 + 1))) = .ok z := hg
          dsimp only
          cases hb : PyData.eqv (.str (Str.ofString ">>")) sg with
          | false =>
            rw [hb] at hg2
            exact ⟨G2, _, rfl, rfl, le.trans le2, R2, hg2⟩
          | true =>
            rw [hb] at hg2
            rw [if_pos rfl] at hg2 ⊢
            refine .inr (.inr (.inl ?_))
            refine ⟨_, rfl, x3, d3, [], rfl, (le.trans le2).keep _ _ i3 (hn i3), rfl, _, rfl, _, rfl, _, rfl, _, rfl, _, [vl, vr, vf, vg], G2, [x, y, f, g], m, z, rfl, rfl, R2, .cons (Rep.mono lt.mo rl) (.cons (Rep.mono lt.mo rr) (.cons (Rep.mono lt.mo rf) (.cons (Rep.mono lt.mo rg) .nil))), rfl, hg2, fun v3 G3 le3 R3 r3 => ?_⟩
            exact hQ _ G3 (lt.trans le3) R3 r3
        · rw [if_neg hs] at hg
          cases hg
      | 3, hi =>
        cases hi
        refine .inr (.inr (.inr ?_))
        refine ⟨_, rfl, x4, d4, [], rfl, le.keep _ _ i4 (hn i4), rfl, _, [], G', [], m, .str (Str.ofString "<<"), rfl, rfl, R', .nil, rfl, rfl, fun v' G2 le2 R2 r2 => ?_⟩
        have lt := (le1.trans le).trans le2
        have e0 : meantGo sg (js.drop 3) = (eqP false (.str (Str.ofString "<<")) sg).bind fun b => ptb b fun t => if t = true then PL_LeftHanded__meant [x, y, f, g] else meantGo sg (js.drop (3 + 1)) := rfl
        rw [e0] at hg
        unfold eqP at hg
        by_cases hs : (SeqAt.shaped (.str (Str.ofString "<<")) && SeqAt.shaped sg) = true
        · rw [if_pos hs] at hg
          have hs' := Bool.and_eq_true_iff.mp hs
          refine ⟨_, rfl, _, sg, r2.dp, (Rep.mono lt.mo rs).dp, hs'.1, hs'.2, _, rfl, ?_⟩
          have hg2 : (if PyData.eqv (.str (Str.ofString "<<")) sg = true then PL_LeftHanded__meant [x, y, f, g] else meantGo sg (js.drop (3 + 1))) = .ok z := hg
          dsimp only
          cases hb : PyData.eqv (.str (Str.ofString "<<")) sg with
          | false =>
            rw [hb] at hg2
            exact ⟨G2, _, rfl, rfl, le.trans le2, R2, hg2⟩
          | true =>
            rw [hb] at hg2
            rw [if_pos rfl] at hg2 ⊢
            refine .inr (.inr (.inr ?_))
            refine ⟨_, rfl, x4, d4, [], rfl, (le.trans le2).keep _ _ i4 (hn i4), rfl, _, rfl, _, rfl, _, rfl, _, rfl, _, [vl, vr, vf, vg], G2, [x, y, f, g], m, z, rfl, rfl, R2, .cons (Rep.mono lt.mo rl) (.cons (Rep.mono lt.mo rr) (.cons (Rep.mono lt.mo rf) (.cons (Rep.mono lt.mo rg) .nil))), rfl, hg2, fun v3 G3 le3 R3 r3 => ?_⟩
            exact hQ _ G3 (lt.trans le3) R3 r3
        · rw [if_neg hs] at hg
          cases hg
      | i + 4, hi => simp at hi
    · rintro σ H' ⟨G', u5, rfl, rfl, le, R', hg⟩
      have : z = .none := by cases hg; rfl
      subst this
      exact hQ _ _ (le1.trans le) R' .non
  | [], hl, _, _ => cases hl
  | [_], hl, _, _ => cases hl
  | [_, _], hl, _, _ => cases hl
  | [_, _, _], hl, _, _ => cases hl
  | [_, _, _, _], hl, _, _ => cases hl
  | _ :: _ :: _ :: _ :: _ :: _ :: _, hl, _, _ => simp at hl
abbrev N_within : List Str := ["term"]
theorem sc_within : FnScope N_within ["term"] (defScope (top 16)) := ⟨rfl, rfl, rfl, by decide +kernel, rfl, by decide +kernel, by decide +kernel⟩
theorem ok_within (T : Txt K mg) : FnOk P w K mg base (L2.CX P w) (1) T.ad_within T.fd_within ["term"] (SpM K mg 1 F_within) :=
  okF T.fn_within sc_within fun cdv A outer s H E hr =>
    (mb_cons (ms_if (mt_cmp (op_eqD hr.units) eqW_ok (me_ix ix_seq ixW_ok (me_var 0) me_int) me_str) (mb_one (ms_ret (me_lst (ma_cons (me_ix ix_seq ixW_ok (me_var 0) me_int) ma_nil)))) mb_nil)
    (mb_cons (ms_if (mt_cmp (op_eqD hr.units) eqW_ok (me_ix ix_seq ixW_ok (me_var 0) me_int) me_str) (mb_one (ms_ret (me_lst (ma_cons (me_ix ix_seq ixW_ok (me_var 0) me_int) (ma_cons (me_ix ix_seq ixW_ok (me_var 0) me_int) ma_nil))))) mb_nil)
    (mb_one (ms_ret (me_lst ma_nil)))))
abbrev N_size_of : List Str := ["term", "inner"]
theorem sc_size_of : FnScope N_size_of ["term"] (defScope (top 17)) := ⟨rfl, rfl, rfl, by decide +kernel, rfl, by decide +kernel, by decide +kernel⟩
theorem st_size_of (T : Txt K mg) {n : Nat} (ih_size_of : FnOk P w K mg base (L2.CX P w) (n + 1) T.ad_size_of T.fd_size_of ["term"] (SpM K mg 1 (F_size_of n))) : FnOk P w K mg base (L2.CX P w) (n + 1 + 1) T.ad_size_of T.fd_size_of ["term"] (SpM K mg 1 (F_size_of (n + 1))) :=
  okF T.fn_size_of sc_size_of fun cdv A outer s H E hr =>
    (mb_one (ms_ret (me_op op_addS addAW_ok me_int (me_callB (cr_sum rfl) sumW_ok (by rfl) T.z_sum (ma_cons (me_lc (own := [("inner", 1)]) rfl sc_size_of.nd (mi_seq (me_call (takes_of rfl rfl rfl rfl) (ok_within T) (hr.mono (by omega)) T.gl_within T.fn_within.kp T.bn_within (by rfl) (ma_cons (me_var 0) ma_nil) (aCons_len aNil_len))) (blkOk_by (own := [("inner", 1)]) (N := N_size_of) (sc := defScope (top 17)) (by decide +kernel)) (fun _ _ _ _ _ => (mg_name 1 sc_size_of.nd)) (fun _ _ _ _ _ => mts_nil) (fun _ _ _ _ _ => (me_frz (me_call takesF ih_size_of hr T.gl_size_of T.fn_size_of.kp T.bn_size_of (by rfl) (ma_cons (me_var 1) ma_nil) (aCons_len aNil_len))))) ma_nil)))))
theorem ok_size_of (T : Txt K mg) : ∀ n : Nat, FnOk P w K mg base (L2.CX P w) (n + 1) T.ad_size_of T.fd_size_of ["term"] (SpM K mg 1 (F_size_of n))
  | 0 => okBad
  | n + 1 => (st_size_of T (ok_size_of T n)).mono (by omega)
abbrev N_closed_in : List Str := ["term", "many", "more", "inner"]
theorem sc_closed_in : FnScope N_closed_in ["term", "many"] (defScope (top 18)) := ⟨rfl, rfl, rfl, by decide +kernel, rfl, by decide +kernel, by decide +kernel⟩
theorem st_closed_in (T : Txt K mg) {n : Nat} (ih_closed_in : FnOk P w K mg base (L2.CX P w) (n + 1) T.ad_closed_in T.fd_closed_in ["term", "many"] (SpM K mg 2 (F_closed_in n))) : FnOk P w K mg base (L2.CX P w) (n + 1 + 1) T.ad_closed_in T.fd_closed_in ["term", "many"] (SpM K mg 2 (F_closed_in (n + 1))) :=
  okF T.fn_closed_in sc_closed_in fun cdv A outer s H E hr =>
    (mb_cons (ms_if (mt_cmp (op_eqD hr.units) eqW_ok (me_ix ix_seq ixW_ok (me_var 0) me_int) me_str) (mb_one (ms_ret (me_cmp op_lt ltW_ok (me_ix ix_seq ixW_ok (me_var 0) me_int) (me_var 1)))) mb_nil)
    (mb_cons (ms_set 2 sc_closed_in.nd (me_op op_addS addAW_ok (me_var 1) (me_callTy call_int1 intW1_ok (by rfl) T.z_int (ma_cons (me_cmp (op_eqD hr.units) eqW_ok (me_ix ix_seq ixW_ok (me_var 0) me_int) me_str) ma_nil))))
    (mb_one (ms_ret (me_callB (cr_all rfl) allW_ok (by rfl) T.z_all (ma_cons (me_lc (own := [("inner", 3)]) rfl sc_closed_in.nd (mi_seq (me_call (takes_of rfl rfl rfl rfl) (ok_within T) (hr.mono (by omega)) T.gl_within T.fn_within.kp T.bn_within (by rfl) (ma_cons (me_var 0) ma_nil) (aCons_len aNil_len))) (blkOk_by (own := [("inner", 3)]) (N := N_closed_in) (sc := defScope (top 18)) (by decide +kernel)) (fun _ _ _ _ _ => (mg_name 3 sc_closed_in.nd)) (fun _ _ _ _ _ => mts_nil) (fun _ _ _ _ _ => (me_frz (me_call takesF ih_closed_in hr T.gl_closed_in T.fn_closed_in.kp T.bn_closed_in (by rfl) (ma_cons (me_var 3) (ma_cons (me_var 2) ma_nil)) (aCons_len (aCons_len aNil_len)))))) ma_nil))))))
theorem ok_closed_in (T : Txt K mg) : ∀ n : Nat, FnOk P w K mg base (L2.CX P w) (n + 1) T.ad_closed_in T.fd_closed_in ["term", "many"] (SpM K mg 2 (F_closed_in n))
  | 0 => okBad
  | n + 1 => (st_closed_in T (ok_closed_in T n)).mono (by omega)
abbrev N_is_closed : List Str := ["term"]
theorem sc_is_closed : FnScope N_is_closed ["term"] (defScope (top 19)) := ⟨rfl, rfl, rfl, by decide +kernel, rfl, by decide +kernel, by decide +kernel⟩
theorem ok_is_closed (T : Txt K mg) : FnOk P w K mg base (L2.CX P w) (132) T.ad_is_closed T.fd_is_closed ["term"] (SpM K mg 1 F_is_closed) :=
  okF T.fn_is_closed sc_is_closed fun cdv A outer s H E hr =>
    (mb_one (ms_ret (me_call (takes_of rfl rfl rfl rfl) (ok_closed_in T 130) (hr.mono (by decide)) T.gl_closed_in T.fn_closed_in.kp T.bn_closed_in (by rfl) (ma_cons (me_var 0) (ma_cons me_int ma_nil)) (aCons_len (aCons_len aNil_len)))))
abbrev N_uses_of : List Str := ["term", "level", "deeper", "inner"]
theorem sc_uses_of : FnScope N_uses_of ["term", "level"] (defScope (top 20)) := ⟨rfl, rfl, rfl, by decide +kernel, rfl, by decide +kernel, by decide +kernel⟩
abbrev N_is_sparing : List Str := ["term", "inner"]
theorem sc_is_sparing : FnScope N_is_sparing ["term"] (defScope (top 21)) := ⟨rfl, rfl, rfl, by decide +kernel, rfl, by decide +kernel, by decide +kernel⟩
theorem st_uses_of (T : Txt K mg) {n : Nat} (ih_uses_of : FnOk P w K mg base (L2.CX P w) (n + 1) T.ad_uses_of T.fd_uses_of ["term", "level"] (SpM K mg 2 (F_uses_of n))) (ih_is_sparing : FnOk P w K mg base (L2.CX P w) (n + 1) T.ad_is_sparing T.fd_is_sparing ["term"] (SpM K mg 1 (F_is_sparing n))) : FnOk P w K mg base (L2.CX P w) (n + 1 + 1) T.ad_uses_of T.fd_uses_of ["term", "level"] (SpM K mg 2 (F_uses_of (n + 1))) :=
  okF T.fn_uses_of sc_uses_of fun cdv A outer s H E hr =>
    (mb_cons (ms_if (mt_cmp (op_eqD hr.units) eqW_ok (me_ix ix_seq ixW_ok (me_var 0) me_int) me_str) (mb_one (ms_ret (me_callTy call_int1 intW1_ok (by rfl) T.z_int (ma_cons (me_cmp (op_eqD hr.units) eqW_ok (me_ix ix_seq ixW_ok (me_var 0) me_int) (me_var 1)) ma_nil)))) mb_nil)
    (mb_cons (ms_set 2 sc_uses_of.nd (me_op op_addS addAW_ok (me_var 1) (me_callTy call_int1 intW1_ok (by rfl) T.z_int (ma_cons (me_cmp (op_eqD hr.units) eqW_ok (me_ix ix_seq ixW_ok (me_var 0) me_int) me_str) ma_nil))))
    (mb_one (ms_ret (me_callB (cr_sum rfl) sumW_ok (by rfl) T.z_sum (ma_cons (me_lc (own := [("inner", 3)]) rfl sc_uses_of.nd (mi_seq (me_call (takes_of rfl rfl rfl rfl) (ok_within T) (hr.mono (by omega)) T.gl_within T.fn_within.kp T.bn_within (by rfl) (ma_cons (me_var 0) ma_nil) (aCons_len aNil_len))) (blkOk_by (own := [("inner", 3)]) (N := N_uses_of) (sc := defScope (top 20)) (by decide +kernel)) (fun _ _ _ _ _ => (mg_name 3 sc_uses_of.nd)) (fun _ _ _ _ _ => mts_nil) (fun _ _ _ _ _ => (me_frz (me_call takesF ih_uses_of hr T.gl_uses_of T.fn_uses_of.kp T.bn_uses_of (by rfl) (ma_cons (me_var 3) (ma_cons (me_var 2) ma_nil)) (aCons_len (aCons_len aNil_len)))))) ma_nil))))))
theorem st_is_sparing (T : Txt K mg) {n : Nat} (ih_uses_of : FnOk P w K mg base (L2.CX P w) (n + 1) T.ad_uses_of T.fd_uses_of ["term", "level"] (SpM K mg 2 (F_uses_of n))) (ih_is_sparing : FnOk P w K mg base (L2.CX P w) (n + 1) T.ad_is_sparing T.fd_is_sparing ["term"] (SpM K mg 1 (F_is_sparing n))) : FnOk P w K mg base (L2.CX P w) (n + 1 + 1) T.ad_is_sparing T.fd_is_sparing ["term"] (SpM K mg 1 (F_is_sparing (n + 1))) :=
  okF T.fn_is_sparing sc_is_sparing fun cdv A outer s H E hr =>
    (mb_cons (ms_if (MP.mt (mp_and (mt_cmp (op_eqD hr.units) eqW_ok (me_ix ix_seq ixW_ok (me_var 0) me_int) me_str) (mp_and1 (mt_cmp op_gt gtW_ok (me_call (takes_of rfl rfl rfl rfl) ih_uses_of hr T.gl_uses_of T.fn_uses_of.kp T.bn_uses_of (by rfl) (ma_cons (me_ix ix_seq ixW_ok (me_var 0) me_int) (ma_cons me_int ma_nil)) (aCons_len (aCons_len aNil_len))) me_int)))) (mb_one (ms_ret me_bl)) mb_nil)
    (mb_one (ms_ret (me_callB (cr_all rfl) allW_ok (by rfl) T.z_all (ma_cons (me_lc (own := [("inner", 1)]) rfl sc_is_sparing.nd (mi_seq (me_call (takes_of rfl rfl rfl rfl) (ok_within T) (hr.mono (by omega)) T.gl_within T.fn_within.kp T.bn_within (by rfl) (ma_cons (me_var 0) ma_nil) (aCons_len aNil_len))) (blkOk_by (own := [("inner", 1)]) (N := N_is_sparing) (sc := defScope (top 21)) (by decide +kernel)) (fun _ _ _ _ _ => (mg_name 1 sc_is_sparing.nd)) (fun _ _ _ _ _ => mts_nil) (fun _ _ _ _ _ => (me_frz (me_call takesF ih_is_sparing hr T.gl_is_sparing T.fn_is_sparing.kp T.bn_is_sparing (by rfl) (ma_cons (me_var 1) ma_nil) (aCons_len aNil_len))))) ma_nil)))))
theorem oks_uses_of (T : Txt K mg) : ∀ n : Nat, (FnOk P w K mg base (L2.CX P w) (n + 1) T.ad_uses_of T.fd_uses_of ["term", "level"] (SpM K mg 2 (F_uses_of n))) ∧ (FnOk P w K mg base (L2.CX P w) (n + 1) T.ad_is_sparing T.fd_is_sparing ["term"] (SpM K mg 1 (F_is_sparing n)))
  | 0 => ⟨okBad, okBad⟩
  | n + 1 => by
    have ih := oks_uses_of T n
    exact ⟨(st_uses_of T ih.1 ih.2).mono (by omega), (st_is_sparing T ih.1 ih.2).mono (by omega)⟩
theorem ok_uses_of (T : Txt K mg) (n : Nat) : FnOk P w K mg base (L2.CX P w) (n + 1) T.ad_uses_of T.fd_uses_of ["term", "level"] (SpM K mg 2 (F_uses_of n)) := (oks_uses_of T n).1
theorem ok_is_sparing (T : Txt K mg) (n : Nat) : FnOk P w K mg base (L2.CX P w) (n + 1) T.ad_is_sparing T.fd_is_sparing ["term"] (SpM K mg 1 (F_is_sparing n)) := (oks_uses_of T n).2
abbrev N_kind_within : List Str := ["known", "around", "term", "word", "f", "a"]
theorem sc_kind_within : FnScope N_kind_within ["known", "around", "term"] (defScope (top 22)) := ⟨rfl, rfl, rfl, by decide +kernel, rfl, by decide +kernel, by decide +kernel⟩
theorem st_kind_within (T : Txt K mg) {n : Nat} (ih_kind_within : FnOk P w K mg base (L2.CX P w) (n + 40) T.ad_kind_within T.fd_kind_within ["known", "around", "term"] (SpM K mg 3 (F_kind_within n))) : FnOk P w K mg base (L2.CX P w) (n + 40 + 1) T.ad_kind_within T.fd_kind_within ["known", "around", "term"] (SpM K mg 3 (F_kind_within (n + 1))) :=
  okF T.fn_kind_within sc_kind_within fun cdv A outer s H E hr =>
    (mb_cons (ms_set 3 sc_kind_within.nd (me_ix ix_seq ixW_ok (me_var 2) me_int))
    (mb_cons (ms_if (mt_cmp (op_eqD hr.units) eqW_ok (me_var 3) me_str) (mb_cons (ms_if (mt_cmp (op_dnin (hu65 hr)) dinW_ok (me_ix ix_seq ixW_ok (me_var 2) me_int) (me_var 0)) (mb_one (ms_raise rfl (takes_of rfl rfl rfl rfl) T.xc_NoKind (by rfl))) mb_nil)
    (mb_one (ms_ret (me_dget (hu65 hr) (me_var 0) (me_ix ix_seq ixW_ok (me_var 2) me_int))))) mb_nil)
    (mb_cons (ms_if (mt_cmp (op_eqD hr.units) eqW_ok (me_var 3) me_str) (mb_one (ms_ret (me_call (takes_of rfl rfl rfl rfl) (ok_kind_of_form T 40) (hr.mono (by omega)) T.gl_kind_of_form T.fn_kind_of_form.kp T.bn_kind_of_form (by rfl) (ma_cons (me_ix ix_seq ixW_ok (me_var 2) me_int) ma_nil) (aCons_len aNil_len)))) mb_nil)
    (mb_cons (ms_if (mt_cmp (op_eqD hr.units) eqW_ok (me_var 3) me_str) (mb_one (ms_ret (me_ix ix_seq ixW_ok (me_var 1) (me_ix ix_seq ixW_ok (me_var 2) me_int)))) mb_nil)
    (mb_cons (ms_if (mt_cmp (op_eqD hr.units) eqW_ok (me_var 3) me_str) (mb_one (ms_ret (me_tup (ma_cons (me_ix ix_seq ixW_ok (me_var 2) me_int) (ma_cons (me_frz (me_call (takes_of rfl rfl rfl rfl) ih_kind_within hr T.gl_kind_within T.fn_kind_within.kp T.bn_kind_within (by rfl) (ma_cons (me_obj (me_var 0)) (ma_cons (me_op op_addS addAW_ok (me_tup (ma_cons (me_ix ix_seq ixW_ok (me_var 2) me_int) ma_nil)) (me_var 1)) (ma_cons (me_ix ix_seq ixW_ok (me_var 2) me_int) ma_nil))) (aCons_len (aCons_len (aCons_len aNil_len))))) ma_nil))))) mb_nil)
    (mb_cons (ms_set 4 sc_kind_within.nd (me_frz (me_call (takes_of rfl rfl rfl rfl) ih_kind_within hr T.gl_kind_within T.fn_kind_within.kp T.bn_kind_within (by rfl) (ma_cons (me_obj (me_var 0)) (ma_cons (me_var 1) (ma_cons (me_ix ix_seq ixW_ok (me_var 2) me_int) ma_nil))) (aCons_len (aCons_len (aCons_len aNil_len))))))
    (mb_cons (ms_set 5 sc_kind_within.nd (me_frz (me_call (takes_of rfl rfl rfl rfl) ih_kind_within hr T.gl_kind_within T.fn_kind_within.kp T.bn_kind_within (by rfl) (ma_cons (me_obj (me_var 0)) (ma_cons (me_var 1) (ma_cons (me_ix ix_seq ixW_ok (me_var 2) me_int) ma_nil))) (aCons_len (aCons_len (aCons_len aNil_len))))))
    (mb_cons (ms_if (MP.mt (mp_or (mt_tru (me_isi .str (by rfl) T.z_isinstance (by rfl) T.z_str (me_var 4))) (mp_or1 (mt_cmp (op_neD hr.units) neW_ok (me_ix ix_seq ixW_ok (me_var 4) me_int) (me_var 5))))) (mb_one (ms_raise rfl (takes_of rfl rfl rfl rfl) T.xc_NoKind (by rfl))) mb_nil)
    (mb_one (ms_ret (me_ix ix_seq ixW_ok (me_var 4) me_int)))))))))))
theorem ok_kind_within (T : Txt K mg) : ∀ n : Nat, FnOk P w K mg base (L2.CX P w) (n + 40) T.ad_kind_within T.fd_kind_within ["known", "around", "term"] (SpM K mg 3 (F_kind_within n))
  | 0 => okBad
  | n + 1 => (st_kind_within T (ok_kind_within T n)).mono (by omega)
abbrev N_kind_of : List Str := ["names", "term", "known", "name", "kind"]
theorem sc_kind_of : FnScope N_kind_of ["names", "term"] (defScope (top 23)) := ⟨rfl, rfl, rfl, by decide +kernel, rfl, by decide +kernel, by decide +kernel⟩
theorem ok_kind_of (T : Txt K mg) : FnOk P w K mg base (L2.CX P w) (171) T.ad_kind_of T.fd_kind_of ["names", "term"] (SpM K mg 2 F_kind_of) :=
  okF T.fn_kind_of sc_kind_of fun cdv A outer s H E hr =>
    (mb_cons (ms_set 2 sc_kind_of.nd me_dnew)
    (mb_cons (ms_for (passes_of rfl) rfl (mi_seq (me_var 0)) (mg_tup rfl (mgs_cons (mg_name 3 sc_kind_of.nd) (mgs_cons (mg_name 4 sc_kind_of.nd) mgs_nil))) (mb_one (ms_setD (hu65 hr) (me_var 2) (me_var 3) (me_var 4))))
    (mb_one (ms_ret (me_call (takes_of rfl rfl rfl rfl) (ok_kind_within T 130) (hr.mono (by decide)) T.gl_kind_within T.fn_kind_within.kp T.bn_kind_within (by rfl) (ma_cons (me_obj (me_var 2)) (ma_cons (me_tup ma_nil) (ma_cons (me_var 1) ma_nil))) (aCons_len (aCons_len (aCons_len aNil_len))))))))
abbrev N__law_take : List Str := ["_law_cells", "_law_many"]
theorem sc__law_take : FnScope N__law_take ["_law_cells", "_law_many"] (defScope (top 25)) := ⟨rfl, rfl, rfl, by decide +kernel, rfl, by decide +kernel, by decide +kernel⟩
theorem ok__law_take (T : Txt K mg) : FnOk P w K mg base (L2.CX P w) (1) T.ad__law_take T.fd__law_take ["_law_cells", "_law_many"] (SpM K mg 2 F__law_take) :=
  okF T.fn__law_take sc__law_take fun cdv A outer s H E hr =>
    (mb_cons (ms_if (mt_cmp (op_eqD hr.units) eqW_ok (me_var 0) (me_lst ma_nil)) (mb_one (ms_ret me_int)) mb_nil)
    (mb_one (ms_ret (me_op op_mod modW_ok (me_bm PySem.F.plainAttrs_list PySem.F.slot_list_pop PySem.F.type_list_pop mt_popAt popAtW_ok (me_var 0) (ma_cons me_int ma_nil)) (me_var 1)))))
abbrev N__law_names : List Str := ["_law_cell", "_law_many", "_law_letters", "_law_alike", "_law_size_here", "_law_at", "_law_number", "_law_found", "_law_k", "_law_own", "_law_long", "_law_word", "_law_j"]
theorem sc__law_names : FnScope N__law_names ["_law_cell", "_law_many"] (defScope (top 26)) := ⟨rfl, rfl, rfl, by decide +kernel, rfl, by decide +kernel, by decide +kernel⟩
theorem ok__law_names (T : Txt K mg) : FnOk P w K mg base (L2.CX P w) (1) T.ad__law_names T.fd__law_names ["_law_cell", "_law_many"] (SpM K mg 2 F__law_names) :=
  okF T.fn__law_names sc__law_names fun cdv A outer s H E hr =>
    (mb_cons (ms_set 2 sc__law_names.nd me_str)
    (mb_cons (ms_set 3 sc__law_names.nd (me_cmp (op_eqD hr.units) eqW_ok (me_op op_mod modW_ok (me_var 0) me_int) me_int))
    (mb_cons (ms_set 4 sc__law_names.nd (me_op op_addS addAW_ok me_int (me_op op_mod modW_ok (me_op op_fdivW divW_ok (me_var 0) me_int) me_int)))
    (mb_cons (ms_set 5 sc__law_names.nd (me_op op_mod modW_ok (me_op op_fdivW divW_ok (me_var 0) me_int) (me_var 4)))
    (mb_cons (ms_set 6 sc__law_names.nd (me_op op_fdivW divW_ok (me_var 0) me_int))
    (mb_cons (ms_set 7 sc__law_names.nd (me_obj (me_lst ma_nil)))
    (mb_cons (ms_for (passes_of rfl) rfl (mi_range1 (by rfl) T.z_range (ma_cons (me_var 1) ma_nil)) (mg_name 8 sc__law_names.nd) (mb_cons (ms_set 9 sc__law_names.nd (me_var 6))
    (mb_cons (ms_set 10 sc__law_names.nd (me_var 4))
    (mb_cons (ms_if (mt_not (mt_tru (me_var 3))) (mb_cons (ms_set 10 sc__law_names.nd (me_op op_addS addAW_ok me_int (me_op op_mod modW_ok (me_var 6) me_int)))
    (mb_one (ms_set 9 sc__law_names.nd (me_op op_fdivW divW_ok (me_var 6) me_int)))) mb_nil)
    (mb_cons (ms_set 11 sc__law_names.nd (me_obj (me_lst ma_nil)))
    (mb_cons (ms_for (passes_of rfl) rfl (mi_range1 (by rfl) T.z_range (ma_cons (me_var 10) ma_nil)) (mg_name 12 sc__law_names.nd) (mb_cons (ms_expr (me_bm PySem.F.plainAttrs_list PySem.F.slot_list_append PySem.F.type_list_append mt_append appendW_ok (me_var 11) (ma_cons (me_ix ix_seq ixW_ok (me_var 2) (me_op op_mod modW_ok (me_var 9) me_int)) ma_nil)))
    (mb_one (ms_set 9 sc__law_names.nd (me_op op_fdivW divW_ok (me_var 9) me_int)))))
    (mb_cons (ms_if (mt_tru (me_var 3)) (mb_one (ms_setI (me_var 11) (me_var 5) (me_ix ix_seq ixW_ok (me_var 2) (me_op op_mod modW_ok (me_op op_addS addAW_ok (me_bm PySem.F.plainAttrs_str PySem.F.slot_str_index PySem.F.type_str_index mt_sindex sindexW_ok (me_var 2) (ma_cons (me_ix ix_seq ixW_ok (me_var 11) (me_var 5)) ma_nil)) (me_var 8)) me_int)))) (mb_one (ms_set 6 sc__law_names.nd (me_var 9))))
    (mb_cons (ms_while fuelW (passes_of rfl) (MP.mt (mp_or (mt_cmp (op_inA (hu65 hr)) inW_ok (me_bm PySem.F.plainAttrs_str PySem.F.slot_str_join PySem.F.type_str_join mt_join joinW_ok me_str (ma_cons (me_var 11) ma_nil)) (me_var 7)) (mp_or1 (mt_cmp (op_eqD hr.units) eqW_ok (me_var 11) (me_lst (ma_cons me_str (ma_cons me_str (ma_cons me_str ma_nil)))))))) (mb_one (ms_if (mt_cmp (op_eqD hr.units) eqW_ok (me_var 11) (me_lst (ma_cons me_str (ma_cons me_str (ma_cons me_str ma_nil))))) (mb_one (ms_set 11 sc__law_names.nd (me_obj (me_lst (ma_cons me_str (ma_cons me_str (ma_cons me_str ma_nil))))))) (mb_one (ms_setI (me_var 11) me_int (me_ix ix_seq ixW_ok (me_var 2) (me_op op_mod modW_ok (me_op op_addS addAW_ok (me_bm PySem.F.plainAttrs_str PySem.F.slot_str_index PySem.F.type_str_index mt_sindex sindexW_ok (me_var 2) (ma_cons (me_ix ix_seq ixW_ok (me_var 11) me_int) ma_nil)) me_int) me_int)))))))
    (mb_one (ms_expr (me_bm PySem.F.plainAttrs_list PySem.F.slot_list_append PySem.F.type_list_append mt_append appendW_ok (me_var 7) (ma_cons (me_bm PySem.F.plainAttrs_str PySem.F.slot_str_join PySem.F.type_str_join mt_join joinW_ok me_str (ma_cons (me_var 11) ma_nil)) ma_nil))))))))))))
    (mb_one (ms_ret (me_var 7))))))))))
abbrev N__law_form : List Str := ["_law_cells", "_law_basics", "_law_left", "_law_first", "_law_own", "_law_one"]
theorem sc__law_form : FnScope N__law_form ["_law_cells", "_law_basics", "_law_left"] (defScope (top 27)) := ⟨rfl, rfl, rfl, by decide +kernel, rfl, by decide +kernel, by decide +kernel⟩
theorem st__law_form (T : Txt K mg) {n : Nat} (ih__law_form : FnOk P w K mg base (L2.CX P w) (n + 1) T.ad__law_form T.fd__law_form ["_law_cells", "_law_basics", "_law_left"] (SpM K mg 3 (F__law_form n))) : FnOk P w K mg base (L2.CX P w) (n + 1 + 1) T.ad__law_form T.fd__law_form ["_law_cells", "_law_basics", "_law_left"] (SpM K mg 3 (F__law_form (n + 1))) :=
  okF T.fn__law_form sc__law_form fun cdv A outer s H E hr =>
    (mb_cons (ms_set 3 sc__law_form.nd (me_frz (me_call (takes_of rfl rfl rfl rfl) (ok__law_take T) (hr.mono (by omega)) T.gl__law_take T.fn__law_take.kp T.bn__law_take (by rfl) (ma_cons (me_obj (me_var 0)) (ma_cons (me_op op_pow powW_ok me_int me_int) ma_nil)) (aCons_len (aCons_len aNil_len)))))
    (mb_cons (ms_if (MP.mt (mp_or (mt_cmp op_lt ltW_ok (me_var 2) me_int) (mp_or1 (mt_cmp (op_eqD hr.units) eqW_ok (me_op op_mod modW_ok (me_var 3) me_int) me_int)))) (mb_one (ms_ret (me_tup (ma_cons me_str (ma_cons (me_ix ix_seq ixW_ok (me_var 1) (me_op op_mod modW_ok (me_op op_fdivW divW_ok (me_var 3) me_int) (me_callB call_len lenW_ok (by rfl) T.z_len (ma_cons (me_var 1) ma_nil)))) ma_nil))))) mb_nil)
    (mb_cons (ms_set 4 sc__law_form.nd (me_op op_addS addAW_ok me_int (me_op op_mod modW_ok (me_op op_fdivW divW_ok (me_var 3) me_int) (me_op op_sub subW_ok (me_var 2) me_int))))
    (mb_cons (ms_set 5 sc__law_form.nd (me_frz (me_call (takes_of rfl rfl rfl rfl) ih__law_form hr T.gl__law_form T.fn__law_form.kp T.bn__law_form (by rfl) (ma_cons (me_obj (me_var 0)) (ma_cons (me_var 1) (ma_cons (me_var 4) ma_nil))) (aCons_len (aCons_len (aCons_len aNil_len))))))
    (mb_one (ms_ret (me_tup (ma_cons (me_ix ix_seq ixW_ok (me_lst (ma_cons me_str (ma_cons me_str ma_nil))) (me_op op_mod modW_ok (me_op op_fdivW divW_ok (me_var 3) me_int) me_int)) (ma_cons (me_var 5) (ma_cons (me_frz (me_call (takes_of rfl rfl rfl rfl) ih__law_form hr T.gl__law_form T.fn__law_form.kp T.bn__law_form (by rfl) (ma_cons (me_obj (me_var 0)) (ma_cons (me_var 1) (ma_cons (me_op op_sub subW_ok (me_var 2) (me_var 4)) ma_nil))) (aCons_len (aCons_len (aCons_len aNil_len))))) ma_nil))))))))))
theorem ok__law_form (T : Txt K mg) : ∀ n : Nat, FnOk P w K mg base (L2.CX P w) (n + 1) T.ad__law_form T.fd__law_form ["_law_cells", "_law_basics", "_law_left"] (SpM K mg 3 (F__law_form n))
  | 0 => okBad
  | n + 1 => (st__law_form T (ok__law_form T n)).mono (by omega)
abbrev N__law_spread : List Str := ["_law_cell", "_law_many", "_law_number", "_law_own", "_law_found", "_law_k", "_law_digit"]
theorem sc__law_spread : FnScope N__law_spread ["_law_cell", "_law_many"] (defScope (top 28)) := ⟨rfl, rfl, rfl, by decide +kernel, rfl, by decide +kernel, by decide +kernel⟩
theorem ok__law_spread (T : Txt K mg) : FnOk P w K mg base (L2.CX P w) (1) T.ad__law_spread T.fd__law_spread ["_law_cell", "_law_many"] (SpM K mg 2 F__law_spread) :=
  okF T.fn__law_spread sc__law_spread fun cdv A outer s H E hr =>
    (mb_cons (ms_set 2 sc__law_spread.nd (me_op op_addS addAW_ok (me_op op_mod modW_ok (me_var 0) me_int) me_int))
    (mb_cons (ms_set 3 sc__law_spread.nd (me_op op_fdivW divW_ok (me_var 0) me_int))
    (mb_cons (ms_set 4 sc__law_spread.nd (me_obj (me_lst ma_nil)))
    (mb_cons (ms_for (passes_of rfl) rfl (mi_range1 (by rfl) T.z_range (ma_cons (me_var 1) ma_nil)) (mg_name 5 sc__law_spread.nd) (mb_cons (ms_set 2 sc__law_spread.nd (me_op op_mod modW_ok (me_op op_mulA mulW_ok (me_var 2) me_int) me_int))
    (mb_cons (ms_set 6 sc__law_spread.nd (me_op op_mod modW_ok (me_var 3) (me_op op_pow powW_ok me_int me_int)))
    (mb_cons (ms_set 3 sc__law_spread.nd (me_op op_fdivW divW_ok (me_var 3) (me_op op_pow powW_ok me_int me_int)))
    (mb_one (ms_expr (me_bm PySem.F.plainAttrs_list PySem.F.slot_list_append PySem.F.type_list_append mt_append appendW_ok (me_var 4) (ma_cons (me_ix ix_seq ixW_ok (me_lst (ma_cons (me_var 6) (ma_cons (me_op op_mod modW_ok (me_op op_mulA mulW_ok (me_var 2) me_int) me_int) ma_nil))) (me_op op_mod modW_ok (me_var 0) me_int)) ma_nil))))))))
    (mb_one (ms_ret (me_var 4)))))))
abbrev N__law_size : List Str := ["_law_form_here"]
theorem sc__law_size : FnScope N__law_size ["_law_form_here"] (defScope (top 29)) := ⟨rfl, rfl, rfl, by decide +kernel, rfl, by decide +kernel, by decide +kernel⟩
theorem st__law_size (T : Txt K mg) {n : Nat} (ih__law_size : FnOk P w K mg base (L2.CX P w) (n + 0) T.ad__law_size T.fd__law_size ["_law_form_here"] (SpM K mg 1 (F__law_size n))) : FnOk P w K mg base (L2.CX P w) (n + 0 + 1) T.ad__law_size T.fd__law_size ["_law_form_here"] (SpM K mg 1 (F__law_size (n + 1))) :=
  okF T.fn__law_size sc__law_size fun cdv A outer s H E hr =>
    (mb_cons (ms_if (mt_cmp (op_eqD hr.units) eqW_ok (me_ix ix_seq ixW_ok (me_var 0) me_int) me_str) (mb_one (ms_ret me_int)) mb_nil)
    (mb_one (ms_ret (me_op op_addS addAW_ok (me_call (takes_of rfl rfl rfl rfl) ih__law_size hr T.gl__law_size T.fn__law_size.kp T.bn__law_size (by rfl) (ma_cons (me_ix ix_seq ixW_ok (me_var 0) me_int) ma_nil) (aCons_len aNil_len)) (me_call (takes_of rfl rfl rfl rfl) ih__law_size hr T.gl__law_size T.fn__law_size.kp T.bn__law_size (by rfl) (ma_cons (me_ix ix_seq ixW_ok (me_var 0) me_int) ma_nil) (aCons_len aNil_len))))))
theorem ok__law_size (T : Txt K mg) : ∀ n : Nat, FnOk P w K mg base (L2.CX P w) (n + 0) T.ad__law_size T.fd__law_size ["_law_form_here"] (SpM K mg 1 (F__law_size n))
  | 0 => okBad
  | n + 1 => (st__law_size T (ok__law_size T n)).mono (by omega)
abbrev N__law_more : List Str := ["_law_form_here", "_law_other", "_law_cell", "_law_way"]
theorem sc__law_more : FnScope N__law_more ["_law_form_here", "_law_other", "_law_cell"] (defScope (top 30)) := ⟨rfl, rfl, rfl, by decide +kernel, rfl, by decide +kernel, by decide +kernel⟩
theorem ok__law_more (T : Txt K mg) : FnOk P w K mg base (L2.CX P w) (1) T.ad__law_more T.fd__law_more ["_law_form_here", "_law_other", "_law_cell"] (SpM K mg 3 F__law_more) :=
  okF T.fn__law_more sc__law_more fun cdv A outer s H E hr =>
    (mb_cons (ms_set 3 sc__law_more.nd (me_op op_mod modW_ok (me_var 2) me_int))
    (mb_cons (ms_if (mt_cmp (op_eqD hr.units) eqW_ok (me_var 3) me_int) (mb_one (ms_ret (me_tup (ma_cons me_str (ma_cons (me_tup (ma_cons me_str (ma_cons (me_var 1) (ma_cons (me_var 0) ma_nil)))) (ma_cons (me_var 1) (ma_cons me_bl ma_nil))))))) mb_nil)
    (mb_cons (ms_if (mt_cmp (op_eqD hr.units) eqW_ok (me_var 3) me_int) (mb_one (ms_ret (me_tup (ma_cons me_str (ma_cons (me_tup (ma_cons me_str (ma_cons (me_var 1) (ma_cons (me_var 0) ma_nil)))) (ma_cons (me_var 1) (ma_cons me_bl ma_nil))))))) mb_nil)
    (mb_cons (ms_if (MP.mt (mp_and (mt_cmp (op_eqD hr.units) eqW_ok (me_var 3) me_int) (mp_and1 (mt_cmp (op_eqD hr.units) eqW_ok (me_ix ix_seq ixW_ok (me_var 0) me_int) me_str)))) (mb_one (ms_ret (me_tup (ma_cons me_str (ma_cons (me_tup (ma_cons me_str (ma_cons (me_var 1) (ma_cons (me_ix ix_seq ixW_ok (me_var 0) me_int) ma_nil)))) (ma_cons (me_tup (ma_cons me_str (ma_cons (me_var 1) (ma_cons (me_ix ix_seq ixW_ok (me_var 0) me_int) ma_nil)))) (ma_cons me_bl ma_nil))))))) mb_nil)
    (mb_cons (ms_if (MP.mt (mp_and (mt_cmp (op_eqD hr.units) eqW_ok (me_var 3) me_int) (mp_and1 (mt_cmp (op_eqD hr.units) eqW_ok (me_ix ix_seq ixW_ok (me_var 0) me_int) me_str)))) (mb_one (ms_ret (me_tup (ma_cons me_str (ma_cons (me_tup (ma_cons me_str (ma_cons (me_var 1) (ma_cons (me_ix ix_seq ixW_ok (me_var 0) me_int) ma_nil)))) (ma_cons (me_tup (ma_cons me_str (ma_cons (me_var 1) (ma_cons (me_ix ix_seq ixW_ok (me_var 0) me_int) ma_nil)))) (ma_cons me_bl ma_nil))))))) mb_nil)
    (mb_cons (ms_if (MP.mt (mp_and (mt_cmp (op_eqD hr.units) eqW_ok (me_ix ix_seq ixW_ok (me_var 0) me_int) me_str) (mp_and1 (mt_cmp (op_eqD hr.units) eqW_ok (me_op op_mod modW_ok (me_var 3) me_int) me_int)))) (mb_one (ms_ret (me_tup (ma_cons me_str (ma_cons (me_ix ix_seq ixW_ok (me_var 0) me_int) (ma_cons (me_ix ix_seq ixW_ok (me_var 0) me_int) (ma_cons me_bl ma_nil))))))) mb_nil)
    (mb_cons (ms_if (mt_cmp (op_eqD hr.units) eqW_ok (me_ix ix_seq ixW_ok (me_var 0) me_int) me_str) (mb_one (ms_ret (me_tup (ma_cons me_str (ma_cons (me_ix ix_seq ixW_ok (me_var 0) me_int) (ma_cons (me_ix ix_seq ixW_ok (me_var 0) me_int) (ma_cons me_bl ma_nil))))))) mb_nil)
    (mb_cons (ms_if (mt_cmp (op_eqD hr.units) eqW_ok (me_ix ix_seq ixW_ok (me_var 0) me_int) me_str) (mb_one (ms_ret (me_tup (ma_cons me_str (ma_cons (me_tup (ma_cons me_str (ma_cons (me_ix ix_seq ixW_ok (me_var 0) me_int) (ma_cons (me_var 1) ma_nil)))) (ma_cons (me_tup (ma_cons me_str (ma_cons (me_ix ix_seq ixW_ok (me_var 0) me_int) (ma_cons (me_var 1) ma_nil)))) (ma_cons me_bl ma_nil))))))) mb_nil)
    (mb_one (ms_ret (me_tup (ma_cons me_str (ma_cons (me_tup (ma_cons me_str (ma_cons (me_var 1) (ma_cons (me_var 0) ma_nil)))) (ma_cons (me_var 1) (ma_cons me_bl ma_nil)))))))))))))))
abbrev N_law : List Str := ["_law_script", "_law_cells", "_law_basics", "_law_form_here", "_law_term", "_law_size_here", "_law_more_here", "_law_k", "_law_cell", "_law_rest", "_law_other", "_law_sign", "_law_neighbour", "_law_due", "_law_ahead", "_law_leaf", "_law_pair"]
theorem sc_law : FnScope N_law ["_law_script"] (defScope (top 31)) := ⟨rfl, rfl, rfl, by decide +kernel, rfl, by decide +kernel, by decide +kernel⟩
theorem ok_law (T : Txt K mg) : FnOk P w K mg base (L2.CX P w) (172) T.ad_law T.fd_law ["_law_script"] (SpM K mg 1 F_law) :=
  okF T.fn_law sc_law fun cdv A outer s H E hr =>
    (mb_cons (ms_set 1 sc_law.nd (me_obj (me_callTy call_list_of listW_ok (by rfl) T.z_list (ma_cons (me_slice sl_all slW_ok (me_var 0) mo_none (mo_some me_int)) ma_nil))))
    (mb_cons (ms_set 2 sc_law.nd (me_frz (me_call (takes_of rfl rfl rfl rfl) (ok__law_names T) (hr.mono (by decide)) T.gl__law_names T.fn__law_names.kp T.bn__law_names (by rfl) (ma_cons (me_frz (me_call (takes_of rfl rfl rfl rfl) (ok__law_take T) (hr.mono (by decide)) T.gl__law_take T.fn__law_take.kp T.bn__law_take (by rfl) (ma_cons (me_obj (me_var 1)) (ma_cons (me_op op_mulA mulW_ok (me_op op_pow powW_ok me_int me_int) (me_op op_pow powW_ok me_int me_int)) ma_nil)) (aCons_len (aCons_len aNil_len)))) (ma_cons me_int ma_nil)) (aCons_len (aCons_len aNil_len)))))
    (mb_cons (ms_set 3 sc_law.nd (me_frz (me_call (takes_of rfl rfl rfl rfl) (ok__law_form T 40) (hr.mono (by decide)) T.gl__law_form T.fn__law_form.kp T.bn__law_form (by rfl) (ma_cons (me_obj (me_var 1)) (ma_cons (me_var 2) (ma_cons me_int ma_nil))) (aCons_len (aCons_len (aCons_len aNil_len))))))
    (mb_cons (ms_set 4 sc_law.nd (me_tup (ma_cons me_str (ma_cons me_int (ma_cons (me_var 3) ma_nil)))))
    (mb_cons (ms_set 5 sc_law.nd me_int)
    (mb_cons (ms_set 6 sc_law.nd (me_frz (me_slice sl_all slW_ok (me_var 0) (mo_some me_int) (mo_some me_int))))
    (mb_cons (ms_if (mt_cmp (op_eqD hr.units) eqW_ok (me_op op_mod modW_ok (me_ix ix_seq ixW_ok (me_op op_addS addAW_ok (me_var 0) (me_lst (ma_cons me_int ma_nil))) me_int) me_int) me_int) (mb_one (ms_set 6 sc_law.nd (me_frz (me_slice sl_all slW_ok (me_op op_addS addAW_ok (me_var 6) (me_call (takes_of rfl rfl rfl rfl) (ok__law_spread T) (hr.mono (by decide)) T.gl__law_spread T.fn__law_spread.kp T.bn__law_spread (by rfl) (ma_cons (me_op op_fdivW divW_ok (me_ix ix_seq ixW_ok (me_var 0) me_int) me_int) (ma_cons me_int ma_nil)) (aCons_len (aCons_len aNil_len)))) mo_none (mo_some (me_callB (call_max2 rfl) maxW2_ok (by rfl) T.z_max (ma_cons me_int (ma_cons (me_callB call_len lenW_ok (by rfl) T.z_len (ma_cons (me_var 6) ma_nil)) ma_nil)))))))) mb_nil)
    (mb_cons (ms_for (passes_of rfl) rfl (mi_enum (by rfl) T.z_enumerate (ma_cons (me_var 6) ma_nil)) (mg_tup rfl (mgs_cons (mg_name 7 sc_law.nd) (mgs_cons (mg_name 8 sc_law.nd) mgs_nil))) (mb_cons (ms_set 9 sc_law.nd (me_op op_fdivW divW_ok (me_var 8) me_int))
    (mb_cons (ms_set 10 sc_law.nd (me_frz (me_call (takes_of rfl rfl rfl rfl) (ok__law_form T 40) (hr.mono (by decide)) T.gl__law_form T.fn__law_form.kp T.bn__law_form (by rfl) (ma_cons (me_obj (me_lst (ma_cons (me_op op_mod modW_ok (me_var 9) (me_op op_pow powW_ok me_int me_int)) (ma_cons (me_op op_mod modW_ok (me_op op_fdivW divW_ok (me_var 9) (me_op op_pow powW_ok me_int me_int)) (me_op op_pow powW_ok me_int me_int)) (ma_cons (me_op op_mod modW_ok (me_op op_fdivW divW_ok (me_var 9) (me_op op_pow powW_ok me_int me_int)) (me_op op_pow powW_ok me_int me_int)) ma_nil))))) (ma_cons (me_var 2) (ma_cons me_int ma_nil))) (aCons_len (aCons_len (aCons_len aNil_len))))))
    (mb_cons (ms_asg (me_frz (me_call (takes_of rfl rfl rfl rfl) (ok__law_more T) (hr.mono (by decide)) T.gl__law_more T.fn__law_more.kp T.bn__law_more (by rfl) (ma_cons (me_var 3) (ma_cons (me_var 10) (ma_cons (me_var 8) ma_nil))) (aCons_len (aCons_len (aCons_len aNil_len))))) (mg_tup rfl (mgs_cons (mg_name 11 sc_law.nd) (mgs_cons (mg_name 12 sc_law.nd) (mgs_cons (mg_name 13 sc_law.nd) (mgs_cons (mg_name 14 sc_law.nd) mgs_nil))))))
    (mb_cons (ms_if (MP.mt (mp_or (mt_cmp op_gt gtW_ok (me_call (takes_of rfl rfl rfl rfl) (ok__law_size T 40) (hr.mono (by decide)) T.gl__law_size T.fn__law_size.kp T.bn__law_size (by rfl) (ma_cons (me_var 12) ma_nil) (aCons_len aNil_len)) me_int) (mp_or1 (mt_cmp op_gt gtW_ok (me_call (takes_of rfl rfl rfl rfl) (ok__law_size T 40) (hr.mono (by decide)) T.gl__law_size T.fn__law_size.kp T.bn__law_size (by rfl) (ma_cons (me_var 13) ma_nil) (aCons_len aNil_len)) me_int)))) (mb_one ms_continue) mb_nil)
    (mb_cons (ms_set 15 sc_law.nd (me_tup (ma_cons me_str (ma_cons (me_op op_addS addAW_ok (me_var 7) me_int) (ma_cons (me_var 12) ma_nil)))))
    (mb_cons (ms_set 16 sc_law.nd (me_ix ix_seq ixW_ok (me_lst (ma_cons (me_tup (ma_cons (me_var 3) (ma_cons (me_var 12) (ma_cons (me_var 4) (ma_cons (me_var 15) ma_nil))))) (ma_cons (me_tup (ma_cons (me_var 12) (ma_cons (me_var 3) (ma_cons (me_var 15) (ma_cons (me_var 4) ma_nil))))) ma_nil))) (me_callTy call_int1 intW1_ok (by rfl) T.z_int (ma_cons (me_var 14) ma_nil))))
    (mb_cons (ms_if (mt_cmp (op_neD hr.units) neW_ok (me_call (takes_of rfl rfl rfl rfl) (ok_made T) (hr.mono (by decide)) T.gl_made T.fn_made.kp T.bn_made (by rfl) (ma_cons (me_ix ix_seq ixW_ok (me_var 16) me_int) (ma_cons (me_ix ix_seq ixW_ok (me_var 16) me_int) ma_nil)) (aCons_len (aCons_len aNil_len))) (me_tup (ma_cons (me_var 11) (ma_cons (me_var 13) ma_nil)))) (mb_one (ms_ret me_bl)) mb_nil)
    (mb_cons (ms_set 4 sc_law.nd (me_frz (me_call (takes_of rfl rfl rfl rfl) (ok_meant T) (hr.mono (by decide)) T.gl_meant T.fn_meant.kp T.bn_meant (by rfl) (ma_cons (me_var 11) (ma_cons (me_ix ix_seq ixW_ok (me_var 16) me_int) (ma_cons (me_ix ix_seq ixW_ok (me_var 16) me_int) (ma_cons (me_ix ix_seq ixW_ok (me_var 16) me_int) (ma_cons (me_ix ix_seq ixW_ok (me_var 16) me_int) ma_nil))))) (aCons_len (aCons_len (aCons_len (aCons_len (aCons_len aNil_len))))))))
    (mb_cons (ms_set 3 sc_law.nd (me_var 13))
    (mb_one (ms_set 5 sc_law.nd (me_frz (me_op op_addS addAW_ok (me_var 5) (me_ix ix_seq ixW_ok (me_lst (ma_cons me_int (ma_cons me_int ma_nil))) (me_callTy call_int1 intW1_ok (by rfl) T.z_int (ma_cons (me_cmp (op_eqD hr.units) eqW_ok (me_callB call_len lenW_ok (by rfl) T.z_len (ma_cons (me_var 11) ma_nil)) me_int) ma_nil)))))))))))))))))
    (mb_cons (ms_if (MP.mt (mp_or (mt_cmp (op_neD hr.units) neW_ok (me_call (takes_of rfl rfl rfl rfl) (ok_size_of T 130) (hr.mono (by decide)) T.gl_size_of T.fn_size_of.kp T.bn_size_of (by rfl) (ma_cons (me_var 4) ma_nil) (aCons_len aNil_len)) (me_var 5)) (mp_or (mt_not (mt_tru (me_call (takes_of rfl rfl rfl rfl) (ok_is_closed T) (hr.mono (by decide)) T.gl_is_closed T.fn_is_closed.kp T.bn_is_closed (by rfl) (ma_cons (me_var 4) ma_nil) (aCons_len aNil_len)))) (mp_or1 (mt_not (mt_tru (me_call (takes_of rfl rfl rfl rfl) (ok_is_sparing T 130) (hr.mono (by decide)) T.gl_is_sparing T.fn_is_sparing.kp T.bn_is_sparing (by rfl) (ma_cons (me_var 4) ma_nil) (aCons_len aNil_len)))))))) (mb_one (ms_ret me_bl)) mb_nil)
    (mb_one (ms_ret (me_cmp (op_eqD hr.units) eqW_ok (me_call (takes_of rfl rfl rfl rfl) (ok_kind_of T) (hr.mono (by decide)) T.gl_kind_of T.fn_kind_of.kp T.bn_kind_of (by rfl) (ma_cons (me_frz (me_lst ma_nil)) (ma_cons (me_var 4) ma_nil)) (aCons_len (aCons_len aNil_len))) (me_call (takes_of rfl rfl rfl rfl) (ok_kind_of_form T 40) (hr.mono (by decide)) T.gl_kind_of_form T.fn_kind_of_form.kp T.bn_kind_of_form (by rfl) (ma_cons (me_var 3) ma_nil) (aCons_len aNil_len))))))))))))))
end

theorem all_mk {l : PySem.W.OpenLaw} {w : World} {K : PySem.W.Frag} {h : Heap} {mg : Str → Option Value} {fa : Addr} (X : K.In h) (G : h.Ns mainGlobals mg) (hfa : mg "law" = some (.ref fa))
    {c_RightTaken : Addr}
    {c_LeftTaken : Addr}
    {c_RightHanded : Addr}
    {c_LeftHanded : Addr}
    {f1 : Addr} {od1 an1 : Option Addr} {sl1 : Array (Option Value)} {oc1 kV1 dc1 pm1 cd1 ct1 : Value}
    {f2 : Addr} {od2 an2 : Option Addr} {sl2 : Array (Option Value)} {oc2 kV2 dc2 pm2 cd2 ct2 : Value}
    {f3 : Addr} {od3 an3 : Option Addr} {sl3 : Array (Option Value)} {oc3 kV3 dc3 pm3 cd3 ct3 : Value}
    {f4 : Addr} {od4 an4 : Option Addr} {sl4 : Array (Option Value)} {oc4 kV4 dc4 pm4 cd4 ct4 : Value}
    {f5 : Addr} {od5 an5 : Option Addr} {sl5 : Array (Option Value)} {oc5 kV5 dc5 pm5 cd5 ct5 : Value}
    {f6 : Addr} {od6 an6 : Option Addr} {sl6 : Array (Option Value)} {oc6 kV6 dc6 pm6 cd6 ct6 : Value}
    {f7 : Addr} {od7 an7 : Option Addr} {sl7 : Array (Option Value)} {oc7 kV7 dc7 pm7 cd7 ct7 : Value}
    {f8 : Addr} {od8 an8 : Option Addr} {sl8 : Array (Option Value)} {oc8 kV8 dc8 pm8 cd8 ct8 : Value}
    {f9 : Addr} {od9 an9 : Option Addr} {sl9 : Array (Option Value)} {oc9 kV9 dc9 pm9 cd9 ct9 : Value}
    {f10 : Addr} {od10 an10 : Option Addr} {sl10 : Array (Option Value)} {oc10 kV10 dc10 pm10 cd10 ct10 : Value}
    {f11 : Addr} {od11 an11 : Option Addr} {sl11 : Array (Option Value)} {oc11 kV11 dc11 pm11 cd11 ct11 : Value}
    {f12 : Addr} {od12 an12 : Option Addr} {sl12 : Array (Option Value)} {oc12 kV12 dc12 pm12 cd12 ct12 : Value}
    {f13 : Addr} {od13 an13 : Option Addr} {sl13 : Array (Option Value)} {oc13 kV13 dc13 pm13 cd13 ct13 : Value}
    {f14 : Addr} {od14 an14 : Option Addr} {sl14 : Array (Option Value)} {oc14 kV14 dc14 pm14 cd14 ct14 : Value}
    {f15 : Addr} {od15 an15 : Option Addr} {sl15 : Array (Option Value)} {oc15 kV15 dc15 pm15 cd15 ct15 : Value}
    {f16 : Addr} {od16 an16 : Option Addr} {sl16 : Array (Option Value)} {oc16 kV16 dc16 pm16 cd16 ct16 : Value}
    {f17 : Addr} {od17 an17 : Option Addr} {sl17 : Array (Option Value)} {oc17 kV17 dc17 pm17 cd17 ct17 : Value}
    {f18 : Addr} {od18 an18 : Option Addr} {sl18 : Array (Option Value)} {oc18 kV18 dc18 pm18 cd18 ct18 : Value}
    {f19 : Addr} {od19 an19 : Option Addr} {sl19 : Array (Option Value)} {oc19 kV19 dc19 pm19 cd19 ct19 : Value}
    {f20 : Addr} {od20 an20 : Option Addr} {sl20 : Array (Option Value)} {oc20 kV20 dc20 pm20 cd20 ct20 : Value}
    {f21 : Addr} {od21 an21 : Option Addr} {sl21 : Array (Option Value)} {oc21 kV21 dc21 pm21 cd21 ct21 : Value}
    {f22 : Addr} {od22 an22 : Option Addr} {sl22 : Array (Option Value)} {oc22 kV22 dc22 pm22 cd22 ct22 : Value}
    {f23 : Addr} {od23 an23 : Option Addr} {sl23 : Array (Option Value)} {oc23 kV23 dc23 pm23 cd23 ct23 : Value}
    {f24 : Addr} {od24 an24 : Option Addr} {sl24 : Array (Option Value)} {oc24 kV24 dc24 pm24 cd24 ct24 : Value}
    {f25 : Addr} {od25 an25 : Option Addr} {sl25 : Array (Option Value)} {oc25 kV25 dc25 pm25 cd25 ct25 : Value}
    {f26 : Addr} {od26 an26 : Option Addr} {sl26 : Array (Option Value)} {oc26 kV26 dc26 pm26 cd26 ct26 : Value}
    {f27 : Addr} {od27 an27 : Option Addr} {sl27 : Array (Option Value)} {oc27 kV27 dc27 pm27 cd27 ct27 : Value}
    {f28 : Addr} {od28 an28 : Option Addr} {sl28 : Array (Option Value)} {oc28 kV28 dc28 pm28 cd28 ct28 : Value}
    {f29 : Addr} {od29 an29 : Option Addr} {sl29 : Array (Option Value)} {oc29 kV29 dc29 pm29 cd29 ct29 : Value}
    {f30 : Addr} {od30 an30 : Option Addr} {sl30 : Array (Option Value)} {oc30 kV30 dc30 pm30 cd30 ct30 : Value}
    {f31 : Addr} {od31 an31 : Option Addr} {sl31 : Array (Option Value)} {oc31 kV31 dc31 pm31 cd31 ct31 : Value}
    {f32 : Addr} {od32 an32 : Option Addr} {sl32 : Array (Option Value)} {oc32 kV32 dc32 pm32 cd32 ct32 : Value}
    {x_NoKind : Addr}
    (cg_RightTaken : PySem.W.nsIn K mainGlobals "RightTaken" = some (some (.ref c_RightTaken)))
    (cpg_RightTaken : PySem.W.plainGet K c_RightTaken Str.empty = true)
    (chd_RightTaken : PySem.W.hasDictIn K c_RightTaken = true)
    (cpo_RightTaken : PySem.W.plainOver K c_RightTaken = true)
    (csa_RightTaken : PySem.W.findIn K (.ref c_RightTaken) "__setattr__" = some (some (.builtin "object.__setattr__")))
    (cmk_RightTaken : PySem.W.makesIn K c_RightTaken = true)
    (cin_RightTaken : PySem.W.findIn K (.ref c_RightTaken) "__init__" = some (some (.builtin "object.__init__")))
    (csb_RightTaken : PySem.W.subIn K (.ref c_RightTaken) (.type "object") = some true)
    (ckp_RightTaken : PySem.W.keepIn K (.ref c_RightTaken) = true)
    (cg_LeftTaken : PySem.W.nsIn K mainGlobals "LeftTaken" = some (some (.ref c_LeftTaken)))
    (cpg_LeftTaken : PySem.W.plainGet K c_LeftTaken Str.empty = true)
    (chd_LeftTaken : PySem.W.hasDictIn K c_LeftTaken = true)
    (cpo_LeftTaken : PySem.W.plainOver K c_LeftTaken = true)
    (csa_LeftTaken : PySem.W.findIn K (.ref c_LeftTaken) "__setattr__" = some (some (.builtin "object.__setattr__")))
    (cmk_LeftTaken : PySem.W.makesIn K c_LeftTaken = true)
    (cin_LeftTaken : PySem.W.findIn K (.ref c_LeftTaken) "__init__" = some (some (.builtin "object.__init__")))
    (csb_LeftTaken : PySem.W.subIn K (.ref c_LeftTaken) (.type "object") = some true)
    (ckp_LeftTaken : PySem.W.keepIn K (.ref c_LeftTaken) = true)
    (cg_RightHanded : PySem.W.nsIn K mainGlobals "RightHanded" = some (some (.ref c_RightHanded)))
    (cpg_RightHanded : PySem.W.plainGet K c_RightHanded Str.empty = true)
    (chd_RightHanded : PySem.W.hasDictIn K c_RightHanded = true)
    (cpo_RightHanded : PySem.W.plainOver K c_RightHanded = true)
    (csa_RightHanded : PySem.W.findIn K (.ref c_RightHanded) "__setattr__" = some (some (.builtin "object.__setattr__")))
    (cmk_RightHanded : PySem.W.makesIn K c_RightHanded = true)
    (cin_RightHanded : PySem.W.findIn K (.ref c_RightHanded) "__init__" = some (some (.builtin "object.__init__")))
    (csb_RightHanded : PySem.W.subIn K (.ref c_RightHanded) (.type "object") = some true)
    (ckp_RightHanded : PySem.W.keepIn K (.ref c_RightHanded) = true)
    (cg_LeftHanded : PySem.W.nsIn K mainGlobals "LeftHanded" = some (some (.ref c_LeftHanded)))
    (cpg_LeftHanded : PySem.W.plainGet K c_LeftHanded Str.empty = true)
    (chd_LeftHanded : PySem.W.hasDictIn K c_LeftHanded = true)
    (cpo_LeftHanded : PySem.W.plainOver K c_LeftHanded = true)
    (csa_LeftHanded : PySem.W.findIn K (.ref c_LeftHanded) "__setattr__" = some (some (.builtin "object.__setattr__")))
    (cmk_LeftHanded : PySem.W.makesIn K c_LeftHanded = true)
    (cin_LeftHanded : PySem.W.findIn K (.ref c_LeftHanded) "__init__" = some (some (.builtin "object.__init__")))
    (csb_LeftHanded : PySem.W.subIn K (.ref c_LeftHanded) (.type "object") = some true)
    (ckp_LeftHanded : PySem.W.keepIn K (.ref c_LeftHanded) = true)
    (a1 : PySem.W.nsIn K mainGlobals "kind_of_form" = some (some (.ref f1))) (l1 : K.lookup f1 = some ⟨oc1, od1, .func (PySem.W.fnOf "kind_of_form" "kind_of_form" (defArgs (top 4)) (defBody (top 4)) (defScope (top 4)) .none kV1 dc1 pm1 an1 cd1 ct1), sl1⟩) (c1 : PySem.W.codeIn K cd1 "kind_of_form" = true) (k1 : PySem.W.keepIn K (.ref f1) = true)
    (a2 : PySem.W.nsIn K mainGlobals "handed_on" = some (some (.ref f2))) (l2 : K.lookup f2 = some ⟨oc2, od2, .func (PySem.W.fnOf "handed_on" "handed_on" (defArgs (top 9)) (defBody (top 9)) (defScope (top 9)) .none kV2 dc2 pm2 an2 cd2 ct2), sl2⟩) (c2 : PySem.W.codeIn K cd2 "handed_on" = true) (k2 : PySem.W.keepIn K (.ref f2) = true)
    (a3 : PySem.W.findIn K (.ref c_RightTaken) "sign" = some (some (.ref f3))) (i3 : PySem.W.isFn K (.ref f3) = true) (l3 : K.lookup f3 = some ⟨oc3, od3, .func (PySem.W.fnOf "sign" "RightTaken.sign" (defArgs (inClass (top 7) 0)) (defBody (inClass (top 7) 0)) (defScope (inClass (top 7) 0)) .none kV3 dc3 pm3 an3 cd3 ct3), sl3⟩) (c3 : PySem.W.codeIn K cd3 "RightTaken.sign" = true) (k3 : PySem.W.keepIn K (.ref f3) = true)
    (a4 : PySem.W.findIn K (.ref c_RightTaken) "joined" = some (some (.ref f4))) (i4 : PySem.W.isFn K (.ref f4) = true) (l4 : K.lookup f4 = some ⟨oc4, od4, .func (PySem.W.fnOf "joined" "RightTaken.joined" (defArgs (inClass (top 7) 1)) (defBody (inClass (top 7) 1)) (defScope (inClass (top 7) 1)) .none kV4 dc4 pm4 an4 cd4 ct4), sl4⟩) (c4 : PySem.W.codeIn K cd4 "RightTaken.joined" = true) (k4 : PySem.W.keepIn K (.ref f4) = true)
    (a5 : PySem.W.findIn K (.ref c_RightTaken) "meant" = some (some (.ref f5))) (i5 : PySem.W.isFn K (.ref f5) = true) (l5 : K.lookup f5 = some ⟨oc5, od5, .func (PySem.W.fnOf "meant" "RightTaken.meant" (defArgs (inClass (top 7) 2)) (defBody (inClass (top 7) 2)) (defScope (inClass (top 7) 2)) .none kV5 dc5 pm5 an5 cd5 ct5), sl5⟩) (c5 : PySem.W.codeIn K cd5 "RightTaken.meant" = true) (k5 : PySem.W.keepIn K (.ref f5) = true)
    (a6 : PySem.W.findIn K (.ref c_LeftTaken) "sign" = some (some (.ref f6))) (i6 : PySem.W.isFn K (.ref f6) = true) (l6 : K.lookup f6 = some ⟨oc6, od6, .func (PySem.W.fnOf "sign" "LeftTaken.sign" (defArgs (inClass (top 8) 0)) (defBody (inClass (top 8) 0)) (defScope (inClass (top 8) 0)) .none kV6 dc6 pm6 an6 cd6 ct6), sl6⟩) (c6 : PySem.W.codeIn K cd6 "LeftTaken.sign" = true) (k6 : PySem.W.keepIn K (.ref f6) = true)
    (a7 : PySem.W.findIn K (.ref c_LeftTaken) "joined" = some (some (.ref f7))) (i7 : PySem.W.isFn K (.ref f7) = true) (l7 : K.lookup f7 = some ⟨oc7, od7, .func (PySem.W.fnOf "joined" "LeftTaken.joined" (defArgs (inClass (top 8) 1)) (defBody (inClass (top 8) 1)) (defScope (inClass (top 8) 1)) .none kV7 dc7 pm7 an7 cd7 ct7), sl7⟩) (c7 : PySem.W.codeIn K cd7 "LeftTaken.joined" = true) (k7 : PySem.W.keepIn K (.ref f7) = true)
    (a8 : PySem.W.findIn K (.ref c_LeftTaken) "meant" = some (some (.ref f8))) (i8 : PySem.W.isFn K (.ref f8) = true) (l8 : K.lookup f8 = some ⟨oc8, od8, .func (PySem.W.fnOf "meant" "LeftTaken.meant" (defArgs (inClass (top 8) 2)) (defBody (inClass (top 8) 2)) (defScope (inClass (top 8) 2)) .none kV8 dc8 pm8 an8 cd8 ct8), sl8⟩) (c8 : PySem.W.codeIn K cd8 "LeftTaken.meant" = true) (k8 : PySem.W.keepIn K (.ref f8) = true)
    (a9 : PySem.W.findIn K (.ref c_RightHanded) "sign" = some (some (.ref f9))) (i9 : PySem.W.isFn K (.ref f9) = true) (l9 : K.lookup f9 = some ⟨oc9, od9, .func (PySem.W.fnOf "sign" "RightHanded.sign" (defArgs (inClass (top 10) 0)) (defBody (inClass (top 10) 0)) (defScope (inClass (top 10) 0)) .none kV9 dc9 pm9 an9 cd9 ct9), sl9⟩) (c9 : PySem.W.codeIn K cd9 "RightHanded.sign" = true) (k9 : PySem.W.keepIn K (.ref f9) = true)
    (a10 : PySem.W.findIn K (.ref c_RightHanded) "joined" = some (some (.ref f10))) (i10 : PySem.W.isFn K (.ref f10) = true) (l10 : K.lookup f10 = some ⟨oc10, od10, .func (PySem.W.fnOf "joined" "RightHanded.joined" (defArgs (inClass (top 10) 1)) (defBody (inClass (top 10) 1)) (defScope (inClass (top 10) 1)) .none kV10 dc10 pm10 an10 cd10 ct10), sl10⟩) (c10 : PySem.W.codeIn K cd10 "RightHanded.joined" = true) (k10 : PySem.W.keepIn K (.ref f10) = true)
    (a11 : PySem.W.findIn K (.ref c_RightHanded) "meant" = some (some (.ref f11))) (i11 : PySem.W.isFn K (.ref f11) = true) (l11 : K.lookup f11 = some ⟨oc11, od11, .func (PySem.W.fnOf "meant" "RightHanded.meant" (defArgs (inClass (top 10) 2)) (defBody (inClass (top 10) 2)) (defScope (inClass (top 10) 2)) .none kV11 dc11 pm11 an11 cd11 ct11), sl11⟩) (c11 : PySem.W.codeIn K cd11 "RightHanded.meant" = true) (k11 : PySem.W.keepIn K (.ref f11) = true)
    (a12 : PySem.W.findIn K (.ref c_LeftHanded) "sign" = some (some (.ref f12))) (i12 : PySem.W.isFn K (.ref f12) = true) (l12 : K.lookup f12 = some ⟨oc12, od12, .func (PySem.W.fnOf "sign" "LeftHanded.sign" (defArgs (inClass (top 11) 0)) (defBody (inClass (top 11) 0)) (defScope (inClass (top 11) 0)) .none kV12 dc12 pm12 an12 cd12 ct12), sl12⟩) (c12 : PySem.W.codeIn K cd12 "LeftHanded.sign" = true) (k12 : PySem.W.keepIn K (.ref f12) = true)
    (a13 : PySem.W.findIn K (.ref c_LeftHanded) "joined" = some (some (.ref f13))) (i13 : PySem.W.isFn K (.ref f13) = true) (l13 : K.lookup f13 = some ⟨oc13, od13, .func (PySem.W.fnOf "joined" "LeftHanded.joined" (defArgs (inClass (top 11) 1)) (defBody (inClass (top 11) 1)) (defScope (inClass (top 11) 1)) .none kV13 dc13 pm13 an13 cd13 ct13), sl13⟩) (c13 : PySem.W.codeIn K cd13 "LeftHanded.joined" = true) (k13 : PySem.W.keepIn K (.ref f13) = true)
    (a14 : PySem.W.findIn K (.ref c_LeftHanded) "meant" = some (some (.ref f14))) (i14 : PySem.W.isFn K (.ref f14) = true) (l14 : K.lookup f14 = some ⟨oc14, od14, .func (PySem.W.fnOf "meant" "LeftHanded.meant" (defArgs (inClass (top 11) 2)) (defBody (inClass (top 11) 2)) (defScope (inClass (top 11) 2)) .none kV14 dc14 pm14 an14 cd14 ct14), sl14⟩) (c14 : PySem.W.codeIn K cd14 "LeftHanded.meant" = true) (k14 : PySem.W.keepIn K (.ref f14) = true)
    (a15 : PySem.W.nsIn K mainGlobals "all_rules" = some (some (.ref f15))) (l15 : K.lookup f15 = some ⟨oc15, od15, .func (PySem.W.fnOf "all_rules" "all_rules" (defArgs (top 12)) (defBody (top 12)) (defScope (top 12)) .none kV15 dc15 pm15 an15 cd15 ct15), sl15⟩) (c15 : PySem.W.codeIn K cd15 "all_rules" = true) (k15 : PySem.W.keepIn K (.ref f15) = true)
    (a16 : PySem.W.nsIn K mainGlobals "made" = some (some (.ref f16))) (l16 : K.lookup f16 = some ⟨oc16, od16, .func (PySem.W.fnOf "made" "made" (defArgs (top 13)) (defBody (top 13)) (defScope (top 13)) .none kV16 dc16 pm16 an16 cd16 ct16), sl16⟩) (c16 : PySem.W.codeIn K cd16 "made" = true) (k16 : PySem.W.keepIn K (.ref f16) = true)
    (a17 : PySem.W.nsIn K mainGlobals "meant" = some (some (.ref f17))) (l17 : K.lookup f17 = some ⟨oc17, od17, .func (PySem.W.fnOf "meant" "meant" (defArgs (top 14)) (defBody (top 14)) (defScope (top 14)) .none kV17 dc17 pm17 an17 cd17 ct17), sl17⟩) (c17 : PySem.W.codeIn K cd17 "meant" = true) (k17 : PySem.W.keepIn K (.ref f17) = true)
    (a18 : PySem.W.nsIn K mainGlobals "within" = some (some (.ref f18))) (l18 : K.lookup f18 = some ⟨oc18, od18, .func (PySem.W.fnOf "within" "within" (defArgs (top 16)) (defBody (top 16)) (defScope (top 16)) .none kV18 dc18 pm18 an18 cd18 ct18), sl18⟩) (c18 : PySem.W.codeIn K cd18 "within" = true) (k18 : PySem.W.keepIn K (.ref f18) = true)
    (a19 : PySem.W.nsIn K mainGlobals "size_of" = some (some (.ref f19))) (l19 : K.lookup f19 = some ⟨oc19, od19, .func (PySem.W.fnOf "size_of" "size_of" (defArgs (top 17)) (defBody (top 17)) (defScope (top 17)) .none kV19 dc19 pm19 an19 cd19 ct19), sl19⟩) (c19 : PySem.W.codeIn K cd19 "size_of" = true) (k19 : PySem.W.keepIn K (.ref f19) = true)
    (a20 : PySem.W.nsIn K mainGlobals "closed_in" = some (some (.ref f20))) (l20 : K.lookup f20 = some ⟨oc20, od20, .func (PySem.W.fnOf "closed_in" "closed_in" (defArgs (top 18)) (defBody (top 18)) (defScope (top 18)) .none kV20 dc20 pm20 an20 cd20 ct20), sl20⟩) (c20 : PySem.W.codeIn K cd20 "closed_in" = true) (k20 : PySem.W.keepIn K (.ref f20) = true)
    (a21 : PySem.W.nsIn K mainGlobals "is_closed" = some (some (.ref f21))) (l21 : K.lookup f21 = some ⟨oc21, od21, .func (PySem.W.fnOf "is_closed" "is_closed" (defArgs (top 19)) (defBody (top 19)) (defScope (top 19)) .none kV21 dc21 pm21 an21 cd21 ct21), sl21⟩) (c21 : PySem.W.codeIn K cd21 "is_closed" = true) (k21 : PySem.W.keepIn K (.ref f21) = true)
    (a22 : PySem.W.nsIn K mainGlobals "uses_of" = some (some (.ref f22))) (l22 : K.lookup f22 = some ⟨oc22, od22, .func (PySem.W.fnOf "uses_of" "uses_of" (defArgs (top 20)) (defBody (top 20)) (defScope (top 20)) .none kV22 dc22 pm22 an22 cd22 ct22), sl22⟩) (c22 : PySem.W.codeIn K cd22 "uses_of" = true) (k22 : PySem.W.keepIn K (.ref f22) = true)
    (a23 : PySem.W.nsIn K mainGlobals "is_sparing" = some (some (.ref f23))) (l23 : K.lookup f23 = some ⟨oc23, od23, .func (PySem.W.fnOf "is_sparing" "is_sparing" (defArgs (top 21)) (defBody (top 21)) (defScope (top 21)) .none kV23 dc23 pm23 an23 cd23 ct23), sl23⟩) (c23 : PySem.W.codeIn K cd23 "is_sparing" = true) (k23 : PySem.W.keepIn K (.ref f23) = true)
    (a24 : PySem.W.nsIn K mainGlobals "kind_within" = some (some (.ref f24))) (l24 : K.lookup f24 = some ⟨oc24, od24, .func (PySem.W.fnOf "kind_within" "kind_within" (defArgs (top 22)) (defBody (top 22)) (defScope (top 22)) .none kV24 dc24 pm24 an24 cd24 ct24), sl24⟩) (c24 : PySem.W.codeIn K cd24 "kind_within" = true) (k24 : PySem.W.keepIn K (.ref f24) = true)
    (a25 : PySem.W.nsIn K mainGlobals "kind_of" = some (some (.ref f25))) (l25 : K.lookup f25 = some ⟨oc25, od25, .func (PySem.W.fnOf "kind_of" "kind_of" (defArgs (top 23)) (defBody (top 23)) (defScope (top 23)) .none kV25 dc25 pm25 an25 cd25 ct25), sl25⟩) (c25 : PySem.W.codeIn K cd25 "kind_of" = true) (k25 : PySem.W.keepIn K (.ref f25) = true)
    (a26 : PySem.W.nsIn K mainGlobals "_law_take" = some (some (.ref f26))) (l26 : K.lookup f26 = some ⟨oc26, od26, .func (PySem.W.fnOf "_law_take" "_law_take" (defArgs (top 25)) (defBody (top 25)) (defScope (top 25)) .none kV26 dc26 pm26 an26 cd26 ct26), sl26⟩) (c26 : PySem.W.codeIn K cd26 "_law_take" = true) (k26 : PySem.W.keepIn K (.ref f26) = true)
    (a27 : PySem.W.nsIn K mainGlobals "_law_names" = some (some (.ref f27))) (l27 : K.lookup f27 = some ⟨oc27, od27, .func (PySem.W.fnOf "_law_names" "_law_names" (defArgs (top 26)) (defBody (top 26)) (defScope (top 26)) .none kV27 dc27 pm27 an27 cd27 ct27), sl27⟩) (c27 : PySem.W.codeIn K cd27 "_law_names" = true) (k27 : PySem.W.keepIn K (.ref f27) = true)
    (a28 : PySem.W.nsIn K mainGlobals "_law_form" = some (some (.ref f28))) (l28 : K.lookup f28 = some ⟨oc28, od28, .func (PySem.W.fnOf "_law_form" "_law_form" (defArgs (top 27)) (defBody (top 27)) (defScope (top 27)) .none kV28 dc28 pm28 an28 cd28 ct28), sl28⟩) (c28 : PySem.W.codeIn K cd28 "_law_form" = true) (k28 : PySem.W.keepIn K (.ref f28) = true)
    (a29 : PySem.W.nsIn K mainGlobals "_law_spread" = some (some (.ref f29))) (l29 : K.lookup f29 = some ⟨oc29, od29, .func (PySem.W.fnOf "_law_spread" "_law_spread" (defArgs (top 28)) (defBody (top 28)) (defScope (top 28)) .none kV29 dc29 pm29 an29 cd29 ct29), sl29⟩) (c29 : PySem.W.codeIn K cd29 "_law_spread" = true) (k29 : PySem.W.keepIn K (.ref f29) = true)
    (a30 : PySem.W.nsIn K mainGlobals "_law_size" = some (some (.ref f30))) (l30 : K.lookup f30 = some ⟨oc30, od30, .func (PySem.W.fnOf "_law_size" "_law_size" (defArgs (top 29)) (defBody (top 29)) (defScope (top 29)) .none kV30 dc30 pm30 an30 cd30 ct30), sl30⟩) (c30 : PySem.W.codeIn K cd30 "_law_size" = true) (k30 : PySem.W.keepIn K (.ref f30) = true)
    (a31 : PySem.W.nsIn K mainGlobals "_law_more" = some (some (.ref f31))) (l31 : K.lookup f31 = some ⟨oc31, od31, .func (PySem.W.fnOf "_law_more" "_law_more" (defArgs (top 30)) (defBody (top 30)) (defScope (top 30)) .none kV31 dc31 pm31 an31 cd31 ct31), sl31⟩) (c31 : PySem.W.codeIn K cd31 "_law_more" = true) (k31 : PySem.W.keepIn K (.ref f31) = true)
    (a32 : PySem.W.nsIn K mainGlobals "law" = some (some (.ref f32))) (l32 : K.lookup f32 = some ⟨oc32, od32, .func (PySem.W.fnOf "law" "law" (defArgs (top 31)) (defBody (top 31)) (defScope (top 31)) .none kV32 dc32 pm32 an32 cd32 ct32), sl32⟩) (c32 : PySem.W.codeIn K cd32 "law" = true) (k32 : PySem.W.keepIn K (.ref f32) = true)
    (z_all : PySem.W.nsIn K mainGlobals "all" = some none)
    (z_enumerate : PySem.W.nsIn K mainGlobals "enumerate" = some none)
    (z_int : PySem.W.nsIn K mainGlobals "int" = some none)
    (z_isinstance : PySem.W.nsIn K mainGlobals "isinstance" = some none)
    (z_len : PySem.W.nsIn K mainGlobals "len" = some none)
    (z_list : PySem.W.nsIn K mainGlobals "list" = some none)
    (z_max : PySem.W.nsIn K mainGlobals "max" = some none)
    (z_range : PySem.W.nsIn K mainGlobals "range" = some none)
    (z_str : PySem.W.nsIn K mainGlobals "str" = some none)
    (z_sum : PySem.W.nsIn K mainGlobals "sum" = some none)
    (xg_NoKind : PySem.W.nsIn K mainGlobals "NoKind" = some (some (.ref x_NoKind))) (xq_NoKind : PySem.W.excIn K x_NoKind [.type "ValueError", .type "Exception", .type "BaseException", .type "object"] "ValueError.__new__" = true) (xk_NoKind : PySem.W.keepIn K (.ref x_NoKind) = true) (xb_NoKind : PySem.W.subIn K (.ref x_NoKind) (.type "BaseException") = some true) (xt_NoKind : PySem.W.typeIn K (.ref x_NoKind) = some (.type "type")) :
    ∃ fd : FuncData, (∀ (s : Shared) (v : Value), BindsTo s fd ⟨[v], []⟩ [("_law_script", v)]) ∧ ∀ base : Heap, K.In base → base.Ns mainGlobals mg → FnOk l.prog w K mg base (L2.CX l.prog w) 172 fa fd ["_law_script"] (spLaw K) := by
  have e := hfa.symm.trans (PySem.W.mg_of X G a32)
  cases e
  let T : Txt K mg := {
    cl_RightTaken := c_RightTaken, cg_RightTaken := PySem.W.mg_of X G cg_RightTaken, cc_RightTaken := ⟨cpg_RightTaken, chd_RightTaken, cpo_RightTaken, csa_RightTaken⟩, cm_RightTaken := ⟨cmk_RightTaken, cin_RightTaken, csb_RightTaken, ckp_RightTaken⟩,
    cl_LeftTaken := c_LeftTaken, cg_LeftTaken := PySem.W.mg_of X G cg_LeftTaken, cc_LeftTaken := ⟨cpg_LeftTaken, chd_LeftTaken, cpo_LeftTaken, csa_LeftTaken⟩, cm_LeftTaken := ⟨cmk_LeftTaken, cin_LeftTaken, csb_LeftTaken, ckp_LeftTaken⟩,
    cl_RightHanded := c_RightHanded, cg_RightHanded := PySem.W.mg_of X G cg_RightHanded, cc_RightHanded := ⟨cpg_RightHanded, chd_RightHanded, cpo_RightHanded, csa_RightHanded⟩, cm_RightHanded := ⟨cmk_RightHanded, cin_RightHanded, csb_RightHanded, ckp_RightHanded⟩,
    cl_LeftHanded := c_LeftHanded, cg_LeftHanded := PySem.W.mg_of X G cg_LeftHanded, cc_LeftHanded := ⟨cpg_LeftHanded, chd_LeftHanded, cpo_LeftHanded, csa_LeftHanded⟩, cm_LeftHanded := ⟨cmk_LeftHanded, cin_LeftHanded, csb_LeftHanded, ckp_LeftHanded⟩,
    ad_kind_of_form := f1, fd_kind_of_form := PySem.W.fnOf "kind_of_form" "kind_of_form" (defArgs (top 4)) (defBody (top 4)) (defScope (top 4)) .none kV1 dc1 pm1 an1 cd1 ct1, fn_kind_of_form := fun_mk (st := (top 4)) l1 c1 k1, bn_kind_of_form := (fun_mk (st := (top 4)) l1 c1 k1).binds (ps := ["form"]) fun _ _ _ _ _ _ us hl => (match us, hl with | [_], _ => rfl), gl_kind_of_form := PySem.W.mg_of X G a1,
    ad_handed_on := f2, fd_handed_on := PySem.W.fnOf "handed_on" "handed_on" (defArgs (top 9)) (defBody (top 9)) (defScope (top 9)) .none kV2 dc2 pm2 an2 cd2 ct2, fn_handed_on := fun_mk (st := (top 9)) l2 c2 k2, bn_handed_on := (fun_mk (st := (top 9)) l2 c2 k2).binds (ps := ["form", "taker", "taken"]) fun _ _ _ _ _ _ us hl => (match us, hl with | [_, _, _], _ => rfl), gl_handed_on := PySem.W.mg_of X G a2,
    ad_RightTaken__sign := f3, fd_RightTaken__sign := PySem.W.fnOf "sign" "RightTaken.sign" (defArgs (inClass (top 7) 0)) (defBody (inClass (top 7) 0)) (defScope (inClass (top 7) 0)) .none kV3 dc3 pm3 an3 cd3 ct3, fn_RightTaken__sign := fun_mk (st := (inClass (top 7) 0)) l3 c3 k3, bn_RightTaken__sign := (fun_mk (st := (inClass (top 7) 0)) l3 c3 k3).binds (ps := ["self"]) fun _ _ _ _ _ _ us hl => (match us, hl with | [_], _ => rfl), mt_RightTaken__sign := ⟨a3, i3, k3⟩,
    ad_RightTaken__joined := f4, fd_RightTaken__joined := PySem.W.fnOf "joined" "RightTaken.joined" (defArgs (inClass (top 7) 1)) (defBody (inClass (top 7) 1)) (defScope (inClass (top 7) 1)) .none kV4 dc4 pm4 an4 cd4 ct4, fn_RightTaken__joined := fun_mk (st := (inClass (top 7) 1)) l4 c4 k4, bn_RightTaken__joined := (fun_mk (st := (inClass (top 7) 1)) l4 c4 k4).binds (ps := ["self", "left", "right"]) fun _ _ _ _ _ _ us hl => (match us, hl with | [_, _, _], _ => rfl), mt_RightTaken__joined := ⟨a4, i4, k4⟩,
    ad_RightTaken__meant := f5, fd_RightTaken__meant := PySem.W.fnOf "meant" "RightTaken.meant" (defArgs (inClass (top 7) 2)) (defBody (inClass (top 7) 2)) (defScope (inClass (top 7) 2)) .none kV5 dc5 pm5 an5 cd5 ct5, fn_RightTaken__meant := fun_mk (st := (inClass (top 7) 2)) l5 c5 k5, bn_RightTaken__meant := (fun_mk (st := (inClass (top 7) 2)) l5 c5 k5).binds (ps := ["self", "left", "right", "first", "second"]) fun _ _ _ _ _ _ us hl => (match us, hl with | [_, _, _, _, _], _ => rfl), mt_RightTaken__meant := ⟨a5, i5, k5⟩,
    ad_LeftTaken__sign := f6, fd_LeftTaken__sign := PySem.W.fnOf "sign" "LeftTaken.sign" (defArgs (inClass (top 8) 0)) (defBody (inClass (top 8) 0)) (defScope (inClass (top 8) 0)) .none kV6 dc6 pm6 an6 cd6 ct6, fn_LeftTaken__sign := fun_mk (st := (inClass (top 8) 0)) l6 c6 k6, bn_LeftTaken__sign := (fun_mk (st := (inClass (top 8) 0)) l6 c6 k6).binds (ps := ["self"]) fun _ _ _ _ _ _ us hl => (match us, hl with | [_], _ => rfl), mt_LeftTaken__sign := ⟨a6, i6, k6⟩,
    ad_LeftTaken__joined := f7, fd_LeftTaken__joined := PySem.W.fnOf "joined" "LeftTaken.joined" (defArgs (inClass (top 8) 1)) (defBody (inClass (top 8) 1)) (defScope (inClass (top 8) 1)) .none kV7 dc7 pm7 an7 cd7 ct7, fn_LeftTaken__joined := fun_mk (st := (inClass (top 8) 1)) l7 c7 k7, bn_LeftTaken__joined := (fun_mk (st := (inClass (top 8) 1)) l7 c7 k7).binds (ps := ["self", "left", "right"]) fun _ _ _ _ _ _ us hl => (match us, hl with | [_, _, _], _ => rfl), mt_LeftTaken__joined := ⟨a7, i7, k7⟩,
    ad_LeftTaken__meant := f8, fd_LeftTaken__meant := PySem.W.fnOf "meant" "LeftTaken.meant" (defArgs (inClass (top 8) 2)) (defBody (inClass (top 8) 2)) (defScope (inClass (top 8) 2)) .none kV8 dc8 pm8 an8 cd8 ct8, fn_LeftTaken__meant := fun_mk (st := (inClass (top 8) 2)) l8 c8 k8, bn_LeftTaken__meant := (fun_mk (st := (inClass (top 8) 2)) l8 c8 k8).binds (ps := ["self", "left", "right", "first", "second"]) fun _ _ _ _ _ _ us hl => (match us, hl with | [_, _, _, _, _], _ => rfl), mt_LeftTaken__meant := ⟨a8, i8, k8⟩,
    ad_RightHanded__sign := f9, fd_RightHanded__sign := PySem.W.fnOf "sign" "RightHanded.sign" (defArgs (inClass (top 10) 0)) (defBody (inClass (top 10) 0)) (defScope (inClass (top 10) 0)) .none kV9 dc9 pm9 an9 cd9 ct9, fn_RightHanded__sign := fun_mk (st := (inClass (top 10) 0)) l9 c9 k9, bn_RightHanded__sign := (fun_mk (st := (inClass (top 10) 0)) l9 c9 k9).binds (ps := ["self"]) fun _ _ _ _ _ _ us hl => (match us, hl with | [_], _ => rfl), mt_RightHanded__sign := ⟨a9, i9, k9⟩,
    ad_RightHanded__joined := f10, fd_RightHanded__joined := PySem.W.fnOf "joined" "RightHanded.joined" (defArgs (inClass (top 10) 1)) (defBody (inClass (top 10) 1)) (defScope (inClass (top 10) 1)) .none kV10 dc10 pm10 an10 cd10 ct10, fn_RightHanded__joined := fun_mk (st := (inClass (top 10) 1)) l10 c10 k10, bn_RightHanded__joined := (fun_mk (st := (inClass (top 10) 1)) l10 c10 k10).binds (ps := ["self", "left", "right"]) fun _ _ _ _ _ _ us hl => (match us, hl with | [_, _, _], _ => rfl), mt_RightHanded__joined := ⟨a10, i10, k10⟩,
    ad_RightHanded__meant := f11, fd_RightHanded__meant := PySem.W.fnOf "meant" "RightHanded.meant" (defArgs (inClass (top 10) 2)) (defBody (inClass (top 10) 2)) (defScope (inClass (top 10) 2)) .none kV11 dc11 pm11 an11 cd11 ct11, fn_RightHanded__meant := fun_mk (st := (inClass (top 10) 2)) l11 c11 k11, bn_RightHanded__meant := (fun_mk (st := (inClass (top 10) 2)) l11 c11 k11).binds (ps := ["self", "left", "right", "first", "second"]) fun _ _ _ _ _ _ us hl => (match us, hl with | [_, _, _, _, _], _ => rfl), mt_RightHanded__meant := ⟨a11, i11, k11⟩,
    ad_LeftHanded__sign := f12, fd_LeftHanded__sign := PySem.W.fnOf "sign" "LeftHanded.sign" (defArgs (inClass (top 11) 0)) (defBody (inClass (top 11) 0)) (defScope (inClass (top 11) 0)) .none kV12 dc12 pm12 an12 cd12 ct12, fn_LeftHanded__sign := fun_mk (st := (inClass (top 11) 0)) l12 c12 k12, bn_LeftHanded__sign := (fun_mk (st := (inClass (top 11) 0)) l12 c12 k12).binds (ps := ["self"]) fun _ _ _ _ _ _ us hl => (match us, hl with | [_], _ => rfl), mt_LeftHanded__sign := ⟨a12, i12, k12⟩,
    ad_LeftHanded__joined := f13, fd_LeftHanded__joined := PySem.W.fnOf "joined" "LeftHanded.joined" (defArgs (inClass (top 11) 1)) (defBody (inClass (top 11) 1)) (defScope (inClass (top 11) 1)) .none kV13 dc13 pm13 an13 cd13 ct13, fn_LeftHanded__joined := fun_mk (st := (inClass (top 11) 1)) l13 c13 k13, bn_LeftHanded__joined := (fun_mk (st := (inClass (top 11) 1)) l13 c13 k13).binds (ps := ["self", "left", "right"]) fun _ _ _ _ _ _ us hl => (match us, hl with | [_, _, _], _ => rfl), mt_LeftHanded__joined := ⟨a13, i13, k13⟩,
    ad_LeftHanded__meant := f14, fd_LeftHanded__meant := PySem.W.fnOf "meant" "LeftHanded.meant" (defArgs (inClass (top 11) 2)) (defBody (inClass (top 11) 2)) (defScope (inClass (top 11) 2)) .none kV14 dc14 pm14 an14 cd14 ct14, fn_LeftHanded__meant := fun_mk (st := (inClass (top 11) 2)) l14 c14 k14, bn_LeftHanded__meant := (fun_mk (st := (inClass (top 11) 2)) l14 c14 k14).binds (ps := ["self", "left", "right", "first", "second"]) fun _ _ _ _ _ _ us hl => (match us, hl with | [_, _, _, _, _], _ => rfl), mt_LeftHanded__meant := ⟨a14, i14, k14⟩,
    ad_all_rules := f15, fd_all_rules := PySem.W.fnOf "all_rules" "all_rules" (defArgs (top 12)) (defBody (top 12)) (defScope (top 12)) .none kV15 dc15 pm15 an15 cd15 ct15, fn_all_rules := fun_mk (st := (top 12)) l15 c15 k15, bn_all_rules := (fun_mk (st := (top 12)) l15 c15 k15).binds (ps := []) fun _ _ _ _ _ _ us hl => (match us, hl with | [], _ => rfl), gl_all_rules := PySem.W.mg_of X G a15,
    ad_made := f16, fd_made := PySem.W.fnOf "made" "made" (defArgs (top 13)) (defBody (top 13)) (defScope (top 13)) .none kV16 dc16 pm16 an16 cd16 ct16, fn_made := fun_mk (st := (top 13)) l16 c16 k16, bn_made := (fun_mk (st := (top 13)) l16 c16 k16).binds (ps := ["left", "right"]) fun _ _ _ _ _ _ us hl => (match us, hl with | [_, _], _ => rfl), gl_made := PySem.W.mg_of X G a16,
    ad_meant := f17, fd_meant := PySem.W.fnOf "meant" "meant" (defArgs (top 14)) (defBody (top 14)) (defScope (top 14)) .none kV17 dc17 pm17 an17 cd17 ct17, fn_meant := fun_mk (st := (top 14)) l17 c17 k17, bn_meant := (fun_mk (st := (top 14)) l17 c17 k17).binds (ps := ["sign", "left", "right", "first", "second"]) fun _ _ _ _ _ _ us hl => (match us, hl with | [_, _, _, _, _], _ => rfl), gl_meant := PySem.W.mg_of X G a17,
    ad_within := f18, fd_within := PySem.W.fnOf "within" "within" (defArgs (top 16)) (defBody (top 16)) (defScope (top 16)) .none kV18 dc18 pm18 an18 cd18 ct18, fn_within := fun_mk (st := (top 16)) l18 c18 k18, bn_within := (fun_mk (st := (top 16)) l18 c18 k18).binds (ps := ["term"]) fun _ _ _ _ _ _ us hl => (match us, hl with | [_], _ => rfl), gl_within := PySem.W.mg_of X G a18,
    ad_size_of := f19, fd_size_of := PySem.W.fnOf "size_of" "size_of" (defArgs (top 17)) (defBody (top 17)) (defScope (top 17)) .none kV19 dc19 pm19 an19 cd19 ct19, fn_size_of := fun_mk (st := (top 17)) l19 c19 k19, bn_size_of := (fun_mk (st := (top 17)) l19 c19 k19).binds (ps := ["term"]) fun _ _ _ _ _ _ us hl => (match us, hl with | [_], _ => rfl), gl_size_of := PySem.W.mg_of X G a19,
    ad_closed_in := f20, fd_closed_in := PySem.W.fnOf "closed_in" "closed_in" (defArgs (top 18)) (defBody (top 18)) (defScope (top 18)) .none kV20 dc20 pm20 an20 cd20 ct20, fn_closed_in := fun_mk (st := (top 18)) l20 c20 k20, bn_closed_in := (fun_mk (st := (top 18)) l20 c20 k20).binds (ps := ["term", "many"]) fun _ _ _ _ _ _ us hl => (match us, hl with | [_, _], _ => rfl), gl_closed_in := PySem.W.mg_of X G a20,
    ad_is_closed := f21, fd_is_closed := PySem.W.fnOf "is_closed" "is_closed" (defArgs (top 19)) (defBody (top 19)) (defScope (top 19)) .none kV21 dc21 pm21 an21 cd21 ct21, fn_is_closed := fun_mk (st := (top 19)) l21 c21 k21, bn_is_closed := (fun_mk (st := (top 19)) l21 c21 k21).binds (ps := ["term"]) fun _ _ _ _ _ _ us hl => (match us, hl with | [_], _ => rfl), gl_is_closed := PySem.W.mg_of X G a21,
    ad_uses_of := f22, fd_uses_of := PySem.W.fnOf "uses_of" "uses_of" (defArgs (top 20)) (defBody (top 20)) (defScope (top 20)) .none kV22 dc22 pm22 an22 cd22 ct22, fn_uses_of := fun_mk (st := (top 20)) l22 c22 k22, bn_uses_of := (fun_mk (st := (top 20)) l22 c22 k22).binds (ps := ["term", "level"]) fun _ _ _ _ _ _ us hl => (match us, hl with | [_, _], _ => rfl), gl_uses_of := PySem.W.mg_of X G a22,
    ad_is_sparing := f23, fd_is_sparing := PySem.W.fnOf "is_sparing" "is_sparing" (defArgs (top 21)) (defBody (top 21)) (defScope (top 21)) .none kV23 dc23 pm23 an23 cd23 ct23, fn_is_sparing := fun_mk (st := (top 21)) l23 c23 k23, bn_is_sparing := (fun_mk (st := (top 21)) l23 c23 k23).binds (ps := ["term"]) fun _ _ _ _ _ _ us hl => (match us, hl with | [_], _ => rfl), gl_is_sparing := PySem.W.mg_of X G a23,
    ad_kind_within := f24, fd_kind_within := PySem.W.fnOf "kind_within" "kind_within" (defArgs (top 22)) (defBody (top 22)) (defScope (top 22)) .none kV24 dc24 pm24 an24 cd24 ct24, fn_kind_within := fun_mk (st := (top 22)) l24 c24 k24, bn_kind_within := (fun_mk (st := (top 22)) l24 c24 k24).binds (ps := ["known", "around", "term"]) fun _ _ _ _ _ _ us hl => (match us, hl with | [_, _, _], _ => rfl), gl_kind_within := PySem.W.mg_of X G a24,
    ad_kind_of := f25, fd_kind_of := PySem.W.fnOf "kind_of" "kind_of" (defArgs (top 23)) (defBody (top 23)) (defScope (top 23)) .none kV25 dc25 pm25 an25 cd25 ct25, fn_kind_of := fun_mk (st := (top 23)) l25 c25 k25, bn_kind_of := (fun_mk (st := (top 23)) l25 c25 k25).binds (ps := ["names", "term"]) fun _ _ _ _ _ _ us hl => (match us, hl with | [_, _], _ => rfl), gl_kind_of := PySem.W.mg_of X G a25,
    ad__law_take := f26, fd__law_take := PySem.W.fnOf "_law_take" "_law_take" (defArgs (top 25)) (defBody (top 25)) (defScope (top 25)) .none kV26 dc26 pm26 an26 cd26 ct26, fn__law_take := fun_mk (st := (top 25)) l26 c26 k26, bn__law_take := (fun_mk (st := (top 25)) l26 c26 k26).binds (ps := ["_law_cells", "_law_many"]) fun _ _ _ _ _ _ us hl => (match us, hl with | [_, _], _ => rfl), gl__law_take := PySem.W.mg_of X G a26,
    ad__law_names := f27, fd__law_names := PySem.W.fnOf "_law_names" "_law_names" (defArgs (top 26)) (defBody (top 26)) (defScope (top 26)) .none kV27 dc27 pm27 an27 cd27 ct27, fn__law_names := fun_mk (st := (top 26)) l27 c27 k27, bn__law_names := (fun_mk (st := (top 26)) l27 c27 k27).binds (ps := ["_law_cell", "_law_many"]) fun _ _ _ _ _ _ us hl => (match us, hl with | [_, _], _ => rfl), gl__law_names := PySem.W.mg_of X G a27,
    ad__law_form := f28, fd__law_form := PySem.W.fnOf "_law_form" "_law_form" (defArgs (top 27)) (defBody (top 27)) (defScope (top 27)) .none kV28 dc28 pm28 an28 cd28 ct28, fn__law_form := fun_mk (st := (top 27)) l28 c28 k28, bn__law_form := (fun_mk (st := (top 27)) l28 c28 k28).binds (ps := ["_law_cells", "_law_basics", "_law_left"]) fun _ _ _ _ _ _ us hl => (match us, hl with | [_, _, _], _ => rfl), gl__law_form := PySem.W.mg_of X G a28,
    ad__law_spread := f29, fd__law_spread := PySem.W.fnOf "_law_spread" "_law_spread" (defArgs (top 28)) (defBody (top 28)) (defScope (top 28)) .none kV29 dc29 pm29 an29 cd29 ct29, fn__law_spread := fun_mk (st := (top 28)) l29 c29 k29, bn__law_spread := (fun_mk (st := (top 28)) l29 c29 k29).binds (ps := ["_law_cell", "_law_many"]) fun _ _ _ _ _ _ us hl => (match us, hl with | [_, _], _ => rfl), gl__law_spread := PySem.W.mg_of X G a29,
    ad__law_size := f30, fd__law_size := PySem.W.fnOf "_law_size" "_law_size" (defArgs (top 29)) (defBody (top 29)) (defScope (top 29)) .none kV30 dc30 pm30 an30 cd30 ct30, fn__law_size := fun_mk (st := (top 29)) l30 c30 k30, bn__law_size := (fun_mk (st := (top 29)) l30 c30 k30).binds (ps := ["_law_form_here"]) fun _ _ _ _ _ _ us hl => (match us, hl with | [_], _ => rfl), gl__law_size := PySem.W.mg_of X G a30,
    ad__law_more := f31, fd__law_more := PySem.W.fnOf "_law_more" "_law_more" (defArgs (top 30)) (defBody (top 30)) (defScope (top 30)) .none kV31 dc31 pm31 an31 cd31 ct31, fn__law_more := fun_mk (st := (top 30)) l31 c31 k31, bn__law_more := (fun_mk (st := (top 30)) l31 c31 k31).binds (ps := ["_law_form_here", "_law_other", "_law_cell"]) fun _ _ _ _ _ _ us hl => (match us, hl with | [_, _, _], _ => rfl), gl__law_more := PySem.W.mg_of X G a31,
    ad_law := _, fd_law := PySem.W.fnOf "law" "law" (defArgs (top 31)) (defBody (top 31)) (defScope (top 31)) .none kV32 dc32 pm32 an32 cd32 ct32, fn_law := fun_mk (st := (top 31)) l32 c32 k32, bn_law := (fun_mk (st := (top 31)) l32 c32 k32).binds (ps := ["_law_script"]) fun _ _ _ _ _ _ us hl => (match us, hl with | [_], _ => rfl), gl_law := PySem.W.mg_of X G a32,
    z_all := PySem.W.mg_none_of X G z_all,
    z_enumerate := PySem.W.mg_none_of X G z_enumerate,
    z_int := PySem.W.mg_none_of X G z_int,
    z_isinstance := PySem.W.mg_none_of X G z_isinstance,
    z_len := PySem.W.mg_none_of X G z_len,
    z_list := PySem.W.mg_none_of X G z_list,
    z_max := PySem.W.mg_none_of X G z_max,
    z_range := PySem.W.mg_none_of X G z_range,
    z_str := PySem.W.mg_none_of X G z_str,
    z_sum := PySem.W.mg_none_of X G z_sum,
    xc_NoKind := ⟨x_NoKind, PySem.W.mg_of X G xg_NoKind, xq_NoKind, xk_NoKind, xb_NoKind, xt_NoKind⟩ }
  exact ⟨PySem.W.fnOf "law" "law" (defArgs (top 31)) (defBody (top 31)) (defScope (top 31)) .none kV32 dc32 pm32 an32 cd32 ct32, fun s v => .of_eq rfl, fun base _ _ => law_imp (ok_law T) (law_true law_P)⟩
end K32
open PySem PySem.W PyProof.Rows
set_option maxRecDepth 100000 in
set_option maxHeartbeats 0 in
theorem PySem.Challenge.cw_slashwise_k32_whole_rows_put_together_holds : PySem.Challenge.rw_slashwise_k32_whole_rows_put_together.Holds := by
  w_on; o_law; k_head; (case hw => w_witness2)
  k_fill
  refine L2.walk_of (l := PySem.Challenge.rw_slashwise_k32_whole_rows_put_together) (n := 63) (k := 172) (x := "_law_script") (CX := fun w => L2.CX PySem.Challenge.rw_slashwise_k32_whole_rows_put_together.prog w) (sp := fun w => M.spLaw _) rfl (by decide) rfl ⟨rfl, by decide, by decide⟩ (fun w h Y => PySem.W.kIn_of Y) ?F (fun _ _ a ns hl _ hS => ⟨a, ns, rfl, hS, hl, fun _ => rfl⟩) (fun _ _ _ _ _ h => M.cx_no h)
  case F =>
    intro w mg fa h KX G hmg
    refine' K32.all_mk KX G hmg ?cg_RightTaken ?cpg_RightTaken ?chd_RightTaken ?cpo_RightTaken ?csa_RightTaken ?cmk_RightTaken ?cin_RightTaken ?csb_RightTaken ?ckp_RightTaken ?cg_LeftTaken ?cpg_LeftTaken ?chd_LeftTaken ?cpo_LeftTaken ?csa_LeftTaken ?cmk_LeftTaken ?cin_LeftTaken ?csb_LeftTaken ?ckp_LeftTaken ?cg_RightHanded ?cpg_RightHanded ?chd_RightHanded ?cpo_RightHanded ?csa_RightHanded ?cmk_RightHanded ?cin_RightHanded ?csb_RightHanded ?ckp_RightHanded ?cg_LeftHanded ?cpg_LeftHanded ?chd_LeftHanded ?cpo_LeftHanded ?csa_LeftHanded ?cmk_LeftHanded ?cin_LeftHanded ?csb_LeftHanded ?ckp_LeftHanded ?a1 ?l1 ?c1 ?k1 ?a2 ?l2 ?c2 ?k2 ?a3 ?i3 ?l3 ?c3 ?k3 ?a4 ?i4 ?l4 ?c4 ?k4 ?a5 ?i5 ?l5 ?c5 ?k5 ?a6 ?i6 ?l6 ?c6 ?k6 ?a7 ?i7 ?l7 ?c7 ?k7 ?a8 ?i8 ?l8 ?c8 ?k8 ?a9 ?i9 ?l9 ?c9 ?k9 ?a10 ?i10 ?l10 ?c10 ?k10 ?a11 ?i11 ?l11 ?c11 ?k11 ?a12 ?i12 ?l12 ?c12 ?k12 ?a13 ?i13 ?l13 ?c13 ?k13 ?a14 ?i14 ?l14 ?c14 ?k14 ?a15 ?l15 ?c15 ?k15 ?a16 ?l16 ?c16 ?k16 ?a17 ?l17 ?c17 ?k17 ?a18 ?l18 ?c18 ?k18 ?a19 ?l19 ?c19 ?k19 ?a20 ?l20 ?c20 ?k20 ?a21 ?l21 ?c21 ?k21 ?a22 ?l22 ?c22 ?k22 ?a23 ?l23 ?c23 ?k23 ?a24 ?l24 ?c24 ?k24 ?a25 ?l25 ?c25 ?k25 ?a26 ?l26 ?c26 ?k26 ?a27 ?l27 ?c27 ?k27 ?a28 ?l28 ?c28 ?k28 ?a29 ?l29 ?c29 ?k29 ?a30 ?l30 ?c30 ?k30 ?a31 ?l31 ?c31 ?k31 ?a32 ?l32 ?c32 ?k32 ?z_all ?z_enumerate ?z_int ?z_isinstance ?z_len ?z_list ?z_max ?z_range ?z_str ?z_sum ?xg_NoKind ?xq_NoKind ?xk_NoKind ?xb_NoKind ?xt_NoKind
    (case cg_RightTaken => k_is)
    (case cpg_RightTaken => k_is)
    (case chd_RightTaken => k_is)
    (case cpo_RightTaken => k_is)
    (case csa_RightTaken => k_is)
    (case cmk_RightTaken => k_is)
    (case cin_RightTaken => k_is)
    (case csb_RightTaken => k_is)
    (case ckp_RightTaken => k_is)
    (case cg_LeftTaken => k_is)
    (case cpg_LeftTaken => k_is)
    (case chd_LeftTaken => k_is)
    (case cpo_LeftTaken => k_is)
    (case csa_LeftTaken => k_is)
    (case cmk_LeftTaken => k_is)
    (case cin_LeftTaken => k_is)
    (case csb_LeftTaken => k_is)
    (case ckp_LeftTaken => k_is)
    (case cg_RightHanded => k_is)
    (case cpg_RightHanded => k_is)
    (case chd_RightHanded => k_is)
    (case cpo_RightHanded => k_is)
    (case csa_RightHanded => k_is)
    (case cmk_RightHanded => k_is)
    (case cin_RightHanded => k_is)
    (case csb_RightHanded => k_is)
    (case ckp_RightHanded => k_is)
    (case cg_LeftHanded => k_is)
    (case cpg_LeftHanded => k_is)
    (case chd_LeftHanded => k_is)
    (case cpo_LeftHanded => k_is)
    (case csa_LeftHanded => k_is)
    (case cmk_LeftHanded => k_is)
    (case cin_LeftHanded => k_is)
    (case csb_LeftHanded => k_is)
    (case ckp_LeftHanded => k_is)
    (case a1 => k_is)
    (case l1 => k_is)
    (case c1 => k_is)
    (case k1 => k_is)
    (case a2 => k_is)
    (case l2 => k_is)
    (case c2 => k_is)
    (case k2 => k_is)
    (case a3 => k_is)
    (case i3 => k_is)
    (case l3 => k_is)
    (case c3 => k_is)
    (case k3 => k_is)
    (case a4 => k_is)
    (case i4 => k_is)
    (case l4 => k_is)
    (case c4 => k_is)
    (case k4 => k_is)
    (case a5 => k_is)
    (case i5 => k_is)
    (case l5 => k_is)
    (case c5 => k_is)
    (case k5 => k_is)
    (case a6 => k_is)
    (case i6 => k_is)
    (case l6 => k_is)
    (case c6 => k_is)
    (case k6 => k_is)
    (case a7 => k_is)
    (case i7 => k_is)
    (case l7 => k_is)
    (case c7 => k_is)
    (case k7 => k_is)
    (case a8 => k_is)
    (case i8 => k_is)
    (case l8 => k_is)
    (case c8 => k_is)
    (case k8 => k_is)
    (case a9 => k_is)
    (case i9 => k_is)
    (case l9 => k_is)
    (case c9 => k_is)
    (case k9 => k_is)
    (case a10 => k_is)
    (case i10 => k_is)
    (case l10 => k_is)
    (case c10 => k_is)
    (case k10 => k_is)
    (case a11 => k_is)
    (case i11 => k_is)
    (case l11 => k_is)
    (case c11 => k_is)
    (case k11 => k_is)
    (case a12 => k_is)
    (case i12 => k_is)
    (case l12 => k_is)
    (case c12 => k_is)
    (case k12 => k_is)
    (case a13 => k_is)
    (case i13 => k_is)
    (case l13 => k_is)
    (case c13 => k_is)
    (case k13 => k_is)
    (case a14 => k_is)
    (case i14 => k_is)
    (case l14 => k_is)
    (case c14 => k_is)
    (case k14 => k_is)
    (case a15 => k_is)
    (case l15 => k_is)
    (case c15 => k_is)
    (case k15 => k_is)
    (case a16 => k_is)
    (case l16 => k_is)
    (case c16 => k_is)
    (case k16 => k_is)
    (case a17 => k_is)
    (case l17 => k_is)
    (case c17 => k_is)
    (case k17 => k_is)
    (case a18 => k_is)
    (case l18 => k_is)
    (case c18 => k_is)
    (case k18 => k_is)
    (case a19 => k_is)
    (case l19 => k_is)
    (case c19 => k_is)
    (case k19 => k_is)
    (case a20 => k_is)
    (case l20 => k_is)
    (case c20 => k_is)
    (case k20 => k_is)
    (case a21 => k_is)
    (case l21 => k_is)
    (case c21 => k_is)
    (case k21 => k_is)
    (case a22 => k_is)
    (case l22 => k_is)
    (case c22 => k_is)
    (case k22 => k_is)
    (case a23 => k_is)
    (case l23 => k_is)
    (case c23 => k_is)
    (case k23 => k_is)
    (case a24 => k_is)
    (case l24 => k_is)
    (case c24 => k_is)
    (case k24 => k_is)
    (case a25 => k_is)
    (case l25 => k_is)
    (case c25 => k_is)
    (case k25 => k_is)
    (case a26 => k_is)
    (case l26 => k_is)
    (case c26 => k_is)
    (case k26 => k_is)
    (case a27 => k_is)
    (case l27 => k_is)
    (case c27 => k_is)
    (case k27 => k_is)
    (case a28 => k_is)
    (case l28 => k_is)
    (case c28 => k_is)
    (case k28 => k_is)
    (case a29 => k_is)
    (case l29 => k_is)
    (case c29 => k_is)
    (case k29 => k_is)
    (case a30 => k_is)
    (case l30 => k_is)
    (case c30 => k_is)
    (case k30 => k_is)
    (case a31 => k_is)
    (case l31 => k_is)
    (case c31 => k_is)
    (case k31 => k_is)
    (case a32 => k_is)
    (case l32 => k_is)
    (case c32 => k_is)
    (case k32 => k_is)
    (case z_all => k_is)
    (case z_enumerate => k_is)
    (case z_int => k_is)
    (case z_isinstance => k_is)
    (case z_len => k_is)
    (case z_list => k_is)
    (case z_max => k_is)
    (case z_range => k_is)
    (case z_str => k_is)
    (case z_sum => k_is)
    (case xg_NoKind => k_is)
    (case xq_NoKind => k_exc)
    (case xk_NoKind => k_is)
    (case xb_NoKind => k_is)
    (case xt_NoKind => k_is)

