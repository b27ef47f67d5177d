import PyProof.Rows.All
import Wide.All
import OpenK.AllK
import Wide.FinOn
import HandS.ForMost
import HandS.ForExc
import HandS.CallSlots
import HandS.IsInst
import HandS.Wide
import HandS.Deep
import HandS.TupAny
import HandS.Conv
import KE.KeyNested
import KE.KDictKeyed
import KE.GoesDict
import HandS.Nested
import HandS.Replace
import HandS.Zip
import HandS.Style
import HandS.Dict
import HandS.NoneIn
import HandS.ExcIs
import KE.RegKIsAll
import KE.KExcIs
import HandS.ExcField
import HandS.ExcInit
import HandS.SuiteRaise
import KE.KMinKey
import HandS.SortKw
import HandS.StrMore
import PyProof.StrLawsFrom
import KE.SortKeyHeap
import HandS.Keys
import HandS.Iter
import HandS.SetKeys
import KE.KDictList
import KE.KDictCopyH
import KE.KDictZip
import KE.KDictItemsList
import HandS.Strs
import HandS.WideBits
import KE.DataCmp
import HandS.Defaults
import HandS.SetFor
import PyProof.ReprRoads
import PyProof.ReprLen
import PySem.Challenge.RW_slashwise_k60_unknown_words
import HandS.EndTab
import KE.KNestM
set_option Elab.async false
set_option linter.all false
set_option maxRecDepth 100000
/-! M: defs as functions over plain data. D: data; W: a value (data, a mutable object by its number, a fresh list); O: a mutable object -/
namespace M
open PySem L2
/-- the world, for the texts' hashes -/
class HasW where
  w : World
  tabs : List NdefX.NTab
variable [HasW]
abbrev D := PyData
inductive W where
  | d (x : D)
  | obj (i : Nat)
  | fl (xs : List D)
  | ro (xs : List D)
  | pr (x : D) (i : Nat)
inductive O where
  | lst (xs : List D)
  | fz (xs : List D)
  | dct (kvs : List (Str × W))
  | lsw (ws : List W)
  | dcn (kvs : List (D × W))
  | dead
  | ins (c : Str) (fs : List (Str × W))
abbrev Mem := List O
abbrev Env := List (Option W)
structure Exn where
  cls : Str
  fs : List (Str × D)
inductive Res (α : Type) where
  | ok (a : α) (m : Mem)
  | err (e : Exn) (m : Mem)
  | bad
def Res.bind {α β : Type} (r : Res α) (k : α → Mem → Res β) : Res β :=
  match r with
  | .ok a m => k a m
  | .err e m => .err e m
  | .bad => .bad
@[simp] theorem Res.bind_ok {α β : Type} (a : α) (m : Mem) (k : α → Mem → Res β) : (Res.ok a m).bind k = k a m := rfl
@[simp] theorem Res.bind_err {α β : Type} (e : Exn) (m : Mem) (k : α → Mem → Res β) : (Res.err e m : Res α).bind k = .err e m := rfl
@[simp] theorem Res.bind_bad {α β : Type} (k : α → Mem → Res β) : (Res.bad : Res α).bind k = .bad := rfl
/-! ### data on the heap -/
def KL (K : PySem.W.Frag) (a : Addr) (xs : List V) : Prop :=
  ∃ (o : Obj) (its : Array Value) (n : Nat), K.lookup a = some o ∧ o.cls = .type "list" ∧ o.dict = none ∧ o.data = .seq its n ∧ its.size ≤ sizeLine ∧ Vals xs its.toList
def KT (K : PySem.W.Frag) (a : Addr) (xs : List V) : Prop :=
  ∃ (o : Obj) (its : Array Value) (n : Nat), K.lookup a = some o ∧ o.cls = .type "tuple" ∧ o.data = .seq its n ∧ its.size ≤ sizeLine ∧ Vals xs its.toList
def LsI (K : PySem.W.Frag) (lv : List Addr) (H : Hp) (a : Addr) (xs : List V) : Prop := (a ∉ lv ∧ Rd H a (.lst xs)) ∨ KL K a xs
def LsT (lv : List Addr) (H : Hp) (a : Addr) (xs : List V) : Prop := a ∉ lv ∧ H a = some (.lst xs)
def TpI (K : PySem.W.Frag) (lv : List Addr) (H : Hp) (a : Addr) (xs : List V) : Prop := (a ∉ lv ∧ H a = some (.tup xs)) ∨ KT K a xs
mutual
/-- data as a dict's key -/
def nkey : D → Option NestedKey
  | .none => some .none
  | .int i => some (.num i)
  | .str x => some (.text x)
  | .tuple ds => match nkeys ds with
    | some ks => some (.tup ks)
    | none => none
  | _ => none
def nkeys : List D → Option (List NestedKey)
  | [] => some []
  | d :: ds => match nkey d with
    | some k => match nkeys ds with
      | some ks => some (k :: ks)
      | none => none
    | none => none
end
mutual
def nD : D → Bool
  | .list ds => nDs ds
  | .tuple ds => nDs ds
  | .dict _ => false
  | _ => true
def nDs : List D → Bool
  | [] => true
  | d :: ds => nD d && nDs ds
end
mutual
theorem nD_of : ∀ {d : D}, d.canLay0 = true → nD d = true
  | .none, _ => rfl
  | .bool _, _ => rfl
  | .int _, _ => rfl
  | .str _, _ => rfl
  | .list ds, h => nDs_of (ds := ds) (by simpa [PyData.canLay0] using h)
  | .tuple ds, h => nDs_of (ds := ds) (by simpa [PyData.canLay0] using h)
  | .dict _, h => by simp [PyData.canLay0] at h
theorem nDs_of : ∀ {ds : List D}, PyData.canLayAll0 ds = true → nDs ds = true
  | [], _ => rfl
  | d :: ds, h => by
    simp only [PyData.canLayAll0, Bool.and_eq_true] at h
    simp only [nDs, Bool.and_eq_true]
    exact ⟨nD_of h.1, nDs_of h.2⟩
end
/-- what stands at a is the object o -/
def PinO (a : Addr) (o : Obj) : HO := .ext fun h => h.get? a = some o
omit [HasW] in
theorem pin_tbl (a : Addr) (o : Obj) : ∀ ps, PinO a o ≠ .tbl ps := fun ps z => by
  unfold PinO at z
  cases z
/-- a dict that is only read: no mutable thing, or the module's -/
def DctI (K : PySem.W.Frag) (lv : List Addr) (H : Hp) (a : Addr) (o : Obj) : Prop := (a ∉ lv ∧ H a = some (PinO a o)) ∨ K.lookup a = some o
structure DObj (a : Addr) (o : Obj) (es : List DictEntry) : Prop where
  ex : o.ExactDict
  dat : ∃ ea ep, o.data = .dict ea ep ∧ ea.toList = es
  len : es.length ≤ sizeLine
  sm : (a == sysModules) = false
/-- keys that are texts or whole numbers -/
def kof : D → Option Key
  | .str x => some (.inr x)
  | .int i => some (.inl i)
  | _ => none
theorem kof_inj {d d' : D} {k : Key} (h : kof d = some k) (h' : kof d' = some k) : d = d' := by
  cases d <;> simp [kof] at h <;> cases d' <;> simp [kof] at h' <;> (subst h; simp at h'; try rw [h'])
mutual
inductive Rep (K : PySem.W.Frag) (lv : List Addr) (H : Hp) : V → D → Prop
  | non : Rep K lv H .non .none
  | bl (b : Bool) : Rep K lv H (.bl b) (.bool b)
  | int (i : Int) : Rep K lv H (.int i) (.int i)
  | str (x : Str) : Rep K lv H (.str x) (.str x)
  | lst {a : Addr} {xs : List V} {ds : List D} : LsT lv H a xs → Reps K lv H xs ds → Rep K lv H (.ref a) (.list ds)
  | tup {a : Addr} {xs : List V} {ds : List D} : TpI K lv H a xs → Reps K lv H xs ds → Rep K lv H (.ref a) (.tuple ds)
  | dct {a : Addr} {o : Obj} {es : List DictEntry} {kvs : List (D × D)} : DctI K lv H a o → DObj a o es → RepE K lv H es kvs → (kvs.map (·.1)).Nodup → Rep K lv H (.ref a) (.dict kvs)
inductive Reps (K : PySem.W.Frag) (lv : List Addr) (H : Hp) : List V → List D → Prop
  | nil : Reps K lv H [] []
  | cons {v : V} {vs : List V} {d : D} {ds : List D} : Rep K lv H v d → Reps K lv H vs ds → Reps K lv H (v :: vs) (d :: ds)
inductive RepE (K : PySem.W.Frag) (lv : List Addr) (H : Hp) : List DictEntry → List (D × D) → Prop
  | nil : RepE K lv H [] []
  | text {kd : D} {kk : Key} {kv : Value} {v : V} {u : Value} {d : D} {es : List DictEntry} {kvs : List (D × D)} : kof kd = some kk → keyIs kk kv = true → RelV v u → Rep K lv H v d → RepE K lv H es kvs → RepE K lv H (⟨keyH HasW.w kk, kv, u⟩ :: es) ((kd, d) :: kvs)
  | tup {k : D} {ks : List NestedKey} {b : Addr} {v : V} {u : Value} {d : D} {es : List DictEntry} {kvs : List (D × D)} : nkey k = some (.tup ks) → (NestedKey.tup ks).depth ≤ 8 → Rep K lv H (.ref b) k → RelV v u → Rep K lv H v d → RepE K lv H es kvs →
      RepE K lv H (⟨(NestedKey.tup ks).hash HasW.w, .ref b, u⟩ :: es) ((k, d) :: kvs)
end
/-- an entry's key -/
inductive KeyE (K : PySem.W.Frag) (lv : List Addr) (H : Hp) : DictEntry → D → Prop
  | text {kd : D} {kk : Key} {kv : Value} (u : Value) : kof kd = some kk → keyIs kk kv = true → KeyE K lv H ⟨keyH HasW.w kk, kv, u⟩ kd
  | tup {k : D} {ks : List NestedKey} {b : Addr} (u : Value) : nkey k = some (.tup ks) → (NestedKey.tup ks).depth ≤ 8 → Rep K lv H (.ref b) k → KeyE K lv H ⟨(NestedKey.tup ks).hash HasW.w, .ref b, u⟩ k
/-- a dict's entries, by keys and values -/
abbrev EntV (K : PySem.W.Frag) (lv : List Addr) (H : Hp) : List DictEntry → List (D × V) → Prop := Paired fun e p => KeyE K lv H e p.1 ∧ RelV p.2 e.val
/-- what was held is held -/
structure Mo (lv : List Addr) (H : Hp) (lv' : List Addr) (H' : Hp) : Prop where
  keep : ∀ a o, H a = some o → a ∉ lv → (∀ ps, o ≠ .tbl ps) → H' a = some o
  out : ∀ a o, H a = some o → a ∉ lv → a ∉ lv'
section
variable {K : PySem.W.Frag} {lv lv' : List Addr} {H H' : Hp}
theorem LsI.mono {a : Addr} {xs : List V} (h : LsI K lv H a xs) (m : Mo lv H lv' H') : LsI K lv' H' a xs := by
  rcases h with ⟨n, h | ⟨o, h⟩⟩ | h
  · exact .inl ⟨m.out _ _ h n, .inl (m.keep _ _ h n nofun)⟩
  · exact .inl ⟨m.out _ _ h n, .inr ⟨o, m.keep _ _ h n nofun⟩⟩
  · exact .inr h
theorem LsT.mono {a : Addr} {xs : List V} (h : LsT lv H a xs) (m : Mo lv H lv' H') : LsT lv' H' a xs := ⟨m.out _ _ h.2 h.1, m.keep _ _ h.2 h.1 nofun⟩
theorem LsT.sq {a : Addr} {xs : List V} (h : LsT lv H a xs) : SqL K H a xs := .inl (.inl h.2)
theorem TpI.mono {a : Addr} {xs : List V} (h : TpI K lv H a xs) (m : Mo lv H lv' H') : TpI K lv' H' a xs := by
  rcases h with ⟨n, h⟩ | h
  · exact .inl ⟨m.out _ _ h n, m.keep _ _ h n nofun⟩
  · exact .inr h
theorem LsI.sq {a : Addr} {xs : List V} (h : LsI K lv H a xs) : SqL K H a xs := by
  rcases h with ⟨_, h⟩ | h
  · exact .inl h
  · exact .inr h
theorem TpI.sq {a : Addr} {xs : List V} (h : TpI K lv H a xs) : SqT K H a xs := by
  rcases h with ⟨_, h⟩ | h
  · exact .inl (.inl h)
  · exact .inr h
mutual
theorem Rep.mono (m : Mo lv H lv' H') : ∀ {v : V} {d : D}, Rep K lv H v d → Rep K lv' H' v d
  | _, _, .non => .non
  | _, _, .bl b => .bl b
  | _, _, .int i => .int i
  | _, _, .str x => .str x
  | _, _, .lst h r => .lst (h.mono m) (Reps.mono m r)
  | _, _, .tup h r => .tup (h.mono m) (Reps.mono m r)
  | _, _, .dct h1 h3 r n => .dct (h1.imp (fun ⟨h1, h2⟩ => ⟨m.out _ _ h2 h1, m.keep _ _ h2 h1 (pin_tbl _ _)⟩) id) h3 (RepE.mono m r) n
theorem Reps.mono (m : Mo lv H lv' H') : ∀ {vs : List V} {ds : List D}, Reps K lv H vs ds → Reps K lv' H' vs ds
  | _, _, .nil => .nil
  | _, _, .cons h r => .cons (Rep.mono m h) (Reps.mono m r)
theorem RepE.mono (m : Mo lv H lv' H') : ∀ {es : List DictEntry} {kvs : List (D × D)}, RepE K lv H es kvs → RepE K lv' H' es kvs
  | _, _, .nil => .nil
  | _, _, .text a b q h r => .text a b q (Rep.mono m h) (RepE.mono m r)
  | _, _, .tup a b c q h r => .tup a b (Rep.mono m c) q (Rep.mono m h) (RepE.mono m r)
end
theorem KeyE.mono (m : Mo lv H lv' H') {e : DictEntry} {d : D} (h : KeyE K lv H e d) : KeyE K lv' H' e d := by
  cases h with
  | text u a b => exact .text u a b
  | tup u a b c => exact .tup u a b (Rep.mono m c)
theorem EntV.mono (m : Mo lv H lv' H') {es : List DictEntry} {kvs : List (D × V)} (h : EntV K lv H es kvs) : EntV K lv' H' es kvs := Paired.mono (fun _ _ z => ⟨z.1.mono m, z.2⟩) h
theorem RepE.ent : ∀ {es : List DictEntry} {kvs : List (D × D)}, RepE K lv H es kvs → ∃ kvv : List (D × V), EntV K lv H es kvv ∧ Paired (fun (p : D × V) (q : D × D) => p.1 = q.1 ∧ Rep K lv H p.2 q.2) kvv kvs
  | _, _, .nil => ⟨[], .nil, .nil⟩
  | _, _, .text (kd := kd) (v := v) a b q h r => by
    obtain ⟨k, h1, h2⟩ := RepE.ent r
    exact ⟨(kd, v) :: k, .cons ⟨.text _ a b, q⟩ h1, .cons ⟨rfl, h⟩ h2⟩
  | _, _, .tup (k := k) (v := v) a b c q h r => by
    obtain ⟨l, h1, h2⟩ := RepE.ent r
    exact ⟨(k, v) :: l, .cons ⟨.tup _ a b c, q⟩ h1, .cons ⟨rfl, h⟩ h2⟩
theorem RepE.of : ∀ {es : List DictEntry} {kvv : List (D × V)} {kvs : List (D × D)}, EntV K lv H es kvv → Paired (fun (p : D × V) (q : D × D) => p.1 = q.1 ∧ Rep K lv H p.2 q.2) kvv kvs → RepE K lv H es kvs
  | [], [], [], .nil, .nil => .nil
  | e :: es, p :: kvv, q :: kvs, .cons h t, .cons h' t' => by
    obtain ⟨k, d⟩ := q
    obtain ⟨k', v⟩ := p
    obtain ⟨rfl, h2⟩ := h'
    obtain ⟨h3, h4⟩ := h
    cases h3 with
    | text u a b => exact .text a b h4 h2 (RepE.of t t')
    | tup u a b c => exact .tup a b c h4 h2 (RepE.of t t')
mutual
theorem Rep.dp : ∀ {v : V} {d : D}, Rep K lv H v d → nD d = true → Dp K H v d
  | _, _, .non, _ => .non
  | _, _, .bl b, _ => .bl b
  | _, _, .int i, _ => .int i
  | _, _, .str x, _ => .str x
  | _, _, .lst h r, q => .lst h.sq (Reps.dp r q)
  | _, _, .tup h r, q => .tup h.sq (Reps.dp r q)
  | _, _, .dct _ _ _ _, q => by cases q
theorem Reps.dp : ∀ {vs : List V} {ds : List D}, Reps K lv H vs ds → nDs ds = true → DpAll K H vs ds
  | _, _, .nil, _ => .nil
  | _, _, .cons h r, q => by
    simp only [nDs, Bool.and_eq_true] at q
    exact .cons (Rep.dp h q.1) (Reps.dp r q.2)
end
theorem Reps.length : ∀ {vs : List V} {ds : List D}, Reps K lv H vs ds → vs.length = ds.length
  | _, _, .nil => rfl
  | _, _, .cons _ r => by rw [List.length_cons, List.length_cons, Reps.length r]
theorem Reps.append : ∀ {vs us : List V} {ds es : List D}, Reps K lv H vs ds → Reps K lv H us es → Reps K lv H (vs ++ us) (ds ++ es)
  | _, _, _, _, .nil, s => s
  | _, _, _, _, .cons h r, s => .cons h (Reps.append r s)
theorem Reps.get : ∀ {vs : List V} {ds : List D} {i : Nat} {d : D}, Reps K lv H vs ds → ds[i]? = some d → ∃ v, vs[i]? = some v ∧ Rep K lv H v d
  | _, _, _, _, .nil, e => by simp at e
  | _, _, 0, _, .cons h r, e => by simp at e; subst e; exact ⟨_, rfl, h⟩
  | _, _, i + 1, d, .cons h r, e => by
    obtain ⟨v, h1, h2⟩ := Reps.get (i := i) (d := d) r (by simpa using e)
    exact ⟨v, by simpa using h1, h2⟩
theorem Reps.take : ∀ {vs : List V} {ds : List D} (n : Nat), Reps K lv H vs ds → Reps K lv H (vs.take n) (ds.take n)
  | _, _, 0, _ => .nil
  | _, _, _ + 1, .nil => .nil
  | _, _, n + 1, .cons h r => .cons h (Reps.take n r)
theorem Reps.drop : ∀ {vs : List V} {ds : List D} (n : Nat), Reps K lv H vs ds → Reps K lv H (vs.drop n) (ds.drop n)
  | _, _, 0, r => r
  | _, _, _ + 1, .nil => .nil
  | _, _, n + 1, .cons h r => Reps.drop n r
theorem Reps.set {v : V} {d : D} (h : Rep K lv H v d) : ∀ {vs : List V} {ds : List D} (i : Nat), Reps K lv H vs ds → Reps K lv H (vs.set i v) (ds.set i d)
  | _, _, _, .nil => .nil
  | _, _, 0, .cons _ t => .cons h t
  | _, _, i + 1, .cons q t => .cons q (Reps.set h i t)
theorem Reps.eraseIdx : ∀ {vs : List V} {ds : List D} (i : Nat), Reps K lv H vs ds → Reps K lv H (vs.eraseIdx i) (ds.eraseIdx i)
  | _, _, _, .nil => .nil
  | _, _, 0, .cons _ t => t
  | _, _, i + 1, .cons q t => .cons q (Reps.eraseIdx i t)
theorem Reps.one {v : V} {d : D} (h : Rep K lv H v d) : Reps K lv H [v] [d] := .cons h .nil
theorem Reps.ints : ∀ (ns : List Int), Reps K lv H (ns.map V.int) (ns.map PyData.int)
  | [] => .nil
  | n :: ns => .cons (.int n) (Reps.ints ns)
theorem Reps.vints : ∀ {vs : List V} {ns : List Int}, Reps K lv H vs (ns.map PyData.int) → vs = ns.map V.int
  | [], [], _ => rfl
  | v :: vs, n :: ns, .cons h r => by cases h; rw [Reps.vints r]; rfl
theorem Reps.vbls : ∀ {vs : List V} {ns : List Bool}, Reps K lv H vs (ns.map PyData.bool) → vs = ns.map V.bl
  | [], [], _ => rfl
  | v :: vs, n :: ns, .cons h r => by cases h; rw [Reps.vbls r]; rfl
end
/-! ### the world: the objects' places; those that no data holds (objects that may change, fresh lists); the heap -/
structure Wd where
  io : List Addr
  lv : List Addr
  H : Hp
def RepW (K : PySem.W.Frag) (G : Wd) (v : V) : W → Prop
  | .d x => Rep K G.lv G.H v x
  | .obj i => ∃ a, G.io[i]? = some a ∧ v = .ref a
  | .fl _ => False
  | .ro ds => ∃ a vs, v = .ref a ∧ LsI K G.lv G.H a vs ∧ Reps K G.lv G.H vs ds
  | .pr x i => ∃ p u a, v = .ref p ∧ TpI K G.lv G.H p [u, .ref a] ∧ Rep K G.lv G.H u x ∧ G.io[i]? = some a
def RepR (K : PySem.W.Frag) (H0 : Hp) (G : Wd) (v : V) : W → Prop
  | .d x => Rep K G.lv G.H v x
  | .obj i => ∃ a, G.io[i]? = some a ∧ v = .ref a
  | .fl ds => ∃ p vs, v = .ref p ∧ H0 p = none ∧ p ∉ G.io ∧ p ∈ G.lv ∧ G.H p = some (.lst vs) ∧ Reps K G.lv G.H vs ds
  | .ro ds => ∃ a vs, v = .ref a ∧ LsI K G.lv G.H a vs ∧ Reps K G.lv G.H vs ds
  | .pr x i => ∃ p u a, v = .ref p ∧ TpI K G.lv G.H p [u, .ref a] ∧ Rep K G.lv G.H u x ∧ G.io[i]? = some a
def ORep (K : PySem.W.Frag) (G : Wd) (a : Addr) : O → Prop
  | .lst ds => a ∈ G.lv ∧ ∃ vs, G.H a = some (.lst vs) ∧ Reps K G.lv G.H vs ds
  | .fz ds => a ∉ G.lv ∧ ∃ vs, G.H a = some (.lst vs) ∧ Reps K G.lv G.H vs ds
  | .lsw ws => a ∈ G.lv ∧ ∃ vs, G.H a = some (.lst vs) ∧ Paired (RepW K G) vs ws
  | .dct kvs => a ∈ G.lv ∧ ∃ ks : List (Key × V), G.H a = some (.dK ks) ∧ Paired (fun (p : Key × V) (q : Str × W) => p.1 = Sum.inr q.1 ∧ RepW K G p.2 q.2) ks kvs
  | .dcn kvs => a ∈ G.lv ∧ ∃ (o : Obj) (es : List DictEntry) (kvv : List (D × V)), G.H a = some (PinO a o) ∧ DObj a o es ∧ EntV K G.lv G.H es kvv ∧ Paired (fun (p : D × V) (q : D × W) => p.1 = q.1 ∧ RepW K G p.2 q.2) kvv kvs ∧ (kvs.map (·.1)).Nodup
  | .dead => (∃ vs, G.H a = some (.lst vs)) ∨ ∃ o, G.H a = some (PinO a o)
  | .ins c fs => a ∈ G.lv ∧ ∃ (C dx : Addr) (vs : List (Str × V)), PySem.W.nsIn K mainGlobals c = some (some (.ref C)) ∧ G.H a = some (.ins C dx vs) ∧ Paired (fun (p : Str × V) (q : Str × W) => p.1 = q.1 ∧ RepW K G p.2 q.2) vs fs
def okW (n : Nat) : W → Bool
  | .obj j => decide (j < n)
  | .pr _ j => decide (j < n)
  | .fl _ => false
  | _ => true
def okO (n : Nat) : O → Bool
  | .dct kvs => kvs.all fun p => okW n p.2
  | .lsw ws => ws.all (okW n)
  | .dcn kvs => kvs.all fun p => okW n p.2
  | .ins _ fs => fs.all fun p => okW n p.2
  | _ => true
theorem okW.le {i n : Nat} {w : W} (h : okW i w = true) (hi : i ≤ n) : okW n w = true := by
  cases w with
  | obj j => have h : j < i := by simpa [okW] using h
             show decide (j < n) = true
             exact decide_eq_true (by omega)
  | pr x j => have h : j < i := by simpa [okW] using h
              show decide (j < n) = true
              exact decide_eq_true (by omega)
  | d _ => rfl
  | ro _ => rfl
  | fl _ => cases h
theorem okO.le {i n : Nat} {o : O} (h : okO i o = true) (hi : i ≤ n) : okO n o = true := by
  cases o with
  | lst _ => rfl
  | fz _ => rfl
  | dct kvs =>
    have h : kvs.all (fun p => okW i p.2) = true := h
    show kvs.all (fun p => okW n p.2) = true
    rw [List.all_eq_true] at h ⊢
    exact fun p hp => okW.le (h p hp) hi
  | lsw ws =>
    have h : ws.all (okW i) = true := h
    show ws.all (okW n) = true
    rw [List.all_eq_true] at h ⊢
    exact fun p hp => okW.le (h p hp) hi
  | dead => rfl
  | ins c kvs =>
    have h : kvs.all (fun p => okW i p.2) = true := h
    show kvs.all (fun p => okW n p.2) = true
    rw [List.all_eq_true] at h ⊢
    exact fun p hp => okW.le (h p hp) hi
  | dcn kvs =>
    have h : kvs.all (fun p => okW i p.2) = true := h
    show kvs.all (fun p => okW n p.2) = true
    rw [List.all_eq_true] at h ⊢
    exact fun p hp => okW.le (h p hp) hi
/-- the tables of code objects, and what they tell -/
def TbOk (G : Wd) : Prop := ∀ p ∈ HasW.tabs, p.1 ∉ G.lv ∧ ∃ ps : Array Value, G.H p.1 = some (.tbl ps) ∧ TriplesOk ps.toList ∧ ∀ (pos : Pos) (cv : Value), codeAmong pos ps.toList = some cv → ∃ c, cv = .ref c ∧ c ∉ G.lv ∧ G.H c = some (LamX.CodeO c (p.2 pos.line pos.col))
theorem TbOk.step {G G' : Wd} (h : TbOk G) (e : ∀ a o, G.H a = some o → a ∉ G.lv → G'.H a = some o) (l : ∀ a, G.H a ≠ none → a ∉ G.lv → a ∉ G'.lv) : TbOk G' := fun p hp => by
  obtain ⟨n1, ps, h1, h2, h3⟩ := h p hp
  refine ⟨l _ (by rw [h1]; simp) n1, ps, e _ _ h1 n1, h2, fun pos cv hc => ?_⟩
  obtain ⟨c, rfl, n2, h4⟩ := h3 pos cv hc
  exact ⟨c, rfl, l _ (by rw [h4]; simp) n2, e _ _ h4 n2⟩
theorem TbOk.tabs {G : Wd} (h : TbOk G) : NdefX.TabsN HasW.tabs G.H := fun p hp => by
  obtain ⟨_, ps, h1, h2, h3⟩ := h p hp
  refine ⟨ps, h1, h2, fun pos cv hc => ?_⟩
  obtain ⟨c, e, _, h4⟩ := h3 pos cv hc
  exact ⟨c, e, h4⟩
structure RelM (K : PySem.W.Frag) (G : Wd) (m : Mem) : Prop where
  dw : ∀ (i : Nat) (o : O), m[i]? = some o → okO m.length o = true
  len : G.io.length = m.length
  nd : G.io.Nodup
  lt : ∀ a ∈ G.lv, G.H a ≠ none
  it : ∀ a ∈ G.io, G.H a ≠ none
  ob : ∀ (i : Nat) (a : Addr) (o : O), G.io[i]? = some a → m[i]? = some o → ORep K G a o
  tb : TbOk G
structure Le (G G' : Wd) : Prop where
  lt : ∀ a ∈ G.lv, G.H a ≠ none
  io : ∃ κ : List Addr, G'.io = G.io ++ κ ∧ ∀ a ∈ κ, G.H a = none
  lv : ∀ a ∈ G'.lv, a ∈ G.lv ∨ G.H a = none
  stay : ∀ a ∈ G.lv, a ∉ G.io → a ∈ G'.lv
  keep : ∀ a o, G.H a = some o → ¬ (a ∈ G.io ∧ a ∈ G.lv) → (∀ ps, o ≠ .tbl ps) → G'.H a = some o
  tr : ∀ a, G'.H a = none → G.H a = none
theorem Le.refl {K : PySem.W.Frag} {G : Wd} {m : Mem} (R : RelM K G m) : Le G G := ⟨R.lt, ⟨[], by simp, fun _ h => nomatch h⟩, fun _ h => .inl h, fun _ h _ => h, fun _ _ h _ _ => h, fun _ h => h⟩
theorem Le.nio {G G' : Wd} (a : Le G G') {c : Addr} (h : G.H c ≠ none) (n : c ∉ G.io) : c ∉ G'.io := by
  obtain ⟨κ, e, nk⟩ := a.io
  rw [e]
  intro z
  rcases List.mem_append.mp z with z | z
  · exact n z
  · exact h (nk _ z)
theorem Le.nlv {G G' : Wd} (a : Le G G') {c : Addr} (h : G.H c ≠ none) (n : c ∉ G.lv) : c ∉ G'.lv := fun z => by
  rcases a.lv c z with z | z
  · exact n z
  · exact h z
theorem Le.trans {G G1 G2 : Wd} (a : Le G G1) (b : Le G1 G2) : Le G G2 := by
  obtain ⟨κ1, e1, n1⟩ := a.io
  obtain ⟨κ2, e2, n2⟩ := b.io
  refine ⟨a.lt, ⟨κ1 ++ κ2, by rw [e2, e1, List.append_assoc], fun c hc => ?_⟩, fun c hc => ?_, fun c hc n => b.stay c (a.stay c hc n) (a.nio (a.lt c hc) n), fun c o h n nt => ?_, fun c h => a.tr c (b.tr c h)⟩
  · rcases List.mem_append.mp hc with h | h
    · exact n1 c h
    · exact a.tr c (n2 c h)
  · rcases b.lv c hc with h | h
    · exact a.lv c h
    · exact .inr (a.tr c h)
  · have hn : G.H c ≠ none := by rw [h]; simp
    refine b.keep c o (a.keep c o h n nt) (fun ⟨z1, z2⟩ => ?_) nt
    by_cases z : c ∈ G.io
    · exact n ⟨z, Classical.byContradiction fun q => a.nlv hn q z2⟩
    · exact a.nio hn z z1
theorem Le.mo {G G' : Wd} (a : Le G G') : Mo G.lv G.H G'.lv G'.H := ⟨fun c o h n nt => a.keep c o h (fun z => n z.2) nt, fun c o h n => a.nlv (by rw [h]; simp) n⟩
theorem Le.iget {G G' : Wd} (a : Le G G') {i : Nat} {c : Addr} (h : G.io[i]? = some c) : G'.io[i]? = some c := by
  obtain ⟨κ, e, _⟩ := a.io
  rw [e, List.getElem?_append_left (List.getElem?_eq_some_iff.mp h).1]; exact h
section
variable {K : PySem.W.Frag} {G G' : Wd} {H0 H1 : Hp}
theorem RepW.mono {v : V} {w : W} (h : RepW K G v w) (le : Le G G') : RepW K G' v w := by
  cases w with
  | d x => exact Rep.mono le.mo h
  | obj i => obtain ⟨a, h1, h2⟩ := h; exact ⟨a, le.iget h1, h2⟩
  | fl _ => exact h
  | ro ds => obtain ⟨a, vs, h1, h2, h3⟩ := h; exact ⟨a, vs, h1, h2.mono le.mo, h3.mono le.mo⟩
  | pr x i => obtain ⟨p, u, a, h1, h2, h3, h4⟩ := h; exact ⟨p, u, a, h1, h2.mono le.mo, h3.mono le.mo, le.iget h4⟩
theorem RepR.mono {v : V} {w : W} (h : RepR K H0 G v w) (le : Le G G') : RepR K H0 G' v w := by
  cases w with
  | d x => exact Rep.mono le.mo h
  | obj i => obtain ⟨a, h1, h2⟩ := h; exact ⟨a, le.iget h1, h2⟩
  | fl ds =>
    obtain ⟨p, vs, e, h0, h1, h2, h3, r⟩ := h
    have hp : G.H p ≠ none := by rw [h3]; simp
    exact ⟨p, vs, e, h0, le.nio hp h1, le.stay _ h2 h1, le.keep _ _ h3 (fun z => h1 z.1) nofun, Reps.mono le.mo r⟩
  | ro ds => obtain ⟨a, vs, h1, h2, h3⟩ := h; exact ⟨a, vs, h1, h2.mono le.mo, h3.mono le.mo⟩
  | pr x i => obtain ⟨p, u, a, h1, h2, h3, h4⟩ := h; exact ⟨p, u, a, h1, h2.mono le.mo, h3.mono le.mo, le.iget h4⟩
theorem RepR.weak {v : V} {w : W} (h : RepR K H1 G v w) (t : ∀ a, H1 a = none → H0 a = none) : RepR K H0 G v w := by
  cases w with
  | d x => exact h
  | obj i => exact h
  | fl ds => obtain ⟨p, vs, e, h0, r⟩ := h; exact ⟨p, vs, e, t p h0, r⟩
  | ro ds => exact h
  | pr _ _ => exact h
theorem RepW.r {v : V} {w : W} (h : RepW K G v w) : RepR K H0 G v w := by
  cases w with
  | d x => exact h
  | obj i => exact h
  | fl _ => exact False.elim h
  | ro ds => exact h
  | pr _ _ => exact h
theorem ORep.mono {a : Addr} {ob : O} (h : ORep K G a ob) (le : Le G G') (hl : a ∈ G.lv → a ∈ G'.lv) (hl2 : a ∉ G.lv → a ∉ G'.lv) (e : G'.H a = G.H a) : ORep K G' a ob := by
  cases ob with
  | lst ds => obtain ⟨h1, vs, h2, r⟩ := h; exact ⟨hl h1, vs, by rw [e]; exact h2, Reps.mono le.mo r⟩
  | fz ds => obtain ⟨h1, vs, h2, r⟩ := h; exact ⟨hl2 h1, vs, by rw [e]; exact h2, Reps.mono le.mo r⟩
  | dct kvs =>
    obtain ⟨h1, ks, h2, r⟩ := h
    exact ⟨hl h1, ks, by rw [e]; exact h2, Paired.mono (fun _ _ z => ⟨z.1, z.2.mono le⟩) r⟩
  | lsw ws => obtain ⟨h1, vs, h2, r⟩ := h; exact ⟨hl h1, vs, by rw [e]; exact h2, Paired.mono (fun _ _ z => z.mono le) r⟩
  | dcn kvs =>
    obtain ⟨h1, o, es, kvv, h2, h3, h4, r, n⟩ := h
    exact ⟨hl h1, o, es, kvv, by rw [e]; exact h2, h3, h4.mono le.mo, Paired.mono (fun _ _ z => ⟨z.1, z.2.mono le⟩) r, n⟩
  | dead => show (∃ vs, G'.H a = _) ∨ _; rw [e]; exact h
  | ins c kvs => obtain ⟨h1, C, dx, vs, h0, h2, r⟩ := h; exact ⟨hl h1, C, dx, vs, h0, by rw [e]; exact h2, Paired.mono (fun _ _ z => ⟨z.1, z.2.mono le⟩) r⟩
end
/-! ### worlds that grow -/
section
variable {K : PySem.W.Frag} {G G0 : Wd} {m : Mem} {p : Addr} {o : HO}
theorem upd_none {H : Hp} {a : Addr} (e : upd H p o a = none) : H a = none := by
  unfold upd at e
  split at e
  · cases e
  · exact e
theorem RelM.ne (R : RelM K G m) (h : G.H p = none) : p ∉ G.io ∧ p ∉ G.lv := ⟨fun z => R.it p z h, fun z => R.lt p z h⟩
/-- a new thing that is held as data -/
theorem Le.new (R : RelM K G m) (h : G.H p = none) : Le G ⟨G.io, G.lv, upd G.H p o⟩ :=
  ⟨R.lt, ⟨[], by simp, fun _ z => nomatch z⟩, fun _ z => .inl z, fun _ z _ => z, fun a u e _ _ => by show upd G.H p o a = _; rw [upd_ne (ne_of_none e h)]; exact e, fun a e => upd_none e⟩
theorem RelM.new (R : RelM K G m) (h : G.H p = none) : RelM K ⟨G.io, G.lv, upd G.H p o⟩ m := by
  have ne : ∀ a, G.H a ≠ none → a ≠ p := fun a z e => z (e ▸ h)
  refine ⟨R.dw, R.len, R.nd, fun a z => ?_, fun a z => ?_, fun i a ob e1 e2 => (R.ob i a ob e1 e2).mono (Le.new R h) (fun z => z) (fun z => z) ?_, R.tb.step (fun a u e _ => by show upd G.H p o a = _; rw [upd_ne (ne_of_none e h)]; exact e) fun a _ z => z⟩
  · show upd G.H p o a ≠ none
    rw [upd_ne (ne a (R.lt a z))]; exact R.lt a z
  · show upd G.H p o a ≠ none
    rw [upd_ne (ne a (R.it a z))]; exact R.it a z
  · exact upd_ne (ne a (R.it a (List.mem_of_getElem? e1)))
/-- a new thing that no data holds -/
theorem Le.newL (R : RelM K G m) (h : G.H p = none) : Le G ⟨G.io, p :: G.lv, upd G.H p o⟩ :=
  ⟨R.lt, ⟨[], by simp, fun _ z => nomatch z⟩, fun a z => by
    rcases List.mem_cons.mp z with z | z
    · exact .inr (z ▸ h)
    · exact .inl z, fun _ z _ => List.mem_cons_of_mem _ z, fun a u e _ _ => by show upd G.H p o a = _; rw [upd_ne (ne_of_none e h)]; exact e, fun a e => upd_none e⟩
theorem RelM.newL (R : RelM K G m) (h : G.H p = none) : RelM K ⟨G.io, p :: G.lv, upd G.H p o⟩ m := by
  have ne : ∀ a, G.H a ≠ none → a ≠ p := fun a z e => z (e ▸ h)
  refine ⟨R.dw, R.len, R.nd, fun a z => ?_, fun a z => ?_, fun i a ob e1 e2 => (R.ob i a ob e1 e2).mono (Le.newL R h) (fun z => List.mem_cons_of_mem _ z) (fun z q => ?_) ?_, R.tb.step (fun a u e _ => by show upd G.H p o a = _; rw [upd_ne (ne_of_none e h)]; exact e) fun a e z q => by
    rcases List.mem_cons.mp q with q | q
    · exact e (q ▸ h)
    · exact z q⟩
  · show upd G.H p o a ≠ none
    rcases List.mem_cons.mp z with z | z
    · rw [z, upd_same]; simp
    · rw [upd_ne (ne a (R.lt a z))]; exact R.lt a z
  · show upd G.H p o a ≠ none
    rw [upd_ne (ne a (R.it a z))]; exact R.it a z
  · rcases List.mem_cons.mp q with q | q
    · exact R.it a (List.mem_of_getElem? e1) (q ▸ h)
    · exact z q
  · exact upd_ne (ne a (R.it a (List.mem_of_getElem? e1)))
/-- a fresh list becomes data -/
def Wd.drop (G : Wd) (p : Addr) : Wd := ⟨G.io, G.lv.filter (fun a => decide (a ≠ p)), G.H⟩
theorem mem_drop {a : Addr} : a ∈ (G.drop p).lv ↔ a ∈ G.lv ∧ a ≠ p := by
  show a ∈ G.lv.filter _ ↔ _
  rw [List.mem_filter]; simp
theorem Mo.drop : Mo G.lv G.H (G.drop p).lv (G.drop p).H := ⟨fun _ _ h _ _ => h, fun _ _ _ n z => n (mem_drop.mp z).1⟩
theorem Le.drop (le : Le G0 G) (h0 : G0.H p = none) : Le G0 (G.drop p) :=
  ⟨le.lt, le.io, fun a z => le.lv a (mem_drop.mp z).1, fun a z n => mem_drop.mpr ⟨le.stay a z n, fun e => le.lt a z (e ▸ h0)⟩, le.keep, le.tr⟩
theorem RepW.drop {v : V} {w : W} (h : RepW K G v w) : RepW K (G.drop p) v w := by
  cases w with
  | d x => exact Rep.mono Mo.drop h
  | obj i => exact h
  | fl _ => exact h
  | ro ds => obtain ⟨a, vs, h1, h2, h3⟩ := h; exact ⟨a, vs, h1, h2.mono Mo.drop, h3.mono Mo.drop⟩
  | pr x i => obtain ⟨p, u, a, h1, h2, h3, h4⟩ := h; exact ⟨p, u, a, h1, h2.mono Mo.drop, h3.mono Mo.drop, h4⟩
theorem RelM.drop (R : RelM K G m) (h : p ∉ G.io) : RelM K (G.drop p) m := by
  refine ⟨R.dw, R.len, R.nd, fun a z => R.lt a (mem_drop.mp z).1, R.it, fun i a ob e1 e2 => ?_, R.tb.step (fun _ _ e _ => e) fun a _ z q => z (mem_drop.mp q).1⟩
  have q := R.ob i a ob e1 e2
  have ne : a ≠ p := fun e => h (e ▸ List.mem_of_getElem? e1)
  cases ob with
  | lst ds => obtain ⟨h1, vs, h2, r⟩ := q; exact ⟨mem_drop.mpr ⟨h1, ne⟩, vs, h2, Reps.mono Mo.drop r⟩
  | fz ds => obtain ⟨h1, vs, h2, r⟩ := q; exact ⟨fun z => h1 (mem_drop.mp z).1, vs, h2, Reps.mono Mo.drop r⟩
  | dct kvs => obtain ⟨h1, ks, h2, r⟩ := q; exact ⟨mem_drop.mpr ⟨h1, ne⟩, ks, h2, Paired.mono (fun _ _ z => ⟨z.1, z.2.drop⟩) r⟩
  | lsw ws => obtain ⟨h1, vs, h2, r⟩ := q; exact ⟨mem_drop.mpr ⟨h1, ne⟩, vs, h2, Paired.mono (fun _ _ z => z.drop) r⟩
  | dcn kvs =>
    obtain ⟨h1, o, es, kvv, h2, h3, h4, r, n⟩ := q
    exact ⟨mem_drop.mpr ⟨h1, ne⟩, o, es, kvv, h2, h3, h4.mono Mo.drop, Paired.mono (fun _ _ z => ⟨z.1, z.2.drop⟩) r, n⟩
  | dead => exact q
  | ins c kvs => obtain ⟨h1, C, dx, vs, h0, h2, r⟩ := q; exact ⟨mem_drop.mpr ⟨h1, ne⟩, C, dx, vs, h0, h2, Paired.mono (fun _ _ z => ⟨z.1, z.2.drop⟩) r⟩
theorem RepR.drop {v : V} {ds : List D} {H0 : Hp} {p : Addr} {vs : List V} (h3 : G.H p = some (.lst vs)) (r : Reps K G.lv G.H vs ds) : Rep K (G.drop p).lv (G.drop p).H (.ref p) (.list ds) :=
  .lst ⟨fun z => (mem_drop.mp z).2 rfl, h3⟩ (Reps.mono Mo.drop r)
/-- a fresh list becomes an object -/
def Wd.own (G : Wd) (p : Addr) : Wd := ⟨G.io ++ [p], G.lv, G.H⟩
theorem Le.own (le : Le G0 G) (h0 : G0.H p = none) : Le G0 (G.own p) := by
  obtain ⟨κ, e, nk⟩ := le.io
  refine ⟨le.lt, ⟨κ ++ [p], by show G.io ++ [p] = _; rw [e, List.append_assoc], fun a z => ?_⟩, le.lv, le.stay, le.keep, le.tr⟩
  rcases List.mem_append.mp z with z | z
  · exact nk a z
  · rw [List.mem_singleton.mp z]; exact h0
theorem RepW.own {v : V} {w : W} (h : RepW K G v w) : RepW K (G.own p) v w := by
  cases w with
  | d x => exact h
  | obj i =>
    obtain ⟨a, h1, h2⟩ := h
    exact ⟨a, by show (G.io ++ [p])[i]? = _; rw [List.getElem?_append_left (List.getElem?_eq_some_iff.mp h1).1]; exact h1, h2⟩
  | fl _ => exact h
  | ro ds => exact h
  | pr x i =>
    obtain ⟨q, u, a, h1, h2, h3, h4⟩ := h
    exact ⟨q, u, a, h1, h2, h3, by show (G.io ++ [p])[i]? = _; rw [List.getElem?_append_left (List.getElem?_eq_some_iff.mp h4).1]; exact h4⟩
theorem ORep.own {a : Addr} {ob : O} (q : ORep K G a ob) : ORep K (G.own p) a ob := by
  cases ob with
  | lst ds => exact q
  | fz ds => exact q
  | dct kvs => obtain ⟨h1, ks, h2, r⟩ := q; exact ⟨h1, ks, h2, Paired.mono (fun _ _ z => ⟨z.1, z.2.own⟩) r⟩
  | lsw ws => obtain ⟨h1, vs, h2, r⟩ := q; exact ⟨h1, vs, h2, Paired.mono (fun _ _ z => z.own) r⟩
  | dcn kvs =>
    obtain ⟨h1, o, es, kvv, h2, h3, h4, r, n⟩ := q
    exact ⟨h1, o, es, kvv, h2, h3, h4, Paired.mono (fun _ _ z => ⟨z.1, z.2.own⟩) r, n⟩
  | dead => exact q
  | ins c kvs => obtain ⟨h1, C, dx, vs, h0, h2, r⟩ := q; exact ⟨h1, C, dx, vs, h0, h2, Paired.mono (fun _ _ z => ⟨z.1, z.2.own⟩) r⟩
theorem RelM.own {ob : O} (R : RelM K G m) (h : p ∉ G.io) (ht : G.H p ≠ none) (ho : ORep K G p ob) (hd : okO m.length ob = true) : RelM K (G.own p) (m ++ [ob]) := by
  refine ⟨fun i o e => ?_, by show (G.io ++ [p]).length = _; rw [List.length_append, List.length_append, R.len]; rfl, ?_, R.lt, fun a z => ?_, fun i a o e1 e2 => ?_, R.tb.step (fun _ _ e _ => e) fun a _ z => z⟩
  · by_cases hi : i < m.length
    · rw [List.getElem?_append_left hi] at e
      exact okO.le (R.dw i o e) (by simp)
    · have hl := (List.getElem?_eq_some_iff.mp e).1
      rw [List.length_append, List.length_singleton] at hl
      have ei : i = m.length := by omega
      subst ei
      rw [List.getElem?_append_right (Nat.le_refl _), Nat.sub_self] at e
      cases e
      exact okO.le hd (by simp)
  · show (G.io ++ [p]).Nodup
    rw [List.nodup_append]
    exact ⟨R.nd, by simp, fun a ha b hb e => h (by rw [← List.mem_singleton.mp hb, ← e]; exact ha)⟩
  · rcases List.mem_append.mp z with z | z
    · exact R.it a z
    · rw [List.mem_singleton.mp z]; exact ht
  · have e1 : (G.io ++ [p])[i]? = some a := e1
    by_cases hi : i < G.io.length
    · rw [List.getElem?_append_left hi] at e1
      rw [List.getElem?_append_left (by rw [← R.len]; exact hi)] at e2
      exact (R.ob i a o e1 e2).own
    · rw [List.getElem?_append_right (by omega)] at e1
      rw [List.getElem?_append_right (by rw [← R.len]; omega)] at e2
      have hj : i - G.io.length = 0 := by
        have := (List.getElem?_eq_some_iff.mp e1).1
        simp at this; omega
      rw [hj] at e1
      rw [← R.len, hj] at e2
      have e1' : p = a := by simpa using e1
      have e2' : ob = o := by simpa using e2
      subst e1' e2'
      exact ho.own
/-- an object changes -/
theorem Le.mut {i : Nat} (R : RelM K G m) (h1 : G.io[i]? = some p) (h2 : p ∈ G.lv) : Le G ⟨G.io, G.lv, upd G.H p o⟩ :=
  ⟨R.lt, ⟨[], by simp, fun _ z => nomatch z⟩, fun _ z => .inl z, fun _ z _ => z, fun a u e n _ => by
    show upd G.H p o a = _
    rw [upd_ne (fun z => n (by rw [z]; exact ⟨List.mem_of_getElem? h1, h2⟩))]; exact e, fun a e => upd_none e⟩
theorem RelM.mut {i : Nat} {ob : O} (R : RelM K G m) (h1 : G.io[i]? = some p) (h2 : p ∈ G.lv) (ho : ORep K ⟨G.io, G.lv, upd G.H p o⟩ p ob) (hd : okO m.length ob = true) : RelM K ⟨G.io, G.lv, upd G.H p o⟩ (m.set i ob) := by
  have up : ∀ a, G.H a ≠ none → upd G.H p o a ≠ none := fun a z q => z (upd_none q)
  refine ⟨fun j u e => ?_, by rw [List.length_set]; exact R.len, R.nd, fun a z => up a (R.lt a z), fun a z => up a (R.it a z), fun j a u e1 e2 => ?_, R.tb.step (fun a u e n => by
    show upd G.H p o a = _
    rw [upd_ne (fun z => n (by rw [z]; exact h2))]; exact e) fun a _ z => z⟩
  · by_cases hj : i = j
    · subst hj
      have hl := (List.getElem?_eq_some_iff.mp e).1
      rw [List.length_set] at hl
      rw [List.getElem?_set_self hl] at e
      cases e
      rw [List.length_set]
      exact hd
    · rw [List.getElem?_set_ne hj] at e
      rw [List.length_set]
      exact R.dw j u e
  by_cases hj : j = i
  · subst hj
    rw [h1] at e1
    cases e1
    rw [List.getElem?_set_self (by rw [← R.len]; exact (List.getElem?_eq_some_iff.mp h1).1)] at e2
    cases e2
    exact ho
  · rw [List.getElem?_set_ne (fun z => hj z.symm)] at e2
    have na : a ≠ p := fun z => hj ((List.getElem?_inj (List.getElem?_eq_some_iff.mp e1).1 R.nd).mp (by rw [e1, h1, z]))
    exact (R.ob j a u e1 e2).mono (Le.mut R h1 h2) (fun z => z) (fun z => z) (upd_ne na)
/-- an object is frozen: data may hold it -/
theorem Rep.drop {v : V} {x : D} (h : Rep K G.lv G.H v x) : Rep K (G.drop p).lv (G.drop p).H v x := Rep.mono Mo.drop h
end
/-! ### slots -/
structure RelS (K : PySem.W.Frag) (G : Wd) (σ : St) (env : Env) : Prop where
  len : σ.length = env.length
  get : ∀ (i : Nat) (w : W), env[i]? = some (some w) → ∃ v, σ[i]? = some (some v) ∧ RepW K G v w
theorem RelS.mono {K : PySem.W.Frag} {G G' : Wd} {σ : St} {env : Env} (S : RelS K G σ env) (le : Le G G') : RelS K G' σ env :=
  ⟨S.len, fun i w e => let ⟨v, h1, h2⟩ := S.get i w e; ⟨v, h1, h2.mono le⟩⟩
theorem RelS.set {K : PySem.W.Frag} {G : Wd} {σ : St} {env : Env} {v : V} {w : W} {i : Nat} (S : RelS K G σ env) (h : RepW K G v w) : RelS K G (σ.set i (some v)) (env.set i (some w)) := by
  refine ⟨by rw [List.length_set, List.length_set]; exact S.len, fun j u e => ?_⟩
  by_cases hj : j = i
  · subst hj
    have hl : j < env.length := by
      have := (List.getElem?_eq_some_iff.mp e).1
      rwa [List.length_set] at this
    rw [List.getElem?_set_self hl] at e
    cases e
    exact ⟨v, by rw [List.getElem?_set_self (by rw [S.len]; exact hl)], h⟩
  · rw [List.getElem?_set_ne (fun z => hj z.symm)] at e
    obtain ⟨u', h1, h2⟩ := S.get j u e
    exact ⟨u', by rw [List.getElem?_set_ne (fun z => hj z.symm)]; exact h1, h2⟩
/-! ### ends -/
def ExRep (mg : Str → Option Value) (K : PySem.W.Frag) (G : Wd) (c : Value) (d : Option Addr) (e : Exn) : Prop :=
  mg e.cls = some c ∧ ((e.fs = [] ∧ d = none) ∨ ∃ dd fs, e.fs ≠ [] ∧ d = some dd ∧ G.H dd = some (.xd fs) ∧ dd ∉ G.io ∧ Paired (fun (p : Str × V) (q : Str × D) => p.1 = q.1 ∧ Rep K G.lv G.H p.2 q.2) fs e.fs)
def GPost {α β : Type} (X : Cx) (Wx : WX) (σ : St) (G : Wd) (rel : Hp → Wd → β → α → Prop) (r : Res α) (Q : β → Hp → Prop) : Prop :=
  match r with
  | .ok a m => ∀ v G', Le G G' → RelM X.K G' m → rel G.H G' v a → Q v G'.H
  | .err e m => ∀ c d G', Le G G' → RelM X.K G' m → ExRep X.mg X.K G' c d e → Wx c d σ G'.H
  | .bad => False
/-- a relation that may start earlier -/
def Weak {α β : Type} (rel : Hp → Wd → β → α → Prop) : Prop := ∀ H H1 G v a, (∀ p, H1 p = none → H p = none) → rel H1 G v a → rel H G v a
section
variable {X : Cx} {Wx : WX} {σ : St} {G G1 : Wd}
theorem GPost.later {α β : Type} {rel : Hp → Wd → β → α → Prop} (hw : Weak rel) {r : Res α} {Q : β → Hp → Prop} (h : GPost X Wx σ G rel r Q) (le : Le G G1) : GPost X Wx σ G1 rel r Q := by
  cases r with
  | ok a m => exact fun v G' l R q => h v G' (le.trans l) R (hw _ _ _ _ _ le.tr q)
  | err e m => exact fun c d G' l R q => h c d G' (le.trans l) R q
  | bad => exact h
theorem GPost.bind {α β α' β' : Type} {rel : Hp → Wd → β → α → Prop} {rel' : Hp → Wd → β' → α' → Prop} (hw : Weak rel') {r : Res α} {k : α → Mem → Res α'} {Q : β → Hp → Prop} {Q' : β' → Hp → Prop}
    (h : GPost X Wx σ G rel' (r.bind k) Q')
    (hk : ∀ a m v G1, Le G G1 → RelM X.K G1 m → rel G.H G1 v a → GPost X Wx σ G1 rel' (k a m) Q' → Q v G1.H) : GPost X Wx σ G rel r Q := by
  cases r with
  | ok a m => exact fun v G1 le R q => hk a m v G1 le R q (GPost.later hw h le)
  | err e m => exact h
  | bad => exact h
theorem weakR {K : PySem.W.Frag} : Weak (RepR K) := fun _ _ _ _ _ t h => h.weak t
def relEq {α : Type} : Hp → Wd → α → α → Prop := fun _ _ v a => v = a
theorem weakEq {α : Type} : Weak (relEq (α := α)) := fun _ _ _ _ _ _ h => h
def RepRs (K : PySem.W.Frag) (H0 : Hp) (G : Wd) (vs : List V) (ws : List W) : Prop := Paired (RepR K H0 G) vs ws
theorem RepRs.mono {K : PySem.W.Frag} {H0 : Hp} {G G' : Wd} {vs : List V} {ws : List W} (h : RepRs K H0 G vs ws) (le : Le G G') : RepRs K H0 G' vs ws := Paired.mono (fun _ _ z => z.mono le) h
end
/-! ### judgements -/
def ME (X : Cx) (Wx : WX) (e : Expr) (f : Env → Mem → Res W) : Prop :=
  ∃ t, PE X e t ∧ ∀ env m σ G Q, RelS X.K G σ env → RelM X.K G m → GPost X Wx σ G (RepR X.K) (f env m) Q → t σ G.H Q
def MT (X : Cx) (Wx : WX) (e : Expr) (f : Env → Mem → Res Bool) : Prop :=
  ∃ t, PT X e t ∧ ∀ env m σ G Q, RelS X.K G σ env → RelM X.K G m → GPost X Wx σ G relEq (f env m) Q → t σ G.H Q
def MP (X : Cx) (Wx : WX) (e : Expr) (f : Env → Mem → Res Bool) : Prop :=
  ∃ t, PW X e t ∧ ∀ env m σ G Q, RelS X.K G σ env → RelM X.K G m → GPost X Wx σ G relEq (f env m) Q → t σ G.H Q
def MA (X : Cx) (Wx : WX) (es : List Expr) (f : Env → Mem → Res (List W)) : Prop :=
  ∃ t, PA X es t ∧ ∀ env m σ G Q, RelS X.K G σ env → RelM X.K G m → GPost X Wx σ G (RepRs X.K) (f env m) Q → t σ G.H Q
inductive SRes where
  | nx (env : Env) (m : Mem)
  | bk (env : Env) (m : Mem)
  | ct (env : Env) (m : Mem)
  | rt (w : W) (m : Mem)
  | err (e : Exn) (env : Env) (m : Mem)
  | bad
def SPost (X : Cx) (Wx : WX) (G : Wd) (r : SRes) (E : Ends) : Prop :=
  match r with
  | .nx env m => ∀ σ' G', Le G G' → RelM X.K G' m → RelS X.K G' σ' env → E.nx σ' G'.H
  | .bk env m => ∀ σ' G', Le G G' → RelM X.K G' m → RelS X.K G' σ' env → E.bk σ' G'.H
  | .ct env m => ∀ σ' G', Le G G' → RelM X.K G' m → RelS X.K G' σ' env → E.ct σ' G'.H
  | .rt w m => ∀ v G', Le G G' → RelM X.K G' m → RepR X.K G.H G' v w → E.rt v G'.H
  | .err e env m => ∀ c d σ' G', Le G G' → RelM X.K G' m → RelS X.K G' σ' env → ExRep X.mg X.K G' c d e → Wx c d σ' G'.H
  | .bad => False
def MS (X : Cx) (Wx : WX) (st : Stmt) (f : Env → Mem → SRes) : Prop :=
  ∃ t, PS X st t ∧ ∀ env m σ G E, RelS X.K G σ env → RelM X.K G m → SPost X Wx G (f env m) E → t E σ G.H
def MB (X : Cx) (Wx : WX) (st : List Stmt) (f : Env → Mem → SRes) : Prop :=
  ∃ t, PSs X st t ∧ ∀ env m σ G E, RelS X.K G σ env → RelM X.K G m → SPost X Wx G (f env m) E → t E σ G.H
theorem SPost.later {X : Cx} {Wx : WX} {G G1 : Wd} {r : SRes} {E : Ends} (h : SPost X Wx G r E) (le : Le G G1) : SPost X Wx G1 r E := by
  cases r with
  | nx env m => exact fun σ' G' l R S => h σ' G' (le.trans l) R S
  | bk env m => exact fun σ' G' l R S => h σ' G' (le.trans l) R S
  | ct env m => exact fun σ' G' l R S => h σ' G' (le.trans l) R S
  | rt w m => exact fun v G' l R q => h v G' (le.trans l) R (q.weak le.tr)
  | err e env m => exact fun c d σ' G' l R S q => h c d σ' G' (le.trans l) R S q
  | bad => exact h
end M
set_option Elab.async false
set_option linter.all false
set_option maxRecDepth 100000
namespace M
open PySem L2
variable [HasW]
abbrev EF := Env → Mem → Res W
abbrev TF := Env → Mem → Res Bool
abbrev AF := Env → Mem → Res (List W)
abbrev SF := Env → Mem → SRes
/-! ### values seen -/
def asL (w : W) (m : Mem) : Option (List D) :=
  match w with
  | .d (.list ds) => some ds
  | .fl ds => some ds
  | .ro ds => some ds
  | .obj i => match m[i]? with
    | some (.lst ds) => some ds
    | some (.fz ds) => some ds
    | _ => none
  | _ => none
/-- a list that is tracked (not the script) -/
def asT (w : W) (m : Mem) : Option (List D) :=
  match w with
  | .ro _ => none
  | w => asL w m
def asD (w : W) (m : Mem) : Option D :=
  match w with
  | .d x => some x
  | w => (asL w m).map PyData.list
section
variable {K : PySem.W.Frag} {G : Wd} {m : Mem} {H0 : Hp} {v : V} {w : W}
theorem asT_sq (R : RelM K G m) (h : RepR K H0 G v w) {ds : List D} (e : asT w m = some ds) : ∃ a vs, v = .ref a ∧ G.H a = some (.lst vs) ∧ Reps K G.lv G.H vs ds := by
  cases w with
  | d x =>
    cases x with
    | list xs =>
      have e : xs = ds := by simpa [asT, asL] using e
      subst e
      cases h with
      | lst h r => exact ⟨_, _, rfl, h.2, r⟩
    | _ => simp [asT, asL] at e
  | fl xs =>
    have e : xs = ds := by simpa [asT, asL] using e
    subst e
    obtain ⟨p, vs, e, _, _, _, h3, r⟩ := h
    exact ⟨p, vs, e, h3, r⟩
  | ro xs => simp [asT] at e
  | obj i =>
    obtain ⟨a, h1, h2⟩ := h
    simp only [asT, asL] at e
    cases q : m[i]? with
    | none => rw [q] at e; cases e
    | some o =>
      rw [q] at e
      have ob := R.ob i a o h1 q
      cases o with
      | lst xs => cases e; obtain ⟨_, vs, h3, r⟩ := ob; exact ⟨a, vs, h2, h3, r⟩
      | fz xs => cases e; obtain ⟨_, vs, h3, r⟩ := ob; exact ⟨a, vs, h2, h3, r⟩
      | _ => cases e
  | pr x i => simp [asT, asL] at e
theorem asL_sq (R : RelM K G m) (h : RepR K H0 G v w) {ds : List D} (e : asL w m = some ds) : ∃ a vs, v = .ref a ∧ SqL K G.H a vs ∧ Reps K G.lv G.H vs ds := by
  cases w with
  | ro xs =>
    have e : xs = ds := by simpa [asL] using e
    subst e
    obtain ⟨a, vs, h1, h2, h3⟩ := h
    exact ⟨a, vs, h1, h2.sq, h3⟩
  | d x => obtain ⟨a, vs, h1, h2, h3⟩ := asT_sq (w := .d x) R h e; exact ⟨a, vs, h1, .of h2, h3⟩
  | fl x => obtain ⟨a, vs, h1, h2, h3⟩ := asT_sq (w := .fl x) R h e; exact ⟨a, vs, h1, .of h2, h3⟩
  | obj x => obtain ⟨a, vs, h1, h2, h3⟩ := asT_sq (w := .obj x) R h e; exact ⟨a, vs, h1, .of h2, h3⟩
  | pr x i => simp [asL] at e
theorem asD_dp (R : RelM K G m) (h : RepR K H0 G v w) {x : D} (e : asD w m = some x) (cl : nD x = true) : Dp K G.H v x := by
  have lst : ∀ ds, nD (.list ds) = true → asL w m = some ds → Dp K G.H v (.list ds) := fun ds cl e => by
    obtain ⟨a, vs, rfl, h2, h3⟩ := asL_sq R h e
    exact .lst h2 (h3.dp cl)
  have go : (asL w m).map PyData.list = some x → Dp K G.H v x := fun e => by
    cases q : asL w m with
    | none => rw [q] at e; cases e
    | some ds => rw [q] at e; cases e; exact lst ds cl q
  cases w with
  | pr y i => exact go e
  | d y => cases e; exact Rep.dp h cl
  | obj i => exact go e
  | fl i => exact go e
  | ro i => exact go e
end
section
variable {X : Cx} {Wx : WX}
/-- an end without a change -/
theorem fin {σ : St} {G : Wd} {m : Mem} {Q : VK} {w : W} {v : V} (R : RelM X.K G m) (h : GPost X Wx σ G (RepR X.K) (.ok w m) Q) (r : RepR X.K G.H G v w) : Q v G.H := h v G (Le.refl R) R r
theorem finD {σ : St} {G : Wd} {m : Mem} {Q : VK} {x : D} {v : V} (R : RelM X.K G m) (h : GPost X Wx σ G (RepR X.K) (.ok (.d x) m) Q) (r : Rep X.K G.lv G.H v x) : Q v G.H := h v G (Le.refl R) R r
/-- a new tuple -/
theorem finT {σ : St} {G : Wd} {m : Mem} {Q : VK} {ds : List D} {vs : List V} {p : Addr} (R : RelM X.K G m) (h : GPost X Wx σ G (RepR X.K) (.ok (.d (.tuple ds)) m) Q) (r : Reps X.K G.lv G.H vs ds) (hp : G.H p = none) : Q (.ref p) (upd G.H p (.tup vs)) := by
  have le : Le G ⟨G.io, G.lv, upd G.H p (.tup vs)⟩ := Le.new R hp
  exact h (.ref p) _ le (R.new hp) (Rep.tup (.inl ⟨(R.ne hp).2, upd_same⟩) (Reps.mono le.mo r))
/-- a new list -/
theorem finL {σ : St} {G : Wd} {m : Mem} {Q : VK} {ds : List D} {vs : List V} {p : Addr} (R : RelM X.K G m) (h : GPost X Wx σ G (RepR X.K) (.ok (.fl ds) m) Q) (r : Reps X.K G.lv G.H vs ds) (hp : G.H p = none) : Q (.ref p) (upd G.H p (.lst vs)) := by
  have le : Le G ⟨G.io, p :: G.lv, upd G.H p (.lst vs)⟩ := Le.newL R hp
  exact h (.ref p) _ le (R.newL hp) ⟨p, vs, rfl, hp, (R.ne hp).1, List.mem_cons_self, upd_same, Reps.mono le.mo r⟩
/-! ### names, constants -/
def eVar (i : Nat) (env : Env) (m : Mem) : Res W := match env[i]? with
  | some (some w) => .ok w m
  | _ => .bad
def eC (x : D) (_ : Env) (m : Mem) : Res W := .ok (.d x) m
theorem me_var (i : Nat) {x : Str} {pos : Pos} (hN : X.N[i]? = some x := by rfl) (hv : Vis X.env.scope x := by first | exact Or.inl rfl | exact Or.inr (Or.inl rfl) | exact Or.inr (Or.inr rfl)) (hd : (x == ("__debug__" : Str)) = false := by decide)
    (hcd : (x == ("__classdict__" : Str)) = false := by decide) : ME X Wx (.Name x pos) (eVar i) := by
  refine ⟨_, pe_var hN hv hd hcd, fun env m σ G Q S R h => ?_⟩
  unfold eVar at h
  cases e : env[i]? with
  | none => rw [e] at h; exact False.elim h
  | some o =>
    cases o with
    | none => rw [e] at h; exact False.elim h
    | some w =>
      rw [e] at h
      obtain ⟨v, h1, h2⟩ := S.get i w e
      exact ⟨v, h1, fin R h h2.r⟩
theorem me_int {i : Int} {j pos} : ME X Wx (.Constant (.int i) j pos) (eC (.int i)) := ⟨_, pe_int, fun env m σ G Q S R h => finD R h (.int i)⟩
theorem me_str {i : Str} {j pos} : ME X Wx (.Constant (.str i) j pos) (eC (.str i)) := ⟨_, pe_str, fun env m σ G Q S R h => finD R h (.str i)⟩
theorem me_bl {i : Bool} {j pos} : ME X Wx (.Constant (.bool i) j pos) (eC (.bool i)) := ⟨_, pe_bl, fun env m σ G Q S R h => finD R h (.bl i)⟩
theorem me_non {j pos} : ME X Wx (.Constant .none j pos) (eC .none) := ⟨_, pe_non, fun env m σ G Q S R h => finD R h .non⟩
/-! ### operators -/
def OpOk (X : Cx) (Wx : WX) (r : R2) (g : W → W → Mem → Res W) : Prop :=
  ∀ (σ : St) (G : Wd) (m : Mem) (v u : V) (x y : W) (H0 H1 : Hp) (Q : VK), RelM X.K G m → RepR X.K H0 G v x → RepR X.K H1 G u y → GPost X Wx σ G (RepR X.K) (g x y m) Q → r v u G.H Q
def eOp (g : W → W → Mem → Res W) (a b : EF) (env : Env) (m : Mem) : Res W := (a env m).bind fun x m1 => (b env m1).bind fun y m2 => g x y m2
theorem two {a b : Expr} {ta tb : TE} {fa fb : EF} {g : W → W → Mem → Res W} {r : R2} (hg : OpOk X Wx r g) (qa : ∀ env m σ G Q, RelS X.K G σ env → RelM X.K G m → GPost X Wx σ G (RepR X.K) (fa env m) Q → ta σ G.H Q)
    (qb : ∀ env m σ G Q, RelS X.K G σ env → RelM X.K G m → GPost X Wx σ G (RepR X.K) (fb env m) Q → tb σ G.H Q) (env : Env) (m : Mem) (σ : St) (G : Wd) (Q : VK) (S : RelS X.K G σ env) (R : RelM X.K G m)
    (h : GPost X Wx σ G (RepR X.K) (eOp g fa fb env m) Q) : tOp r ta tb σ G.H Q := by
  refine qa env m σ G _ S R (GPost.bind weakR h fun x m1 v G1 le1 R1 q1 h1 => ?_)
  refine qb env m1 σ G1 _ (S.mono le1) R1 (GPost.bind weakR h1 fun y m2 u G2 le2 R2 q2 h2 => ?_)
  exact hg σ G2 m2 v u x y _ _ Q R2 (q1.mono le2) q2 h2
theorem me_op {op : Operator} {r : R2} {g : W → W → Mem → Res W} {a b : Expr} {fa fb : EF} {pos : Pos} (ho : OpR X (binaryOp op) r) (hg : OpOk X Wx r g) (ha : ME X Wx a fa) (hb : ME X Wx b fb) : ME X Wx (.BinOp a op b pos) (eOp g fa fb) := by
  obtain ⟨ta, pa, qa⟩ := ha
  obtain ⟨tb, pb, qb⟩ := hb
  exact ⟨_, pe_op ho pa pb, fun env m σ G Q S R h => two (a := a) (b := b) hg qa qb env m σ G Q S R h⟩
theorem me_cmp {op : CmpOp} {r : R2} {g : W → W → Mem → Res W} {a b : Expr} {fa fb : EF} {pos : Pos} (ho : OpR X (compareOp op) r) (hg : OpOk X Wx r g) (ha : ME X Wx a fa) (hb : ME X Wx b fb) (hm : behindInMarks op b = false := by first | exact nomark _ | with_unfolding_all rfl) :
    ME X Wx (.Compare a [op] [b] pos) (eOp g fa fb) := by
  obtain ⟨ta, pa, qa⟩ := ha
  obtain ⟨tb, pb, qb⟩ := hb
  exact ⟨_, pe_cmpR ho pa pb hm, fun env m σ G Q S R h => two (a := a) (b := b) hg qa qb env m σ G Q S R h⟩
/-- a value as a bool -/
def tBool (f : EF) (env : Env) (m : Mem) : Res Bool := (f env m).bind fun w m1 => match w with
  | .d (.bool b) => .ok b m1
  | _ => .bad
theorem boolQ {σ : St} {G : Wd} {r : Res W} {Q : Bool → Hp → Prop} (h : GPost X Wx σ G relEq (r.bind fun w m1 => match w with | .d (.bool b) => .ok b m1 | _ => .bad) Q) : GPost X Wx σ G (RepR X.K) r (fun x H' => ∃ k, x = .bl k ∧ Q k H') := by
  refine GPost.bind weakEq h fun w m1 v G1 le1 R1 q1 h1 => ?_
  cases w with
  | d x =>
    cases x with
    | bool b => cases q1; exact ⟨b, rfl, h1 b G1 (Le.refl R1) R1 rfl⟩
    | _ => exact False.elim h1
  | _ => exact False.elim h1
theorem mt_cmp {op : CmpOp} {r : R2} {g : W → W → Mem → Res W} {a b : Expr} {fa fb : EF} {pos : Pos} (ho : OpR X (compareOp op) r) (hg : OpOk X Wx r g) (ha : ME X Wx a fa) (hb : ME X Wx b fb) (hm : behindInMarks op b = false := by first | exact nomark _ | with_unfolding_all rfl) :
    MT X Wx (.Compare a [op] [b] pos) (tBool (eOp g fa fb)) := by
  obtain ⟨ta, pa, qa⟩ := ha
  obtain ⟨tb, pb, qb⟩ := hb
  exact ⟨_, pt_cmpR ho pa pb hm, fun env m σ G Q S R h => two (a := a) (b := b) hg qa qb env m σ G _ S R (boolQ h)⟩
/-- a < b < c -/
def eChain (g g' : W → W → Mem → Res W) (a b c : EF) (env : Env) (m : Mem) : Res W := (a env m).bind fun x m1 => (b env m1).bind fun y m2 => (g x y m2).bind fun z m3 => match z with
  | .d (.bool true) => (c env m3).bind fun u m4 => g' y u m4
  | .d (.bool false) => .ok (.d (.bool false)) m3
  | _ => .bad
/-! ### tests -/
def truW (w : W) (m : Mem) : Option Bool :=
  match w with
  | .d .none => some false
  | .d (.bool b) => some b
  | .d (.int i) => some (i != 0)
  | .d (.str x) => if x.length ≤ sizeLine then some ((x.length : Int) != 0) else none
  | .d (.tuple ds) => some (!ds.isEmpty)
  | w => (asL w m).map fun ds => !ds.isEmpty
def tTru (f : EF) (env : Env) (m : Mem) : Res Bool := (f env m).bind fun w m1 => match truW w m1 with
  | some b => .ok b m1
  | none => .bad
theorem Reps.isEmpty {K : PySem.W.Frag} {lv : List Addr} {H : Hp} {vs : List V} {ds : List D} (r : Reps K lv H vs ds) : vs.isEmpty = ds.isEmpty := by cases r <;> rfl
theorem truW_ok {G : Wd} {m : Mem} {H0 : Hp} {v : V} {w : W} {b : Bool} (R : RelM X.K G m) (h : RepR X.K H0 G v w) (e : truW w m = some b) : TruV X.K v G.H b := by
  have lst : (asL w m).map (fun ds => !ds.isEmpty) = some b → TruV X.K v G.H b := fun e => by
    cases q : asL w m with
    | none => rw [q] at e; cases e
    | some ds =>
      rw [q] at e
      cases e
      obtain ⟨a, vs, rfl, h2, h3⟩ := asL_sq R h q
      exact .inl ⟨vs, h2, by rw [h3.isEmpty]⟩
  cases w with
  | d x =>
    cases x with
    | none => cases e; cases h; exact rfl
    | bool c => cases e; cases h; exact rfl
    | int i => cases e; cases h; exact rfl
    | str z =>
      cases h
      simp only [truW] at e
      split at e
      · rename_i hz
        cases e
        exact ⟨hz, rfl⟩
      · cases e
    | tuple ds =>
      cases e
      cases h with
      | tup h r => exact .inr (.inl ⟨_, h.sq, by rw [r.isEmpty]⟩)
    | list ds => exact lst e
    | dict kvs => exact lst e
  | obj i => exact lst e
  | fl i => exact lst e
  | ro i => exact lst e
  | pr x i => exact lst e
theorem mt_tru {a : Expr} {f : EF} (ha : ME X Wx a f) (he : ∀ whole, isTrue a X.env whole = (do let v ← whole; standAt a.pos; holding [v] (truthy v)) := by intro _; rfl) : MT X Wx a (tTru f) := by
  obtain ⟨ta, pa, qa⟩ := ha
  refine ⟨_, pt_truth pa he, fun env m σ G Q S R h => qa env m σ G _ S R (GPost.bind weakEq h fun w m1 v G1 le1 R1 q1 h1 => ?_)⟩
  cases e : truW w m1 with
  | none => rw [e] at h1; exact False.elim h1
  | some b => rw [e] at h1; exact ⟨b, truW_ok R1 q1 e, h1 b G1 (Le.refl R1) R1 rfl⟩
def tAndF (a b : TF) (env : Env) (m : Mem) : Res Bool := (a env m).bind fun x m1 => if x = true then b env m1 else .ok false m1
def tOrF (a b : TF) (env : Env) (m : Mem) : Res Bool := (a env m).bind fun x m1 => if x = true then .ok true m1 else b env m1
def tNotF (a : TF) (env : Env) (m : Mem) : Res Bool := (a env m).bind fun x m1 => .ok (!x) m1
theorem MP.mt {e : Expr} {f : TF} (h : MP X Wx e f) : MT X Wx e f := let ⟨t, p, q⟩ := h; ⟨t, p.pt, q⟩
theorem mp_and1 {a : Expr} {f : TF} {pos : Pos} (h : MT X Wx a f) : MP X Wx (.BoolOp .And [a] pos) f := let ⟨t, p, q⟩ := h; ⟨t, pw_and1 p, q⟩
theorem mp_or1 {a : Expr} {f : TF} {pos : Pos} (h : MT X Wx a f) : MP X Wx (.BoolOp .Or [a] pos) f := let ⟨t, p, q⟩ := h; ⟨t, pw_or1 p, q⟩
theorem mp_and {a b : Expr} {rest : List Expr} {f g : TF} {pos : Pos} (h : MT X Wx a f) (h' : MP X Wx (.BoolOp .And (b :: rest) pos) g) : MP X Wx (.BoolOp .And (a :: b :: rest) pos) (tAndF f g) := by
  obtain ⟨ta, pa, qa⟩ := h
  obtain ⟨tb, pb, qb⟩ := h'
  refine ⟨_, pw_and pa pb, fun env m σ G Q S R h => qa env m σ G _ S R (GPost.bind weakEq h fun b m1 v G1 le1 R1 q1 h1 => ?_)⟩
  rw [show v = b from q1]
  cases b with
  | true => exact iteT (qb env m1 σ G1 Q (S.mono le1) R1 h1)
  | false => exact iteF (h1 false G1 (Le.refl R1) R1 rfl)
theorem mp_or {a b : Expr} {rest : List Expr} {f g : TF} {pos : Pos} (h : MT X Wx a f) (h' : MP X Wx (.BoolOp .Or (b :: rest) pos) g) : MP X Wx (.BoolOp .Or (a :: b :: rest) pos) (tOrF f g) := by
  obtain ⟨ta, pa, qa⟩ := h
  obtain ⟨tb, pb, qb⟩ := h'
  refine ⟨_, pw_or pa pb, fun env m σ G Q S R h => qa env m σ G _ S R (GPost.bind weakEq h fun b m1 v G1 le1 R1 q1 h1 => ?_)⟩
  rw [show v = b from q1]
  cases b with
  | true => exact iteT (h1 true G1 (Le.refl R1) R1 rfl)
  | false => exact iteF (qb env m1 σ G1 Q (S.mono le1) R1 h1)
theorem mt_not {a : Expr} {f : TF} {pos : Pos} (h : MT X Wx a f) : MT X Wx (.UnaryOp .Not a pos) (tNotF f) := by
  obtain ⟨ta, pa, qa⟩ := h
  refine ⟨_, pt_not pa, fun env m σ G Q S R h => qa env m σ G _ S R (GPost.bind weakEq h fun b m1 v G1 le1 R1 q1 h1 => ?_)⟩
  rw [show v = b from q1]
  exact h1 (!b) G1 (Le.refl R1) R1 rfl
/-! .. as values -/
def eAnd (a b : EF) (env : Env) (m : Mem) : Res W := (tBool a env m).bind fun x m1 => if x = true then b env m1 else .ok (.d (.bool false)) m1
def eOr (a b : EF) (env : Env) (m : Mem) : Res W := (tBool a env m).bind fun x m1 => if x = true then .ok (.d (.bool true)) m1 else b env m1
def eNot (a : EF) (env : Env) (m : Mem) : Res W := (tBool a env m).bind fun x m1 => .ok (.d (.bool (!x))) m1
theorem me_one {op} {a : Expr} {f : EF} {pos : Pos} (h : ME X Wx a f) : ME X Wx (.BoolOp op [a] pos) f := let ⟨t, p, q⟩ := h; ⟨t, pe_one p, q⟩
theorem bind_bind {α β γ : Type} (r : Res α) (k : α → Mem → Res β) (k' : β → Mem → Res γ) : (r.bind k).bind k' = r.bind fun a m => (k a m).bind k' := by cases r <;> rfl
theorem me_and {a b : Expr} {rest : List Expr} {f g : EF} {pos : Pos} (h : ME X Wx a f) (h' : ME X Wx (.BoolOp .And (b :: rest) pos) g) : ME X Wx (.BoolOp .And (a :: b :: rest) pos) (eAnd f g) := by
  obtain ⟨ta, pa, qa⟩ := h
  obtain ⟨tb, pb, qb⟩ := h'
  refine ⟨_, pe_and pa pb, fun env m σ G Q S R h => ?_⟩
  unfold eAnd tBool at h
  rw [bind_bind] at h
  refine qa env m σ G _ S R (GPost.bind weakR h fun w m1 v G1 le1 R1 q1 h1 => ?_)
  cases w with
  | d x =>
    cases x with
    | bool c =>
      cases q1
      refine ⟨c, rfl, ?_⟩
      cases c with
      | true => exact iteT (qb env m1 σ G1 Q (S.mono le1) R1 h1)
      | false => exact iteF (finD R1 h1 (.bl false))
    | _ => exact False.elim h1
  | _ => exact False.elim h1
theorem me_not {a : Expr} {f : EF} {pos : Pos} (h : ME X Wx a f) : ME X Wx (.UnaryOp .Not a pos) (eNot f) := by
  obtain ⟨ta, pa, qa⟩ := h
  refine ⟨_, pe_not pa, fun env m σ G Q S R h => ?_⟩
  unfold eNot tBool at h
  rw [bind_bind] at h
  refine qa env m σ G _ S R (GPost.bind weakR h fun w m1 v G1 le1 R1 q1 h1 => ?_)
  cases w with
  | d x =>
    cases x with
    | bool c => cases q1; exact ⟨c, rfl, finD R1 h1 (.bl (!c))⟩
    | _ => exact False.elim h1
  | _ => exact False.elim h1
/-! ### fresh lists: as data, as objects -/
def eFrz (f : EF) (env : Env) (m : Mem) : Res W := (f env m).bind fun w m1 => match w with
  | .fl ds => .ok (.d (.list ds)) m1
  | w => .ok w m1
def eObj (f : EF) (env : Env) (m : Mem) : Res W := (f env m).bind fun w m1 => match w with
  | .fl ds => .ok (.obj m1.length) (m1 ++ [.lst ds])
  | w => .ok w m1
theorem GPost.bind0 {σ : St} {G : Wd} {α β α' β' : Type} {rel : Hp → Wd → β → α → Prop} {rel' : Hp → Wd → β' → α' → Prop} {r : Res α} {k : α → Mem → Res α'} {Q : β → Hp → Prop} {Q' : β' → Hp → Prop}
    (h : GPost X Wx σ G rel' (r.bind k) Q')
    (hk : ∀ a m v G1, Le G G1 → RelM X.K G1 m → rel G.H G1 v a → GPost X Wx σ G rel' (k a m) Q' → Q v G1.H) : GPost X Wx σ G rel r Q := by
  cases r with
  | ok a m => exact fun v G1 le R q => hk a m v G1 le R q h
  | err e m => exact h
  | bad => exact h
theorem GPost.bind1 {σ : St} {G G1 : Wd} {α β α' β' : Type} {rel : Hp → Wd → β → α → Prop} {rel' : Hp → Wd → β' → α' → Prop} {r : Res α} {k : α → Mem → Res α'} {Q : β → Hp → Prop} {Q' : β' → Hp → Prop}
    (h : GPost X Wx σ G rel' (r.bind k) Q') (le : Le G G1)
    (hk : ∀ a m v G2, Le G1 G2 → RelM X.K G2 m → rel G1.H G2 v a → GPost X Wx σ G rel' (k a m) Q' → Q v G2.H) : GPost X Wx σ G1 rel r Q := by
  cases r with
  | ok a m => exact fun v G2 l R q => hk a m v G2 l R q h
  | err e m => exact fun c d G' l R q => h c d G' (le.trans l) R q
  | bad => exact h
theorem frzQ {σ : St} {G : Wd} {Q : VK} {r : Res W} (h : GPost X Wx σ G (RepR X.K) (r.bind fun w m1 => match w with | .fl ds => .ok (.d (.list ds)) m1 | w => .ok w m1) Q) : GPost X Wx σ G (RepR X.K) r Q := by
  refine GPost.bind0 h fun w m1 v G1 le1 R1 q1 h1 => ?_
  cases w with
  | fl ds =>
    obtain ⟨p', vs, rfl, h0, n1, l1, e1, r1⟩ := q1
    exact h1 (.ref p') (G1.drop p') (le1.drop h0) (R1.drop n1) (RepR.drop (v := .ref p') (H0 := G.H) e1 r1)
  | d x => exact h1 v G1 le1 R1 q1
  | obj x => exact h1 v G1 le1 R1 q1
  | ro x => exact h1 v G1 le1 R1 q1
  | pr x i => exact h1 v G1 le1 R1 q1
theorem objQ {σ : St} {G : Wd} {Q : VK} {r : Res W} (h : GPost X Wx σ G (RepR X.K) (r.bind fun w m1 => match w with | .fl ds => .ok (.obj m1.length) (m1 ++ [.lst ds]) | w => .ok w m1) Q) : GPost X Wx σ G (RepR X.K) r Q := by
  refine GPost.bind0 h fun w m1 v G1 le1 R1 q1 h1 => ?_
  cases w with
  | fl ds =>
    obtain ⟨p', vs, rfl, h0, n1, l1, e1, r1⟩ := q1
    refine h1 (.ref p') (G1.own p') (le1.own h0) (R1.own n1 (by rw [e1]; simp) ⟨l1, vs, e1, r1⟩ rfl) ⟨p', ?_, rfl⟩
    show (G1.io ++ [p'])[m1.length]? = some p'
    rw [← R1.len]; simp
  | d x => exact h1 v G1 le1 R1 q1
  | obj x => exact h1 v G1 le1 R1 q1
  | ro x => exact h1 v G1 le1 R1 q1
  | pr x i => exact h1 v G1 le1 R1 q1
theorem me_frz {e : Expr} {f : EF} (h : ME X Wx e f) : ME X Wx e (eFrz f) := by
  obtain ⟨t, p, q⟩ := h
  exact ⟨t, p, fun env m σ G Q S R h => q env m σ G Q S R (frzQ h)⟩
theorem me_obj {e : Expr} {f : EF} (h : ME X Wx e f) : ME X Wx e (eObj f) := by
  obtain ⟨t, p, q⟩ := h
  exact ⟨t, p, fun env m σ G Q S R h => q env m σ G Q S R (objQ h)⟩
/-! ### argument lists, tuples, lists -/
def aNil (_ : Env) (m : Mem) : Res (List W) := .ok [] m
def aCons (a : EF) (r : AF) (env : Env) (m : Mem) : Res (List W) := (a env m).bind fun x m1 => (r env m1).bind fun xs m2 => .ok (x :: xs) m2
theorem ma_nil : MA X Wx [] aNil := ⟨_, pa_nil, fun env m σ G Q S R h => h [] G (Le.refl R) R .nil⟩
theorem ma_cons {e : Expr} {es : List Expr} {f : EF} {g : AF} (ha : ME X Wx e f) (hr : MA X Wx es g) (hs : starEach (e :: es) X.env = (false, eval e X.env) :: starEach es X.env := by rfl) : MA X Wx (e :: es) (aCons f g) := by
  obtain ⟨ta, pa, qa⟩ := ha
  obtain ⟨tr, pr, qr⟩ := hr
  refine ⟨_, pa_cons pa pr hs, fun env m σ G Q S R h => qa env m σ G _ S R (GPost.bind0 h fun x m1 v G1 le1 R1 q1 h1 => ?_)⟩
  refine qr env m1 σ G1 _ (S.mono le1) R1 (GPost.bind1 h1 le1 fun xs m2 vs G2 le2 R2 q2 h2 => ?_)
  exact h2 (v :: vs) G2 (le1.trans le2) R2 (.cons (q1.mono le2) (Paired.mono (fun _ _ z => z.weak le1.tr) q2))
/-- the data of a list of values -/
def asDs : List W → Option (List D)
  | [] => some []
  | .d x :: r => (asDs r).map (x :: ·)
  | _ :: _ => none
theorem asDs_reps {K : PySem.W.Frag} {H0 : Hp} {G : Wd} : ∀ {vs : List V} {ws : List W} {ds : List D}, RepRs K H0 G vs ws → asDs ws = some ds → Reps K G.lv G.H vs ds
  | _, [], ds, .nil, e => by cases e; exact .nil
  | _, .d x :: r, ds, .cons h t, e => by
    simp only [asDs] at e
    cases q : asDs r with
    | none => rw [q] at e; cases e
    | some es => rw [q] at e; cases e; exact .cons h (asDs_reps t q)
  | _, .obj _ :: _, _, .cons _ _, e => by cases e
  | _, .fl _ :: _, _, .cons _ _, e => by cases e
  | _, .ro _ :: _, _, .cons _ _, e => by cases e
def eTup (a : AF) (env : Env) (m : Mem) : Res W := (a env m).bind fun ws m1 => match asDs ws with
  | some ds => if ds.length ≤ sizeLine then .ok (.d (.tuple ds)) m1 else .bad
  | none => .bad
def eLst (a : AF) (env : Env) (m : Mem) : Res W := (a env m).bind fun ws m1 => match asDs ws with
  | some ds => if ds.length ≤ sizeLine then .ok (.fl ds) m1 else .bad
  | none => .bad
theorem me_tup {es : List Expr} {f : AF} {x1} {pos : Pos} (h : MA X Wx es f) : ME X Wx (.Tuple es x1 pos) (eTup f) := by
  obtain ⟨t, p, q⟩ := h
  refine ⟨_, pe_tup p, fun env m σ G Q S R h => q env m σ G _ S R (GPost.bind weakR h fun ws m1 vs G1 le1 R1 q1 h1 => ?_)⟩
  cases e : asDs ws with
  | none => rw [e] at h1; exact False.elim h1
  | some ds =>
    rw [e] at h1
    have r := asDs_reps q1 e
    by_cases hz : ds.length ≤ sizeLine
    · simp only [hz, if_true] at h1
      exact ⟨by rw [r.length]; exact hz, fun p hp => finT R1 h1 r hp⟩
    · simp only [hz, if_false] at h1
      exact False.elim h1
theorem me_lst {es : List Expr} {f : AF} {pos : Pos} (h : MA X Wx es f) : ME X Wx (.List es pos) (eLst f) := by
  obtain ⟨t, p, q⟩ := h
  refine ⟨_, pe_lst p, fun env m σ G Q S R h => q env m σ G _ S R (GPost.bind weakR h fun ws m1 vs G1 le1 R1 q1 h1 => ?_)⟩
  cases e : asDs ws with
  | none => rw [e] at h1; exact False.elim h1
  | some ds =>
    rw [e] at h1
    have r := asDs_reps q1 e
    by_cases hz : ds.length ≤ sizeLine
    · simp only [hz, if_true] at h1
      exact ⟨by rw [r.length]; exact hz, fun p hp => finL R1 h1 r hp⟩
    · simp only [hz, if_false] at h1
      exact False.elim h1
/-! ### calls of built-ins -/
def CallOk (X : Cx) (Wx : WX) (r : List V → Hp → VK → Prop) (g : List W → Mem → Res W) : Prop :=
  ∀ (σ : St) (G : Wd) (m : Mem) (vs : List V) (ws : List W) (H0 : Hp) (Q : VK), RelM X.K G m → RepRs X.K H0 G vs ws → GPost X Wx σ G (RepR X.K) (g ws m) Q → r vs G.H Q
def eCall (g : List W → Mem → Res W) (a : AF) (env : Env) (m : Mem) : Res W := (a env m).bind g
theorem me_callB {id : String} {x : Str} {p pos : Pos} {e : Expr} {es : List Expr} {r : List V → Hp → VK → Prop} {g : List W → Mem → Res W} {f : AF} (hc : CallR X (.builtin id) r) (hk : CallOk X Wx r g) (hg : Gl X x) (hm : X.mg x = none) (ha : MA X Wx (e :: es) f)
    (hv : bootBuiltins x = some (.builtin id) := by decide +kernel) (hn : x ≠ "__name__" := by decide) (hdb : (x == ("__debug__" : Str)) = false := by decide)
    (he : starEach (e :: es) X.env = (false, eval e X.env) :: starEach es X.env := by rfl) (hpl : (backTo pos (starEach es X.env)).any (·.1) = false := by rfl) : ME X Wx (.Call (.Name x p) (e :: es) [] pos) (eCall g f) := by
  obtain ⟨t, pa, qa⟩ := ha
  refine ⟨_, pe_callB hc hg hm hv pa hn hdb he hpl, fun env m σ G Q S R h => qa env m σ G _ S R (GPost.bind weakR h fun ws m1 vs G1 le1 R1 q1 h1 => ?_)⟩
  exact hk σ G1 m1 vs ws _ Q R1 q1 h1
/-! ### subscripts -/
theorem me_ix {r : R2} {g : W → W → Mem → Res W} {a b : Expr} {fa fb : EF} {pos : Pos} (hr : IxR X r) (hg : OpOk X Wx r g) (ha : ME X Wx a fa) (hb : ME X Wx b fb) (hs : PlainIx b := by exact fun _ _ => rfl) : ME X Wx (.Subscript a b pos) (eOp g fa fb) := by
  obtain ⟨ta, pa, qa⟩ := ha
  obtain ⟨tb, pb, qb⟩ := hb
  exact ⟨_, pe_ix hr pa pb hs, fun env m σ G Q S R h => two (a := a) (b := b) hg qa qb env m σ G Q S R h⟩
/-! ### slices -/
abbrev OF := Env → Mem → Res (Option Int)
def MO (X : Cx) (Wx : WX) (e : Option Expr) (f : OF) : Prop :=
  ∃ t, PO X e t ∧ ∀ env m σ G Q, RelS X.K G σ env → RelM X.K G m → GPost X Wx σ G relEq (f env m) Q → t σ G.H Q
def oNone (_ : Env) (m : Mem) : Res (Option Int) := .ok none m
def oSome (f : EF) (env : Env) (m : Mem) : Res (Option Int) := (f env m).bind fun w m1 => match w with
  | .d (.int i) => .ok (some i) m1
  | _ => .bad
theorem mo_none : MO X Wx none oNone := ⟨_, po_none, fun env m σ G Q S R h => h none G (Le.refl R) R rfl⟩
theorem mo_some {e : Expr} {f : EF} (h : ME X Wx e f) : MO X Wx (some e) (oSome f) := by
  obtain ⟨t, p, q⟩ := h
  refine ⟨_, po_some p, fun env m σ G Q S R h => q env m σ G _ S R (GPost.bind weakEq h fun w m1 v G1 le1 R1 q1 h1 => ?_)⟩
  cases w with
  | d x =>
    cases x with
    | int i => cases q1; exact ⟨i, rfl, h1 (some i) G1 (Le.refl R1) R1 rfl⟩
    | _ => exact False.elim h1
  | _ => exact False.elim h1
def SlOk (X : Cx) (Wx : WX) (r : V → Option Int → Option Int → Hp → VK → Prop) (g : W → Option Int → Option Int → Mem → Res W) : Prop :=
  ∀ (σ : St) (G : Wd) (m : Mem) (v : V) (x : W) (lo hi : Option Int) (H0 : Hp) (Q : VK), RelM X.K G m → RepR X.K H0 G v x → GPost X Wx σ G (RepR X.K) (g x lo hi m) Q → r v lo hi G.H Q
def eSl (g : W → Option Int → Option Int → Mem → Res W) (a : EF) (lo hi : OF) (env : Env) (m : Mem) : Res W := (a env m).bind fun x m1 => (lo env m1).bind fun l m2 => (hi env m2).bind fun h m3 => g x l h m3
theorem me_slice {r : V → Option Int → Option Int → Hp → VK → Prop} {g : W → Option Int → Option Int → Mem → Res W} {e : Expr} {lo hi : Option Expr} {f : EF} {fl fh : OF} {p2 pos : Pos} (hr : SlR X r) (hg : SlOk X Wx r g) (he : ME X Wx e f) (hl : MO X Wx lo fl) (hh : MO X Wx hi fh) :
    ME X Wx (.Subscript e (.Slice lo hi none p2) pos) (eSl g f fl fh) := by
  obtain ⟨te, pe, qe⟩ := he
  obtain ⟨tl, pl, ql⟩ := hl
  obtain ⟨th, ph, qh⟩ := hh
  refine ⟨_, pe_slice hr pe pl ph, fun env m σ G Q S R h => qe env m σ G _ S R (GPost.bind weakR h fun x m1 v G1 le1 R1 q1 h1 => ?_)⟩
  refine ql env m1 σ G1 _ (S.mono le1) R1 (GPost.bind weakR h1 fun l m2 l' G2 le2 R2 q2 h2 => ?_)
  refine qh env m2 σ G2 _ ((S.mono le1).mono le2) R2 (GPost.bind weakR h2 fun k m3 k' G3 le3 R3 q3 h3 => ?_)
  have q2 : l' = l := q2
  have q3 : k' = k := q3
  rw [q2, q3]
  exact hg σ G3 m3 v x l k _ Q R3 (q1.mono (le2.trans le3)) h3
/-! ### methods of built-in types -/
end
end M
set_option Elab.async false
set_option linter.all false
set_option maxRecDepth 100000
namespace M
open PySem L2
variable [HasW]
section
variable {X : Cx} {Wx : WX}
/-! ### + -/
def addW (x y : W) (m : Mem) : Res W :=
  match x, y with
  | .d (.int i), .d (.int j) => .ok (.d (.int (i + j))) m
  | .d (.str a), .d (.str b) => if a.length + b.length ≤ sizeLine then .ok (.d (.str (a ++ b))) m else .bad
  | .d (.tuple a), .d (.tuple b) => if a.length + b.length ≤ sizeLine then .ok (.d (.tuple (a ++ b))) m else .bad
  | x, y => match asT x m, asT y m with
    | some a, some b => if a.length + b.length ≤ sizeLine then .ok (.fl (a ++ b)) m else .bad
    | _, _ => .bad
theorem Reps.nil_iff {K : PySem.W.Frag} {lv : List Addr} {H : Hp} {vs : List V} {ds : List D} (r : Reps K lv H vs ds) : vs = [] ↔ ds = [] := by
  cases r with
  | nil => simp
  | cons _ _ => simp
/-! ### ints -/
/-- a condition that no reduction opens -/
noncomputable def grd (p : Prop) : Bool := @decide p (Classical.propDecidable p)
theorem grd_iff {p : Prop} : grd p = true ↔ p := by
  unfold grd
  exact ⟨fun h => @of_decide_eq_true p (Classical.propDecidable p) h, fun h => @decide_eq_true p (Classical.propDecidable p) h⟩
theorem grd_t {p : Prop} (h : p) : grd p = true := grd_iff.mpr h
def intW (C : Int → Int → Bool) (g : Int → Int → D) (x y : W) (m : Mem) : Res W :=
  match x, y with
  | .d (.int i), .d (.int j) => if C i j = true then .ok (.d (g i j)) m else .bad
  | _, _ => .bad
theorem intW_ok {C : Int → Int → Bool} {P : Int → Int → Prop} {g : Int → Int → V} {g' : Int → Int → D} (hC : ∀ i j, C i j = true → P i j) (hg : ∀ i j K lv H, Rep K lv H (g i j) (g' i j)) : OpOk X Wx (rI P g) (intW C g') := by
  intro σ G m v u x y H0 H1 Q R rx ry h
  cases x with
  | d x =>
    cases x with
    | int i =>
      cases y with
      | d y =>
        cases y with
        | int j =>
          cases rx; cases ry
          simp only [intW] at h
          by_cases hz : C i j = true
          · simp only [hz, if_true] at h
            exact ⟨i, j, rfl, rfl, hC i j hz, finD R h (hg i j _ _ _)⟩
          · simp only [hz] at h
            exact False.elim h
        | _ => exact False.elim h
      | _ => exact False.elim h
    | _ => exact False.elim h
  | _ => exact False.elim h
def int0W (g : Int → Int → D) (x y : W) (m : Mem) : Res W :=
  match x, y with
  | .d (.int i), .d (.int j) => .ok (.d (g i j)) m
  | _, _ => .bad
theorem int0W_ok {g : Int → Int → V} {g' : Int → Int → D} (hg : ∀ i j K lv H, Rep K lv H (g i j) (g' i j)) : OpOk X Wx (rI0 g) (int0W g') := by
  intro σ G m v u x y H0 H1 Q R rx ry h
  cases x with
  | d x =>
    cases x with
    | int i =>
      cases y with
      | d y =>
        cases y with
        | int j => cases rx; cases ry; exact ⟨i, j, rfl, rfl, finD R h (hg i j _ _ _)⟩
        | _ => exact False.elim h
      | _ => exact False.elim h
    | _ => exact False.elim h
  | _ => exact False.elim h
def subW := int0W fun i j => .int (i - j)
theorem subW_ok : OpOk X Wx (rI0 fun i j => .int (i - j)) subW := int0W_ok fun _ _ _ _ _ => .int _
noncomputable def mulOk (i j : Int) : Bool := grd (((-(2 ^ 64) < i ∧ i < 2 ^ 64) ∨ (-(2 ^ 64) < j ∧ j < 2 ^ 64)) ∨ i.natAbs.log2 + j.natAbs.log2 < 1000000)
noncomputable def mulW := intW mulOk fun i j => .int (i * j)
theorem op_mulA : OpR X (binaryOp .Mult) (rI (fun i j => CMul i j ∨ CMulW i j) fun i j => .int (i * j)) := by
  intro pins s σ H x y v u Q I rx ry h
  obtain ⟨i, j, e1, e2, hc | hc, q⟩ := h
  · exact op_mul pins s σ H x y v u Q I rx ry ⟨i, j, e1, e2, hc, q⟩
  · exact op_mulW pins s σ H x y v u Q I rx ry ⟨i, j, e1, e2, hc, q⟩
theorem mulW_ok : OpOk X Wx (rI (fun i j => CMul i j ∨ CMulW i j) fun i j => .int (i * j)) mulW := intW_ok (fun i j h => by
  have h := grd_iff.mp h
  rcases h with (h | h) | h
  · exact .inl (.inl h)
  · exact .inl (.inr h)
  · exact .inr h) fun _ _ _ _ _ => .int _
noncomputable def divOk (_ j : Int) : Bool := grd (0 < j ∧ j.natAbs.log2 < 9000)
noncomputable def divW := intW divOk fun i j => .int (i / j)
theorem divW_ok : OpOk X Wx (rI CDivW fun i j => .int (i / j)) divW := intW_ok (fun i j h => by
  have h := grd_iff.mp h
  exact ⟨h.1, h.2⟩) fun _ _ _ _ _ => .int _
noncomputable def modOk (_ j : Int) : Bool := grd (0 < j)
noncomputable def modW := intW modOk fun i j => .int (i % j)
theorem modW_ok : OpOk X Wx (rI (fun _ j => 0 < j) fun i j => .int (i % j)) modW := intW_ok (fun i j h => grd_iff.mp h) fun _ _ _ _ _ => .int _
noncomputable def powOk (i j : Int) : Bool := grd (0 ≤ j ∧ j ≤ 1000000 ∧ i.natAbs < 2 ^ 64)
noncomputable def powW := intW powOk fun i j => .int (i ^ j.toNat)
theorem powW_ok : OpOk X Wx (rI CPow fun i j => .int (i ^ j.toNat)) powW := intW_ok (fun i j h => by
  exact grd_iff.mp h) fun _ _ _ _ _ => .int _
def ltW := int0W fun i j => .bool (decide (i < j))
def leW := int0W fun i j => .bool (decide (i ≤ j))
def gtW := int0W fun i j => .bool (decide (j < i))
def geW := int0W fun i j => .bool (decide (j ≤ i))
theorem ltW_ok : OpOk X Wx (rI0 fun i j => .bl (decide (i < j))) ltW := int0W_ok fun _ _ _ _ _ => .bl _
theorem gtW_ok : OpOk X Wx (rI0 fun i j => .bl (decide (j < i))) gtW := int0W_ok fun _ _ _ _ _ => .bl _
/-! ### ==, !=, in -/
def eqW (neg : Bool) (x y : W) (m : Mem) : Res W :=
  match asD x m, asD y m with
  | some a, some b => if (SeqAt.shaped a && SeqAt.shaped b) = true then .ok (.d (.bool (if neg then !PyData.eqv a b else PyData.eqv a b))) m else .bad
  | _, _ => .bad
theorem eqW_ok : OpOk X Wx (rEqD X.K) (eqW false) := by
  intro σ G m v u x y H0 H1 Q R rx ry h
  unfold eqW at h
  cases ex : asD x m with
  | none => rw [ex] at h; exact False.elim h
  | some a =>
    cases ey : asD y m with
    | none => rw [ex, ey] at h; exact False.elim h
    | some b =>
      rw [ex, ey] at h
      by_cases hz : (SeqAt.shaped a && SeqAt.shaped b) = true
      · simp only [hz, if_true] at h
        have hz' := Bool.and_eq_true_iff.mp hz
        exact ⟨a, b, asD_dp R rx ex (nD_of (SeqAt.canLay_of_shaped hz'.1)), asD_dp R ry ey (nD_of (SeqAt.canLay_of_shaped hz'.2)), hz'.1, hz'.2, finD R h (.bl _)⟩
      · simp only [hz] at h
        exact False.elim h
theorem neW_ok : OpOk X Wx (rNeD X.K) (eqW true) := by
  intro σ G m v u x y H0 H1 Q R rx ry h
  unfold eqW at h
  cases ex : asD x m with
  | none => rw [ex] at h; exact False.elim h
  | some a =>
    cases ey : asD y m with
    | none => rw [ex, ey] at h; exact False.elim h
    | some b =>
      rw [ex, ey] at h
      by_cases hz : (SeqAt.shaped a && SeqAt.shaped b) = true
      · simp only [hz, if_true] at h
        have hz' := Bool.and_eq_true_iff.mp hz
        exact ⟨a, b, asD_dp R rx ex (nD_of (SeqAt.canLay_of_shaped hz'.1)), asD_dp R ry ey (nD_of (SeqAt.canLay_of_shaped hz'.2)), hz'.1, hz'.2, finD R h (.bl _)⟩
      · simp only [hz] at h
        exact False.elim h
/-! ### in -/
def flatD : D → Bool
  | .none => true
  | .bool _ => true
  | .int _ => true
  | .str _ => true
  | _ => false
theorem flat_rep {K : PySem.W.Frag} {lv : List Addr} {H : Hp} {v : V} {x : D} (r : Rep K lv H v x) (f : flatD x = true) : flatV v = true := by
  cases r <;> first | rfl | (exact absurd f (by simp [flatD]))
theorem eqV_eqv {K : PySem.W.Frag} {lv : List Addr} {H : Hp} {v u : V} {x y : D} (r : Rep K lv H v x) (q : Rep K lv H u y) (f : flatD x = true) (g : flatD y = true) : eqV v u = PyData.eqv x y := by
  cases r <;> cases q <;> first | rfl | (exact absurd f (by simp [flatD])) | (exact absurd g (by simp [flatD])) | simp [eqV, PyData.eqv]
theorem flats {K : PySem.W.Frag} {lv : List Addr} {H : Hp} : ∀ {vs : List V} {ds : List D}, Reps K lv H vs ds → ds.all flatD = true → vs.all flatV = true
  | _, _, .nil, _ => rfl
  | _, _, .cons h r, f => by
    rw [List.all_cons, Bool.and_eq_true] at f ⊢
    exact ⟨flat_rep h f.1, flats r f.2⟩
theorem inV_any {K : PySem.W.Frag} {lv : List Addr} {H : Hp} {v : V} {x : D} (q : Rep K lv H v x) (fx : flatD x = true) : ∀ {vs : List V} {ds : List D}, Reps K lv H vs ds → ds.all flatD = true → inV v vs = ds.any fun z => PyData.eqv z x
  | _, _, .nil, _ => rfl
  | _, _, .cons h r, f => by
    rw [List.all_cons, Bool.and_eq_true] at f
    have e1 := eqV_eqv h q f.1 fx
    have e2 := inV_any q fx r f.2
    unfold inV at e2 ⊢
    rw [List.any_cons, List.any_cons, e1, e2]
def inS (a b : Str) : Bool := match a.cps.toList with
  | [c] => decide (c ∈ b.cps.toList)
  | _ => !(Builtin.Str.occurrences b a 0 b.length 1).isEmpty
def ngB (neg b : Bool) : Bool := if neg then !b else b
def inW (neg : Bool) (x y : W) (m : Mem) : Res W :=
  match x, y with
  | .d (.str a), .d (.str b) => .ok (.d (.bool (ngB neg (inS a b)))) m
  | .d x, .d (.tuple ds) => if (flatD x && ds.all flatD) = true then .ok (.d (.bool (ngB neg (ds.any fun z => PyData.eqv z x)))) m else .bad
  | x, y => match asD x m, asL y m with
    | some a, some ds => if (SeqAt.shaped a && SeqAt.shaped (.list ds)) = true then .ok (.d (.bool (ngB neg (ds.any fun z => PyData.eqv z a)))) m else .bad
    | _, _ => .bad
def rInA (K : PySem.W.Frag) (neg : Bool) : R2 := fun x y H Q =>
  (∃ i j, x = .str i ∧ y = .str j ∧ Q (.bl (ngB neg (inS i j))) H) ∨
  (∃ p xs, y = .ref p ∧ SqT K H p xs ∧ flatV x = true ∧ xs.all flatV = true ∧ Q (.bl (ngB neg (inV x xs))) H) ∨
  (∃ d ds, Dp K H x d ∧ Dp K H y (.list ds) ∧ SeqAt.shaped d = true ∧ SeqAt.shaped (.list ds) = true ∧ Q (.bl (ngB neg (ds.any fun z => PyData.eqv z d))) H)
theorem one_sign {a : Str} {c : Nat} (h : a.cps.toList = [c]) : a = ⟨#[c]⟩ := by
  cases a with
  | mk cps =>
    have : cps = #[c] := by
      apply Array.ext'
      simpa using h
    rw [this]
theorem op_inA (hu : X.A.units + 65 < cLine) : OpR X (compareOp .In) (rInA X.K false) := by
  intro pins s σ H x y v u Q I rx ry h
  rcases h with ⟨i, j, e1, e2, q⟩ | ⟨p, xs, e1, h1, h2, h3, q⟩ | ⟨d, ds, h1, h2, h3, h4, q⟩
  · have q : Q (.bl (inS i j)) H := q
    unfold inS at q
    split at q
    · rename_i c hc
      exact op_in_sign pins s σ H x y v u Q I rx ry ⟨c, j, by rw [e1, one_sign hc], e2, q⟩
    · exact op_in_str pins s σ H x y v u Q I rx ry ⟨i, j, e1, e2, q⟩
  · exact op_in_seq pins s σ H x y v u Q I rx ry ⟨p, xs, e1, .inr h1, h2, h3, q⟩
  · exact op_inD hu pins s σ H x y v u Q I rx ry ⟨d, ds, h1, h2, h3, h4, q⟩
theorem inL_ok {neg : Bool} {σ : St} {G : Wd} {m : Mem} {v u : V} {x y : W} {H0 H1 : Hp} {Q : VK} (R : RelM X.K G m) (rx : RepR X.K H0 G v x) (ry : RepR X.K H1 G u y)
    (h : GPost X Wx σ G (RepR X.K) (match asD x m, asL y m with | some a, some ds => if (SeqAt.shaped a && SeqAt.shaped (.list ds)) = true then .ok (.d (.bool (ngB neg (ds.any fun z => PyData.eqv z a)))) m else .bad | _, _ => .bad) Q) : rInA X.K neg v u G.H Q := by
  cases ex : asD x m with
  | none => rw [ex] at h; exact False.elim h
  | some a =>
    cases ey : asL y m with
    | none => rw [ex, ey] at h; exact False.elim h
    | some ds =>
      rw [ex, ey] at h
      by_cases hz : (SeqAt.shaped a && SeqAt.shaped (.list ds)) = true
      · simp only [hz, if_true] at h
        have hz' := Bool.and_eq_true_iff.mp hz
        obtain ⟨p, vs, rfl, h1, r1⟩ := asL_sq R ry ey
        exact .inr (.inr ⟨a, ds, asD_dp R rx ex (nD_of (SeqAt.canLay_of_shaped hz'.1)), .lst h1 (r1.dp (show nD (.list ds) = true from nD_of (SeqAt.canLay_of_shaped hz'.2))), hz'.1, hz'.2, finD R h (.bl _)⟩)
      · simp only [hz] at h
        exact False.elim h
theorem inT_ok {neg : Bool} {σ : St} {G : Wd} {m : Mem} {v u : V} {x : D} {ds : List D} {Q : VK} (R : RelM X.K G m) (rx : Rep X.K G.lv G.H v x) (ry : Rep X.K G.lv G.H u (.tuple ds))
    (h : GPost X Wx σ G (RepR X.K) (if (flatD x && ds.all flatD) = true then .ok (.d (.bool (ngB neg (ds.any fun z => PyData.eqv z x)))) m else .bad) Q) : rInA X.K neg v u G.H Q := by
  by_cases hz : (flatD x && ds.all flatD) = true
  · simp only [hz, if_true] at h
    have hz' := Bool.and_eq_true_iff.mp hz
    cases ry with
    | tup t r => exact .inr (.inl ⟨_, _, rfl, t.sq, flat_rep rx hz'.1, flats r hz'.2, by rw [inV_any rx hz'.1 r hz'.2]; exact finD R h (.bl _)⟩)
  · simp only [hz] at h
    exact False.elim h
theorem inW_ok {neg : Bool} : OpOk X Wx (rInA X.K neg) (inW neg) := by
  intro σ G m v u x y H0 H1 Q R rx ry h
  cases x with
  | d x =>
    cases y with
    | d y =>
      cases y with
      | str b =>
        cases x with
        | str a => cases rx; cases ry; exact .inl ⟨a, b, rfl, rfl, finD R h (.bl _)⟩
        | _ => exact inL_ok R rx ry h
      | tuple b => cases x <;> exact inT_ok R rx ry h
      | _ => cases x <;> exact inL_ok R rx ry h
    | _ => cases x <;> exact inL_ok R rx ry h
  | _ => cases y <;> exact inL_ok R rx ry h
/-! ### is None -/
/-! ### items, slices -/
def ixW (x y : W) (m : Mem) : Res W :=
  match x, y with
  | .d (.str z), .d (.int i) => if z.length ≤ sizeLine then (match atI z.cps.toList i with | some c => .ok (.d (.str ⟨#[c]⟩)) m | none => .bad) else .bad
  | .d (.tuple ds), .d (.int i) => (match atI ds i with | some c => .ok (.d c) m | none => .bad)
  | x, .d (.int i) => (match asL x m with | some ds => (match atI ds i with | some c => .ok (.d c) m | none => .bad) | none => .bad)
  | _, _ => .bad
theorem Reps.atI {K : PySem.W.Frag} {lv : List Addr} {H : Hp} {vs : List V} {ds : List D} {i : Int} {c : D} (r : Reps K lv H vs ds) (e : L2.atI ds i = some c) : ∃ v, L2.atI vs i = some v ∧ Rep K lv H v c := by
  unfold L2.atI at e ⊢
  rw [r.length]
  cases q : ixN ds.length i with
  | none => rw [q] at e; cases e
  | some j =>
    rw [q] at e
    exact r.get e
theorem ixL_ok {σ : St} {G : Wd} {m : Mem} {v : V} {x : W} {i : Int} {H0 : Hp} {Q : VK} (R : RelM X.K G m) (rx : RepR X.K H0 G v x)
    (h : GPost X Wx σ G (RepR X.K) (match asL x m with | some ds => (match L2.atI ds i with | some c => .ok (.d c) m | none => .bad) | none => .bad) Q) : rIx X.K v (.int i) G.H Q := by
  cases ex : asL x m with
  | none => rw [ex] at h; exact False.elim h
  | some ds =>
    rw [ex] at h
    obtain ⟨p, vs, rfl, h1, r1⟩ := asL_sq R rx ex
    cases ea : L2.atI ds i with
    | none => simp only [ea] at h; exact False.elim h
    | some c =>
      simp only [ea] at h
      obtain ⟨w, h2, h3⟩ := r1.atI ea
      exact .inl ⟨p, vs, i, w, rfl, rfl, h1, h2, finD R h h3⟩
theorem ixW_ok : OpOk X Wx (rIx X.K) ixW := by
  intro σ G m v u x y H0 H1 Q R rx ry h
  cases y with
  | d y =>
    cases y with
    | int i =>
      cases ry
      cases x with
      | d x =>
        cases x with
        | str z =>
          cases rx
          simp only [ixW] at h
          by_cases hz : z.length ≤ sizeLine
          · simp only [hz, if_true] at h
            cases ea : L2.atI z.cps.toList i with
            | none => simp only [ea] at h; exact False.elim h
            | some c => simp only [ea] at h; exact .inr (.inr ⟨z, i, c, rfl, rfl, hz, ea, finD R h (.str _)⟩)
          · simp only [hz, if_false] at h; exact False.elim h
        | tuple ds =>
          simp only [ixW] at h
          cases rx with
          | @tup p vs _ t r =>
            cases ea : L2.atI ds i with
            | none => simp only [ea] at h; exact False.elim h
            | some c =>
              simp only [ea] at h
              obtain ⟨w, h2, h3⟩ := r.atI ea
              exact .inr (.inl ⟨p, vs, i, w, rfl, rfl, t.sq, h2, finD R h h3⟩)
        | _ => exact ixL_ok R rx h
      | _ => exact ixL_ok R rx h
    | _ => cases x <;> first | exact False.elim h | (rename_i x; cases x <;> exact False.elim h)
  | _ => cases x <;> first | exact False.elim h | (rename_i x; cases x <;> exact False.elim h)
def cutD (xs : List D) (lo hi : Option Int) : List D := (xs.drop (HT.sIx xs.length 0 lo)).take (HT.sIx xs.length xs.length hi - HT.sIx xs.length 0 lo)
theorem Reps.cut {K : PySem.W.Frag} {lv : List Addr} {H : Hp} {vs : List V} {ds : List D} (r : Reps K lv H vs ds) (lo hi : Option Int) : Reps K lv H (cutV vs lo hi) (cutD ds lo hi) := by
  unfold cutV cutD
  rw [r.length]
  exact (r.drop _).take _
def slW (x : W) (lo hi : Option Int) (m : Mem) : Res W :=
  match x with
  | .d (.str z) => if z.length ≤ sizeLine then .ok (.d (.str (cutS z lo hi))) m else .bad
  | .d (.tuple ds) => .ok (.d (.tuple (cutD ds lo hi))) m
  | x => match asL x m with
    | some ds => .ok (.fl (cutD ds lo hi)) m
    | none => .bad
def rSlAll (K : PySem.W.Frag) : V → Option Int → Option Int → Hp → VK → Prop := fun x lo hi H Q => rSlS x lo hi H Q ∨ (rSlA K x lo hi H Q ∨ rSlL K x lo hi H Q)
theorem sl_all : SlR X (rSlAll X.K) := SlR.or sl_str (SlR.or sl_tupA sl_list)
theorem slL_ok {σ : St} {G : Wd} {m : Mem} {v : V} {x : W} {lo hi : Option Int} {H0 : Hp} {Q : VK} (R : RelM X.K G m) (rx : RepR X.K H0 G v x)
    (h : GPost X Wx σ G (RepR X.K) (match asL x m with | some ds => .ok (.fl (cutD ds lo hi)) m | none => .bad) Q) : rSlAll X.K v lo hi G.H Q := by
  cases ex : asL x m with
  | none => rw [ex] at h; exact False.elim h
  | some ds =>
    rw [ex] at h
    obtain ⟨p, vs, rfl, h1, r1⟩ := asL_sq R rx ex
    exact .inr (.inr ⟨p, vs, rfl, h1, fun l hl => finL R h (r1.cut lo hi) hl⟩)
theorem slW_ok : SlOk X Wx (rSlAll X.K) slW := by
  intro σ G m v x lo hi H0 Q R rx h
  cases x with
  | d x =>
    cases x with
    | str z =>
      cases rx
      simp only [slW] at h
      by_cases hz : z.length ≤ sizeLine
      · simp only [hz, if_true] at h
        exact .inl ⟨z, rfl, hz, finD R h (.str _)⟩
      · simp only [hz, if_false] at h; exact False.elim h
    | tuple ds =>
      cases rx with
      | @tup p vs _ t r =>
        refine .inr (.inl ⟨p, vs, rfl, t.sq, fun e => ?_, fun e l hl => finT R h (r.cut lo hi) hl⟩)
        refine finD R h ?_
        have ec : cutD ds lo hi = ds := by
          unfold cutD
          rw [← r.length, e.1, e.2, r.length, Nat.sub_zero, List.drop_zero, List.take_length]
        rw [ec]
        exact .tup t r
    | _ => exact slL_ok R rx h
  | _ => exact slL_ok R rx h
end
end M
set_option Elab.async false
set_option linter.all false
set_option maxRecDepth 100000
namespace M
open PySem L2
variable [HasW]
section
variable {X : Cx} {Wx : WX}
/-! ### from expressions to statements -/
def eS {α : Type} (r : Res α) (env : Env) (k : α → Mem → SRes) : SRes := match r with
  | .ok a m => k a m
  | .err e m => .err e env m
  | .bad => .bad
@[simp] theorem eS_ok {α : Type} (a : α) (m : Mem) (env : Env) (k : α → Mem → SRes) : eS (.ok a m) env k = k a m := rfl
@[simp] theorem eS_err {α : Type} (e : Exn) (m : Mem) (env : Env) (k : α → Mem → SRes) : eS (.err e m) env k = .err e env m := rfl
@[simp] theorem eS_bad {α : Type} (env : Env) (k : α → Mem → SRes) : eS (.bad : Res α) env k = .bad := rfl
theorem SPost.ofE0 {α β : Type} {rel : Hp → Wd → β → α → Prop} {σ : St} {G : Wd} {env : Env} {r : Res α} {k : α → Mem → SRes} {E : Ends} {Q : β → Hp → Prop} (h : SPost X Wx G (eS r env k) E) (S : RelS X.K G σ env)
    (hk : ∀ a m v G1, Le G G1 → RelM X.K G1 m → rel G.H G1 v a → SPost X Wx G (k a m) E → Q v G1.H) : GPost X Wx σ G rel r Q := by
  cases r with
  | ok a m => exact fun v G1 le R q => hk a m v G1 le R q h
  | err e m => exact fun c d G' le R q => h c d σ G' le R (S.mono le) q
  | bad => exact h
theorem SPost.ofE {α β : Type} {rel : Hp → Wd → β → α → Prop} {σ : St} {G : Wd} {env : Env} {r : Res α} {k : α → Mem → SRes} {E : Ends} {Q : β → Hp → Prop} (h : SPost X Wx G (eS r env k) E) (S : RelS X.K G σ env)
    (hk : ∀ a m v G1, Le G G1 → RelM X.K G1 m → rel G.H G1 v a → SPost X Wx G1 (k a m) E → Q v G1.H) : GPost X Wx σ G rel r Q :=
  SPost.ofE0 h S fun a m v G1 le R q hq => hk a m v G1 le R q (hq.later le)
/-! ### blocks -/
def sNx (env : Env) (m : Mem) : SRes := .nx env m
def sSeq (a b : SF) (env : Env) (m : Mem) : SRes := match a env m with
  | .nx e m1 => b e m1
  | r => r
theorem mb_nil : MB X Wx [] sNx := ⟨_, pss_nil, fun env m σ G E S R h => h σ G (Le.refl R) R S⟩
theorem mb_one {st : Stmt} {f : SF} (h : MS X Wx st f) : MB X Wx [st] f := let ⟨t, p, q⟩ := h; ⟨t, pss_one p, q⟩
theorem mb_cons {st : Stmt} {rest : List Stmt} {f g : SF} (h : MS X Wx st f) (h' : MB X Wx rest g) : MB X Wx (st :: rest) (sSeq f g) := by
  obtain ⟨ta, pa, qa⟩ := h
  obtain ⟨tb, pb, qb⟩ := h'
  refine ⟨_, pss_cons pa pb, fun env m σ G E S R h => qa env m σ G _ S R ?_⟩
  unfold sSeq at h
  cases e : f env m with
  | nx e1 m1 => rw [e] at h; exact fun σ' G' le R' S' => qb e1 m1 σ' G' E S' R' (SPost.later h le)
  | bk e1 m1 => rw [e] at h; exact h
  | ct e1 m1 => rw [e] at h; exact h
  | rt w m1 => rw [e] at h; exact h
  | err x e1 m1 => rw [e] at h; exact h
  | bad => rw [e] at h; exact h
def sDrop (f : EF) (env : Env) (m : Mem) : SRes := eS (f env m) env fun _ m1 => .nx env m1
theorem ms_expr {e : Expr} {f : EF} {pos : Pos} (h : ME X Wx e f) (hs : swapsWith e none pos.line X.env = pure false := by rfl) : MS X Wx (.Expr e pos) (sDrop f) := by
  obtain ⟨t, p, q⟩ := h
  exact ⟨_, ps_expr p hs, fun env m σ G E S R h => q env m σ G _ S R (SPost.ofE h S fun a m v G1 le R1 q1 h1 => h1 σ G1 (Le.refl R1) R1 (S.mono le))⟩
def sRet (f : EF) (env : Env) (m : Mem) : SRes := eS (f env m) env fun w m1 => .rt w m1
theorem ms_ret {e : Expr} {f : EF} {pos : Pos} (h : ME X Wx e f) : MS X Wx (.Return (some e) pos) (sRet f) := by
  obtain ⟨t, p, q⟩ := h
  exact ⟨_, ps_ret p, fun env m σ G E S R h => q env m σ G _ S R (SPost.ofE0 h S fun a m v G1 le R1 q1 h1 => h1 v G1 le R1 q1)⟩
def sIf (c : TF) (a b : SF) (env : Env) (m : Mem) : SRes := eS (c env m) env fun t m1 => if t = true then a env m1 else b env m1
theorem ms_if {c : Expr} {a b : List Stmt} {fc : TF} {fa fb : SF} {pos : Pos} (hc : MT X Wx c fc) (ha : MB X Wx a fa) (hb : MB X Wx b fb) : MS X Wx (.If c a b pos) (sIf fc fa fb) := by
  obtain ⟨tc, pc, qc⟩ := hc
  obtain ⟨ta, pa, qa⟩ := ha
  obtain ⟨tb, pb, qb⟩ := hb
  refine ⟨_, ps_if pc pa pb, fun env m σ G E S R h => qc env m σ G _ S R (SPost.ofE h S fun k m1 v G1 le R1 q1 h1 => ?_)⟩
  rw [show v = k from q1]
  cases k with
  | true => exact iteT (qa env m1 σ G1 E (S.mono le) R1 h1)
  | false => exact iteF (qb env m1 σ G1 E (S.mono le) R1 h1)
/-! ### targets -/
abbrev GF := W → Env → Option Env
/-- but for the slots is, the slots stay -/
structure Off (is : List Nat) (σ σ' : St) : Prop where
  len : σ'.length = σ.length
  get : ∀ j, j ∉ is → σ'[j]? = σ[j]?
theorem Off.refl (is : List Nat) (σ : St) : Off is σ σ := ⟨rfl, fun _ _ => rfl⟩
theorem Off.trans {is js : List Nat} {σ σ1 σ2 : St} (a : Off is σ σ1) (b : Off js σ1 σ2) : Off (is ++ js) σ σ2 :=
  ⟨b.len.trans a.len, fun j h => (b.get j fun z => h (List.mem_append_right _ z)).trans (a.get j fun z => h (List.mem_append_left _ z))⟩
def MG (X : Cx) (tg : Expr) (g : GF) (is : List Nat) : Prop :=
  ∃ t, PG X tg t ∧ ∀ w env env' σ (G : Wd) v (Q : St → Hp → Prop), RelS X.K G σ env → RepW X.K G v w → g w env = some env' → (∀ σ', Off is σ σ' → RelS X.K G σ' env' → Q σ' G.H) → t v σ G.H Q
def gSet (i : Nat) (w : W) (env : Env) : Option Env := some (env.set i (some w))
theorem Off.set {σ : St} {v : V} (i : Nat) : Off [i] σ (σ.set i (some v)) := ⟨List.length_set, fun j h => List.getElem?_set_ne fun z => h (by rw [z]; exact List.mem_singleton.mpr rfl)⟩
theorem mg_name (i : Nat) {x : Str} {pos : Pos} (hN : X.N.Nodup) (hi : X.N[i]? = some x := by rfl) (hx : Loc X.env.scope x := by first | exact .inl rfl | exact .inr rfl) (hf : X.fn x = true ∨ X.env.scope.names.lookup x = some .local := by first | exact .inl rfl | exact .inr rfl) : MG X (.Name x pos) (gSet i) [i] :=
  ⟨_, pg_name hN hi hx hf, fun w env env' σ G v Q S r e h => by cases e; exact h _ (Off.set i) (S.set r)⟩
abbrev GsF := List D → Env → Option Env
def MGs (X : Cx) (tg : List Expr) (g : GsF) (is : List Nat) : Prop :=
  ∃ t, PGs X tg t ∧ ∀ ds env env' σ (G : Wd) vs (Q : St → Hp → Prop), RelS X.K G σ env → Reps X.K G.lv G.H vs ds → g ds env = some env' → (∀ σ', Off is σ σ' → RelS X.K G σ' env' → Q σ' G.H) → t vs σ G.H Q
def gsNil (ds : List D) (env : Env) : Option Env := match ds with
  | [] => some env
  | _ :: _ => none
def gsCons (g : GF) (r : GsF) (ds : List D) (env : Env) : Option Env := match ds with
  | [] => none
  | d :: ds => (g (.d d) env).bind fun e => r ds e
theorem mgs_nil : MGs X [] gsNil [] := ⟨_, pgs_nil, fun ds env env' σ G vs Q S r e h => by
  cases r with
  | nil => cases e; exact ⟨rfl, h _ (Off.refl _ _) S⟩
  | cons _ _ => cases e⟩
theorem mgs_cons {e : Expr} {es : List Expr} {g : GF} {r : GsF} {is js : List Nat} (h1 : MG X e g is) (h2 : MGs X es r js) (hs : (assignEach (e :: es) X.env).map (·.2) = assign e X.env :: (assignEach es X.env).map (·.2) := by rfl) : MGs X (e :: es) (gsCons g r) (is ++ js) := by
  obtain ⟨t, p, q⟩ := h1
  obtain ⟨u, p2, q2⟩ := h2
  refine ⟨_, pgs_cons p p2 hs, fun ds env env' σ G vs Q S rr e h => ?_⟩
  cases rr with
  | nil => cases e
  | cons h0 r0 =>
    rename_i d ds'
    simp only [gsCons] at e
    cases q0 : g (.d d) env with
    | none => rw [q0] at e; cases e
    | some e1 =>
      rw [q0] at e
      exact ⟨_, _, rfl, q (.d d) env e1 σ G _ _ S h0 q0 fun σ' o1 S' => q2 ds' e1 env' σ' G _ Q S' r0 e fun σ2 o2 S2 => h σ2 (o1.trans o2) S2⟩
def gTupF (n : Nat) (r : GsF) (w : W) (env : Env) : Option Env := match w with
  | .d (.tuple ds) => if ds.length = n then r ds env else none
  | _ => none
theorem mg_tup {es : List Expr} {k : Nat} {r : GsF} {n : Nat} {is : List Nat} {pos : Pos} (hc : X.calm = true) (h : MGs X es r is) (hn : (assignEach es X.env).length = n := by rfl) (hst : (assignEach es X.env).findIdx? (·.1) = none := by rfl) : MG X (.Tuple es k pos) (gTupF n r) is := by
  obtain ⟨t, p, q⟩ := h
  refine ⟨_, pg_tup hc p hn hst, fun w env env' σ G v Q S rr e h => ?_⟩
  cases w with
  | d x =>
    cases x with
    | tuple ds =>
      simp only [gTupF] at e
      by_cases hz : ds.length = n
      · rw [if_pos hz] at e
        cases rr with
        | tup t1 r1 => exact ⟨_, _, rfl, t1.sq, by rw [r1.length]; exact hz, q ds env env' σ G _ Q S r1 e h⟩
      · rw [if_neg hz] at e; cases e
    | _ => cases e
  | _ => cases e
/-- target = e -/
def asgK (g : GF) (env : Env) (w : W) (m1 : Mem) : SRes := match w with
  | .fl _ => .bad
  | w => match g w env with
    | some e => .nx e m1
    | none => .bad
def sAsg (f : EF) (g : GF) (env : Env) (m : Mem) : SRes := eS (f env m) env fun w m1 => asgK g env w m1
theorem asgQ {g : GF} {t : TG} {is : List Nat} (q : ∀ w env env' σ (G : Wd) v (Q : St → Hp → Prop), RelS X.K G σ env → RepW X.K G v w → g w env = some env' → (∀ σ', Off is σ σ' → RelS X.K G σ' env' → Q σ' G.H) → t v σ G.H Q)
    {env : Env} {σ : St} {G G1 : Wd} {m1 : Mem} {w : W} {v : V} {E : Ends} {H0 : Hp} (S : RelS X.K G1 σ env) (R1 : RelM X.K G1 m1) (r : RepR X.K H0 G1 v w)
    (h : SPost X Wx G1 (asgK g env w m1) E) : t v σ G1.H E.nx := by
  have go : RepW X.K G1 v w → SPost X Wx G1 (match g w env with | some e => .nx e m1 | none => .bad) E → t v σ G1.H E.nx := fun r h => by
    cases e : g w env with
    | none => rw [e] at h; exact False.elim h
    | some e1 => rw [e] at h; exact q w env e1 σ G1 v _ S r e fun σ' _ S' => h σ' G1 (Le.refl R1) R1 S'
  cases w with
  | fl _ => exact False.elim h
  | d x => exact go r h
  | obj x => exact go r h
  | ro x => exact go r h
  | pr x i => exact go r h
theorem ms_asg {tg e : Expr} {f : EF} {g : GF} {is : List Nat} {pos : Pos} (he : ME X Wx e f) (hg : MG X tg g is) (hs : swapsWithSole [tg] e pos.line X.env = pure false := by rfl) (hw : swappedStores [tg] e X.env = pure none := by rfl)
    (h1 : (assignEach [tg] X.env).map (·.2) = [assign tg X.env] := by rfl) : MS X Wx (.Assign [tg] e pos) (sAsg f g) := by
  obtain ⟨t, p, q⟩ := he
  obtain ⟨u, p2, q2⟩ := hg
  exact ⟨_, ps_asg p p2 hs hw h1, fun env m σ G E S R h => q env m σ G _ S R (SPost.ofE h S fun w m1 v G1 le R1 q1 h1 => asgQ (G := G) q2 (S.mono le) R1 q1 h1)⟩
/-- name = e -/
theorem ms_set (i : Nat) {x : Str} {e : Expr} {f : EF} {pos pos' : Pos} (hN : X.N.Nodup) (he : ME X Wx e f) (hi : X.N[i]? = some x := by rfl) (hx : Loc X.env.scope x := by first | exact .inl rfl | exact .inr rfl) (hs : swapsWith e (some (.Name x pos')) pos.line X.env = pure false := by rfl)
    (hf : X.fn x = true ∨ X.env.scope.names.lookup x = some .local := by first | exact .inl rfl | exact .inr rfl) : MS X Wx (.Assign [.Name x pos'] e pos) (sAsg f (gSet i)) := by
  obtain ⟨t, p, q⟩ := he
  exact ⟨_, ps_set hN hi hx p hs hf, fun env m σ G E S R h => q env m σ G _ S R (SPost.ofE h S fun w m1 v G1 le R1 q1 h1 => asgQ (G := G) (g := gSet i) (t := gName i) (is := [i]) (fun w env env' σ G v Q S r e h => by cases e; exact h _ (Off.set i) (S.set r)) (S.mono le) R1 q1 h1)⟩
def sAug (i : Nat) (g : W → W → Mem → Res W) (f : EF) (env : Env) (m : Mem) : SRes := match env[i]? with
  | some (some x) => eS ((f env m).bind fun y m1 => g x y m1) env fun w m1 => match w with
    | .fl _ => .bad
    | w => .nx (env.set i (some w)) m1
  | _ => .bad
def addIW := int0W fun i j => .int (i + j)
/-! ### while -/
def whileM (c : TF) (b : SF) : Nat → Env → Mem → SRes
  | 0, _, _ => .bad
  | n + 1, env, m => eS (c env m) env fun t m1 => if t = true then (match b env m1 with
    | .nx e m2 => whileM c b n e m2
    | .ct e m2 => whileM c b n e m2
    | .bk e m2 => .nx e m2
    | r => r) else .nx env m1
theorem ms_while (n : Nat) {c : Expr} {body : List Stmt} {fc : TF} {fb : SF} {pos : Pos} (hp : PassesOwn (model X.prog X.w) X.A X.env X.xe) (hc : MT X Wx c fc) (hb : MB X Wx body fb) : MS X Wx (.While c body [] pos) (whileM fc fb n) := by
  obtain ⟨tc, pc, qc⟩ := hc
  obtain ⟨tb, pb, qb⟩ := hb
  refine ⟨_, ps_while hp pc pb, fun env m σ G E S R h => ?_⟩
  refine ⟨fun k σ' H' => ∃ env' m' G', G'.H = H' ∧ RelM X.K G' m' ∧ RelS X.K G' σ' env' ∧ SPost X Wx G' (whileM fc fb k env' m') E, ⟨n, env, m, G, rfl, R, S, h⟩, ?_⟩
  rintro k σ' H' ⟨env', m', G', rfl, R', S', h'⟩
  cases k with
  | zero => exact False.elim h'
  | succ k =>
    refine qc env' m' σ' G' _ S' R' (SPost.ofE h' S' fun b m1 v G1 le R1 q1 h1 => ?_)
    rw [show v = b from q1]
    cases b with
    | false => exact iteF (h1 σ' G1 (Le.refl R1) R1 (S'.mono le))
    | true =>
      refine iteT ⟨fun σ2 H2 => ∃ env' m' G', G'.H = H2 ∧ RelM X.K G' m' ∧ RelS X.K G' σ2 env' ∧ SPost X Wx G' (whileM fc fb k env' m') E, fun σ2 H2 z => ⟨k, Nat.lt_succ_self k, z⟩, ?_⟩
      refine qb env' m1 σ' G1 _ (S'.mono le) R1 ?_
      simp only [if_true] at h1
      cases e : fb env' m1 with
      | nx e1 m2 => rw [e] at h1; exact fun σ2 G2 le2 R2 S2 => ⟨e1, m2, G2, rfl, R2, S2, SPost.later h1 le2⟩
      | ct e1 m2 => rw [e] at h1; exact fun σ2 G2 le2 R2 S2 => ⟨e1, m2, G2, rfl, R2, S2, SPost.later h1 le2⟩
      | bk e1 m2 => rw [e] at h1; exact h1
      | rt w m2 => rw [e] at h1; exact h1
      | err x e1 m2 => rw [e] at h1; exact h1
      | bad => rw [e] at h1; exact h1
/-! ### what is walked -/
structure Its where
  xs : List W
  chk : Mem → Bool
def ItOk (K : PySem.W.Frag) (J : It) (I : Its) (G1 : Wd) : Prop := ∀ G2 m2, Le G1 G2 → RelM K G2 m2 → I.chk m2 = true → ∀ i, 
  (∀ w, I.xs[i]? = some w → J.go i G2.H ∧ ∀ x H', J.yld i G2.H x H' → ∃ G3, G3.H = H' ∧ Le G2 G3 ∧ RelM K G3 m2 ∧ RepW K G3 x w) ∧ (I.xs.length ≤ i → J.stop i G2.H)
def relI (K : PySem.W.Frag) : Hp → Wd → It → Its → Prop := fun _ G J I => ItOk K J I G
abbrev IF := Env → Mem → Res Its
def MI (X : Cx) (Wx : WX) (tg iter : Expr) (f : IF) : Prop :=
  ∃ wi, PI X tg iter wi ∧ ∀ env m σ G Q, RelS X.K G σ env → RelM X.K G m → GPost X Wx σ G (relI X.K) (f env m) Q → wi σ G.H Q
theorem weakI {K : PySem.W.Frag} : Weak (relI K) := fun _ _ _ _ _ _ h => h
def forM (chk : Mem → Bool) (b : W → SF) : List W → Env → Mem → SRes
  | [], env, m => if chk m = true then .nx env m else .bad
  | x :: r, env, m => if chk m = true then (match b x env m with
    | .nx e m1 => forM chk b r e m1
    | .ct e m1 => forM chk b r e m1
    | .bk e m1 => .nx e m1
    | r => r) else .bad
/-- the body behind the target -/
def sTg (g : GF) (b : SF) (w : W) (env : Env) (m : Mem) : SRes := match g w env with
  | some e => b e m
  | none => .bad
def sFor (it : IF) (g : GF) (b : SF) (env : Env) (m : Mem) : SRes := eS (it env m) env fun I m1 => forM I.chk (sTg g b) I.xs env m1
theorem ms_for {tg iter : Expr} {body : List Stmt} {fi : IF} {g : GF} {is : List Nat} {fb : SF} {pos : Pos} (hp : PassesOwn (model X.prog X.w) X.A X.env X.xe) (hc : X.calm = true) (hi : MI X Wx tg iter fi) (hg : MG X tg g is) (hb : MB X Wx body fb)
    (hs : ∀ x, foldedSetIterable iter X.env x = pure x := by intro _; rfl) : MS X Wx (.For tg iter body [] pos) (sFor fi g fb) := by
  obtain ⟨ti, pi, qi⟩ := hi
  obtain ⟨tg', pg, qg⟩ := hg
  obtain ⟨tb, pb, qb⟩ := hb
  refine ⟨_, ps_for hp hc pi pg pb hs, fun env m σ G E S R h => ?_⟩
  refine qi env m σ G _ S R (SPost.ofE h S fun I m1 J G1 le R1 hJ h1 => ?_)
  refine ⟨fun i k σ' H' => ∃ env' m' G', G'.H = H' ∧ k + i = I.xs.length ∧ Le G1 G' ∧ RelM X.K G' m' ∧ RelS X.K G' σ' env' ∧ SPost X Wx G' (forM I.chk (sTg g fb) (I.xs.drop i) env' m') E,
    ⟨I.xs.length, env, m1, G1, rfl, Nat.add_zero _, Le.refl R1, R1, S.mono le, h1⟩, ?_⟩
  rintro i k σ' H' ⟨env', m', G', rfl, hk, le', R', S', h'⟩
  cases ex : I.xs.drop i with
  | nil =>
    rw [ex] at h'
    have hl : I.xs.length ≤ i := List.drop_eq_nil_iff.mp ex
    by_cases hz : I.chk m' = true
    · simp only [forM, hz, if_true] at h'
      exact .inl ⟨(hJ G' m' le' R' hz i).2 hl, h' σ' G' (Le.refl R') R' S'⟩
    · simp only [forM, hz] at h'
      exact False.elim h'
  | cons w r =>
    rw [ex] at h'
    have hi : I.xs[i]? = some w := by
      have := congrArg (·[0]?) ex
      simpa using this
    have hr : I.xs.drop (i + 1) = r := by
      have := congrArg List.tail ex
      simpa using this
    by_cases hz : I.chk m' = true
    · simp only [forM, hz, if_true] at h'
      obtain ⟨go, yl⟩ := (hJ G' m' le' R' hz i).1 w hi
      have hlt : i < I.xs.length := (List.getElem?_eq_some_iff.mp hi).1
      refine .inr ⟨go, fun σ2 H2 => ∃ env' m' G', G'.H = H2 ∧ Le G1 G' ∧ RelM X.K G' m' ∧ RelS X.K G' σ2 env' ∧ SPost X Wx G' (forM I.chk (sTg g fb) r env' m') E, fun σ2 H2 ⟨e2, m2, G2, z1, z2, z3, z4, z5⟩ => ⟨k - 1, by omega, e2, m2, G2, z1, by omega, z2, z3, z4, by rw [hr]; exact z5⟩, fun x H3 hy => ?_⟩
      obtain ⟨G3, rfl, le3, R3, rw3⟩ := yl x H3 hy
      cases eg : g w env' with
      | none =>
        have hst : sTg g fb w env' m' = .bad := by simp only [sTg, eg]
        rw [hst] at h'
        exact False.elim h'
      | some e1 =>
        have hst : sTg g fb w env' m' = fb e1 m' := by simp only [sTg, eg]
        rw [hst] at h'
        refine qg w env' e1 σ' G3 x _ (S'.mono le3) rw3 eg fun σ4 _ S4 => ?_
        refine qb e1 m' σ4 G3 _ S4 R3 ?_
        have l4 : Le G1 G3 := le'.trans le3
        cases e : fb e1 m' with
        | nx e1 m2 => rw [e] at h'; exact fun σ2 G2 le2 R2 S2 => ⟨e1, m2, G2, rfl, l4.trans le2, R2, S2, SPost.later h' (le3.trans le2)⟩
        | ct e1 m2 => rw [e] at h'; exact fun σ2 G2 le2 R2 S2 => ⟨e1, m2, G2, rfl, l4.trans le2, R2, S2, SPost.later h' (le3.trans le2)⟩
        | bk e1 m2 => rw [e] at h'; exact SPost.later (r := .nx e1 m2) h' le3
        | rt w m2 => rw [e] at h'; exact SPost.later h' le3
        | err x e1 m2 => rw [e] at h'; exact SPost.later h' le3
        | bad => rw [e] at h'; exact h'
    · simp only [forM, hz] at h'
      exact False.elim h'
end
end M
set_option Elab.async false
set_option linter.all false
set_option maxRecDepth 100000
namespace M
open PySem L2
variable [HasW]
/-! ### data alike -/
section
variable {X : Cx} {Wx : WX}
/-! ### walking a list, a tuple, a text -/
def rWalk (K : PySem.W.Frag) (x : V) (H1 : Hp) (R : It → Hp → Prop) : Prop :=
  (∃ a, x = .ref a ∧ (∃ xs, SqL K H1 a xs) ∧ R (Itl K a) H1) ∨ (∃ a, x = .ref a ∧ (∃ xs, SqT K H1 a xs) ∧ R (Itt K a) H1) ∨ (∃ z, x = .str z ∧ R (L2.Its z) H1)
def iWalk (K : PySem.W.Frag) (tl : TE) : TI := fun σ H R => tl σ H fun x H1 => rWalk K x H1 R
theorem walk_it {pins : List (Addr × Obj)} {σ : St} {tg : Expr} {H1 : Hp} {s1 : Shared} {x : V} {v : Value} {R : It → Hp → Prop} (I1 : Inv X pins σ H1 s1) (r1 : RelV x v) (q1 : rWalk X.K x H1 R) : wpAny (model X.prog X.w) X.A (pyIter v) (PIE X pins σ tg R) X.xe s1 := by
  have hf : ∀ (b : Addr), b ∈ [s1.heap.objs.size] → FpOk X pins H1 b := fun b hb => by
    rw [List.mem_singleton.mp hb]
    exact I1.fpOk (Nat.le_refl _) (I1.hok.fresh (Nat.le_refl _))
  rcases q1 with ⟨a, rfl, ⟨xs, hq⟩, q⟩ | ⟨a, rfl, ⟨xs, hq⟩, q⟩ | ⟨z, rfl, q⟩
  · cases r1
    obtain ⟨its, rv, pl, hz⟩ := I1.list hq
    exact wpAny_pyIter_list pl.isList ⟨s1.heap.objs.size, [s1.heap.objs.size], _, _, H1, rfl, I1.kept (t' := s1.toks) (fun b o e => Heap.get?_push_of_some _ e), turn_list a _, ⟨_, Heap.get?_push_size _ rfl, rfl, rfl⟩, hf, q⟩
  · cases r1
    obtain ⟨its, rv, pl, hz⟩ := I1.tuple hq
    exact wpAny_pyIter_tuple (show s1.heap.IsTuple a its.toArray from pl) ⟨s1.heap.objs.size, [s1.heap.objs.size], _, _, H1, rfl, I1.kept (t' := s1.toks) (fun b o e => Heap.get?_push_of_some _ e), turn_tuple a _, ⟨_, Heap.get?_push_size _ rfl, rfl, rfl⟩, hf, q⟩
  · obtain ⟨t, rfl⟩ := r1
    cases ha : z.cps.all (· < 128) with
    | false => exact PySem.wpAny_pyIter_wide ha (pi_one (tk := s1.toks) I1 _ (turn_str _ z t "str_iterator" (.inr rfl)) ⟨_, Heap.get?_push_size _ rfl, rfl, rfl⟩ q)
    | true => exact PySem.wpAny_pyIter_ascii ha (pi_one (tk := s1.toks) I1 _ (turn_str _ z t "str_ascii_iterator" (.inl rfl)) ⟨_, Heap.get?_push_size _ rfl, rfl, rfl⟩ q)
theorem pi_walk {tg l : Expr} {tl : TE} (hl : PE X l tl) : PI X tg l (iWalk X.K tl) :=
  ⟨fun pins s σ H R I h => thn (hl.run pins s σ H _ I h) fun _ _ ⟨_, _, I1, r1, q1⟩ => walk_it I1 r1 q1⟩
def yesM (_ : Mem) : Bool := true
noncomputable def sameM (i : Nat) (ds : List D) (m : Mem) : Bool := match asL (.obj i) m with
  | some es => grd (ds = es)
  | none => false
def itsL (ds : List D) : Its := ⟨ds.map .d, yesM⟩
noncomputable def walkW (w : W) (m1 : Mem) : Res Its := match w with
  | .d (.tuple ds) => .ok (itsL ds) m1
  | .d (.str z) => .ok ⟨z.cps.toList.map fun c => .d (.str ⟨#[c]⟩), yesM⟩ m1
  | .d (.list ds) => .ok (itsL ds) m1
  | .fl ds => .ok (itsL ds) m1
  | .ro ds => .ok (itsL ds) m1
  | .obj i => match asL (.obj i) m1 with
    | some ds => .ok ⟨ds.map .d, sameM i ds⟩ m1
    | none => .bad
  | _ => .bad
noncomputable def iSeq (f : EF) (env : Env) (m : Mem) : Res Its := (f env m).bind walkW
theorem itL {K : PySem.W.Frag} {G1 : Wd} {a : Addr} {ds : List D} {chk : Mem → Bool} (h : ∀ G2 m2, Le G1 G2 → RelM K G2 m2 → chk m2 = true → ∃ vs, SqL K G2.H a vs ∧ Reps K G2.lv G2.H vs ds) : ItOk K (Itl K a) ⟨ds.map .d, chk⟩ G1 := by
  intro G2 m2 le R hz i
  obtain ⟨vs, hs, r⟩ := h G2 m2 le R hz
  refine ⟨fun w hw => ?_, fun hi => ⟨vs, hs, by rw [r.length]; simpa using hi⟩⟩
  have hw : (ds.map W.d)[i]? = some w := hw
  rw [List.getElem?_map] at hw
  cases e : ds[i]? with
  | none => rw [e] at hw; cases hw
  | some d =>
    rw [e] at hw
    cases hw
    obtain ⟨v, h1, h2⟩ := r.get e
    refine ⟨⟨vs, v, hs, h1⟩, fun x H' ⟨e1, e2⟩ => ⟨G2, e1.symm, Le.refl R, R, ?_⟩⟩
    have := e2 vs hs
    rw [h1] at this
    cases this
    exact h2
theorem itT {K : PySem.W.Frag} {G1 : Wd} {a : Addr} {ds : List D} {chk : Mem → Bool} (h : ∀ G2 m2, Le G1 G2 → RelM K G2 m2 → chk m2 = true → ∃ vs, SqT K G2.H a vs ∧ Reps K G2.lv G2.H vs ds) : ItOk K (Itt K a) ⟨ds.map .d, chk⟩ G1 := by
  intro G2 m2 le R hz i
  obtain ⟨vs, hs, r⟩ := h G2 m2 le R hz
  refine ⟨fun w hw => ?_, fun hi => ⟨vs, hs, by rw [r.length]; simpa using hi⟩⟩
  have hw : (ds.map W.d)[i]? = some w := hw
  rw [List.getElem?_map] at hw
  cases e : ds[i]? with
  | none => rw [e] at hw; cases hw
  | some d =>
    rw [e] at hw
    cases hw
    obtain ⟨v, h1, h2⟩ := r.get e
    refine ⟨⟨vs, v, hs, h1⟩, fun x H' ⟨e1, e2⟩ => ⟨G2, e1.symm, Le.refl R, R, ?_⟩⟩
    have := e2 vs hs
    rw [h1] at this
    cases this
    exact h2
theorem itStr {K : PySem.W.Frag} {G1 : Wd} {z : Str} : ItOk K (L2.Its z) ⟨z.cps.toList.map fun c => .d (.str ⟨#[c]⟩), yesM⟩ G1 := by
  intro G2 m2 le R hz i
  have ez : (z.cps.toList.map fun c => (W.d (.str ⟨#[c]⟩) : W)).length = z.cps.size := by simp
  refine ⟨fun w hw => ?_, fun hi => by
    have hi : (z.cps.toList.map fun c => (W.d (.str ⟨#[c]⟩) : W)).length ≤ i := hi
    rw [ez] at hi
    exact hi⟩
  have hw : (z.cps.toList.map fun c => (W.d (.str ⟨#[c]⟩) : W))[i]? = some w := hw
  rw [List.getElem?_map] at hw
  cases e : z.cps.toList[i]? with
  | none => rw [e] at hw; cases hw
  | some c =>
    rw [e] at hw
    cases hw
    refine ⟨by have := (List.getElem?_eq_some_iff.mp e).1; show i < z.cps.size; simpa using this, fun x H' ⟨e1, c', e2, e3⟩ => ⟨G2, e1.symm, Le.refl R, R, ?_⟩⟩
    rw [Array.getElem?_toList] at e
    rw [e] at e2
    cases e2
    rw [e3]
    exact .str _
theorem walkW_ok {σ : St} {G : Wd} {m : Mem} {v : V} {w : W} {H0 : Hp} {Q : It → Hp → Prop} (R : RelM X.K G m) (r : RepR X.K H0 G v w) (h : GPost X Wx σ G (relI X.K) (walkW w m) Q) : rWalk X.K v G.H Q := by
  cases w with
  | d x =>
    cases x with
    | tuple ds =>
      cases r with
      | tup t r => exact .inr (.inl ⟨_, rfl, ⟨_, t.sq⟩, h _ G (Le.refl R) R (itT fun G2 m2 le R2 _ => ⟨_, (t.mono le.mo).sq, r.mono le.mo⟩)⟩)
    | str z => cases r; exact .inr (.inr ⟨z, rfl, h _ G (Le.refl R) R itStr⟩)
    | list ds =>
      cases r with
      | lst t r => exact .inl ⟨_, rfl, ⟨_, t.sq⟩, h _ G (Le.refl R) R (itL fun G2 m2 le R2 _ => ⟨_, (t.mono le.mo).sq, r.mono le.mo⟩)⟩
    | _ => exact False.elim h
  | fl ds =>
    obtain ⟨p, vs, rfl, h0, h1, h2, h3, r⟩ := r
    exact .inl ⟨p, rfl, ⟨vs, .of h3⟩, h _ G (Le.refl R) R (itL fun G2 m2 le R2 _ => ⟨vs, .of (le.keep _ _ h3 (fun z => h1 z.1) nofun), r.mono le.mo⟩)⟩
  | pr x i => exact False.elim h
  | ro ds =>
    obtain ⟨p, vs, rfl, h1, r⟩ := r
    exact .inl ⟨p, rfl, ⟨vs, h1.sq⟩, h _ G (Le.refl R) R (itL fun G2 m2 le R2 _ => ⟨vs, (h1.mono le.mo).sq, r.mono le.mo⟩)⟩
  | obj i =>
    simp only [walkW] at h
    cases e : asL (.obj i) m with
    | none => rw [e] at h; exact False.elim h
    | some ds =>
      rw [e] at h
      obtain ⟨a, ha, rfl⟩ := id r
      obtain ⟨a', vs, e1, h1, _⟩ := asL_sq (w := .obj i) R r e
      cases e1
      refine .inl ⟨a, rfl, ⟨vs, h1⟩, h _ G (Le.refl R) R (itL fun G2 m2 le R2 hz => ?_)⟩
      unfold sameM at hz
      cases e2 : asL (.obj i) m2 with
      | none => rw [e2] at hz; cases hz
      | some es =>
        rw [e2] at hz
        have ee := grd_iff.mp hz
        subst ee
        obtain ⟨a2, vs2, e3, h3, r3⟩ := asL_sq (v := .ref a) (H0 := H0) (w := .obj i) R2 ⟨a, le.iget ha, rfl⟩ e2
        cases e3
        exact ⟨vs2, h3, r3⟩
theorem mi_seq {tg e : Expr} {f : EF} (h : ME X Wx e f) : MI X Wx tg e (iSeq f) := by
  obtain ⟨t, p, q⟩ := h
  exact ⟨_, pi_walk p, fun env m σ G Q S R h => q env m σ G _ S R (GPost.bind weakI h fun w m1 v G1 le1 R1 q1 h1 => walkW_ok R1 q1 h1)⟩
/-! ### range -/
def rngI (lo : Int) (n : Nat) : Its := ⟨(List.range n).map fun (k : Nat) => .d (.int (lo + (k : Int))), yesM⟩
theorem itR {K : PySem.W.Frag} {G1 : Wd} {lo : Int} {n : Nat} : ItOk K (Itr lo n) (rngI lo n) G1 := by
  intro G2 m2 le R hz i
  have ez : (rngI lo n).xs.length = n := by simp [rngI]
  refine ⟨fun w hw => ?_, fun hi => by rw [ez] at hi; exact hi⟩
  have hi : i < n := by
    have := (List.getElem?_eq_some_iff.mp hw).1
    rwa [ez] at this
  have hw : ((List.range n).map fun (k : Nat) => (W.d (.int (lo + (k : Int))) : W))[i]? = some w := hw
  rw [List.getElem?_map, List.getElem?_range hi] at hw
  cases hw
  refine ⟨hi, fun x H' ⟨e1, e2⟩ => ⟨G2, e1.symm, Le.refl R, R, ?_⟩⟩
  rw [e2]
  exact .int _
noncomputable def smallI (i : Int) : Bool := grd (-(2 ^ 62) ≤ i ∧ i < 2 ^ 62)
noncomputable def rng1 (ws : List W) (m : Mem) : Res Its := match ws with
  | [.d (.int j)] => if smallI j = true then .ok (rngI 0 j.toNat) m else .bad
  | _ => .bad
noncomputable def iRange1 (a : AF) (env : Env) (m : Mem) : Res Its := (a env m).bind rng1
theorem paired1 {α β : Type} {F : α → β → Prop} {vs : List α} {b : β} (h : Paired F vs [b]) : ∃ a, vs = [a] ∧ F a b := by
  cases h with
  | cons h t => cases t; exact ⟨_, rfl, h⟩
theorem paired2 {α β : Type} {F : α → β → Prop} {vs : List α} {b c : β} (h : Paired F vs [b, c]) : ∃ a d, vs = [a, d] ∧ F a b ∧ F d c := by
  cases h with
  | cons h t =>
    obtain ⟨d, rfl, q⟩ := paired1 t
    exact ⟨_, d, rfl, h, q⟩
theorem mi_range1 {tg a : Expr} {f : AF} {p pos : Pos} (hg : Gl X "range") (hm : X.mg "range" = none) (ha : MA X Wx [a] f) (hs : starEach [a] X.env = [(false, eval a X.env)] := by rfl) : MI X Wx tg (.Call (.Name "range" p) [a] [] pos) (iRange1 f) := by
  obtain ⟨t, pa, q⟩ := ha
  refine ⟨_, pi_range1 hg hm pa hs, fun env m σ G Q S R h => q env m σ G _ S R (GPost.bind weakI h fun ws m1 vs G1 le1 R1 q1 h1 => ?_)⟩
  unfold rng1 at h1
  split at h1
  · rename_i j
    obtain ⟨v, rfl, r⟩ := paired1 q1
    cases r
    by_cases hz : smallI j = true
    · simp only [hz, if_true] at h1
      have hz := grd_iff.mp hz
      exact ⟨j, rfl, hz.1, hz.2, h1 _ G1 (Le.refl R1) R1 itR⟩
    · simp only [hz] at h1
      exact False.elim h1
  · exact False.elim h1
/-! ### enumerate, zip -/
theorem itPair {K : PySem.W.Frag} {G2 : Wd} {m2 : Mem} {T : Addr} {vs : List V} {ds : List D} (R : RelM K G2 m2) (hT : G2.H T = none) (r : Reps K G2.lv G2.H vs ds) :
    ∃ G3, G3.H = upd G2.H T (.tup vs) ∧ Le G2 G3 ∧ RelM K G3 m2 ∧ RepW K G3 (.ref T) (.d (.tuple ds)) := by
  have le : Le G2 ⟨G2.io, G2.lv, upd G2.H T (.tup vs)⟩ := Le.new R hT
  exact ⟨_, rfl, le, R.new hT, Rep.tup (.inl ⟨(R.ne hT).2, upd_same⟩) (Reps.mono le.mo r)⟩
/-- a list that stays: not an object -/
def asS (w : W) : Option (List D) := match w with
  | .d (.list ds) => some ds
  | .fl ds => some ds
  | .ro ds => some ds
  | _ => none
theorem asS_sq {G : Wd} {m : Mem} {v : V} {w : W} {H0 : Hp} {ds : List D} (R : RelM X.K G m) (r : RepR X.K H0 G v w) (e : asS w = some ds) : ∃ a vs, v = .ref a ∧ ∀ G2, Le G G2 → SqL X.K G2.H a vs ∧ Reps X.K G2.lv G2.H vs ds := by
  cases w with
  | d x =>
    cases x with
    | list es =>
      cases e
      cases r with
      | lst t r => exact ⟨_, _, rfl, fun G2 le => ⟨(t.mono le.mo).sq, r.mono le.mo⟩⟩
    | _ => cases e
  | fl es => cases e; obtain ⟨p, vs, rfl, h0, h1, h2, h3, r⟩ := r; exact ⟨p, vs, rfl, fun G2 le => ⟨.of (le.keep _ _ h3 (fun z => h1 z.1) nofun), r.mono le.mo⟩⟩
  | ro es => cases e; obtain ⟨p, vs, rfl, h1, r⟩ := r; exact ⟨p, vs, rfl, fun G2 le => ⟨(h1.mono le.mo).sq, r.mono le.mo⟩⟩
  | obj i => cases e
  | pr x i => cases e
def zipD (ds es : List D) : List D := (ds.zip es).map fun p => .tuple [p.1, p.2]
end
end M
set_option Elab.async false
set_option linter.all false
set_option maxRecDepth 100000
namespace M
open PySem L2
variable [HasW]
/-! ### a list that grows aside -/
section
variable {K : PySem.W.Frag} {G G0 : Wd} {m : Mem} {p : Addr} {o : HO}
theorem Mo.updL {lv : List Addr} {H : Hp} (h : p ∈ lv) : Mo lv H lv (upd H p o) := ⟨fun a u e n _ => by rw [upd_ne (fun z => n (by rw [z]; exact h))]; exact e, fun _ _ _ n => n⟩
theorem RepW.updL {v : V} {w : W} (h : RepW K G v w) (h1 : p ∈ G.lv) : RepW K ⟨G.io, G.lv, upd G.H p o⟩ v w := by
  cases w with
  | d x => exact Rep.mono (Mo.updL h1) h
  | obj i => exact h
  | fl _ => exact h
  | ro ds => obtain ⟨a, vs, e1, e2, e3⟩ := h; exact ⟨a, vs, e1, e2.mono (Mo.updL h1), e3.mono (Mo.updL h1)⟩
  | pr x i => obtain ⟨q, u, a, e1, e2, e3, e4⟩ := h; exact ⟨q, u, a, e1, e2.mono (Mo.updL h1), e3.mono (Mo.updL h1), e4⟩
theorem RelS.updL {σ : St} {env : Env} (S : RelS K G σ env) (h1 : p ∈ G.lv) : RelS K ⟨G.io, G.lv, upd G.H p o⟩ σ env :=
  ⟨S.len, fun i w e => let ⟨v, a, b⟩ := S.get i w e; ⟨v, a, b.updL h1⟩⟩
theorem RelM.updL (R : RelM K G m) (h1 : p ∈ G.lv) (h2 : p ∉ G.io) : RelM K ⟨G.io, G.lv, upd G.H p o⟩ m := by
  have up : ∀ a, G.H a ≠ none → upd G.H p o a ≠ none := fun a z q => z (upd_none q)
  refine ⟨R.dw, R.len, R.nd, fun a z => up a (R.lt a z), fun a z => up a (R.it a z), fun i a ob e1 e2 => ?_, R.tb.step (fun a u e n => by
    show upd G.H p o a = _
    rw [upd_ne (fun z => n (by rw [z]; exact h1))]; exact e) fun a _ z => z⟩
  have q := R.ob i a ob e1 e2
  have ne : a ≠ p := fun e => h2 (e ▸ List.mem_of_getElem? e1)
  have ea : upd G.H p o a = G.H a := upd_ne ne
  cases ob with
  | lst ds => obtain ⟨z1, vs, z2, r⟩ := q; exact ⟨z1, vs, ea.trans z2, r.mono (Mo.updL h1)⟩
  | fz ds => obtain ⟨z1, vs, z2, r⟩ := q; exact ⟨z1, vs, ea.trans z2, r.mono (Mo.updL h1)⟩
  | dct kvs => obtain ⟨z1, ks, z2, r⟩ := q; exact ⟨z1, ks, ea.trans z2, Paired.mono (fun _ _ z => ⟨z.1, z.2.updL h1⟩) r⟩
  | lsw ws => obtain ⟨z1, vs, z2, r⟩ := q; exact ⟨z1, vs, ea.trans z2, Paired.mono (fun _ _ z => z.updL h1) r⟩
  | dcn kvs => obtain ⟨z1, o, es, kvv, z2, z3, z4, r, n⟩ := q; exact ⟨z1, o, es, kvv, ea.trans z2, z3, z4.mono (Mo.updL h1), Paired.mono (fun _ _ z => ⟨z.1, z.2.updL h1⟩) r, n⟩
  | dead => exact q.imp (fun ⟨vs, z⟩ => ⟨vs, ea.trans z⟩) (fun ⟨o', z⟩ => ⟨o', ea.trans z⟩)
  | ins c kvs => obtain ⟨z1, C, dx, vs, z0, z2, r⟩ := q; exact ⟨z1, C, dx, vs, z0, ea.trans z2, Paired.mono (fun _ _ z => ⟨z.1, z.2.updL h1⟩) r⟩
theorem Le.updF (le : Le G0 G) (h0 : G0.H p = none) : Le G0 ⟨G.io, G.lv, upd G.H p o⟩ :=
  ⟨le.lt, le.io, le.lv, le.stay, fun a u e n nt => by
    show upd G.H p o a = _
    rw [upd_ne (ne_of_none e h0)]; exact le.keep a u e n nt, fun a e => le.tr a (upd_none e)⟩
end
/-! ### readings that do not hang on the place -/
section
variable {X : Cx} {Wx : WX}
def cE (X : Cx) (Wx : WX) (f : EF) : TE := fun σ H Q => ∃ env m G, G.H = H ∧ RelS X.K G σ env ∧ RelM X.K G m ∧ GPost X Wx σ G (RepR X.K) (f env m) Q
def cT (X : Cx) (Wx : WX) (f : TF) : TT := fun σ H Q => ∃ env m G, G.H = H ∧ RelS X.K G σ env ∧ RelM X.K G m ∧ GPost X Wx σ G relEq (f env m) Q
def cG (X : Cx) (g : GF) (is : List Nat) : TG := fun v σ H Q => ∃ w env env' G, G.H = H ∧ RelS X.K G σ env ∧ RepW X.K G v w ∧ g w env = some env' ∧ ∀ σ', Off is σ σ' → RelS X.K G σ' env' → Q σ' G.H
theorem ME.pe {e : Expr} {f : EF} (h : ME X Wx e f) : PE X e (cE X Wx f) := by
  obtain ⟨t, p, q⟩ := h
  refine ⟨fun pins s σ H Q I ⟨env, m, G, eH, S, R, hq⟩ => ?_⟩
  subst eH
  exact p.run pins s σ G.H Q I (q env m σ G Q S R hq)
theorem MG.pg {e : Expr} {g : GF} {is : List Nat} (h : MG X e g is) : PG X e (cG X g is) := by
  obtain ⟨t, p, q⟩ := h
  refine ⟨fun pins s σ H v u Q I r ⟨w, env, env', G, eH, S, rr, eg, hq⟩ => ?_⟩
  subst eH
  exact p.run pins s σ G.H v u Q I r (q w env env' σ G v Q S rr eg hq)
def MTs (X : Cx) (Wx : WX) (es : List Expr) (f : TF) : Prop :=
  ∃ t, PTs X es t ∧ ∀ env m σ G Q, RelS X.K G σ env → RelM X.K G m → GPost X Wx σ G relEq (f env m) Q → t σ G.H Q
theorem MTs.pts {e : List Expr} {f : TF} (h : MTs X Wx e f) : PTs X e (cT X Wx f) := by
  obtain ⟨t, p, q⟩ := h
  refine ⟨fun pins s σ H Q I ⟨env, m, G, eH, S, R, hq⟩ => ?_⟩
  subst eH
  exact p.run pins s σ G.H Q I (q env m σ G Q S R hq)
def tYesF (_ : Env) (m : Mem) : Res Bool := .ok true m
theorem mts_nil : MTs X Wx [] tYesF := ⟨_, pts_nil, fun env m σ G Q S R h => h true G (Le.refl R) R rfl⟩
theorem mts_one {c : Expr} {f : TF} (h : MT X Wx c f) : MTs X Wx [c] f := let ⟨t, p, q⟩ := h; ⟨t, pts_one p, q⟩
/-! ### comprehensions -/
abbrev WF : WX := fun _ _ _ _ => False
def noErr {α : Type} (r : Res α) : Res α := match r with
  | .err _ _ => .bad
  | r => r
def wipeE (env : Env) : List Nat → Env
  | [] => env
  | v :: vs => (wipeE env vs).set v none
theorem wipe_get (σ : St) : ∀ (vs : List Nat) (j : Nat), (wipe σ vs)[j]? = if j ∈ vs then (σ[j]?).map (fun _ => none) else σ[j]?
  | [], j => by simp [wipe]
  | v :: vs, j => by
    unfold wipe
    by_cases hj : v = j
    · subst hj
      rw [List.getElem?_set]
      simp only [if_true, wipe_length, List.mem_cons, true_or, if_true]
      by_cases hv : v < σ.length
      · rw [if_pos hv, List.getElem?_eq_getElem hv]; rfl
      · rw [if_neg hv, List.getElem?_eq_none (by omega)]; rfl
    · rw [List.getElem?_set_ne hj, wipe_get σ vs j]
      have : (j ∈ v :: vs) ↔ j ∈ vs := by simp [List.mem_cons, Ne.symm hj]
      simp only [this]
theorem wipe_off {σ σ' : St} {is vs : List Nat} (h : Off is (wipe σ vs) σ') (hs : ∀ i ∈ is, i ∈ vs) : wipe σ' vs = wipe σ vs := by
  apply List.ext_getElem?
  intro j
  rw [wipe_get, wipe_get]
  by_cases hj : j ∈ vs
  · simp only [hj, if_true]
    have hl : σ'.length = σ.length := by rw [h.len, wipe_length]
    by_cases hz : j < σ.length
    · rw [List.getElem?_eq_getElem hz, List.getElem?_eq_getElem (by omega)]; rfl
    · rw [List.getElem?_eq_none (by omega), List.getElem?_eq_none (by omega)]
  · simp only [hj, if_false]
    rw [h.get j fun z => hj (hs j z), wipe_get]
    simp only [hj, if_false]
theorem RelS.wipe {K : PySem.W.Frag} {G : Wd} {σ : St} {env : Env} (S : RelS K G σ env) : ∀ vs : List Nat, RelS K G (wipe σ vs) (wipeE env vs)
  | [] => S
  | v :: vs => by
    have S' := RelS.wipe S vs
    refine ⟨by unfold L2.wipe wipeE; rw [List.length_set, List.length_set]; exact S'.len, fun i w e => ?_⟩
    unfold wipeE at e
    unfold L2.wipe
    by_cases hj : v = i
    · subst hj
      rw [List.getElem?_set] at e
      simp only [if_true] at e
      split at e <;> cases e
    · rw [List.getElem?_set_ne hj] at e ⊢
      exact S'.get i w e
def lcM (chk : Mem → Bool) (b : W → Mem → Res (Option D)) : List W → List D → Mem → Res W
  | [], acc, m => if chk m = true then .ok (.fl acc) m else .bad
  | x :: r, acc, m => if chk m = true then (b x m).bind fun o m1 => match o with
    | none => lcM chk b r acc m1
    | some d => if acc.length < sizeLine then lcM chk b r (acc ++ [d]) m1 else .bad
    else .bad
def lcB (g : GF) (ft : TF) (fe : EF) (env : Env) (x : W) (m : Mem) : Res (Option D) := match g x env with
  | none => .bad
  | some e => (noErr (ft e m)).bind fun t m1 => if t = true then (noErr (fe e m1)).bind fun w m2 => match w with
      | .d x => .ok (some x) m2
      | _ => .bad
    else .ok none m1
def eLc (fi : IF) (g : GF) (ft : TF) (fe : EF) (vs : List Nat) (env : Env) (m : Mem) : Res W := (fi env m).bind fun I m1 => lcM I.chk (lcB g ft fe (wipeE env vs)) I.xs [] m1
theorem lcQ {fi : IF} {g : GF} {is : List Nat} {ft : TF} {fe : EF} {vs : List Nat} {wi : TI} (hsub : ∀ i ∈ is, i ∈ vs) (qi : ∀ env m σ G Q, RelS X.K G σ env → RelM X.K G m → GPost X Wx σ G (relI X.K) (fi env m) Q → wi σ G.H Q)
    (env : Env) (m : Mem) (σ : St) (G : Wd) (Q : VK) (S : RelS X.K G σ env) (R : RelM X.K G m) (h : GPost X Wx σ G (RepR X.K) (eLc fi g ft fe vs env m) Q) : tLc wi (cG X g is) (cT X WF ft) (cE X WF fe) vs σ G.H Q := by
  refine qi env m σ G _ S R (GPost.bind0 h fun I m1 J G1 le1 R1 hJ h1 => ?_)
  intro A hA
  refine ⟨fun i k H' => ∃ m' G' acc av, G'.H = H' ∧ k + i = I.xs.length ∧ Le G1 G' ∧ RelM X.K G' m' ∧ A ∈ G'.lv ∧ A ∉ G'.io ∧ G'.H A = some (.lst av) ∧ Reps X.K G'.lv G'.H av acc ∧ GPost X Wx σ G (RepR X.K) (lcM I.chk (lcB g ft fe (wipeE env vs)) (I.xs.drop i) acc m') Q,
    ⟨I.xs.length, m1, ⟨G1.io, A :: G1.lv, upd G1.H A (.lst [])⟩, [], [], rfl, Nat.add_zero _, Le.newL R1 hA, R1.newL hA, List.mem_cons_self, (R1.ne hA).1, upd_same, .nil, h1⟩, ?_⟩
  rintro i k H' ⟨m', G', acc, av, rfl, hk, le', R', l1, l2, l3, l4, h'⟩
  cases ex : I.xs.drop i with
  | nil =>
    rw [ex] at h'
    have hl : I.xs.length ≤ i := List.drop_eq_nil_iff.mp ex
    by_cases hz : I.chk m' = true
    · simp only [lcM, hz, if_true] at h'
      exact .inl ⟨(hJ G' m' le' R' hz i).2 hl, h' (.ref A) G' (le1.trans le') R' ⟨A, av, rfl, le1.tr A hA, l2, l1, l3, l4⟩⟩
    · simp only [lcM, hz] at h'
      exact False.elim h'
  | cons w r =>
    rw [ex] at h'
    have hi : I.xs[i]? = some w := by
      have := congrArg (·[0]?) ex
      simpa using this
    have hr : I.xs.drop (i + 1) = r := by
      have := congrArg List.tail ex
      simpa using this
    by_cases hz : I.chk m' = true
    · simp only [lcM, hz, if_true] at h'
      obtain ⟨go, yl⟩ := (hJ G' m' le' R' hz i).1 w hi
      have hlt : i < I.xs.length := (List.getElem?_eq_some_iff.mp hi).1
      refine .inr ⟨go, fun H2 => ∃ m' G' acc av, G'.H = H2 ∧ Le G1 G' ∧ RelM X.K G' m' ∧ A ∈ G'.lv ∧ A ∉ G'.io ∧ G'.H A = some (.lst av) ∧ Reps X.K G'.lv G'.H av acc ∧ GPost X Wx σ G (RepR X.K) (lcM I.chk (lcB g ft fe (wipeE env vs)) r acc m') Q,
        fun H2 ⟨m2, G2, ac, a2, z1, z2, z3, z4, z5, z6, z7, z8⟩ => ⟨k - 1, by omega, m2, G2, ac, a2, z1, by omega, z2, z3, z4, z5, z6, z7, by rw [hr]; exact z8⟩, fun x H3 hy => ?_⟩
      obtain ⟨G3, rfl, le3, R3, rw3⟩ := yl x H3 hy
      have S3 : RelS X.K G3 (L2.wipe σ vs) (wipeE env vs) := ((S.mono le1).mono (le'.trans le3)).wipe vs
      cases eg : g w (wipeE env vs) with
      | none => simp only [lcB, eg] at h'; exact False.elim h'
      | some e1 =>
        simp only [lcB, eg] at h'
        refine ⟨w, _, e1, G3, rfl, S3, rw3, eg, fun σ4 o4 S4 => ⟨wipe_off o4 hsub, e1, m', G3, rfl, S4, R3, ?_⟩⟩
        cases et : ft e1 m' with
        | bad => rw [et] at h'; exact False.elim h'
        | err _ _ => rw [et] at h'; exact False.elim h'
        | ok t m4 =>
          rw [et] at h'
          intro t' G4 le4 R4 q4
          rw [show t' = t from q4]
          have le34 := le3.trans le4
          have k1 : A ∈ G4.lv := le34.stay _ l1 l2
          have k2 : A ∉ G4.io := le34.nio (by rw [l3]; simp) l2
          have k3 : G4.H A = some (.lst av) := le34.keep _ _ l3 (fun z => l2 z.1) nofun
          have k4 : Reps X.K G4.lv G4.H av acc := l4.mono le34.mo
          cases t with
          | false => exact iteF ⟨m4, G4, acc, av, rfl, le'.trans le34, R4, k1, k2, k3, k4, h'⟩
          | true =>
            refine iteT ⟨e1, m4, G4, rfl, S4.mono le4, R4, ?_⟩
            simp only [noErr, Res.bind_ok, if_true] at h'
            cases ee : fe e1 m4 with
            | bad => rw [ee] at h'; exact False.elim h'
            | err _ _ => rw [ee] at h'; exact False.elim h'
            | ok w5 m5 =>
              rw [ee] at h'
              intro v5 G5 le5 R5 q5
              cases w5 with
              | d x5 =>
                simp only [Res.bind_ok] at h'
                have c1 : A ∈ G5.lv := le5.stay _ k1 k2
                have c2 : A ∉ G5.io := le5.nio (by rw [k3]; simp) k2
                have c3 : G5.H A = some (.lst av) := le5.keep _ _ k3 (fun z => k2 z.1) nofun
                have c4 : Reps X.K G5.lv G5.H av acc := k4.mono le5.mo
                by_cases hs : acc.length < sizeLine
                · simp only [hs, if_true] at h'
                  refine ⟨av, c3, by rw [c4.length]; exact hs, m5, ⟨G5.io, G5.lv, upd G5.H A (.lst (av ++ [v5]))⟩, acc ++ [x5], av ++ [v5], rfl, (le'.trans (le34.trans le5)).updF hA, R5.updL c1 c2, c1, c2, upd_same, ?_, h'⟩
                  exact (c4.append (.one q5)).mono (Mo.updL c1)
                · simp only [hs, if_false] at h'
                  exact False.elim h'
              | _ => exact False.elim h'
    · simp only [lcM, hz] at h'
      exact False.elim h'
theorem me_lc {elt tg iter : Expr} {ifs : List Expr} {scope : Scope} {own : List (Str × Nat)} {pos : Pos} {fi : IF} {g : GF} {is : List Nat} {ft : TF} {fe : EF} (hc : X.calm = true) (hN : X.N.Nodup) (hi : MI X Wx tg iter fi) (ok : BlkOk X.N X.env.scope scope own)
    (hg : ∀ (s : Shared) (H : Hp) (C : Addr) (cl : List (Str × Addr)) (fp : List Addr), MG (X.blk s H scope (compEnvC scope cl C X.env) fp) tg g is) (ht : ∀ (s : Shared) (H : Hp) (C : Addr) (cl : List (Str × Addr)) (fp : List Addr), MTs (X.blk s H scope (compEnvC scope cl C X.env) fp) WF ifs ft)
    (he : ∀ (s : Shared) (H : Hp) (C : Addr) (cl : List (Str × Addr)) (fp : List Addr), ME (X.blk s H scope (compEnvC scope cl C X.env) fp) WF elt fe) (hsub : ∀ i ∈ is, i ∈ own.map (·.2) := by decide) (hs : ∀ x, foldedSetIterable iter X.env x = pure x := by intro _; rfl) :
    ME X Wx (.ListComp elt [⟨tg, iter, ifs, 0⟩] scope pos) (eLc fi g ft fe (own.map (·.2))) := by
  obtain ⟨wi, pi, qi⟩ := hi
  exact ⟨_, pe_lc (g := cG X g is) (tt := cT X WF ft) (te := cE X WF fe) hc hN pi ok (fun s H C cl fp => (hg s H C cl fp).pg) (fun s H C cl fp => (ht s H C cl fp).pts) (fun s H C cl fp => (he s H C cl fp).pe) hs, fun env m σ G Q S R h => lcQ hsub qi env m σ G Q S R h⟩
end
end M
set_option Elab.async false
set_option linter.all false
set_option maxRecDepth 100000
namespace M
open PySem L2
variable [HasW]
/-! ### what a def promises -/
def CPost (K : PySem.W.Frag) (mg : Str → Option Value) (G : Wd) (r : Res W) (Q : VK) (E : XK) : Prop :=
  match r with
  | .ok w m => ∀ v G', Le G G' → RelM K G' m → RepR K G.H G' v w → Q v G'.H
  | .err e m => ∀ c d G', Le G G' → RelM K G' m → ExRep mg K G' c d e → E c d G'.H
  | .bad => False
abbrev FF := List W → Mem → Res W
def SpM (K : PySem.W.Frag) (mg : Str → Option Value) (n : Nat) (F : FF) : Sp := fun vs H Q E => ∃ G ws m, G.H = H ∧ RelM K G m ∧ Paired (RepW K G) vs ws ∧ ws.length = n ∧ CPost K mg G (F ws m) Q E
/-! ### leaving a def: what it made goes -/
/-- what is seen of an object made behind n, as data; the objects that it is made of -/
def viewsM (f : W → Option (D × List Nat)) : List (D × W) → Option (List (D × D) × List Nat)
  | [] => some ([], [])
  | p :: r => match f p.2 with
    | some (d, js) => match viewsM f r with
      | some (ds, ks) => some ((p.1, d) :: ds, js ++ ks)
      | none => none
    | none => none
def viewM (n : Nat) (m : Mem) : Nat → W → Option (D × List Nat)
  | _, .d x => some (x, [])
  | 0, _ => none
  | f + 1, .obj j => if j < n then none else match m[j]? with
    | some (.lst ds) => some (.list ds, [j])
    | some (.dcn kvs) => match viewsM (viewM n m f) kvs with
      | some (ds, js) => some (.dict ds, j :: js)
      | none => none
    | _ => none
  | _, _ => none
def clM (n : Nat) (m : Mem) : Bool := (m.take n).all (okO n)
def finM (n : Nat) (w : W) (m : Mem) : Res W := if clM n m = true then (match w with
  | .obj j => if j < n then .ok (.obj j) (m.take n) else match m[j]? with
    | some (.lst ds) => .ok (.fl ds) (m.take n)
    | some (.fz ds) => .ok (.d (.list ds)) (m.take n)
    | some (.dcn _) => match viewM n m 4 (.obj j) with
      | some p => .ok (.d p.1) (m.take n)
      | none => .bad
    | _ => .bad
  | .pr _ _ => .bad
  | w => .ok w (m.take n)) else .bad
def Wd.cut (G' G : Wd) (kp : Option Addr) : Wd := ⟨G.io, G'.lv.filter (fun a => decide (a ∈ G.lv ∨ some a = kp)), G'.H⟩
section
variable {K : PySem.W.Frag} {mg : Str → Option Value} {G G' : Wd} {m m' : Mem} {kp : Option Addr}
theorem mem_cut {a : Addr} : a ∈ (G'.cut G kp).lv ↔ a ∈ G'.lv ∧ (a ∈ G.lv ∨ some a = kp) := by
  show a ∈ G'.lv.filter _ ↔ _
  rw [List.mem_filter]
  simp
theorem Mo.cut : Mo G'.lv G'.H (G'.cut G kp).lv (G'.cut G kp).H := ⟨fun _ _ h _ _ => h, fun _ _ _ n z => n (mem_cut.mp z).1⟩
theorem Le.cut (le : Le G G') : Le G (G'.cut G kp) :=
  ⟨le.lt, ⟨[], by simp [Wd.cut], fun _ z => nomatch z⟩, fun a z => le.lv a (mem_cut.mp z).1, fun a z n => mem_cut.mpr ⟨le.stay a z n, .inl z⟩, le.keep, le.tr⟩
theorem Le.ioTake (le : Le G G') {i : Nat} (h : i < G.io.length) : G'.io[i]? = G.io[i]? := by
  obtain ⟨κ, e, _⟩ := le.io
  rw [e, List.getElem?_append_left h]
theorem RepW.cut {v : V} {w : W} (h : RepW K G' v w) (le : Le G G') (ok : okW G.io.length w = true) : RepW K (G'.cut G kp) v w := by
  cases w with
  | d x => exact Rep.mono Mo.cut h
  | obj j =>
    obtain ⟨a, h1, h2⟩ := h
    have hj : j < G.io.length := by simpa [okW] using ok
    exact ⟨a, by show G.io[j]? = _; rw [← le.ioTake hj]; exact h1, h2⟩
  | fl _ => cases ok
  | ro ds => obtain ⟨a, vs, e1, e2, e3⟩ := h; exact ⟨a, vs, e1, e2.mono Mo.cut, e3.mono Mo.cut⟩
  | pr x j =>
    obtain ⟨q, u, a, e1, e2, e3, e4⟩ := h
    have hj : j < G.io.length := by simpa [okW] using ok
    exact ⟨q, u, a, e1, e2.mono Mo.cut, e3.mono Mo.cut, by show G.io[j]? = _; rw [← le.ioTake hj]; exact e4⟩
/-- what is seen stands as data in a world that lets go of it -/
theorem view_rep {n : Nat} {G1 : Wd} (R' : RelM K G' m') (mo : Mo G'.lv G'.H G1.lv G1.H) (hH : G1.H = G'.H) : ∀ (f : Nat) {w : W} {v : V} {d : D} {js : List Nat}, (∀ j ∈ js, ∀ a, G'.io[j]? = some a → a ∉ G1.lv) → RepW K G' v w → viewM n m' f w = some (d, js) → Rep K G1.lv G1.H v d := by
  have dd : ∀ {f : Nat} {x : D} {v : V} {d : D} {js : List Nat}, RepW K G' v (.d x) → viewM n m' f (.d x) = some (d, js) → Rep K G1.lv G1.H v d := by
    intro f x v d js h e
    have e : some (x, ([] : List Nat)) = some (d, js) := by
      cases f <;> exact e
    cases e
    exact Rep.mono mo h
  intro f
  induction f with
  | zero =>
    intro w v d js hd h e
    cases w with
    | d x => exact dd h e
    | _ => simp [viewM] at e
  | succ f ih =>
    intro w v d js hd h e
    cases w with
    | d x => exact dd h e
    | obj j =>
      simp only [viewM] at e
      split at e
      · cases e
      · obtain ⟨a, h1, rfl⟩ := h
        cases eo : m'[j]? with
        | none => rw [eo] at e; cases e
        | some o =>
          rw [eo] at e
          have q := R'.ob j a o h1 eo
          cases o with
          | lst ds =>
            cases e
            obtain ⟨z1, vs, z2, r⟩ := q
            exact .lst ⟨hd j (by simp) a h1, by rw [hH]; exact z2⟩ (r.mono mo)
          | dcn kvs =>
            obtain ⟨z1, o, es, kvv, z2, z3, z4, r, nd⟩ := q
            dsimp only at e
            cases ev : viewsM (viewM n m' f) kvs with
            | none => rw [ev] at e; cases e
            | some p =>
              obtain ⟨ds, ks⟩ := p
              rw [ev] at e
              cases e
              have go : ∀ {kvv : List (D × V)} {kvs : List (D × W)} {ds : List (D × D)} {ks : List Nat}, (∀ j ∈ ks, ∀ a, G'.io[j]? = some a → a ∉ G1.lv) → Paired (fun (p : D × V) (q : D × W) => p.1 = q.1 ∧ RepW K G' p.2 q.2) kvv kvs → viewsM (viewM n m' f) kvs = some (ds, ks) →
                  Paired (fun (p : D × V) (q : D × D) => p.1 = q.1 ∧ Rep K G1.lv G1.H p.2 q.2) kvv ds ∧ ds.map (·.1) = kvs.map (·.1) := by
                intro kvv kvs ds ks hk r
                induction r generalizing ds ks with
                | nil => intro e; cases e; exact ⟨.nil, rfl⟩
                | @cons p q ps qs hq t iht =>
                  intro e
                  simp only [viewsM] at e
                  split at e
                  · rename_i d1 j1 e1
                    split at e
                    · rename_i d2 j2 e2
                      cases e
                      obtain ⟨t1, t2⟩ := iht (fun j hj => hk j (List.mem_append_right _ hj)) e2
                      exact ⟨.cons ⟨hq.1, ih (fun j hj => hk j (List.mem_append_left _ hj)) hq.2 e1⟩ t1, by simp [t2]⟩
                    · cases e
                  · cases e
              obtain ⟨g1, g2⟩ := go (fun j hj => hd j (List.mem_cons_of_mem _ hj)) r ev
              exact .dct (.inl ⟨hd j List.mem_cons_self a h1, by rw [hH]; exact z2⟩) z3 (RepE.of (z4.mono mo) g1) (by rw [g2]; exact nd)
          | _ => cases e
    | _ => simp [viewM] at e
theorem view_ge {n : Nat} : ∀ (f : Nat) {w : W} {d : D} {js : List Nat}, viewM n m' f w = some (d, js) → ∀ j ∈ js, n ≤ j := by
  intro f
  induction f with
  | zero =>
    intro w d js e
    cases w with
    | d x => cases e; intro j hj; cases hj
    | _ => simp [viewM] at e
  | succ f ih =>
    intro w d js e
    cases w with
    | d x => cases e; intro j hj; cases hj
    | obj j =>
      simp only [viewM] at e
      split at e
      · cases e
      · rename_i hj
        cases eo : m'[j]? with
        | none => rw [eo] at e; cases e
        | some o =>
          rw [eo] at e
          cases o with
          | lst ds => cases e; intro k hk; rw [List.mem_singleton.mp hk]; omega
          | dcn kvs =>
            dsimp only at e
            cases ev : viewsM (viewM n m' f) kvs with
            | none => rw [ev] at e; cases e
            | some p =>
              obtain ⟨ds, ks⟩ := p
              rw [ev] at e
              cases e
              have go : ∀ (kvs : List (D × W)) (ds : List (D × D)) (ks : List Nat), viewsM (viewM n m' f) kvs = some (ds, ks) → ∀ j ∈ ks, n ≤ j := by
                intro kvs
                induction kvs with
                | nil => intro ds ks e; cases e; intro j hj; cases hj
                | cons p r ihr =>
                  intro ds ks e
                  simp only [viewsM] at e
                  split at e
                  · rename_i d1 j1 e1
                    split at e
                    · rename_i d2 j2 e2
                      cases e
                      intro j hj
                      rcases List.mem_append.mp hj with z | z
                      · exact ih e1 j z
                      · exact ihr _ _ e2 j z
                    · cases e
                  · cases e
              intro k hk
              rcases List.mem_cons.mp hk with rfl | hk
              · omega
              · exact go _ _ _ ev k hk
          | _ => cases e
    | _ => simp [viewM] at e
theorem paired_all {α β : Type} {F F' : α → β → Prop} {p : β → Bool} (hm : ∀ a b, p b = true → F a b → F' a b) : ∀ {l₁ : List α} {l₂ : List β}, Paired F l₁ l₂ → l₂.all p = true → Paired F' l₁ l₂
  | _, _, .nil, _ => .nil
  | _, _, .cons h t, e => by
    rw [List.all_cons, Bool.and_eq_true] at e
    exact .cons (hm _ _ e.1 h) (paired_all hm t e.2)
theorem RelM.cut (R : RelM K G m) (R' : RelM K G' m') (le : Le G G') (hc : clM m.length m' = true) : RelM K (G'.cut G kp) (m'.take m.length) := by
  have hn : G.io.length = m.length := R.len
  have hl : m.length ≤ m'.length := by
    obtain ⟨κ, e, _⟩ := le.io
    rw [← R'.len, e, List.length_append, hn]; omega
  have hcl : ∀ i o, (m'.take m.length)[i]? = some o → okO m.length o = true := fun i o e => List.all_eq_true.mp hc o (List.mem_of_getElem? e)
  refine ⟨fun i o e => by
      rw [List.length_take, Nat.min_eq_left hl]
      exact hcl i o e, by show G.io.length = _; rw [List.length_take, hn]; omega, R.nd, fun a z => R'.lt a (mem_cut.mp z).1, fun a z => fun e => R.it a z (le.tr a e), fun i a ob e1 e2 => ?_, R'.tb.step (fun _ _ e _ => e) fun a _ z q => z (mem_cut.mp q).1⟩
  have e1 : G.io[i]? = some a := e1
  have hi : i < G.io.length := (List.getElem?_eq_some_iff.mp e1).1
  have hok : okO m.length ob = true := hcl i ob e2
  rw [List.getElem?_take_of_lt (by omega)] at e2
  have q := R'.ob i a ob (by rw [le.ioTake hi]; exact e1) e2
  have lv' : a ∈ G'.lv → a ∈ (G'.cut G kp).lv := fun z => mem_cut.mpr ⟨z, .inl (by
    rcases le.lv a z with y | y
    · exact y
    · exact absurd y (R.it a (List.mem_of_getElem? e1)))⟩
  cases ob with
  | lst ds => obtain ⟨z1, vs, z2, r⟩ := q; exact ⟨lv' z1, vs, z2, r.mono Mo.cut⟩
  | fz ds => obtain ⟨z1, vs, z2, r⟩ := q; exact ⟨fun z => z1 (mem_cut.mp z).1, vs, z2, r.mono Mo.cut⟩
  | dct kvs =>
    obtain ⟨z1, ks, z2, r⟩ := q
    exact ⟨lv' z1, ks, z2, paired_all (fun a b hb z => ⟨z.1, z.2.cut le (by rw [hn]; exact hb)⟩) r hok⟩
  | lsw ws =>
    obtain ⟨z1, vs, z2, r⟩ := q
    exact ⟨lv' z1, vs, z2, paired_all (fun a b hb z => z.cut le (by rw [hn]; exact hb)) r hok⟩
  | dcn kvs =>
    obtain ⟨z1, o, es, kvv, z2, z3, z4, r, n⟩ := q
    exact ⟨lv' z1, o, es, kvv, z2, z3, z4.mono Mo.cut, paired_all (fun a b hb z => ⟨z.1, z.2.cut le (by rw [hn]; exact hb)⟩) r hok, n⟩
  | dead => exact q
  | ins c kvs =>
    obtain ⟨z1, C, dx, vs, z0, z2, r⟩ := q
    exact ⟨lv' z1, C, dx, vs, z0, z2, paired_all (fun a b hb z => ⟨z.1, z.2.cut le (by rw [hn]; exact hb)⟩) r hok⟩
theorem finM_ok {Q : VK} {E : XK} {w : W} {v : V} (R : RelM K G m) (R' : RelM K G' m') (le : Le G G') (r : RepR K G.H G' v w) (h : CPost K mg G (finM m.length w m') Q E) : Q v G'.H := by
  unfold finM at h
  by_cases hc : clM m.length m' = true
  · rw [if_pos hc] at h
    have hn : G.io.length = m.length := R.len
    cases w with
    | pr x i => exact False.elim h
    | d x => exact h v (G'.cut G none) le.cut (R.cut R' le hc) (Rep.mono Mo.cut r)
    | ro ds => exact h v (G'.cut G none) le.cut (R.cut R' le hc) (by obtain ⟨a, vs, e1, e2, e3⟩ := r; exact ⟨a, vs, e1, e2.mono Mo.cut, e3.mono Mo.cut⟩)
    | fl ds =>
      obtain ⟨p, vs, rfl, h0, h1, h2, h3, r⟩ := r
      refine h (.ref p) (G'.cut G (some p)) le.cut (R.cut R' le hc) ⟨p, vs, rfl, h0, fun z => R.it p z h0, mem_cut.mpr ⟨h2, .inr rfl⟩, h3, r.mono Mo.cut⟩
    | obj j =>
      obtain ⟨a, h1, rfl⟩ := r
      simp only at h
      by_cases hj : j < m.length
      · rw [if_pos hj] at h
        exact h (.ref a) (G'.cut G none) le.cut (R.cut R' le hc) ⟨a, by show G.io[j]? = _; rw [← le.ioTake (by omega)]; exact h1, rfl⟩
      · rw [if_neg hj] at h
        obtain ⟨κ, ek, nk⟩ := le.io
        have ha : a ∈ κ := by
          rw [ek, List.getElem?_append_right (by omega)] at h1
          exact List.mem_of_getElem? h1
        have h0 : G.H a = none := nk a ha
        cases eo : m'[j]? with
        | none => rw [eo] at h; exact False.elim h
        | some ob =>
          rw [eo] at h
          have q := R'.ob j a ob h1 eo
          cases ob with
          | lst ds =>
            obtain ⟨z1, vs, z2, r⟩ := q
            exact h (.ref a) (G'.cut G (some a)) le.cut (R.cut R' le hc) ⟨a, vs, rfl, h0, fun z => R.it a z h0, mem_cut.mpr ⟨z1, .inr rfl⟩, z2, r.mono Mo.cut⟩
          | fz ds =>
            obtain ⟨z1, vs, z2, r⟩ := q
            exact h (.ref a) (G'.cut G none) le.cut (R.cut R' le hc) (Rep.lst ⟨fun z => z1 (mem_cut.mp z).1, z2⟩ (r.mono Mo.cut))
          | dct kvs => exact False.elim h
          | lsw ws => exact False.elim h
          | dead => exact False.elim h
          | ins _ _ => exact False.elim h
          | dcn kvs =>
            dsimp only at h
            cases ev : viewM m.length m' 4 (.obj j) with
            | none => rw [ev] at h; exact False.elim h
            | some p =>
              obtain ⟨d, js⟩ := p
              rw [ev] at h
              refine h (.ref a) (G'.cut G none) le.cut (R.cut R' le hc) (view_rep R' Mo.cut rfl 4 (fun j hj b hb z => ?_) (w := .obj j) ⟨a, h1, rfl⟩ ev)
              have hjn := view_ge 4 ev j hj
              have hk : b ∈ κ := by
                rw [ek, List.getElem?_append_right (by omega)] at hb
                exact List.mem_of_getElem? hb
              rcases (mem_cut.mp z).2 with y | y
              · exact R.lt b y (nk b hk)
              · cases y
  · rw [if_neg hc] at h
    exact False.elim h
end
/-! ### a def by its body -/
def env0 (N : Nat) (ws : List W) : Env := ws.map some ++ List.replicate (N - ws.length) none
def runF (N : Nat) (g : SF) (ws : List W) (m : Mem) : Res W := match g (env0 N ws) m with
  | .rt w m' => finM m.length w m'
  | .nx _ m' => finM m.length (.d .none) m'
  | .err e _ m' => if clM m.length m' = true then .err e (m'.take m.length) else .bad
  | _ => .bad
/-- what it made stays -/
def runA (N : Nat) (g : SF) (ws : List W) (m : Mem) : Res W := match g (env0 N ws) m with
  | .rt w m' => .ok w m'
  | .nx _ m' => .ok (.d .none) m'
  | .err e _ m' => .err e m'
  | _ => .bad
theorem Paired.get {α β : Type} {F : α → β → Prop} : ∀ {l₁ : List α} {l₂ : List β} {i : Nat} {b : β}, Paired F l₁ l₂ → l₂[i]? = some b → ∃ a, l₁[i]? = some a ∧ F a b
  | _, _, _, _, .nil, e => by simp at e
  | _, _, 0, _, .cons h t, e => by simp at e; subst e; exact ⟨_, rfl, h⟩
  | _, _, i + 1, b, .cons h t, e => by
    obtain ⟨a, h1, h2⟩ := Paired.get (i := i) (b := b) t (by simpa using e)
    exact ⟨a, by simpa using h1, h2⟩
theorem RelS.start {K : PySem.W.Frag} {G : Wd} {N : List Str} {vs : List V} {ws : List W} (h : Paired (RepW K G) vs ws) : RelS K G (L2.start N vs) (env0 N.length ws) := by
  have hl := Paired.length h
  refine ⟨by unfold L2.start env0; simp [hl], fun i w e => ?_⟩
  unfold env0 at e
  by_cases hi : i < ws.length
  · rw [List.getElem?_append_left (by simpa using hi), List.getElem?_map] at e
    cases q : ws[i]? with
    | none => rw [q] at e; cases e
    | some u =>
      rw [q] at e
      cases e
      obtain ⟨v, h1, h2⟩ := Paired.get h q
      exact ⟨v, by unfold L2.start; rw [List.getElem?_append_left (by simp [hl]; exact hi), List.getElem?_map, h1]; rfl, h2⟩
  · rw [List.getElem?_append_right (by simpa using hi), List.getElem?_replicate] at e
    split at e <;> cases e
section
variable {P : Program} {w : World} {K : PySem.W.Frag} {mg : Str → Option Value} {base : Heap}
abbrev cxM (P : Program) (w : World) (K : PySem.W.Frag) (mg : Str → Option Value) (base : Heap) (N : List Str) (qual : Str) (scope : Scope) (f : Addr) (cd : Value) (A : Around) (outer : List PySem.Env) (s : Shared) (H : Hp) (E : XK) : Cx :=
  cxOf (L2.CX P w) P w K mg base N qual scope f cd A outer s H E
theorem okF {x qual : Str} {st : Stmt} {f : Addr} {fd : FuncData} {N ps : List Str} {k : Nat} {g : SF} (F : Fun K x qual st f fd) (S : FnScope N ps (defScope st))
    (hbody : ∀ (cdv : Value) (A : Around) (outer : List PySem.Env) (s : Shared) (H : Hp) (E : XK), Room k (A.deeper (PyProof.Rows.envOfC qual (defScope st) s.heap.objs.size f cdv)) →
      MB (cxM P w K mg base N qual (defScope st) f cdv A outer s H E) (fun c d _ H' => E c d H') (defBody st) g) : FnOk P w K mg base (L2.CX P w) (k + 1) f fd ps (SpM K mg ps.length (runF N.length g)) := by
  refine F.okX S (fun vs H Q E ⟨G, ws, m, _, _, h, hl, _⟩ => (Paired.length h).trans hl) fun cdv A outer s H vs Q E hr ⟨G, ws, m, eH, R, hp, hl, hq⟩ => ?_
  subst eH
  obtain ⟨t, p, q⟩ := hbody cdv A outer s G.H E hr
  refine ⟨t, p, q (env0 N.length ws) m (L2.start N vs) G _ (RelS.start hp) R ?_⟩
  unfold runF at hq
  cases e : g (env0 N.length ws) m with
  | rt w' m' => rw [e] at hq; exact fun v G' le R' r => finM_ok R R' le r hq
  | nx e1 m' => rw [e] at hq; exact fun σ' G' le R' S' => finM_ok (w := .d .none) (v := .non) R R' le Rep.non hq
  | bk e1 m' => rw [e] at hq; exact False.elim hq
  | ct e1 m' => rw [e] at hq; exact False.elim hq
  | err x e1 m' =>
    rw [e] at hq
    intro c d σ' G' le R' S' hx
    by_cases hc : clM m.length m' = true
    rotate_left
    · dsimp only at hq
      rw [if_neg hc] at hq
      exact False.elim hq
    dsimp only at hq
    rw [if_pos hc] at hq
    refine hq c d (G'.cut G none) le.cut (R.cut R' le hc) ⟨hx.1, ?_⟩
    rcases hx.2 with z | ⟨dd, fs, z0, z1, z2, z3, z4⟩
    · exact .inl z
    · refine .inr ⟨dd, fs, z0, z1, z2, fun z => z3 ?_, Paired.mono (fun _ _ z => ⟨z.1, Rep.mono Mo.cut z.2⟩) z4⟩
      obtain ⟨κ, ek, _⟩ := le.io
      rw [ek]
      exact List.mem_append_left _ z
  | bad => rw [e] at hq; exact False.elim hq
theorem okA {x qual : Str} {st : Stmt} {f : Addr} {fd : FuncData} {N ps : List Str} {k : Nat} {g : SF} (F : Fun K x qual st f fd) (S : FnScope N ps (defScope st))
    (hbody : ∀ (cdv : Value) (A : Around) (outer : List PySem.Env) (s : Shared) (H : Hp) (E : XK), Room k (A.deeper (PyProof.Rows.envOfC qual (defScope st) s.heap.objs.size f cdv)) →
      MB (cxM P w K mg base N qual (defScope st) f cdv A outer s H E) (fun c d _ H' => E c d H') (defBody st) g) : FnOk P w K mg base (L2.CX P w) (k + 1) f fd ps (SpM K mg ps.length (runA N.length g)) := by
  refine F.okX S (fun vs H Q E ⟨G, ws, m, _, _, h, hl, _⟩ => (Paired.length h).trans hl) fun cdv A outer s H vs Q E hr ⟨G, ws, m, eH, R, hp, hl, hq⟩ => ?_
  subst eH
  obtain ⟨t, p, q⟩ := hbody cdv A outer s G.H E hr
  refine ⟨t, p, q (env0 N.length ws) m (L2.start N vs) G _ (RelS.start hp) R ?_⟩
  unfold runA at hq
  cases e : g (env0 N.length ws) m with
  | rt w' m' => rw [e] at hq; exact hq
  | nx e1 m' => rw [e] at hq; exact fun σ' G' le R' S' => hq .non G' le R' Rep.non
  | bk e1 m' => rw [e] at hq; exact False.elim hq
  | ct e1 m' => rw [e] at hq; exact False.elim hq
  | err x e1 m' => rw [e] at hq; exact fun c d σ' G' le R' S' hx => hq c d G' le R' hx
  | bad => rw [e] at hq; exact False.elim hq
/-- nothing is asked of it -/
def badF (_ : List W) (_ : Mem) : Res W := .bad
theorem okBad {f : Addr} {fd : FuncData} {ps : List Str} {k n : Nat} : FnOk P w K mg base (L2.CX P w) k f fd ps (SpM K mg n badF) := by
  have no : ∀ vs H Q E, ¬ SpM K mg n badF vs H Q E := fun vs H Q E ⟨_, _, _, _, _, _, _, h⟩ => h
  exact ⟨fun vs H Q E h => absurd h (no vs H Q E), fun A outer s H args us vs Q E _ _ _ _ h => absurd h (no vs H Q E)⟩
end
/-! ### calls of defs -/
section
variable {X : Cx} {Wx : WX}
def noFl : List W → Bool
  | [] => true
  | .fl _ :: _ => false
  | _ :: r => noFl r
theorem noFl_rep {K : PySem.W.Frag} {H0 : Hp} {G : Wd} : ∀ {vs : List V} {ws : List W}, RepRs K H0 G vs ws → noFl ws = true → Paired (RepW K G) vs ws
  | _, _, .nil, _ => .nil
  | _, .d x :: _, .cons h t, e => .cons h (noFl_rep t e)
  | _, .obj x :: _, .cons h t, e => .cons h (noFl_rep t e)
  | _, .ro x :: _, .cons h t, e => .cons h (noFl_rep t e)
  | _, .pr x i :: _, .cons h t, e => .cons h (noFl_rep t e)
  | _, .fl x :: _, .cons h t, e => by cases e
def callM (F : FF) (ws : List W) (m : Mem) : Res W := if noFl ws = true then F ws m else .bad
def eCallF (F : FF) (a : AF) (env : Env) (m : Mem) : Res W := (a env m).bind fun ws m1 => callM F ws m1
theorem callM_ok {F : FF} {σ : St} {G : Wd} {m : Mem} {vs : List V} {ws : List W} {H0 : Hp} {Q : VK} {n : Nat} (R : RelM X.K G m) (r : RepRs X.K H0 G vs ws) (hn : ws.length = n) (h : GPost X Wx σ G (RepR X.K) (callM F ws m) Q) : SpM X.K X.mg n F vs G.H Q (WE Wx σ) := by
  unfold callM at h
  by_cases hz : noFl ws = true
  · rw [if_pos hz] at h
    refine ⟨G, ws, m, rfl, R, noFl_rep r hz, hn, ?_⟩
    cases e : F ws m with
    | ok w m' => rw [e] at h; exact h
    | err x m' => rw [e] at h; exact h
    | bad => rw [e] at h; exact h
  · rw [if_neg hz] at h
    exact False.elim h
theorem me_call {k n : Nat} {f : Addr} {fd : FuncData} {ps : List Str} {x : Str} {p pos : Pos} {e : Expr} {es : List Expr} {F : FF} {g : AF} (tk : Takes X Wx) (hF : FnOk X.prog X.w X.K X.mg X.base (L2.CX X.prog X.w) k f fd ps (SpM X.K X.mg n F)) (hr : Room k X.A) (hm : X.mg x = some (.ref f)) (hk : PySem.W.keepIn X.K (.ref f) = true)
    (hb : Binds X.K fd ps []) (hg : Gl X x) (ha : MA X Wx (e :: es) g) (hn : ∀ env m ws m', g env m = .ok ws m' → ws.length = n) (hdb : (x == ("__debug__" : Str)) = false := by decide) (he : starEach (e :: es) X.env = (false, eval e X.env) :: starEach es X.env := by rfl) (hpl : (backTo pos (starEach es X.env)).any (·.1) = false := by rfl) :
    ME X Wx (.Call (.Name x p) (e :: es) [] pos) (eCallF F g) := by
  obtain ⟨t, pa, qa⟩ := ha
  refine ⟨_, pe_callS hF hr hg hm hk hb (fun σ => passAt tk σ) pa hdb he hpl, fun env m σ G Q S R h => ?_⟩
  unfold eCallF at h
  cases ew : g env m with
  | ok ws m1 =>
    have hl := hn env m ws m1 ew
    rw [ew] at h
    refine qa env m σ G _ S R ?_
    rw [ew]
    exact fun vs G1 le1 R1 q1 => callM_ok R1 q1 hl (GPost.later weakR h le1)
  | err x m1 => rw [ew] at h; refine qa env m σ G _ S R ?_; rw [ew]; exact h
  | bad => rw [ew] at h; exact False.elim h
theorem aNil_len : ∀ env m ws m', aNil env m = .ok ws m' → ws.length = 0 := fun env m ws m' h => by cases h; rfl
theorem aCons_len {f : EF} {g : AF} {n : Nat} (h : ∀ env m ws m', g env m = .ok ws m' → ws.length = n) : ∀ env m ws m', aCons f g env m = .ok ws m' → ws.length = n + 1 := fun env m ws m' e => by
  unfold aCons at e
  cases e1 : f env m with
  | ok x m1 =>
    rw [e1] at e
    simp only [Res.bind_ok] at e
    cases e2 : g env m1 with
    | ok xs m2 =>
      rw [e2] at e
      cases e
      rw [List.length_cons, h env m1 xs _ e2]
    | err _ _ => rw [e2] at e; cases e
    | bad => rw [e2] at e; cases e
  | err _ _ => rw [e1] at e; cases e
  | bad => rw [e1] at e; cases e
/-! ### methods of built-in types -/
def isTyW (T : String) (w : W) (m : Mem) : Bool :=
  match w with
  | .d (.str _) => T == "str"
  | .obj i => match m[i]? with
    | some (.dct _) => T == "dict"
    | some (.dcn _) => false
    | some .dead => false
    | some (.ins _ _) => false
    | some _ => T == "list"
    | none => false
  | w => (asL w m).isSome && T == "list"
theorem isTyW_ok {T : String} {G : Wd} {m : Mem} {v : V} {w : W} {H0 : Hp} (R : RelM X.K G m) (r : RepR X.K H0 G v w) (h : isTyW T w m = true) : tyV X.K T v G.H := by
  have lst : (asL w m).isSome = true → T = "list" → tyV X.K T v G.H := fun e eT => by
    obtain ⟨ds, e⟩ := Option.isSome_iff_exists.mp e
    obtain ⟨a, vs, rfl, h1, _⟩ := asL_sq R r e
    exact .inl ⟨eT, vs, h1⟩
  have go : ((asL w m).isSome && T == "list") = true → tyV X.K T v G.H := fun z => by
    rw [Bool.and_eq_true] at z
    exact lst z.1 (by simpa using z.2)
  cases w with
  | d x =>
    cases x with
    | str z => cases r; show T = "str"; simpa [isTyW] using h
    | _ => exact go h
  | obj i =>
    obtain ⟨a, h1, rfl⟩ := id r
    simp only [isTyW] at h
    cases e : m[i]? with
    | none => rw [e] at h; cases h
    | some o =>
      rw [e] at h
      cases o with
      | lst ds => exact lst (by simp [asL, e]) (by simpa using h)
      | fz ds => exact lst (by simp [asL, e]) (by simpa using h)
      | dct kvs =>
        obtain ⟨_, ks, h2, _⟩ := R.ob i a _ h1 e
        exact .inr (.inr (.inl ⟨by simpa using h, .inl ⟨ks, h2⟩⟩))
      | lsw ws =>
        obtain ⟨_, vs, h2, _⟩ := R.ob i a _ h1 e
        exact .inl ⟨by simpa using h, vs, SqL.of h2⟩
      | dcn _ => cases h
      | dead => cases h
      | ins _ _ => cases h
  | fl _ => exact go h
  | ro _ => exact go h
  | pr _ _ => exact go h
def MtOk (X : Cx) (Wx : WX) (r : V → List V → Hp → VK → Prop) (g : W → List W → Mem → Res W) : Prop :=
  ∀ (σ : St) (G : Wd) (m : Mem) (v : V) (x : W) (vs : List V) (ws : List W) (H0 H1 : Hp) (Q : VK), RelM X.K G m → RepR X.K H0 G v x → RepRs X.K H1 G vs ws → GPost X Wx σ G (RepR X.K) (g x ws m) Q → r v vs G.H Q
def eMt (T : String) (g : W → List W → Mem → Res W) (a : EF) (b : AF) (env : Env) (m : Mem) : Res W := (a env m).bind fun x m1 => if isTyW T x m1 = true then (b env m1).bind fun ws m2 => g x ws m2 else .bad
theorem me_bm {T id : String} {o e : Expr} {es : List Expr} {name : Str} {apos cpos : Pos} {r : V → List V → Hp → VK → Prop} {g : W → List W → Mem → Res W} {fa : EF} {fb : AF} (pa : PlainAttrs T) (slot : Slot T name id) (hty : typeOf (.builtin id) = pure (.type "method_descriptor")) (hm : MtR X id r) (hk : MtOk X Wx r g) (ho : ME X Wx o fa) (ha : MA X Wx (e :: es) fb)
    (hbase : attributeBase o name X.env (eval o X.env) = eval o X.env := by rfl)
    (hfew : ((backTo cpos (starEach (e :: es) X.env)).all (fun x => !x.1) && (backToKw cpos (keywordEach [] X.env)).all (fun x => x.1.isSome) && decide ((e :: es).length + ([] : List Keyword).length + (if ([] : List Keyword).isEmpty then 0 else 1) < 30)) = true := by rfl)
    (hline : (apos.endLine == cpos.line) = true := by rfl) (hs : starEach (e :: es) X.env = (false, eval e X.env) :: starEach es X.env := by rfl) (hplain : (backTo cpos (starEach es X.env)).any (·.1) = false := by rfl) :
    ME X Wx (.Call (.Attribute o name apos) (e :: es) [] cpos) (eMt T g fa fb) := by
  obtain ⟨ta, po, qo⟩ := ho
  obtain ⟨tb, pb, qb⟩ := ha
  refine ⟨_, pe_bm pa slot hty hm po pb hbase hfew hline hs hplain, fun env m σ G Q S R h => qo env m σ G _ S R (GPost.bind weakR h fun x m1 v G1 le1 R1 q1 h1 => ?_)⟩
  by_cases hz : isTyW T x m1 = true
  · simp only [hz, if_true] at h1
    exact ⟨isTyW_ok R1 q1 hz, qb env m1 σ G1 _ (S.mono le1) R1 (GPost.bind weakR h1 fun ws m2 vs G2 le2 R2 q2 h2 => hk σ G2 m2 v x vs ws _ _ Q R2 (q1.mono le2) q2 h2)⟩
  · simp only [hz] at h1
    exact False.elim h1
def eMt0 (T : String) (g : W → List W → Mem → Res W) (a : EF) (env : Env) (m : Mem) : Res W := (a env m).bind fun x m1 => if isTyW T x m1 = true then g x [] m1 else .bad
end
end M
set_option Elab.async false
set_option linter.all false
set_option maxRecDepth 100000
namespace M
open PySem L2
variable [HasW]
section
variable {X : Cx} {Wx : WX}
/-! ### built-in functions -/
def lenW (ws : List W) (m : Mem) : Res W := match ws with
  | [.d (.str z)] => if z.length ≤ sizeLine then .ok (.d (.int (z.length : Int))) m else .bad
  | [.d (.tuple ds)] => .ok (.d (.int (ds.length : Int))) m
  | [w] => match asL w m with
    | some ds => .ok (.d (.int (ds.length : Int))) m
    | none => .bad
  | _ => .bad
theorem lenW_ok : CallOk X Wx (fun xs H Q => ∃ x n, xs = [x] ∧ LenV X.K x H n ∧ Q (.int n) H) lenW := by
  intro σ G m vs ws H0 Q R r h
  unfold lenW at h
  split at h
  · rename_i z
    obtain ⟨v, rfl, r0⟩ := paired1 r
    cases r0
    split at h
    · rename_i hz
      exact ⟨_, z.length, rfl, (show _ ∧ _ from ⟨hz, rfl⟩), finD R h (.int _)⟩
    · exact False.elim h
  · rename_i ds
    obtain ⟨v, rfl, r0⟩ := paired1 r
    cases r0 with
    | tup t r => exact ⟨_, _, rfl, .inr ⟨_, t.sq, r.length.symm⟩, finD R h (.int _)⟩
  · rename_i w _ _
    obtain ⟨v, rfl, r0⟩ := paired1 r
    cases e : asL w m with
    | none => simp only [e] at h; exact False.elim h
    | some ds =>
      simp only [e] at h
      obtain ⟨a, us, rfl, h1, r1⟩ := asL_sq R r0 e
      exact ⟨_, _, rfl, .inl ⟨us, h1, r1.length.symm⟩, finD R h (.int _)⟩
  · exact False.elim h
def dInts : List D → Option (List Int)
  | [] => some []
  | .int i :: r => (dInts r).map (i :: ·)
  | _ :: _ => none
theorem dInts_map : ∀ {ds : List D} {ns : List Int}, dInts ds = some ns → ds = ns.map PyData.int
  | [], ns, e => by cases e; rfl
  | .int i :: r, ns, e => by
    simp only [dInts] at e
    cases q : dInts r with
    | none => rw [q] at e; cases e
    | some es => rw [q] at e; cases e; rw [dInts_map q]; rfl
  | .none :: _, _, e => by cases e
  | .bool _ :: _, _, e => by cases e
  | .str _ :: _, _, e => by cases e
  | .list _ :: _, _, e => by cases e
  | .tuple _ :: _, _, e => by cases e
  | .dict _ :: _, _, e => by cases e
@[simp] theorem dInts_ints : ∀ ns : List Int, dInts (ns.map PyData.int) = some ns
  | [] => rfl
  | n :: ns => by simp only [List.map_cons, dInts, dInts_ints ns]; rfl
def dBools : List D → Option (List Bool)
  | [] => some []
  | .bool i :: r => (dBools r).map (i :: ·)
  | _ :: _ => none
theorem dBools_map : ∀ {ds : List D} {ns : List Bool}, dBools ds = some ns → ds = ns.map PyData.bool
  | [], ns, e => by cases e; rfl
  | .bool i :: r, ns, e => by
    simp only [dBools] at e
    cases q : dBools r with
    | none => rw [q] at e; cases e
    | some es => rw [q] at e; cases e; rw [dBools_map q]; rfl
  | .none :: _, _, e => by cases e
  | .int _ :: _, _, e => by cases e
  | .str _ :: _, _, e => by cases e
  | .list _ :: _, _, e => by cases e
  | .tuple _ :: _, _, e => by cases e
  | .dict _ :: _, _, e => by cases e
@[simp] theorem dBools_bools : ∀ ns : List Bool, dBools (ns.map PyData.bool) = some ns
  | [] => rfl
  | n :: ns => by simp only [List.map_cons, dBools, dBools_bools ns]; rfl
def lst1 {α : Type} (g : List D → Option α) (k : α → D) (ws : List W) (m : Mem) : Res W := match ws with
  | [w] => match (asL w m).bind g with
    | some ns => .ok (.d (k ns)) m
    | none => .bad
  | _ => .bad
theorem lst1_get {α : Type} {g : List D → Option α} {k : α → D} {σ : St} {G : Wd} {m : Mem} {vs : List V} {ws : List W} {H0 : Hp} {Q : VK} (R : RelM X.K G m) (r : RepRs X.K H0 G vs ws) (h : GPost X Wx σ G (RepR X.K) (lst1 g k ws m) Q) :
    ∃ a us ds ns, vs = [.ref a] ∧ SqL X.K G.H a us ∧ Reps X.K G.lv G.H us ds ∧ g ds = some ns ∧ GPost X Wx σ G (RepR X.K) (.ok (.d (k ns)) m) Q := by
  unfold lst1 at h
  split at h
  · rename_i w
    obtain ⟨v, rfl, r0⟩ := paired1 r
    cases e : asL w m with
    | none => simp only [e, Option.bind_none] at h; exact False.elim h
    | some ds =>
      simp only [e, Option.bind_some] at h
      obtain ⟨a, us, rfl, h1, r1⟩ := asL_sq R r0 e
      cases eg : g ds with
      | none => simp only [eg] at h; exact False.elim h
      | some ns => simp only [eg] at h; exact ⟨a, us, ds, ns, rfl, h1, r1, eg, h⟩
  · exact False.elim h
def sumW := lst1 dInts fun ns => .int ns.sum
theorem sumW_ok : CallOk X Wx (rSum X.K) sumW := by
  intro σ G m vs ws H0 Q R r h
  obtain ⟨a, us, ds, ns, rfl, h1, r1, eg, h⟩ := lst1_get R r h
  rw [dInts_map eg] at r1
  rw [r1.vints] at h1
  exact ⟨a, ns, rfl, h1, finD R h (.int _)⟩
def allW := lst1 dBools fun ns => .bool (ns.all id)
theorem allW_ok : CallOk X Wx (rAll X.K) allW := by
  intro σ G m vs ws H0 Q R r h
  obtain ⟨a, us, ds, ns, rfl, h1, r1, eg, h⟩ := lst1_get R r h
  rw [dBools_map eg] at r1
  rw [r1.vbls] at h1
  exact ⟨a, ns, rfl, h1, finD R h (.bl _)⟩
/-! ### isinstance -/
inductive Tk where
  | non | bl | int | str | lst | tup | dct
def Tk.name : Tk → String
  | .non => "NoneType"
  | .bl => "bool"
  | .int => "int"
  | .str => "str"
  | .lst => "list"
  | .tup => "tuple"
  | .dct => "dict"
def Tk.sub : Tk → Tk → Bool
  | .non, .non => true
  | .bl, .bl => true
  | .bl, .int => true
  | .int, .int => true
  | .str, .str => true
  | .lst, .lst => true
  | .tup, .tup => true
  | .dct, .dct => true
  | _, _ => false
theorem Tk.kit : ∀ a b : Tk, kitB a.name b.name = some (a.sub b) := by
  intro a b
  cases a <;> cases b <;> decide +kernel
def tyW (w : W) (m : Mem) : Option Tk := match w with
  | .d .none => some .non
  | .d (.bool _) => some .bl
  | .d (.int _) => some .int
  | .d (.str _) => some .str
  | .d (.list _) => some .lst
  | .d (.tuple _) => some .tup
  | .fl _ => some .lst
  | .ro _ => some .lst
  | .obj i => match m[i]? with
    | some (.lst _) => some .lst
    | some (.fz _) => some .lst
    | some (.dct _) => some .dct
    | some (.lsw _) => some .lst
    | _ => none
  | _ => none
theorem SqL.tyx {K : PySem.W.Frag} {H : Hp} {a : Addr} {vs : List V} (h : SqL K H a vs) : TyX K H (.ref a) (.type "list") := by
  rcases h with (h | ⟨o, h⟩) | ⟨o, its, n, h1, h2, _⟩
  · exact .base (.lst h)
  · exact .base (.frz h)
  · exact .kList h1 h2
theorem tyW_ok {G : Wd} {m : Mem} {v : V} {w : W} {H0 : Hp} {t : Tk} (R : RelM X.K G m) (r : RepR X.K H0 G v w) (e : tyW w m = some t) : TyX X.K G.H v (.type t.name) := by
  cases w with
  | d x =>
    cases x with
    | none => cases r; cases e; exact .base .non
    | bool b => cases r; cases e; exact .base (.bl _)
    | int b => cases r; cases e; exact .base (.int _)
    | str b => cases r; cases e; exact .base (.str _)
    | list ds =>
      cases e
      cases r with
      | lst t r => exact .base (.lst t.2)
    | tuple ds =>
      cases e
      cases r with
      | tup t r =>
        rcases t with t | ⟨o, its, n, h1, h2, _⟩
        · exact .base (.tup t.2)
        · exact .kTuple h1 h2
    | dict _ => cases e
  | fl ds => cases e; obtain ⟨p, vs, rfl, _, _, _, h3, _⟩ := r; exact .base (.lst h3)
  | ro ds => cases e; obtain ⟨p, vs, rfl, h1, _⟩ := r; exact SqL.tyx h1.sq
  | obj i =>
    obtain ⟨a, h1, rfl⟩ := r
    simp only [tyW] at e
    cases eo : m[i]? with
    | none => rw [eo] at e; cases e
    | some o =>
      rw [eo] at e
      have q := R.ob i a o h1 eo
      cases o with
      | lst ds => cases e; obtain ⟨_, vs, h3, _⟩ := q; exact .base (.lst h3)
      | fz ds => cases e; obtain ⟨_, vs, h3, _⟩ := q; exact .base (.lst h3)
      | dct ds => cases e; obtain ⟨_, vs, h3, _⟩ := q; exact .base (.dK h3)
      | lsw ws => cases e; obtain ⟨_, vs, h3, _⟩ := q; exact .base (.lst h3)
      | dcn _ => cases e
      | dead => cases e
      | ins _ _ => cases e
  | pr _ _ => cases e
def eIsi (ts : List Tk) (f : EF) (env : Env) (m : Mem) : Res W := (f env m).bind fun w m1 => match tyW w m1 with
  | some t => .ok (.d (.bool (ts.any fun u => t.sub u))) m1
  | none => .bad
theorem me_isi (t : Tk) {e : Expr} {f : EF} {x : Str} {p p' pos : Pos} (hg : Gl X "isinstance") (hm : X.mg "isinstance" = none) (hgT : Gl X x) (hmT : X.mg x = none) (he : ME X Wx e f) (hx : bootBuiltins x = some (.type t.name) := by decide +kernel)
    (hn : x ≠ "__name__" := by decide) (hd : (x == ("__debug__" : Str)) = false := by decide)
    (h1 : starEach [e, .Name x p'] X.env = (false, eval e X.env) :: starEach [.Name x p'] X.env := by rfl) (hpl : (backTo pos (starEach [.Name x p'] X.env)).any (·.1) = false := by rfl) (h2 : starEach [.Name x p'] X.env = (false, eval (.Name x p') X.env) :: starEach [] X.env := by rfl) :
    ME X Wx (.Call (.Name "isinstance" p) [e, .Name x p'] [] pos) (eIsi [t] f) := by
  obtain ⟨te, pe, qe⟩ := he
  refine ⟨_, pe_callB call_isi hg hm (by decide +kernel) (pa_cons pe (pa_cons (pe_bltn (v := .ty t.name) hgT hmT hx rfl hn hd) pa_nil h2) h1) (by decide) (by decide) h1 hpl, fun env m σ G Q S R h => qe env m σ G _ S R (GPost.bind weakR h fun w m1 v G1 le1 R1 q1 h1 => ?_)⟩
  cases e : tyW w m1 with
  | none => simp only [e] at h1; exact False.elim h1
  | some t' =>
    simp only [e] at h1
    refine ⟨v, .ty t.name, .type t'.name, .type t.name, t'.sub t, rfl, .ty _, tyW_ok R1 q1 e, kit_ty (Tk.kit _ _), ?_⟩
    have h1 : GPost X Wx σ G1 (RepR X.K) (.ok (.d (.bool (t'.sub t || false))) m1) Q := h1
    rw [Bool.or_false] at h1
    exact finD R1 h1 (.bl _)
/-! ### methods of lists -/
theorem obj_mut {i : Nat} {ds es : List D} {σ : St} {G : Wd} {m : Mem} {Q : VK} {v : V} {vs us : List V} {x : D} (R : RelM X.K G m) (h1 : G.io[i]? = some a) (hl : a ∈ G.lv) (r : Reps X.K G.lv G.H us es) (rx : Rep X.K G.lv G.H v x) (h : GPost X Wx σ G (RepR X.K) (.ok (.d x) (m.set i (.lst es))) Q) : Q v (upd G.H a (.lst us)) := by
  have le : Le G ⟨G.io, G.lv, upd G.H a (.lst us)⟩ := Le.mut R h1 hl
  exact h v _ le (R.mut h1 hl ⟨hl, us, upd_same, r.mono le.mo⟩ rfl) (Rep.mono le.mo rx)
/-- an object that is a list -/
def asO (w : W) (m : Mem) : Option (Nat × List D) := match w with
  | .obj i => match m[i]? with
    | some (.lst ds) => some (i, ds)
    | _ => none
  | _ => none
theorem asO_get {G : Wd} {m : Mem} {v : V} {w : W} {H0 : Hp} {i : Nat} {ds : List D} (R : RelM X.K G m) (r : RepR X.K H0 G v w) (e : asO w m = some (i, ds)) : ∃ a vs, v = .ref a ∧ G.io[i]? = some a ∧ a ∈ G.lv ∧ G.H a = some (.lst vs) ∧ Reps X.K G.lv G.H vs ds := by
  cases w with
  | obj j =>
    obtain ⟨a, h1, rfl⟩ := r
    simp only [asO] at e
    cases eo : m[j]? with
    | none => rw [eo] at e; cases e
    | some o =>
      rw [eo] at e
      cases o with
      | lst es => cases e; obtain ⟨h2, vs, h3, h4⟩ := R.ob _ a _ h1 eo; exact ⟨a, vs, rfl, h1, h2, h3, h4⟩
      | fz es => cases e
      | _ => cases e
  | _ => cases e
def appendW (x : W) (ws : List W) (m : Mem) : Res W := match asO x m, ws with
  | some (i, ds), [.d y] => if ds.length < sizeLine then .ok (.d .none) (m.set i (.lst (ds ++ [y]))) else .bad
  | _, _ => .bad
theorem appendW_ok : MtOk X Wx rAppend appendW := by
  intro σ G m v x vs ws H0 H1 Q R rx rs h
  unfold appendW at h
  split at h
  · rename_i i ds y e
    obtain ⟨a, us, rfl, h1, h2, h3, h4⟩ := asO_get R rx e
    obtain ⟨u, rfl, ru⟩ := paired1 rs
    split at h
    · rename_i hz
      exact ⟨a, us, u, rfl, rfl, h3, by rw [h4.length]; exact hz, obj_mut (a := a) (ds := ds) (vs := us) R h1 h2 (h4.append (.one ru)) .non h⟩
    · exact False.elim h
  · exact False.elim h
noncomputable def popAtW (x : W) (ws : List W) (m : Mem) : Res W := match asO x m, ws with
  | some (i, ds), [.d (.int k)] => if grd (-(2 ^ 63) ≤ k ∧ k < 2 ^ 63) = true then (match seqIndex? k ds.length with
    | some j => match ds[j]? with
      | some y => .ok (.d y) (m.set i (.lst (ds.eraseIdx j)))
      | none => .bad
    | none => .bad) else .bad
  | _, _ => .bad
theorem popAtW_ok : MtOk X Wx rPopAt popAtW := by
  intro σ G m v x vs ws H0 H1 Q R rx rs h
  unfold popAtW at h
  split at h
  · rename_i i ds k e
    obtain ⟨a, us, rfl, h1, h2, h3, h4⟩ := asO_get R rx e
    obtain ⟨u, rfl, ru⟩ := paired1 rs
    cases ru
    split at h
    · rename_i hz
      have hz := grd_iff.mp hz
      cases ej : seqIndex? k ds.length with
      | none => simp only [ej] at h; exact False.elim h
      | some j =>
        simp only [ej] at h
        cases ey : ds[j]? with
        | none => simp only [ey] at h; exact False.elim h
        | some y =>
          simp only [ey] at h
          obtain ⟨u, g1, g2⟩ := h4.get ey
          exact ⟨a, us, k, j, u, rfl, rfl, h3, hz.1, hz.2, by rw [h4.length]; exact ej, g1, obj_mut (a := a) (ds := ds) (vs := us) R h1 h2 (h4.eraseIdx j) g2 h⟩
    · exact False.elim h
  · exact False.elim h
/-! ### methods of texts -/
/-! ### xs[i] = v -/
def sSetI (o i : EF) (f : EF) (env : Env) (m : Mem) : SRes := eS ((f env m).bind fun v m1 => (o env m1).bind fun x m2 => (i env m2).bind fun k m3 => match asO x m3, k, v with
  | some (j, ds), .d (.int k), .d y => (match ixN ds.length k with
    | some n => .ok () (m3.set j (.lst (ds.set n y)))
    | none => .bad)
  | _, _, _ => .bad) env fun _ m1 => .nx env m1
theorem ms_setI {o i e : Expr} {fo fi f : EF} {tpos pos : Pos} (ho : ME X Wx o fo) (hi : ME X Wx i fi) (he : ME X Wx e f)
    (ha : ∀ v, assign (.Subscript o i tpos) X.env v = (do
      let ov ← holding [v] (eval o X.env)
      let iv ← holding [v, ov] (eval i X.env)
      standAt tpos
      holding [v, ov, iv] (setItem ov iv v)
      release [v, ov, iv] []) := by intro _; rfl)
    (hs : swapsWithSole [.Subscript o i tpos] e pos.line X.env = pure false := by rfl) (hw : swappedStores [.Subscript o i tpos] e X.env = pure none := by rfl)
    (h1 : (assignEach [.Subscript o i tpos] X.env).map (·.2) = [assign (.Subscript o i tpos) X.env] := by rfl) : MS X Wx (.Assign [.Subscript o i tpos] e pos) (sSetI fo fi f) := by
  obtain ⟨to, po, qo⟩ := ho
  obtain ⟨ti, pi, qi⟩ := hi
  obtain ⟨t, p, q⟩ := he
  refine ⟨_, ps_asg p (pg_sub po pi set_list ha) hs hw h1, fun env m σ G E S R h => ?_⟩
  have h' : GPost X Wx σ G (fun _ _ (_ : Unit) (_ : Unit) => True) ((f env m).bind fun v m1 => (fo env m1).bind fun x m2 => (fi env m2).bind fun k m3 => match asO x m3, k, v with
      | some (j, ds), .d (.int k), .d y => (match ixN ds.length k with
        | some n => .ok () (m3.set j (.lst (ds.set n y)))
        | none => .bad)
      | _, _, _ => .bad) (fun _ H' => E.nx σ H') := SPost.ofE h S fun a m1 v G1 le R1 _ h1 => h1 σ G1 (Le.refl R1) R1 (S.mono le)
  have wk : Weak (fun (_ : Hp) (_ : Wd) (_ : Unit) (_ : Unit) => True) := fun _ _ _ _ _ _ _ => trivial
  refine q env m σ G _ S R (GPost.bind wk h' fun w m1 v G1 le1 R1 q1 h1 => ?_)
  refine qo env m1 σ G1 _ (S.mono le1) R1 (GPost.bind wk h1 fun x m2 u G2 le2 R2 q2 h2 => ?_)
  refine qi env m2 σ G2 _ ((S.mono le1).mono le2) R2 (GPost.bind wk h2 fun k m3 z G3 le3 R3 q3 h3 => ?_)
  split at h3
  · rename_i j ds kk y e
    obtain ⟨a, vs, e1, g1, g2, g3, g4⟩ := asO_get R3 (q2.mono le3) e
    cases q3
    cases en : ixN ds.length kk with
    | none => simp only [en] at h3; exact False.elim h3
    | some n =>
      simp only [en] at h3
      have rv : Rep X.K G3.lv G3.H v y := Rep.mono (le2.trans le3).mo q1
      have le : Le G3 ⟨G3.io, G3.lv, upd G3.H a (.lst (vs.set n v))⟩ := Le.mut R3 g1 g2
      refine ⟨a, vs, kk, n, e1, rfl, g3, by rw [g4.length]; exact en, ?_⟩
      exact h3 () _ le (R3.mut g1 g2 ⟨g2, _, upd_same, (g4.set rv n).mono le.mo⟩ rfl) trivial
  · exact False.elim h3
end
end M
set_option Elab.async false
set_option linter.all false
set_option maxRecDepth 100000
namespace M
open PySem L2
variable [HasW]
section
variable {X : Cx} {Wx : WX}
/-- a list, and whether it still stands -/
noncomputable def asC (w : W) (m : Mem) : Option (List D × (Mem → Bool)) := match w with
  | .obj i => (asL (.obj i) m).map fun ds => (ds, sameM i ds)
  | w => (asS w).map fun ds => (ds, yesM)
theorem asC_sq {G : Wd} {m : Mem} {v : V} {w : W} {H0 : Hp} {ds : List D} {chk : Mem → Bool} (R : RelM X.K G m) (r : RepR X.K H0 G v w) (e : asC w m = some (ds, chk)) : ∃ a, v = .ref a ∧ (∃ vs, SqL X.K G.H a vs) ∧ ∀ G2 m2, Le G G2 → RelM X.K G2 m2 → chk m2 = true → ∃ vs, SqL X.K G2.H a vs ∧ Reps X.K G2.lv G2.H vs ds := by
  have st : (asS w).map (fun ds => (ds, yesM)) = some (ds, chk) → ∃ a, v = .ref a ∧ (∃ vs, SqL X.K G.H a vs) ∧ ∀ G2 m2, Le G G2 → RelM X.K G2 m2 → chk m2 = true → ∃ vs, SqL X.K G2.H a vs ∧ Reps X.K G2.lv G2.H vs ds := fun e => by
    cases es : asS w with
    | none => rw [es] at e; cases e
    | some es' =>
      rw [es] at e
      cases e
      obtain ⟨a, vs, e1, h⟩ := asS_sq R r es
      exact ⟨a, e1, ⟨vs, (h G (Le.refl R)).1⟩, fun G2 m2 le _ _ => ⟨vs, h G2 le⟩⟩
  cases w with
  | obj i =>
    simp only [asC] at e
    cases el : asL (.obj i) m with
    | none => rw [el] at e; cases e
    | some es =>
      rw [el] at e
      cases e
      obtain ⟨a, ha, rfl⟩ := id r
      obtain ⟨a', vs, e1, h1, _⟩ := asL_sq (w := .obj i) R r el
      cases e1
      refine ⟨a, rfl, ⟨vs, h1⟩, fun G2 m2 le R2 hz => ?_⟩
      unfold sameM at hz
      cases e2 : asL (.obj i) m2 with
      | none => rw [e2] at hz; cases hz
      | some es =>
        rw [e2] at hz
        have ee := grd_iff.mp hz
        subst ee
        obtain ⟨a2, vs2, e3, h3, r3⟩ := asL_sq (v := .ref a) (H0 := H0) (w := .obj i) R2 ⟨a, le.iget ha, rfl⟩ e2
        cases e3
        exact ⟨vs2, h3, r3⟩
  | d x => exact st e
  | fl x => exact st e
  | ro x => exact st e
  | pr x i => exact st e
noncomputable def zipA (ws : List W) (m : Mem) : Res Its := match ws with
  | [.d (.tuple ds), .d (.tuple es)] => .ok (itsL (zipD ds es)) m
  | [w, u] => match asC w m, asC u m with
    | some (ds, c1), some (es, c2) => .ok ⟨(zipD ds es).map .d, fun m => c1 m && c2 m⟩ m
    | _, _ => .bad
  | _ => .bad
noncomputable def iZipA (a : AF) (env : Env) (m : Mem) : Res Its := (a env m).bind zipA
theorem zip_get {ds es : List D} {i : Nat} {w' : W} (hw : ((zipD ds es).map W.d)[i]? = some w') : ∃ d e, ds[i]? = some d ∧ es[i]? = some e ∧ w' = .d (.tuple [d, e]) := by
  rw [List.getElem?_map] at hw
  unfold zipD at hw
  rw [List.getElem?_map] at hw
  cases e2 : (ds.zip es)[i]? with
  | none => rw [e2] at hw; cases hw
  | some d =>
    rw [e2] at hw
    cases hw
    obtain ⟨x1, x2⟩ := List.getElem?_zip_eq_some.mp e2
    exact ⟨d.1, d.2, x1, x2, rfl⟩
theorem mi_zipA {e e2 : Expr} {f : AF} {p pos tpos : Pos} {elts : List Expr} {kk : Nat} (hg : Gl X "zip") (hm : X.mg "zip" = none) (ha : MA X Wx [e, e2] f)
    (hs : starEach [e, e2] X.env = (false, eval e X.env) :: starEach [e2] X.env := by rfl) (hpl : (backTo pos (starEach [e2] X.env)).any (·.1) = false := by rfl) :
    MI X Wx (.Tuple elts kk tpos) (.Call (.Name "zip" p) [e, e2] [] pos) (iZipA f) := by
  obtain ⟨t, pa, q⟩ := ha
  refine ⟨_, RZ.pi_zipA hg hm pa hs hpl, fun env m σ G Q S R h => q env m σ G _ S R (GPost.bind weakI h fun ws m1 vs G1 le1 R1 q1 h1 => ?_)⟩
  unfold zipA at h1
  split at h1
  · rename_i ds es
    obtain ⟨v, v', rfl, r, r'⟩ := paired2 q1
    cases r with
    | @tup a vs _ t1 r1 =>
      cases r' with
      | @tup b us _ t2 r2 =>
        refine ⟨a, b, vs, us, rfl, .inr ⟨t1.sq, t2.sq, h1 _ G1 (Le.refl R1) R1 ?_⟩⟩
        intro G2 m2 le R2 hz i
        have hq := (t1.mono le.mo).sq
        have hq' := (t2.mono le.mo).sq
        have hr := r1.mono le.mo
        have hr' := r2.mono le.mo
        refine ⟨fun w' hw => ?_, fun hi => ⟨vs, us, hq, hq', by
          rw [hr.length, hr'.length]
          have hi : ((zipD ds es).map W.d).length ≤ i := hi
          simp [zipD] at hi
          omega⟩⟩
        obtain ⟨d, e, x1, x2, rfl⟩ := zip_get hw
        obtain ⟨v, g1, g2⟩ := hr.get x1
        obtain ⟨v', g1', g2'⟩ := hr'.get x2
        refine ⟨⟨vs, us, v, v', hq, hq', g1, g1'⟩, fun x H' ⟨T, y, y', ex, hT, eH, hy, hy'⟩ => ?_⟩
        have t1 := hy vs hq
        have t2 := hy' us hq'
        rw [g1] at t1
        rw [g1'] at t2
        cases t1
        cases t2
        rw [ex, eH]
        exact itPair R2 hT (.cons g2 (.cons g2' .nil))
  · rename_i w u _
    obtain ⟨v, v', rfl, r, r'⟩ := paired2 q1
    split at h1
    · rename_i ds c1 es c2 e1 e2
      obtain ⟨a, rfl, ⟨vs0, hs0⟩, hst⟩ := asC_sq R1 r e1
      obtain ⟨b, rfl, ⟨us0, hs1⟩, hst'⟩ := asC_sq R1 r' e2
      refine ⟨a, b, vs0, us0, rfl, .inl ⟨hs0, hs1, h1 _ G1 (Le.refl R1) R1 ?_⟩⟩
      intro G2 m2 le R2 hz i
      have hz : (c1 m2 && c2 m2) = true := hz
      rw [Bool.and_eq_true] at hz
      obtain ⟨vs, hq, hr⟩ := hst G2 m2 le R2 hz.1
      obtain ⟨us, hq', hr'⟩ := hst' G2 m2 le R2 hz.2
      refine ⟨fun w' hw => ?_, fun hi => ⟨vs, us, hq, hq', by
        rw [hr.length, hr'.length]
        have hi : ((zipD ds es).map W.d).length ≤ i := hi
        simp [zipD] at hi
        omega⟩⟩
      obtain ⟨d, e, x1, x2, rfl⟩ := zip_get hw
      obtain ⟨v, g1, g2⟩ := hr.get x1
      obtain ⟨v', g1', g2'⟩ := hr'.get x2
      refine ⟨⟨vs, us, v, v', hq, hq', g1, g1'⟩, fun x H' ⟨T, y, y', ex, hT, eH, hy, hy'⟩ => ?_⟩
      have t1 := hy vs hq
      have t2 := hy' us hq'
      rw [g1] at t1
      rw [g1'] at t2
      cases t1
      cases t2
      rw [ex, eH]
      exact itPair R2 hT (.cons g2 (.cons g2' .nil))
    · exact False.elim h1
  · exact False.elim h1
/-! ### - n -/
def negW (w : W) (m : Mem) : Res W := match w with
  | .d (.int i) => .ok (.d (.int (-i))) m
  | _ => .bad
def eNeg (f : EF) (env : Env) (m : Mem) : Res W := (f env m).bind negW
theorem hu65 {A : Around} {k : Nat} (hr : Room k A) : A.units + 65 < cLine := by have := hr.un; omega
theorem takesF : Takes X WF := takes0
/-! ### the law -/
theorem cx_no {P : Program} {w : World} {H : Hp} {s : Shared} {e : Value} {s' : Shared} (h : L2.CX P w [] H s (fun _ _ _ => False) e s') : False := by
  obtain ⟨_, _, _, _, _, _, _, _, _, _, _, _, z⟩ := h
  exact z
end
end M
set_option Elab.async false
set_option linter.all false
set_option maxRecDepth 100000
set_option maxHeartbeats 4000000
namespace M
open PySem PySem.Spec PyProof.Rows L2
/-! ### list.extend of a tuple, whichever the tuple's object is -/
end M
set_option Elab.async false
set_option linter.all false
set_option maxRecDepth 100000
set_option maxHeartbeats 4000000
namespace M
open PySem L2
variable [HasW]
/-! ### dicts with texts as keys -/
def dlook (kvs : List (Str × W)) (k : Str) : Option W := (kvs.find? fun kv => decide (kv.1 = k)).map (·.2)
def dput (kvs : List (Str × W)) (k : Str) (v : W) : List (Str × W) :=
  if (kvs.any fun kv => decide (kv.1 = k)) = true then kvs.map (fun kv => if kv.1 = k then (kv.1, v) else kv) else kvs ++ [(k, v)]
def dgetW (x y : W) (m : Mem) : Res W := match x, y with
  | .obj i, .d (.str k) => match m[i]? with
    | some (.dct kvs) => (match dlook kvs k with | some w => .ok w m | none => .bad)
    | _ => .bad
  | _, _ => .bad
section
variable {K : PySem.W.Frag} {G : Wd}
abbrev DRel (K : PySem.W.Frag) (G : Wd) : List (Key × V) → List (Str × W) → Prop := Paired (fun (p : Key × V) (q : Str × W) => p.1 = Sum.inr q.1 ∧ RepW K G p.2 q.2)
theorem dlook_rep {ks : List (Key × V)} {kvs : List (Str × W)} {k : Str} {w : W} (r : DRel K G ks kvs) (e : dlook kvs k = some w) : ∃ v, valV ks (Sum.inr k : Key) = some v ∧ RepW K G v w := by
  induction r with
  | nil => cases e
  | @cons p q ps qs h t ih =>
    by_cases hk : q.1 = k
    · have e1 : dlook (q :: qs) k = some q.2 := by simp [dlook, List.find?_cons, hk]
      rw [e1] at e
      cases e
      exact ⟨p.2, valV_pos (by rw [h.1, hk]), h.2⟩
    · have e1 : dlook (q :: qs) k = dlook qs k := by simp [dlook, List.find?_cons, hk]
      rw [e1] at e
      obtain ⟨v, h1, h2⟩ := ih e
      exact ⟨v, by rw [valV_neg (by rw [h.1]; exact fun z => hk (Sum.inr.inj z))]; exact h1, h2⟩
theorem dput_any {ks : List (Key × V)} {kvs : List (Str × W)} {k : Str} (r : DRel K G ks kvs) : (ks.any fun kv => decide (kv.1 = (Sum.inr k : Key))) = (kvs.any fun kv => decide (kv.1 = k)) := by
  induction r with
  | nil => rfl
  | @cons p q ps qs h t ih =>
    have e : decide (p.1 = (Sum.inr k : Key)) = decide (q.1 = k) := by
      rw [h.1]
      congr 1
      exact propext ⟨fun z => Sum.inr.inj z, fun z => by rw [z]⟩
    simp only [List.any_cons, e, ih]
theorem dput_map {ks : List (Key × V)} {kvs : List (Str × W)} {k : Str} {v : V} {w : W} (r : DRel K G ks kvs) (rv : RepW K G v w) : DRel K G (ks.map fun kv => if kv.1 = (Sum.inr k : Key) then (kv.1, v) else kv) (kvs.map fun kv => if kv.1 = k then (kv.1, w) else kv) := by
  induction r with
  | nil => exact .nil
  | @cons p q ps qs h t ih =>
    refine .cons ?_ ih
    by_cases hk : q.1 = k
    · have e1 : p.1 = (Sum.inr k : Key) := by rw [h.1, hk]
      dsimp only
      rw [if_pos e1, if_pos hk]
      exact ⟨h.1, rv⟩
    · have e1 : ¬ p.1 = (Sum.inr k : Key) := by rw [h.1]; exact fun z => hk (Sum.inr.inj z)
      dsimp only
      rw [if_neg e1, if_neg hk]
      exact h
theorem dput_rep {ks : List (Key × V)} {kvs : List (Str × W)} {k : Str} {v : V} {w : W} (r : DRel K G ks kvs) (rv : RepW K G v w) : DRel K G (putK ks (Sum.inr k : Key) v) (dput kvs k w) := by
  unfold putK dput
  rw [dput_any r]
  split
  · exact dput_map r rv
  · exact Paired.snoc r ⟨rfl, rv⟩
theorem DRel.length {ks : List (Key × V)} {kvs : List (Str × W)} (r : DRel K G ks kvs) : ks.length = kvs.length := by
  induction r with
  | nil => rfl
  | cons _ _ ih => rw [List.length_cons, List.length_cons, ih]
end
section
variable {X : Cx} {Wx : WX}
theorem me_dget {o i : Expr} {fo fi : EF} {pos : Pos} (hu : X.A.units + 65 < cLine) (ho : ME X Wx o fo) (hi : ME X Wx i fi) (hs : NoSl i := by intro _ _; rfl) : ME X Wx (.Subscript o i pos) (eOp dgetW fo fi) := by
  obtain ⟨to, po, qo⟩ := ho
  obtain ⟨ti, pi, qi⟩ := hi
  refine ⟨_, pe_dget (by omega) po pi hs, fun env m σ G Q S R h => qo env m σ G _ S R (GPost.bind weakR h fun x m1 v G1 le1 R1 q1 h1 => ?_)⟩
  refine qi env m1 σ G1 _ (S.mono le1) R1 (GPost.bind weakR h1 fun y m2 u G2 le2 R2 q2 h2 => ?_)
  unfold dgetW at h2
  split at h2
  · rename_i j k
    obtain ⟨a, g1, rfl⟩ := q1.mono le2
    cases q2
    split at h2
    · rename_i kvs e
      obtain ⟨_, ks, g2, g3⟩ := R2.ob j a _ g1 e
      split at h2
      · rename_i w ew
        obtain ⟨z, z1, z2⟩ := dlook_rep g3 ew
        exact ⟨a, z, rfl, .inl ⟨ks, Sum.inr k, .inl g2, rfl, z1.symm⟩, h2 z G2 (Le.refl R2) R2 z2.r⟩
      · exact False.elim h2
    · exact False.elim h2
  · exact False.elim h2
/-! ### d[k] = v -/
def sSetD (o i : EF) (f : EF) (env : Env) (m : Mem) : SRes := eS ((f env m).bind fun v m1 => (o env m1).bind fun x m2 => (i env m2).bind fun k m3 => match x, k with
  | .obj j, .d (.str k) => (match m3[j]? with
    | some (.dct kvs) => if (decide (kvs.length < 1000) && okW m3.length v) = true then .ok () (m3.set j (.dct (dput kvs k v))) else .bad
    | _ => .bad)
  | _, _ => .bad) env fun _ m1 => .nx env m1
theorem okO_dput {j : Nat} {kvs : List (Str × W)} {k : Str} {v : W} (h : okO j (.dct kvs) = true) (hv : okW j v = true) : okO j (.dct (dput kvs k v)) = true := by
  have h : ∀ p ∈ kvs, okW j p.2 = true := by simpa [okO] using h
  show (dput kvs k v).all (fun p => okW j p.2) = true
  rw [List.all_eq_true]
  intro p hp
  unfold dput at hp
  split at hp
  · obtain ⟨q, hq, rfl⟩ := List.mem_map.mp hp
    split
    · exact hv
    · exact h q hq
  · rcases List.mem_append.mp hp with hp | hp
    · exact h p hp
    · rw [List.mem_singleton.mp hp]; exact hv
theorem okW_rep {n : Nat} {H0 : Hp} {G : Wd} {v : V} {w : W} (h : RepR X.K H0 G v w) (ok : okW n w = true) : RepW X.K G v w := by
  cases w with
  | fl ds => cases ok
  | _ => exact h
theorem ms_setD {o i e : Expr} {fo fi f : EF} {tpos pos : Pos} (hu : X.A.units + 65 < cLine) (ho : ME X Wx o fo) (hi : ME X Wx i fi) (he : ME X Wx e f)
    (hs : swapsWith e (some (.Subscript o i tpos)) pos.line X.env = pure false := by rfl) : MS X Wx (.Assign [.Subscript o i tpos] e pos) (sSetD fo fi f) := by
  obtain ⟨to, po, qo⟩ := ho
  obtain ⟨ti, pi, qi⟩ := hi
  obtain ⟨t, p, q⟩ := he
  refine ⟨_, ps_dput (by omega) po pi p hs, fun env m σ G E S R h => ?_⟩
  have h' : GPost X Wx σ G (fun _ _ (_ : Unit) (_ : Unit) => True) ((f env m).bind fun v m1 => (fo env m1).bind fun x m2 => (fi env m2).bind fun k m3 => match x, k with
      | .obj j, .d (.str k) => (match m3[j]? with
        | some (.dct kvs) => if (decide (kvs.length < 1000) && okW m3.length v) = true then .ok () (m3.set j (.dct (dput kvs k v))) else .bad
        | _ => .bad)
      | _, _ => .bad) (fun _ H' => E.nx σ H') := SPost.ofE h S fun a m1 v G1 le R1 _ h1 => h1 σ G1 (Le.refl R1) R1 (S.mono le)
  have wk : Weak (fun (_ : Hp) (_ : Wd) (_ : Unit) (_ : Unit) => True) := fun _ _ _ _ _ _ _ => trivial
  refine q env m σ G _ S R (GPost.bind wk h' fun w m1 v G1 le1 R1 q1 h1 => ?_)
  refine qo env m1 σ G1 _ (S.mono le1) R1 (GPost.bind wk h1 fun x m2 u G2 le2 R2 q2 h2 => ?_)
  refine qi env m2 σ G2 _ ((S.mono le1).mono le2) R2 (GPost.bind wk h2 fun k m3 z G3 le3 R3 q3 h3 => ?_)
  split at h3
  · rename_i j kk
    obtain ⟨a, g1, rfl⟩ := q2.mono le3
    cases q3
    split at h3
    · rename_i kvs e
      obtain ⟨gl, ks, g2, g3⟩ := R3.ob j a _ g1 e
      split at h3
      · rename_i hz
        rw [Bool.and_eq_true] at hz
        have hl := of_decide_eq_true hz.1
        have le : Le G3 ⟨G3.io, G3.lv, upd G3.H a (.dK (putK ks (Sum.inr kk : Key) v))⟩ := Le.mut R3 g1 gl
        have rv : RepW X.K G3 v w := okW_rep ((q1.mono le2).mono le3) hz.2
        have rd := dput_rep (k := kk) g3 rv
        refine ⟨a, _, rfl, .inl ⟨ks, Sum.inr kk, g2, rfl, by rw [g3.length, sizeLine_eq]; omega, rfl⟩, ?_⟩
        exact h3 () _ le (R3.mut g1 gl ⟨gl, _, upd_same, Paired.mono (fun _ _ z => ⟨z.1, z.2.mono le⟩) rd⟩ (okO_dput (R3.dw j _ e) hz.2)) trivial
      · exact False.elim h3
    · exact False.elim h3
  · exact False.elim h3
/-! ### {k: v, ..} -/
def relPs (K : PySem.W.Frag) (ks : List Str) (H0 : Hp) (G : Wd) (ps : List (V × V)) (ws : List W) : Prop := ps.map (·.1) = ks.map V.str ∧ RepRs K H0 G (ps.map (·.2)) ws
def MPs (X : Cx) (Wx : WX) (pos : Pos) (keys : List (Option Expr)) (values : List Expr) (ks : List Str) (f : AF) : Prop :=
  ∃ trs, PPs X pos keys values trs ∧ ∀ env m σ G Q, RelS X.K G σ env → RelM X.K G m → GPost X Wx σ G (relPs X.K ks) (f env m) Q → tPairs trs σ G.H Q
theorem mps_nil {pos : Pos} : MPs X Wx pos [] [] [] aNil := ⟨[], pps_nil, fun env m σ G Q S R h => h [] G (Le.refl R) R ⟨rfl, .nil⟩⟩
theorem mps_cons {pos : Pos} {k v : Expr} {s : Str} {keys : List (Option Expr)} {values : List Expr} {ks : List Str} {f : EF} {g : AF} (hk : ME X Wx k (eC (.str s))) (hv : ME X Wx v f) (hr : MPs X Wx pos keys values ks g) :
    MPs X Wx pos (some k :: keys) (v :: values) (s :: ks) (aCons f g) := by
  obtain ⟨tk, pk, qk⟩ := hk
  obtain ⟨tv, pv, qv⟩ := hv
  obtain ⟨trs, pr, qr⟩ := hr
  refine ⟨_, pps_cons pk pv pr, fun env m σ G Q S R h => ?_⟩
  refine qk env m σ G _ S R (fun kv Gk lek Rk rk => ?_)
  cases rk
  refine qv env m σ Gk _ (S.mono lek) Rk (GPost.bind1 h lek fun x m1 w G1 le1 R1 q1 h1 => ?_)
  refine qr env m1 σ G1 _ ((S.mono lek).mono le1) R1 (GPost.bind1 h1 (lek.trans le1) fun xs m2 ps G2 le2 R2 q2 h2 => ?_)
  refine h2 ((.str s, w) :: ps) G2 ((lek.trans le1).trans le2) R2 ⟨by rw [List.map_cons, q2.1]; rfl, ?_⟩
  exact .cons ((q1.weak lek.tr).mono le2) (Paired.mono (fun _ _ z => z.weak (lek.trans le1).tr) q2.2)
def eDict (ks : List Str) (f : AF) (env : Env) (m : Mem) : Res W := (f env m).bind fun ws m1 => if ws.all (okW m1.length) = true then .ok (.obj m1.length) (m1 ++ [.dct (ks.zip ws)]) else .bad
theorem merge_nodup : ∀ {kvs acc : List (Key × V)}, ((acc ++ kvs).map (·.1)).Nodup → mergeK acc kvs = acc ++ kvs
  | [], acc, _ => by rw [List.append_nil]; rfl
  | p :: kvs, acc, h => by
    have h1 : (acc.any fun kv => decide (kv.1 = p.1)) = false := by
      rw [Bool.eq_false_iff]
      intro z
      obtain ⟨q, hq, e⟩ := List.any_eq_true.mp z
      rw [List.map_append, List.map_cons, List.nodup_append] at h
      exact h.2.2 q.1 (List.mem_map.mpr ⟨q, hq, rfl⟩) p.1 List.mem_cons_self (of_decide_eq_true e)
    have e : putK acc p.1 p.2 = acc ++ [p] := by
      unfold putK
      rw [h1, if_neg (by decide)]
    show mergeK (putK acc p.1 p.2) kvs = _
    rw [e, merge_nodup (by rw [List.append_assoc]; exact h), List.append_assoc]
    rfl
theorem zip_rel {K : PySem.W.Frag} {G : Wd} : ∀ {ks : List Str} {ps : List (V × V)} {ws : List W}, ps.map (·.1) = ks.map V.str → Paired (fun v w => RepW K G v w) (ps.map (·.2)) ws → DRel K G ((ks.map fun k => (Sum.inr k : Key)).zip (ps.map (·.2))) (ks.zip ws)
  | [], ps, ws, _, _ => .nil
  | k :: ks, [], ws, e, _ => by cases e
  | k :: ks, p :: ps, ws, e, r => by
    rw [List.map_cons, List.map_cons] at e
    rw [List.map_cons] at r
    cases r with
    | cons h t => exact .cons ⟨rfl, h⟩ (zip_rel (List.cons.inj e).2 t)
theorem zip_ps : ∀ {ks : List Str} {ps : List (V × V)}, ps.map (·.1) = ks.map V.str → ps = (((ks.map fun k => (Sum.inr k : Key)).zip (ps.map (·.2))).map fun kv => (kV kv.1, kv.2))
  | [], [], _ => rfl
  | [], _ :: _, e => by cases e
  | k :: ks, [], e => by cases e
  | k :: ks, p :: ps, e => by
    rw [List.map_cons, List.map_cons] at e
    have e1 : p.1 = V.str k := (List.cons.inj e).1
    have e2 := zip_ps (List.cons.inj e).2
    simp only [List.map_cons, List.zip_cons_cons]
    rw [← e2]
    congr 1
    obtain ⟨p1, p2⟩ := p
    have e1 : p1 = V.str k := e1
    rw [e1]
    rfl
theorem all_repW {n : Nat} {H0 : Hp} {G : Wd} : ∀ {vs : List V} {ws : List W}, RepRs X.K H0 G vs ws → ws.all (okW n) = true → Paired (fun v w => RepW X.K G v w) vs ws
  | _, _, .nil, _ => .nil
  | _, _, .cons h t, e => by
    rw [List.all_cons, Bool.and_eq_true] at e
    exact .cons (okW_rep h e.1) (all_repW t e.2)
theorem me_dict {pos : Pos} {keys : List (Option Expr)} {values : List Expr} {ks : List Str} {f : AF} (h : MPs X Wx pos keys values ks f) (hnd : ks.Nodup := by decide +kernel) (hall : keys.all (·.isSome) = true := by rfl) (hl : keys.length = values.length := by rfl) (h0 : keys ≠ [] := by exact fun h => nomatch h) (h15 : keys.length ≤ 15 := by decide) (hk : ks.length ≤ 15 := by decide) :
    ME X Wx (.Dict keys values pos) (eDict ks f) := by
  obtain ⟨trs, pr, qr⟩ := h
  refine ⟨_, pe_disp pr hall hl h0 h15, fun env m σ G Q S R h p hp => ?_⟩
  have le0 : Le G ⟨G.io, p :: G.lv, upd G.H p (.dK [])⟩ := Le.newL R hp
  have R0 : RelM X.K ⟨G.io, p :: G.lv, upd G.H p (.dK [])⟩ m := R.newL hp
  refine qr env m σ ⟨G.io, p :: G.lv, upd G.H p (.dK [])⟩ _ (S.mono le0) R0 (GPost.bind1 h le0 fun ws m1 ps G2 le2 R2 q2 h2 => ?_)
  have np : p ∉ G.io := (R.ne hp).1
  have hz : (⟨G.io, p :: G.lv, upd G.H p (.dK [])⟩ : Wd).H p = some (.dK []) := upd_same
  have k1 : G2.H p = some (.dK []) := le2.keep p _ hz (fun z => np z.1) nofun
  have k2 : p ∈ G2.lv := le2.stay p List.mem_cons_self np
  have k3 : p ∉ G2.io := le2.nio (by rw [hz]; simp) np
  refine ⟨k1, _, zip_ps q2.1, ?_, ?_⟩
  · rw [List.length_zip, List.length_map]; omega
  · split at h2
    · rename_i ha
      have e : mergeK [] ((ks.map fun k => (Sum.inr k : Key)).zip (ps.map (·.2))) = (ks.map fun k => (Sum.inr k : Key)).zip (ps.map (·.2)) := by
        rw [merge_nodup, List.nil_append]
        rw [List.nil_append]
        have hs : ∀ (as : List Key) (bs : List V), as.Nodup → ((as.zip bs).map (·.1)).Nodup := by
          intro as
          induction as with
          | nil => intro bs _; exact List.nodup_nil
          | cons a as ih =>
            intro bs hn
            cases bs with
            | nil => exact List.nodup_nil
            | cons b bs =>
              rw [List.nodup_cons] at hn
              rw [List.zip_cons_cons, List.map_cons, List.nodup_cons]
              refine ⟨fun z => hn.1 ?_, ih bs hn.2⟩
              obtain ⟨q, hq, e⟩ := List.mem_map.mp z
              have e : q.1 = a := e
              rw [← e]
              exact (List.of_mem_zip hq).1
        refine hs _ _ ?_
        rw [List.Nodup, List.pairwise_map]
        exact List.Pairwise.imp (fun hne z => hne (Sum.inr.inj z)) hnd
      rw [e]
      have rd := zip_rel q2.1 (all_repW q2.2 ha)
      have R3 : RelM X.K ⟨G2.io, G2.lv, upd G2.H p (.dK ((ks.map fun k => (Sum.inr k : Key)).zip (ps.map (·.2))))⟩ m1 := R2.updL k2 k3
      have le3 : Le G ⟨G2.io, G2.lv, upd G2.H p (.dK ((ks.map fun k => (Sum.inr k : Key)).zip (ps.map (·.2))))⟩ := (le0.trans le2).updF hp
      have hko : okO m1.length (.dct (ks.zip ws)) = true := by
        show (ks.zip ws).all (fun q => okW m1.length q.2) = true
        rw [List.all_eq_true] at ha ⊢
        exact fun q hq => ha q.2 (List.of_mem_zip hq).2
      have R4 := R3.own (p := p) (ob := .dct (ks.zip ws)) k3 (by show upd _ _ _ _ ≠ none; rw [upd_same]; simp) ⟨k2, _, upd_same, Paired.mono (fun _ _ z => ⟨z.1, z.2.updL k2⟩) rd⟩ hko
      refine h2 (.ref p) _ (le3.own hp) R4 ⟨p, ?_, rfl⟩
      show (G2.io ++ [p])[m1.length]? = some p
      rw [← R2.len]
      simp
    · exact False.elim h2
end
end M
set_option Elab.async false
set_option linter.all false
set_option maxRecDepth 100000
/-! plain laws of the mirrors' operations -/
namespace M
open PySem L2
variable [HasW]
abbrev En := M.Env
/-! ### texts as lists of codes -/
def S (l : List Nat) : Str := ⟨l.toArray⟩
@[simp] theorem S_cps (l : List Nat) : (S l).cps.toList = l := rfl
@[simp] theorem S_len (l : List Nat) : (S l).length = l.length := rfl
@[simp] theorem S_app (a b : List Nat) : S a ++ S b = S (a ++ b) := by
  show Str.mk (a.toArray ++ b.toArray) = Str.mk (a ++ b).toArray
  rw [List.append_toArray]
theorem S_inj {a b : List Nat} : S a = S b ↔ a = b := ⟨fun h => by have := congrArg (fun x : Str => x.cps.toList) h; exact this, fun h => by rw [h]⟩
@[simp] theorem S_beq (a b : List Nat) : (S a == S b) = decide (a = b) := by
  by_cases h : a = b
  · subst h; simp
  · rw [decide_eq_false h]
    exact beq_eq_false_iff_ne.mpr fun z => h (S_inj.mp z)
def okC (l : List Nat) : Bool := l.all (· < 0x110000)
theorem strOk_S (l : List Nat) : PyData.strOk (S l) = okC l := by
  unfold PyData.strOk S okC
  simp
@[simp] theorem shaped_str (l : List Nat) : SeqAt.shaped (.str (S l)) = okC l := by
  show ((PyData.str (S l)).canLay0 && decide ((PyData.str (S l)).depth ≤ 64)) = _
  simp [PyData.canLay0, PyData.depth, strOk_S]
@[simp] theorem shaped_int (i : Int) : SeqAt.shaped (.int i) = true := by
  show ((PyData.int i).canLay0 && decide ((PyData.int i).depth ≤ 64)) = _
  simp [PyData.canLay0, PyData.depth]
@[simp] theorem shaped_bool (i : Bool) : SeqAt.shaped (.bool i) = true := by
  show ((PyData.bool i).canLay0 && decide ((PyData.bool i).depth ≤ 64)) = _
  simp [PyData.canLay0, PyData.depth]
@[simp] theorem shaped_none : SeqAt.shaped .none = true := by
  show (PyData.none.canLay0 && decide (PyData.none.depth ≤ 64)) = _
  simp [PyData.canLay0, PyData.depth]
@[simp] theorem shaped_nil : SeqAt.shaped (.list []) = true := by
  show ((PyData.list []).canLay0 && decide ((PyData.list []).depth ≤ 64)) = _
  simp [PyData.canLay0, PyData.canLayAll0, PyData.depth, PyData.depthAll]
@[simp] theorem eqv_str (a b : Str) : PyData.eqv (.str a) (.str b) = (a == b) := by simp [PyData.eqv]
@[simp] theorem eqv_int (a b : Int) : PyData.eqv (.int a) (.int b) = (a == b) := by simp [PyData.eqv]
@[simp] theorem eqv_bool (a b : Bool) : PyData.eqv (.bool a) (.bool b) = (a == b) := by simp [PyData.eqv]
theorem canLayAll0_ints : ∀ ns : List Int, PyData.canLayAll0 (ns.map PyData.int) = true
  | [] => by simp [PyData.canLayAll0]
  | n :: ns => by simp [PyData.canLayAll0, PyData.canLay0, canLayAll0_ints ns]
theorem depthAll_ints : ∀ ns : List Int, PyData.depthAll (ns.map PyData.int) = 0
  | [] => by simp [PyData.depthAll]
  | n :: ns => by simp [PyData.depthAll, PyData.depth, depthAll_ints ns]
@[simp] theorem shaped_ints (ns : List Int) : SeqAt.shaped (.list (ns.map PyData.int)) = true := by
  show ((PyData.list (ns.map PyData.int)).canLay0 && decide ((PyData.list (ns.map PyData.int)).depth ≤ 64)) = _
  simp [PyData.canLay0, PyData.depth, canLayAll0_ints, depthAll_ints]
/-! ### operations -/
section
variable {m : Mem}
@[simp] theorem addW_int (i j : Int) : addW (.d (.int i)) (.d (.int j)) m = .ok (.d (.int (i + j))) m := rfl
@[simp] theorem subW_int (i j : Int) : subW (.d (.int i)) (.d (.int j)) m = .ok (.d (.int (i - j))) m := rfl
theorem mulW_r {i j : Int} (h : -(2 ^ 64) < j) (h' : j < 2 ^ 64) : mulW (.d (.int i)) (.d (.int j)) m = .ok (.d (.int (i * j))) m := by
  have e : mulOk i j = true := grd_t (.inl (.inr ⟨h, h'⟩))
  show (if mulOk i j = true then _ else _) = _
  rw [if_pos e]
theorem divW_lit {i j : Int} (h : divOk 0 j = true) : divW (.d (.int i)) (.d (.int j)) m = .ok (.d (.int (i / j))) m := by
  show (if divOk i j = true then _ else _) = _
  rw [if_pos (show divOk i j = true from h)]
theorem modW_pos {i j : Int} (h : 0 < j) : modW (.d (.int i)) (.d (.int j)) m = .ok (.d (.int (i % j))) m := by
  show (if modOk i j = true then _ else _) = _
  rw [if_pos (show modOk i j = true from grd_t h)]
@[simp] theorem ltW_int (i j : Int) : ltW (.d (.int i)) (.d (.int j)) m = .ok (.d (.bool (decide (i < j)))) m := rfl
@[simp] theorem leW_int (i j : Int) : leW (.d (.int i)) (.d (.int j)) m = .ok (.d (.bool (decide (i ≤ j)))) m := rfl
@[simp] theorem gtW_int (i j : Int) : gtW (.d (.int i)) (.d (.int j)) m = .ok (.d (.bool (decide (j < i)))) m := rfl
@[simp] theorem geW_int (i j : Int) : geW (.d (.int i)) (.d (.int j)) m = .ok (.d (.bool (decide (j ≤ i)))) m := rfl
@[simp] theorem addIW_int (i j : Int) : addIW (.d (.int i)) (.d (.int j)) m = .ok (.d (.int (i + j))) m := rfl
@[simp] theorem eqW_int (n : Bool) (i j : Int) : eqW n (.d (.int i)) (.d (.int j)) m = .ok (.d (.bool (ngB n (decide (i = j))))) m := by
  unfold eqW asD
  simp only [shaped_int, Bool.and_self, if_true, eqv_int]
  rfl
theorem atI_of {α : Type} {xs : List α} {i : Int} (h0 : 0 ≤ i) : L2.atI xs i = xs[i.toNat]? := by
  unfold L2.atI ixN
  rw [if_pos h0]
  by_cases h : i < xs.length
  · rw [if_pos h]; rfl
  · rw [if_neg h, List.getElem?_eq_none (by omega)]; rfl
@[simp] theorem atI_cast {α : Type} (xs : List α) (k : Nat) : L2.atI xs (k : Int) = xs[k]? := by rw [atI_of (by omega)]; simp
@[simp] theorem atI_zero {α : Type} (xs : List α) : L2.atI xs 0 = xs[0]? := atI_cast xs 0
@[simp] theorem atI_one {α : Type} (xs : List α) : L2.atI xs 1 = xs[1]? := atI_cast xs 1
@[simp] theorem atI_two {α : Type} (xs : List α) : L2.atI xs 2 = xs[2]? := atI_cast xs 2
end
section
variable {m : Mem}
@[simp] theorem divW_s {i j : Int} (h : 0 < j) (h' : j < 18446744073709551616) : divW (.d (.int i)) (.d (.int j)) m = .ok (.d (.int (i / j))) m := by
  refine divW_lit ?_
  refine grd_t ⟨h, ?_⟩
  have h2 : j.natAbs < 2 ^ 64 := by omega
  have := PySem.Flt.log2_lt_of (show 0 < 64 by decide) h2
  omega
@[simp] theorem modW_s {i j : Int} (h : 0 < j) : modW (.d (.int i)) (.d (.int j)) m = .ok (.d (.int (i % j))) m := modW_pos h
@[simp] theorem mulW_s {i j : Int} (h : -18446744073709551616 < j) (h' : j < 18446744073709551616) : mulW (.d (.int i)) (.d (.int j)) m = .ok (.d (.int (i * j))) m := mulW_r (by omega) (by omega)
theorem mulW_l {i j : Int} (h : -18446744073709551616 < i) (h' : i < 18446744073709551616) : mulW (.d (.int i)) (.d (.int j)) m = .ok (.d (.int (i * j))) m := by
  have e : mulOk i j = true := grd_t (.inl (.inl ⟨by omega, by omega⟩))
  show (if mulOk i j = true then _ else _) = _
  rw [if_pos e]
end
section
variable {m : Mem}
@[simp] theorem powW_s {i j : Int} (h : 0 ≤ j) (h' : j ≤ 1000000) (h2 : i.natAbs < 18446744073709551616) : powW (.d (.int i)) (.d (.int j)) m = .ok (.d (.int (i ^ j.toNat))) m := by
  have e : powOk i j = true := grd_t ⟨h, h', by omega⟩
  show (if powOk i j = true then _ else _) = _
  rw [if_pos e]
theorem popAt0 {i : Nat} {d : D} {ds : List D} (h : m[i]? = some (.lst (d :: ds))) : popAtW (.obj i) [.d (.int 0)] m = .ok (.d d) (m.set i (.lst ds)) := by
  have e : grd (-(2 ^ 63) ≤ (0 : Int) ∧ (0 : Int) < 2 ^ 63) = true := grd_t ⟨by decide, by decide⟩
  have e2 : asO (.obj i) m = some (i, d :: ds) := by simp [asO, h]
  have e3 : seqIndex? 0 (d :: ds).length = some 0 := by
    have := (ixN_seq (n := (d :: ds).length) (i := 0) (j := 0) (by unfold ixN; simp)).1
    exact this
  simp only [popAtW, e2]
  rw [if_pos e, e3]
  rfl
@[simp] theorem isTy_d_list (ds : List D) : isTyW "list" (.d (.list ds)) m = true := rfl
end
/-! ### cuts -/
@[simp] theorem sIx_none' (n d : Nat) : HT.sIx n d none = d := rfl
@[simp] theorem sIx_cast (n d k : Nat) : HT.sIx n d (some (k : Int)) = min k n := HT.sIx_nat n d k
theorem sIx_of {n d : Nat} {i : Int} (h : 0 ≤ i) : HT.sIx n d (some i) = min i.toNat n := by
  unfold HT.sIx
  dsimp only
  rw [if_neg (by omega)]
theorem cutD_take {xs : List D} {i : Int} (h : 0 ≤ i) : cutD xs none (some i) = xs.take i.toNat := by
  unfold cutD
  rw [sIx_none', sIx_of h, List.drop_zero, Nat.sub_zero, Nat.min_def]
  split
  · rfl
  · rw [List.take_length, List.take_of_length_le (by omega)]
theorem cutS_S (l : List Nat) (lo hi : Option Int) : cutS (S l) lo hi = S ((l.drop (HT.sIx l.length 0 lo)).take (HT.sIx l.length l.length hi - HT.sIx l.length 0 lo)) := rfl
theorem cutS_take {l : List Nat} {i : Int} (h : 0 ≤ i) : cutS (S l) none (some i) = S (l.take i.toNat) := by
  rw [cutS_S, sIx_none', sIx_of h, List.drop_zero, Nat.sub_zero, Nat.min_def]
  split
  · rfl
  · rw [List.take_length, List.take_of_length_le (by omega)]
theorem cutS_drop {l : List Nat} {i : Int} (h : 0 ≤ i) : cutS (S l) (some i) none = S (l.drop i.toNat) := by
  rw [cutS_S, sIx_none', sIx_of h, Nat.min_def]
  split
  · rw [List.take_of_length_le (by rw [List.length_drop]; omega)]
  · rw [List.drop_eq_nil_of_le (by omega), List.drop_eq_nil_of_le (by omega)]
    simp
/-! ### join, index -/
/-! ### memory: a list of objects -/
@[simp] theorem mem_last (m : Mem) (o : O) : (m ++ [o])[m.length]? = some o := by simp
@[simp] theorem mem_set_last (m : Mem) (o p : O) : (m ++ [o]).set m.length p = m ++ [p] := by simp
@[simp] theorem mem_take (m : Mem) (l : List O) : (m ++ l).take m.length = m := by simp
/-! ### loops -/
@[simp] theorem rng_len (lo : Int) (n : Nat) : (rngI lo n).xs.length = n := by simp [rngI]
def stepOk (r : SRes) (Q : Env → Mem → Prop) : Prop := match r with
  | .nx e m => Q e m
  | .ct e m => Q e m
  | _ => False
@[simp] theorem stepOk_nx (e : Env) (m : Mem) (Q : Env → Mem → Prop) : stepOk (.nx e m) Q = Q e m := rfl
@[simp] theorem stepOk_ct (e : Env) (m : Mem) (Q : Env → Mem → Prop) : stepOk (.ct e m) Q = Q e m := rfl
def Res.wp {α : Type} (r : Res α) (Q : α → Mem → Prop) : Prop := match r with
  | .ok a m => Q a m
  | _ => False
@[simp] theorem Res.wp_ok {α : Type} (a : α) (m : Mem) (Q : α → Mem → Prop) : (Res.ok a m).wp Q = Q a m := rfl
/-! ### statement by statement -/
def WP (Z : SRes → Prop) (r : SRes) : Prop := Z r
def thenZ (b : SF) (Z : SRes → Prop) (r : SRes) : Prop := match r with
  | .nx e m => WP Z (b e m)
  | r => Z r
section
variable {Z : SRes → Prop} {a b : SF} {env e : En} {m m1 : Mem}
theorem wp_seq (h : WP (thenZ b Z) (a env m)) : WP Z (sSeq a b env m) := by
  have h : thenZ b Z (a env m) := h
  unfold WP sSeq
  cases q : a env m with
  | nx e m1 => rw [q] at h; exact h
  | bk e m1 => rw [q] at h; exact h
  | ct e m1 => rw [q] at h; exact h
  | rt w m1 => rw [q] at h; exact h
  | err x e m1 => rw [q] at h; exact h
  | bad => rw [q] at h; exact h
/-- a statement that goes on -/
theorem wp_go (h : a env m = .nx e m1) (k : WP Z (b e m1)) : WP Z (sSeq a b env m) := by
  unfold WP sSeq
  rw [h]
  exact k
theorem wp_nx (k : WP Z (b env m)) : WP (thenZ b Z) (sNx env m) := k
theorem wp_then (h : a env m = .nx e m1) (k : WP Z (b e m1)) : WP (thenZ b Z) (a env m) := by
  unfold WP
  rw [h]
  exact k
theorem wp_ret {f : EF} {w : W} (h : f env m = .ok w m1) (k : Z (.rt w m1)) : WP Z (sRet f env m) := by
  unfold WP sRet
  rw [h]
  exact k
theorem wp_ifT {c : TF} (h : c env m = .ok true m1) (k : WP Z (a env m1)) : WP Z (sIf c a b env m) := by
  unfold WP sIf
  rw [h]
  exact k
theorem wp_ifF {c : TF} (h : c env m = .ok false m1) (k : WP Z (b env m1)) : WP Z (sIf c a b env m) := by
  unfold WP sIf
  rw [h]
  exact k
theorem wp_sIfT {c : TF} {d : SF} (h : c env m = .ok true m1) (k : WP (thenZ d Z) (a env m1)) : WP Z (sSeq (sIf c a b) d env m) := wp_seq (wp_ifT h k)
/-- if c: return .. -/
theorem wp_sIfN {c : TF} {d : SF} (h : c env m = .ok false m1) (k : WP Z (d env m1)) : WP Z (sSeq (sIf c a sNx) d env m) := wp_seq (wp_ifF h (wp_nx k))
def outF (n : Nat) (r : SRes) : Res W := match r with
  | .rt w m' => finM n w m'
  | .nx _ m' => finM n (.d .none) m'
  | .err e _ m' => if clM n m' = true then .err e (m'.take n) else .bad
  | _ => .bad
theorem run_wp {Q : Res W → Prop} {N : Nat} {g : SF} {ws : List W} (h : WP (fun r => Q (outF m.length r)) (g (env0 N ws) m)) : Q (runF N g ws m) := by
  have h : Q (outF m.length (g (env0 N ws) m)) := h
  unfold outF at h
  unfold runF
  exact h
end
/-! ### comprehensions -/
end M
set_option Elab.async false
set_option linter.all false
set_option maxRecDepth 100000
/-! M: exceptions -/
namespace M
open PySem L2
end M
set_option Elab.async false
set_option linter.all false
set_option maxRecDepth 100000
/-! M: list + list, whichever lists; list * int -/
namespace M
open PySem L2 PyProof.Rows
variable [HasW]
section
variable {X : Cx} {Wx : WX}
def rCatS (K : PySem.W.Frag) : R2 := fun x y H Q => ∃ l b xs zs, x = .ref l ∧ y = .ref b ∧ SqL K H l xs ∧ SqL K H b zs ∧ xs.length + zs.length ≤ sizeLine ∧ ∀ p, H p = none → Q (.ref p) (upd H p (.lst (xs ++ zs)))
theorem op_catS : OpR X (binaryOp .Add) (rCatS X.K) := by
  intro pins s σ H x y v u Q I rx ry h
  obtain ⟨l, b, xs, zs, rfl, rfl, hH, hB, hz, q⟩ := h
  cases rx
  cases ry
  obtain ⟨its, r, ht, hz1⟩ := I.list hH
  obtain ⟨its2, r2, ht2, hz2⟩ := I.list hB
  have hlen := r.length
  have hlen2 := r2.length
  obtain ⟨⟨cls, dd, data, sl⟩, ho, hc, n, hd⟩ := id ht.isList
  obtain ⟨⟨cls2, dd2, data2, sl2⟩, ho2, hc2, n2, hd2⟩ := id ht2.isList
  simp only at hc hd hc2 hd2
  subst hc hd hc2 hd2
  have e : its.toArray ++ its2.toArray = (its ++ its2).toArray := by simp
  refine concat_meets ⟨_, ho, rfl⟩ ⟨_, ho2, rfl⟩ noFill_list_add seq_list_add PySem.F.slot_list_add PySem.F.entry_list_add (PySem.F.args_list_add_2 _ _) (list_addW l b its.toArray its2.toArray n n2 dd dd2 sl sl2 (by rw [List.size_toArray, List.size_toArray]; omega)) ⟨ho, ho2, ?_⟩
  rw [e]
  exact ⟨.ref _, _, I.lnew (t' := s.toks) (r.append r2) (by rw [List.length_append]; omega), rfl, q _ I.fresh⟩
def addAW (x y : W) (m : Mem) : Res W :=
  match x, y with
  | .d (.int i), .d (.int j) => .ok (.d (.int (i + j))) m
  | .d (.str a), .d (.str b) => if a.length + b.length ≤ sizeLine then .ok (.d (.str (a ++ b))) m else .bad
  | .d (.tuple a), .d (.tuple b) => if a.length + b.length ≤ sizeLine then .ok (.d (.tuple (a ++ b))) m else .bad
  | x, y => match asL x m, asL y m with
    | some a, some b => if a.length + b.length ≤ sizeLine then .ok (.fl (a ++ b)) m else .bad
    | _, _ => .bad
def rAddS (K : PySem.W.Frag) : R2 := fun x y H Q => (rI0 (fun i j => .int (i + j)) x y H Q ∨ (∃ i j, x = .str i ∧ y = .str j ∧ i.length + j.length ≤ sizeLine ∧ Q (.str (i ++ j)) H)) ∨ (rCatA K x y H Q ∨ rCatS K x y H Q)
theorem op_addS : OpR X (binaryOp .Add) (rAddS X.K) := (op_add.or op_add_str).or (op_catA.or op_catS)
theorem addLS_ok {σ : L2.St} {G : Wd} {m : Mem} {v u : V} {x y : W} {H0 H1 : Hp} {Q : VK} (R : RelM X.K G m) (rx : RepR X.K H0 G v x) (ry : RepR X.K H1 G u y)
    (h : GPost X Wx σ G (RepR X.K) (match asL x m, asL y m with | some a, some b => if a.length + b.length ≤ sizeLine then .ok (.fl (a ++ b)) m else .bad | _, _ => .bad) Q) : rAddS X.K v u G.H Q := by
  cases ex : asL x m with
  | none => rw [ex] at h; exact False.elim h
  | some a =>
    cases ey : asL y m with
    | none => rw [ex, ey] at h; exact False.elim h
    | some b =>
      rw [ex, ey] at h
      obtain ⟨p, vs, rfl, h1, r1⟩ := asL_sq R rx ex
      obtain ⟨q, us, rfl, h2, r2⟩ := asL_sq R ry ey
      by_cases hz : a.length + b.length ≤ sizeLine
      · simp only [hz, if_true] at h
        exact .inr (.inr ⟨p, q, vs, us, rfl, rfl, h1, h2, by rw [r1.length, r2.length]; exact hz, fun l hl => finL R h (r1.append r2) hl⟩)
      · simp only [hz, if_false] at h
        exact False.elim h
theorem addAW_ok : OpOk X Wx (rAddS X.K) addAW := by
  intro σ G m v u x y H0 H1 Q R rx ry h
  cases x with
  | d x =>
    cases y with
    | d y =>
      cases x with
      | int i =>
        cases y with
        | int j => cases rx; cases ry; exact .inl (.inl ⟨i, j, rfl, rfl, finD R h (.int _)⟩)
        | _ => exact addLS_ok R rx ry h
      | str a =>
        cases y with
        | str b =>
          cases rx; cases ry
          simp only [addAW] at h
          by_cases hz : a.length + b.length ≤ sizeLine
          · simp only [hz, if_true] at h
            exact .inl (.inr ⟨a, b, rfl, rfl, hz, finD R h (.str _)⟩)
          · simp only [hz, if_false] at h
            exact False.elim h
        | _ => exact addLS_ok R rx ry h
      | tuple a =>
        cases y with
        | tuple b =>
          simp only [addAW] at h
          by_cases hz : a.length + b.length ≤ sizeLine
          · simp only [hz, if_true] at h
            cases rx with
            | @tup p vs _ t1 r1 =>
              cases ry with
              | @tup q us _ t2 r2 =>
                refine .inr (.inl ⟨p, q, vs, us, rfl, rfl, t1.sq, t2.sq, by rw [r1.length, r2.length]; exact hz, fun e => ?_, fun e1 e2 => ?_, fun e1 e2 l hl => finT R h (r1.append r2) hl⟩)
                · have ea := r1.nil_iff.mp e
                  subst ea
                  exact finD R h (.tup t2 r2)
                · have eb := r2.nil_iff.mp e2
                  subst eb
                  rw [List.append_nil] at h
                  exact finD R h (.tup t1 r1)
          · simp only [hz, if_false] at h
            exact False.elim h
        | _ => exact addLS_ok R rx ry h
      | _ => exact addLS_ok R rx ry h
    | obj j => cases x <;> exact addLS_ok R rx ry h
    | fl j => cases x <;> exact addLS_ok R rx ry h
    | ro j => cases x <;> exact addLS_ok R rx ry h
    | pr j k => cases x <;> exact addLS_ok R rx ry h
  | obj i => exact addLS_ok R rx ry h
  | fl i => exact addLS_ok R rx ry h
  | ro i => exact addLS_ok R rx ry h
  | pr i k => exact addLS_ok R rx ry h
/-! list * int -/
end
end M
set_option Elab.async false
set_option linter.all false
set_option maxRecDepth 100000
/-! P: defs as pure functions. PR: ends; PV: what a slot holds, by value; GV: a value or a slot's object -/
namespace M
open PySem L2
variable [HasW]
@[irreducible] def fuelW : Nat := 100000
@[irreducible] def fuelR : Nat := 40
theorem fuelR_eq : fuelR = 40 := by unfold fuelR; rfl
theorem fuelW_eq : fuelW = 100000 := by unfold fuelW; rfl
inductive PR (α : Type) where
  | ok (a : α)
  | err (e : Exn)
  | bad
def PR.bind {α β : Type} (r : PR α) (k : α → PR β) : PR β := match r with
  | .ok a => k a
  | .err e => .err e
  | .bad => .bad
@[simp] theorem PR.bind_ok {α β : Type} (a : α) (k : α → PR β) : (PR.ok a).bind k = k a := rfl
@[simp] theorem PR.bind_err {α β : Type} (e : Exn) (k : α → PR β) : (PR.err e : PR α).bind k = .err e := rfl
@[simp] theorem PR.bind_bad {α β : Type} (k : α → PR β) : (PR.bad : PR α).bind k = .bad := rfl
/-- the numbers' deck -/
structure Dk where
  cs : List Int
  l : Int
  t : Int
  s : Int
  x : Bool
  ne : cs ≠ []
  le : cs.length ≤ 100
  s0 : 0 ≤ s
  s1 : s < 2147483647
/-- what an own dict holds: data, an own list, an own dict of data -/
inductive TV where
  | d (x : D)
  | l (xs : List D)
  | c (kvs : List (D × D))
inductive PV where
  | x
  | d (v : D)
  | b (xs : List D)
  | l (p : Bool) (xs : List D)
  | k (p : Bool) (q : Dk)
  | m (kvs : List (Str × D))
  | n (kvs : List (Str × D))
  | t (p : Bool) (kvs : List (D × TV))
  | u (kvs : List (D × D))
inductive GV where
  | v (x : D)
  | r (i : Nat)
def kC : Str := Str.ofString "cells"
def kL : Str := Str.ofString "left"
def kA : Str := Str.ofString "at"
def kS : Str := Str.ofString "seed"
def kM : Str := Str.ofString "mixed"
def dk (a : Nat) (l t s : Int) (x : Bool) : List (Str × W) := [(kC, .obj a), (kL, .d (.int l)), (kA, .d (.int t)), (kS, .d (.int s)), (kM, .d (.bool x))]
structure DkAt (m : Mem) (a b : Nat) (q : Dk) : Prop where
  ab : a < b
  ca : m[a]? = some (.lst (q.cs.map .int))
  cb : m[b]? = some (.dct (dk a q.l q.t q.s q.x))
/-- an object speaks of these alone -/
def okJW (J : List Nat) : W → Bool
  | .obj j => J.contains j
  | .pr _ j => J.contains j
  | .fl _ => false
  | _ => true
def okJ (J : List Nat) : O → Bool
  | .dct kvs => kvs.all fun p => okJW J p.2
  | .lsw ws => ws.all (okJW J)
  | .dcn kvs => kvs.all fun p => okJW J p.2
  | .ins _ fs => fs.all fun p => okJW J p.2
  | _ => true
theorem okJW.le {J : List Nat} {n : Nat} {w : W} (h : okJW J w = true) (hj : ∀ j ∈ J, j < n) : okW n w = true := by
  cases w with
  | obj j => exact decide_eq_true (hj j (by simpa [okJW] using h))
  | pr x j => exact decide_eq_true (hj j (by simpa [okJW] using h))
  | d _ => rfl
  | ro _ => rfl
  | fl _ => cases h
theorem okJ.le {J : List Nat} {n : Nat} {o : O} (h : okJ J o = true) (hj : ∀ j ∈ J, j < n) : okO n o = true := by
  cases o with
  | dct kvs =>
    have h : kvs.all (fun p => okJW J p.2) = true := h
    show kvs.all (fun p => okW n p.2) = true
    rw [List.all_eq_true] at h ⊢
    exact fun p hp => okJW.le (h p hp) hj
  | lsw ws =>
    have h : ws.all (okJW J) = true := h
    show ws.all (okW n) = true
    rw [List.all_eq_true] at h ⊢
    exact fun p hp => okJW.le (h p hp) hj
  | dcn kvs =>
    have h : kvs.all (fun p => okJW J p.2) = true := h
    show kvs.all (fun p => okW n p.2) = true
    rw [List.all_eq_true] at h ⊢
    exact fun p hp => okJW.le (h p hp) hj
  | ins _ kvs =>
    have h : kvs.all (fun p => okJW J p.2) = true := h
    show kvs.all (fun p => okW n p.2) = true
    rw [List.all_eq_true] at h ⊢
    exact fun p hp => okJW.le (h p hp) hj
  | _ => rfl
def kvN (kvs : List (D × D)) : List (D × W) := kvs.map fun p => (p.1, .d p.2)
/-- what a dict holds: the places of its own lists and dicts -/
inductive ChAt (m : Mem) : List (D × W) → List (D × TV) → List Nat → Prop
  | nil : ChAt m [] [] []
  | d {k x : D} {kws : List (D × W)} {kvs : List (D × TV)} {ks : List Nat} : ChAt m kws kvs ks → ChAt m ((k, .d x) :: kws) ((k, .d x) :: kvs) ks
  | l {k : D} {i : Nat} {xs : List D} {kws : List (D × W)} {kvs : List (D × TV)} {ks : List Nat} : m[i]? = some (.lst xs) → i ∉ ks → ChAt m kws kvs ks → ChAt m ((k, .obj i) :: kws) ((k, .l xs) :: kvs) (i :: ks)
  | c {k : D} {i : Nat} {ys : List (D × D)} {kws : List (D × W)} {kvs : List (D × TV)} {ks : List Nat} : m[i]? = some (.dcn (kvN ys)) → i ∉ ks → ChAt m kws kvs ks → ChAt m ((k, .obj i) :: kws) ((k, .c ys) :: kvs) (i :: ks)
def TrAt (m : Mem) (j : Nat) (kvs : List (D × TV)) (ks : List Nat) : Prop := j ∉ ks ∧ ∃ kws, m[j]? = some (.dcn kws) ∧ ChAt m kws kvs ks
theorem ChAt.mem {m m' : Mem} {kws : List (D × W)} {kvs : List (D × TV)} {ks : List Nat} (h : ChAt m kws kvs ks) (hm : ∀ j ∈ ks, m'[j]? = m[j]?) : ChAt m' kws kvs ks := by
  induction h with
  | nil => exact .nil
  | d t ih => exact .d (ih hm)
  | l e n t ih => exact .l (by rw [hm _ List.mem_cons_self]; exact e) n (ih fun j hj => hm j (List.mem_cons_of_mem _ hj))
  | c e n t ih => exact .c (by rw [hm _ List.mem_cons_self]; exact e) n (ih fun j hj => hm j (List.mem_cons_of_mem _ hj))
theorem TrAt.mem {m m' : Mem} {j : Nat} {kvs : List (D × TV)} {ks : List Nat} (h : TrAt m j kvs ks) (hm : ∀ i ∈ j :: ks, m'[i]? = m[i]?) : TrAt m' j kvs ks := by
  obtain ⟨h1, kws, h2, h3⟩ := h
  exact ⟨h1, kws, by rw [hm j List.mem_cons_self]; exact h2, h3.mem fun i hi => hm i (List.mem_cons_of_mem _ hi)⟩
theorem ChAt.lt {m : Mem} {kws : List (D × W)} {kvs : List (D × TV)} {ks : List Nat} (h : ChAt m kws kvs ks) : ∀ j ∈ ks, j < m.length := by
  induction h with
  | nil => intro j hj; cases hj
  | d t ih => exact ih
  | l e n t ih =>
    intro j hj
    rcases List.mem_cons.mp hj with rfl | hj
    · exact (List.getElem?_eq_some_iff.mp e).1
    · exact ih j hj
  | c e n t ih =>
    intro j hj
    rcases List.mem_cons.mp hj with rfl | hj
    · exact (List.getElem?_eq_some_iff.mp e).1
    · exact ih j hj
theorem TrAt.lt {m : Mem} {j : Nat} {kvs : List (D × TV)} {ks : List Nat} (h : TrAt m j kvs ks) : ∀ i ∈ j :: ks, i < m.length := by
  obtain ⟨_, kws, h2, h3⟩ := h
  intro i hi
  rcases List.mem_cons.mp hi with rfl | hi
  · exact (List.getElem?_eq_some_iff.mp h2).1
  · exact h3.lt i hi
theorem ChAt.refs {m : Mem} {kws : List (D × W)} {kvs : List (D × TV)} {ks J : List Nat} (h : ChAt m kws kvs ks) (hJ : ∀ j ∈ ks, j ∈ J) : okJ J (.dcn kws) = true := by
  show kws.all (fun p => okJW J p.2) = true
  induction h with
  | nil => rfl
  | d t ih => rw [List.all_cons, ih hJ]; rfl
  | l e n t ih =>
    rw [List.all_cons, ih fun j hj => hJ j (List.mem_cons_of_mem _ hj)]
    have := hJ _ List.mem_cons_self
    simp [okJW, this]
  | c e n t ih =>
    rw [List.all_cons, ih fun j hj => hJ j (List.mem_cons_of_mem _ hj)]
    have := hJ _ List.mem_cons_self
    simp [okJW, this]
theorem okJ_kvN (J : List Nat) (kvs : List (D × D)) : okJ J (.dcn (kvN kvs)) = true := by
  simp [okJ, kvN, okJW]
theorem ChAt.okJ {m : Mem} {kws : List (D × W)} {kvs : List (D × TV)} {ks : List Nat} (h : ChAt m kws kvs ks) (J : List Nat) : ∀ j ∈ ks, ∀ o : O, m[j]? = some o → okJ J o = true := by
  induction h with
  | nil => intro j hj; cases hj
  | d t ih => exact ih
  | l e n t ih =>
    intro j hj o eo
    rcases List.mem_cons.mp hj with rfl | hj
    · rw [e] at eo; cases eo; rfl
    · exact ih j hj o eo
  | c e n t ih =>
    intro j hj o eo
    rcases List.mem_cons.mp hj with rfl | hj
    · rw [e] at eo; cases eo; exact okJ_kvN _ _
    · exact ih j hj o eo
theorem TrAt.okJ {m : Mem} {j : Nat} {kvs : List (D × TV)} {ks J : List Nat} (h : TrAt m j kvs ks) (hJ : ∀ i ∈ ks, i ∈ J) : ∀ i ∈ j :: ks, ∀ o : O, m[i]? = some o → okJ J o = true := by
  obtain ⟨_, kws, h2, h3⟩ := h
  intro i hi o eo
  rcases List.mem_cons.mp hi with rfl | hi
  · rw [h2] at eo; cases eo; exact h3.refs hJ
  · exact h3.okJ J i hi o eo
structure Fr where
  m0 : Mem
  pin : Nat → List Nat
/-- a dict of data in the memory -/
def kvW (kvs : List (Str × D)) : List (Str × W) := kvs.map fun p => (p.1, .d p.2)
/-- the key of an instance's class in its row of data: an instance of data is (insK, its class) and its fields -/
def insK : Str := Str.ofString "%ins"
/-- a dict, or an instance, of data -/
def mkO (kvs : List (Str × D)) : O := match kvs with
  | (k, .str c) :: r => if k = insK then .ins c (kvW r) else .dct (kvW ((k, .str c) :: r))
  | kvs => .dct (kvW kvs)
/-- a list that is only read: data, the script, an object of an outer def -/
def BW (fr : Fr) (w : W) (xs : List D) : Prop := w = .d (.list xs) ∨ w = .ro xs ∨ ∃ j, w = .obj j ∧ fr.m0[j]? = some (.lst xs) ∧ ∀ i, j ∉ fr.pin i
def SlotOk (fr : Fr) (m : Mem) (i : Nat) (js : List Nat) (e : Option (Option W)) : Option PV → Prop
  | none => js = []
  | some .x => js = []
  | some (.d v) => js = [] ∧ e = some (some (.d v))
  | some (.b xs) => js = [] ∧ ∃ w, e = some (some w) ∧ BW fr w xs
  | some (.l p xs) => ∃ j, js = [j] ∧ e = some (some (.obj j)) ∧ m[j]? = some (.lst xs) ∧ ((p = true ∧ fr.pin i = [j]) ∨ (p = false ∧ fr.m0.length ≤ j))
  | some (.k p q) => ∃ b a, js = [b, a] ∧ e = some (some (.obj b)) ∧ DkAt m a b q ∧ ((p = true ∧ fr.pin i = [b, a]) ∨ (p = false ∧ fr.m0.length ≤ a))
  | some (.m kvs) => ∃ j, js = [j, j] ∧ e = some (some (.obj j)) ∧ m[j]? = some (mkO kvs) ∧ fr.m0.length ≤ j
  | some (.n kvs) => js = [] ∧ ∃ j, e = some (some (.obj j)) ∧ fr.m0[j]? = some (mkO kvs) ∧ ∀ i, j ∉ fr.pin i
  | some (.t p kvs) => ∃ j ks, js = j :: j :: j :: ks ∧ e = some (some (.obj j)) ∧ TrAt m j kvs ks ∧ ((p = true ∧ fr.pin i = js) ∨ (p = false ∧ ∀ k ∈ js, fr.m0.length ≤ k))
  | some (.u kvs) => js = [] ∧ ∃ j, e = some (some (.obj j)) ∧ fr.m0[j]? = some (.dcn (kvN kvs)) ∧ ∀ i, j ∉ fr.pin i
structure Rel (fr : Fr) (ρ : List PV) (env : Env) (m : Mem) : Prop where
  pok : ∀ i j, j ∈ fr.pin i → j < fr.m0.length
  len : fr.m0.length ≤ m.length
  fix : ∀ j, j < fr.m0.length → (∀ i, j ∉ fr.pin i) → m[j]? = fr.m0[j]?
  c0 : ∀ (j : Nat) (o : O), fr.m0[j]? = some o → okO fr.m0.length o = true
  cp : ∀ (i j : Nat), j ∈ fr.pin i → ∀ o : O, m[j]? = some o → ∃ i', j ∈ fr.pin i' ∧ okJ (fr.pin i') o = true
  cn : ∀ (j : Nat) (o : O), fr.m0.length ≤ j → m[j]? = some o → okO m.length o = true
  el : env.length = ρ.length
  ex : ∃ J : Nat → List Nat, (∀ i i' j, j ∈ J i → j ∈ J i' → i = i') ∧ ∀ i, SlotOk fr m i (J i) env[i]? ρ[i]?
section
variable {fr : Fr} {ρ ρ' : List PV} {env env' : Env} {m m' : Mem}
theorem Rel.cpA (R : Rel fr ρ env m) (l : List O) : ∀ (i j : Nat), j ∈ fr.pin i → ∀ o : O, (m ++ l)[j]? = some o → ∃ i', j ∈ fr.pin i' ∧ okJ (fr.pin i') o = true := fun i j hj o e => by
  have := R.pok i j hj
  have := R.len
  rw [List.getElem?_append_left (by omega)] at e
  exact R.cp i j hj o e
theorem Rel.cnA (R : Rel fr ρ env m) {l : List O} (hl : ∀ o ∈ l, okO (m ++ l).length o = true) : ∀ (j : Nat) (o : O), fr.m0.length ≤ j → (m ++ l)[j]? = some o → okO (m ++ l).length o = true := fun j o hj e => by
  by_cases h : j < m.length
  · rw [List.getElem?_append_left h] at e
    exact okO.le (R.cn j o hj e) (by simp)
  · rw [List.getElem?_append_right (by omega)] at e
    exact hl o (List.mem_of_getElem? e)
theorem Rel.cpS (R : Rel fr ρ env m) (k : Nat) (ys : List D) : ∀ (i j : Nat), j ∈ fr.pin i → ∀ o : O, (m.set k (.lst ys))[j]? = some o → ∃ i', j ∈ fr.pin i' ∧ okJ (fr.pin i') o = true := fun i j hj o e => by
  by_cases h : k = j
  · subst h
    have hl := (List.getElem?_eq_some_iff.mp e).1
    rw [List.length_set] at hl
    rw [List.getElem?_set_self hl] at e
    cases e
    exact ⟨i, hj, rfl⟩
  · rw [List.getElem?_set_ne h] at e
    exact R.cp i j hj o e
theorem Rel.cnS (R : Rel fr ρ env m) (k : Nat) (ys : List D) : ∀ (j : Nat) (o : O), fr.m0.length ≤ j → (m.set k (.lst ys))[j]? = some o → okO (m.set k (.lst ys)).length o = true := fun j o hj e => by
  rw [List.length_set]
  by_cases h : k = j
  · subst h
    have hl := (List.getElem?_eq_some_iff.mp e).1
    rw [List.length_set] at hl
    rw [List.getElem?_set_self hl] at e
    cases e
    rfl
  · rw [List.getElem?_set_ne h] at e
    exact R.cn j o hj e
/-- what was there tells of nothing that is not -/
theorem Rel.cl (R : Rel fr ρ env m) : clM fr.m0.length m = true := by
  unfold clM
  rw [List.all_eq_true]
  intro o ho
  obtain ⟨j, e⟩ := List.getElem?_of_mem ho
  have hl := (List.getElem?_eq_some_iff.mp e).1
  rw [List.length_take] at hl
  rw [List.getElem?_take_of_lt (by omega)] at e
  by_cases hp : ∃ i, j ∈ fr.pin i
  · obtain ⟨i, hi⟩ := hp
    obtain ⟨i', _, h⟩ := R.cp i j hi o e
    exact okJ.le h fun j hj => R.pok i' j hj
  · exact R.c0 j o (by rw [← R.fix j (by omega) fun i hi => hp ⟨i, hi⟩]; exact e)
theorem Rel.cm (R : Rel fr ρ env m) : ∀ (j : Nat) (o : O), m[j]? = some o → okO m.length o = true := fun j o e => by
  have hl := R.len
  by_cases h : j < fr.m0.length
  · by_cases hp : ∃ i, j ∈ fr.pin i
    · obtain ⟨i, hi⟩ := hp
      obtain ⟨i', _, h⟩ := R.cp i j hi o e
      exact okJ.le h fun j hj => Nat.lt_of_lt_of_le (R.pok i' j hj) hl
    · exact okO.le (R.c0 j o (by rw [← R.fix j h fun i hi => hp ⟨i, hi⟩]; exact e)) hl
  · exact R.cn j o (by omega) e
theorem SlotOk.lt {i : Nat} {js : List Nat} {e : Option (Option W)} {v : Option PV} (h : SlotOk fr m i js e v) : ∀ j ∈ js, j < m.length := by
  intro j hj
  match v, h with
  | none, h => rw [show js = [] from h] at hj; cases hj
  | some .x, h => rw [show js = [] from h] at hj; cases hj
  | some (.d v), h => rw [h.1] at hj; cases hj
  | some (.b v), h => rw [h.1] at hj; cases hj
  | some (.l p xs), ⟨k, e1, e2, e3, _⟩ =>
    rw [e1] at hj
    rw [List.mem_singleton.mp hj]
    exact (List.getElem?_eq_some_iff.mp e3).1
  | some (.k p q), ⟨b, a, e1, e2, e3, _⟩ =>
    have hb := (List.getElem?_eq_some_iff.mp e3.cb).1
    have := e3.ab
    rw [e1] at hj
    rcases List.mem_cons.mp hj with rfl | hj
    · exact hb
    · rw [List.mem_singleton.mp hj]; omega
  | some (.m kvs), ⟨k, e1, e2, e3, _⟩ =>
    rw [e1] at hj
    have : j = k := by simpa using hj
    rw [this]
    exact (List.getElem?_eq_some_iff.mp e3).1
  | some (.n v), h => rw [h.1] at hj; cases hj
  | some (.u v), h => rw [h.1] at hj; cases hj
  | some (.t p kvs), ⟨k, ks, e1, e2, e3, _⟩ =>
    rw [e1] at hj
    exact e3.lt j (by simpa using hj)
/-- a slot's thing stands while its places stand -/
theorem SlotOk.mem {i : Nat} {js : List Nat} {e : Option (Option W)} {v : Option PV} (h : SlotOk fr m i js e v) (hm : ∀ j ∈ js, m'[j]? = m[j]?) : SlotOk fr m' i js e v := by
  match v, h with
  | none, h => exact h
  | some .x, h => exact h
  | some (.d v), h => exact h
  | some (.b v), h => exact h
  | some (.l p xs), ⟨k, e1, e2, e3, e4⟩ => exact ⟨k, e1, e2, by rw [hm k (by rw [e1]; exact List.mem_singleton.mpr rfl)]; exact e3, e4⟩
  | some (.k p q), ⟨b, a, e1, e2, e3, e4⟩ =>
    exact ⟨b, a, e1, e2, ⟨e3.ab, by rw [hm a (by rw [e1]; simp)]; exact e3.ca, by rw [hm b (by rw [e1]; simp)]; exact e3.cb⟩, e4⟩
  | some (.m kvs), ⟨k, e1, e2, e3, e4⟩ => exact ⟨k, e1, e2, by rw [hm k (by rw [e1]; simp)]; exact e3, e4⟩
  | some (.n v), h => exact h
  | some (.u v), h => exact h
  | some (.t p kvs), ⟨k, ks, e1, e2, e3, e4⟩ => exact ⟨k, ks, e1, e2, e3.mem fun i hi => hm i (by rw [e1]; simpa using hi), e4⟩
/-- where a slot's places lie: pinned, or behind the frame -/
theorem SlotOk.own {i : Nat} {js : List Nat} {e : Option (Option W)} {v : Option PV} (h : SlotOk fr m i js e v) : ∀ j ∈ js, j ∈ fr.pin i ∨ fr.m0.length ≤ j := by
  intro j hj
  match v, h with
  | none, h => rw [show js = [] from h] at hj; cases hj
  | some .x, h => rw [show js = [] from h] at hj; cases hj
  | some (.d v), h => rw [h.1] at hj; cases hj
  | some (.b v), h => rw [h.1] at hj; cases hj
  | some (.l p xs), ⟨k, e1, e2, e3, e4⟩ =>
    rw [e1] at hj
    have := List.mem_singleton.mp hj
    subst this
    rcases e4 with ⟨_, e4⟩ | ⟨_, e4⟩
    · exact .inl (by rw [e4]; exact List.mem_singleton.mpr rfl)
    · exact .inr e4
  | some (.k p q), ⟨b, a, e1, e2, e3, e4⟩ =>
    have := e3.ab
    rcases e4 with ⟨_, e4⟩ | ⟨_, e4⟩
    · exact .inl (by rw [e4, ← e1]; exact hj)
    · rw [e1] at hj
      rcases List.mem_cons.mp hj with rfl | hj
      · exact .inr (by omega)
      · rw [List.mem_singleton.mp hj]; exact .inr e4
  | some (.m kvs), ⟨k, e1, e2, e3, e4⟩ =>
    rw [e1] at hj
    have : j = k := by simpa using hj
    rw [this]
    exact .inr e4
  | some (.n v), h => rw [h.1] at hj; cases hj
  | some (.u v), h => rw [h.1] at hj; cases hj
  | some (.t p kvs), ⟨k, ks, e1, e2, e3, e4⟩ =>
    rcases e4 with ⟨_, e4⟩ | ⟨_, e4⟩
    · exact .inl (by rw [e4]; exact hj)
    · exact .inr (e4 j hj)
theorem SlotOk.nil (h : SlotOk fr m i js e none) : js = [] := h
/-- fewer things known; slots that nothing is known of may change -/
theorem Rel.sub (R : Rel fr ρ env m) (hl : ρ'.length = ρ.length) (he : env'.length = env.length) (h : ∀ (i : Nat) (v : PV), ρ'[i]? = some v → v = PV.x ∨ (ρ[i]? = some v ∧ env'[i]? = env[i]?)) : Rel fr ρ' env' m := by
  obtain ⟨J, hd, hs⟩ := R.ex
  refine ⟨R.pok, R.len, R.fix, R.c0, R.cp, R.cn, by rw [he, hl]; exact R.el, fun i => (match ρ'[i]? with | some .x => [] | _ => J i), fun i i' j h1 h2 => ?_, fun i => ?_⟩
  · refine hd i i' j ?_ ?_
    · dsimp only at h1
      split at h1
      · cases h1
      · exact h1
    · dsimp only at h2
      split at h2
      · cases h2
      · exact h2
  · dsimp only
    cases q : ρ'[i]? with
    | none =>
      have : ρ[i]? = none := by
        rw [List.getElem?_eq_none_iff] at q ⊢
        omega
      have z := hs i
      rw [this] at z
      exact z
    | some v =>
      rcases h i v q with rfl | ⟨h1, h2⟩
      · exact (rfl : ([] : List Nat) = [])
      · have z := hs i
        rw [h1, ← h2] at z
        cases v with
        | x => exact (rfl : ([] : List Nat) = [])
        | _ => exact z
/-- data in a slot -/
theorem Rel.setD (R : Rel fr ρ env m) (i : Nat) (x : D) : Rel fr (ρ.set i (.d x)) (env.set i (some (.d x))) m := by
  obtain ⟨J, hd, hs⟩ := R.ex
  refine ⟨R.pok, R.len, R.fix, R.c0, R.cp, R.cn, by simpa using R.el, fun k => if k = i then [] else J k, fun k k' j h1 h2 => ?_, fun k => ?_⟩
  · dsimp only at h1 h2
    by_cases hk : k = i
    · rw [if_pos hk] at h1; cases h1
    · by_cases hk' : k' = i
      · rw [if_pos hk'] at h2; cases h2
      · rw [if_neg hk] at h1; rw [if_neg hk'] at h2; exact hd k k' j h1 h2
  · dsimp only
    by_cases hk : k = i
    · subst hk
      rw [if_pos rfl]
      by_cases hl : k < ρ.length
      · rw [List.getElem?_set_self hl, List.getElem?_set_self (by rw [R.el]; exact hl)]
        exact ⟨rfl, rfl⟩
      · have e : (ρ.set k (.d x))[k]? = none := List.getElem?_eq_none (by simpa using hl)
        rw [e]
        exact (rfl : ([] : List Nat) = [])
    · rw [if_neg hk, List.getElem?_set_ne (Ne.symm hk), List.getElem?_set_ne (Ne.symm hk)]
      exact hs k
/-- a new list in a slot -/
theorem Rel.setL (R : Rel fr ρ env m) (i : Nat) (xs : List D) : Rel fr (ρ.set i (.l false xs)) (env.set i (some (.obj m.length))) (m ++ [.lst xs]) := by
  obtain ⟨J, hd, hs⟩ := R.ex
  have lt : ∀ k, ∀ j ∈ J k, j < m.length := fun k => (hs k).lt
  refine ⟨R.pok, by rw [List.length_append]; have := R.len; omega, fun j h1 h2 => by rw [List.getElem?_append_left (by have := R.len; omega)]; exact R.fix j h1 h2, R.c0, R.cpA _, R.cnA (fun o ho => by rw [List.mem_singleton.mp ho]; rfl), by simpa using R.el, fun k => if k = i then (if i < ρ.length then [m.length] else []) else J k, fun k k' j h1 h2 => ?_, fun k => ?_⟩
  · dsimp only at h1 h2
    by_cases hk : k = i
    · by_cases hk' : k' = i
      · rw [hk, hk']
      · rw [if_pos hk] at h1; rw [if_neg hk'] at h2
        have := lt k' j h2
        split at h1
        · rw [List.mem_singleton.mp h1] at this; omega
        · cases h1
    · by_cases hk' : k' = i
      · rw [if_neg hk] at h1; rw [if_pos hk'] at h2
        have := lt k j h1
        split at h2
        · rw [List.mem_singleton.mp h2] at this; omega
        · cases h2
      · rw [if_neg hk] at h1; rw [if_neg hk'] at h2; exact hd k k' j h1 h2
  · dsimp only
    by_cases hk : k = i
    · subst hk
      rw [if_pos rfl]
      by_cases hl : k < ρ.length
      · rw [List.getElem?_set_self hl, List.getElem?_set_self (by rw [R.el]; exact hl), if_pos hl]
        exact ⟨_, rfl, rfl, by simp, .inr ⟨rfl, R.len⟩⟩
      · have e : (ρ.set k (.l false xs))[k]? = none := List.getElem?_eq_none (by simpa using hl)
        rw [if_neg hl, e]
        exact (rfl : ([] : List Nat) = [])
    · rw [if_neg hk, List.getElem?_set_ne (Ne.symm hk), List.getElem?_set_ne (Ne.symm hk)]
      exact (hs k).mem fun j hj => List.getElem?_append_left (lt k j hj)
/-- a slot's list changes -/
theorem Rel.mutL (R : Rel fr ρ env m) {i : Nat} {p : Bool} {xs : List D} (h : ρ[i]? = some (.l p xs)) (ys : List D) : ∃ j, env[i]? = some (some (.obj j)) ∧ m[j]? = some (.lst xs) ∧ Rel fr (ρ.set i (.l p ys)) env (m.set j (.lst ys)) := by
  obtain ⟨J, hd, hs⟩ := R.ex
  have hi := hs i
  rw [h] at hi
  obtain ⟨j, e1, e2, e3, e4⟩ := hi
  have hj : j < m.length := (List.getElem?_eq_some_iff.mp e3).1
  refine ⟨j, e2, e3, R.pok, by rw [List.length_set]; exact R.len, fun k h1 h2 => ?_, R.c0, R.cpS _ _, R.cnS _ _, by rw [List.length_set]; exact R.el, J, hd, fun k => ?_⟩
  · rw [List.getElem?_set_ne]
    · exact R.fix k h1 h2
    · rintro rfl
      rcases e4 with ⟨_, e4⟩ | ⟨_, e4⟩
      · exact h2 i (by rw [e4]; simp)
      · omega
  · by_cases hk : k = i
    · subst hk
      have hl : k < ρ.length := (List.getElem?_eq_some_iff.mp h).1
      rw [List.getElem?_set_self hl]
      exact ⟨j, e1, e2, List.getElem?_set_self hj, e4⟩
    · rw [List.getElem?_set_ne (Ne.symm hk)]
      refine (hs k).mem fun j' hj' => List.getElem?_set_ne ?_
      rintro rfl
      exact hk (hd k i j hj' (by rw [e1]; simp))
theorem Rel.getL (R : Rel fr ρ env m) {i : Nat} {p : Bool} {xs : List D} (h : ρ[i]? = some (.l p xs)) : ∃ j, env[i]? = some (some (.obj j)) ∧ m[j]? = some (.lst xs) := by
  obtain ⟨J, hd, hs⟩ := R.ex
  have hi := hs i
  rw [h] at hi
  obtain ⟨j, e1, e2, e3, e4⟩ := hi
  exact ⟨j, e2, e3⟩
theorem Rel.getD (R : Rel fr ρ env m) {i : Nat} {x : D} (h : ρ[i]? = some (.d x)) : env[i]? = some (some (.d x)) := by
  obtain ⟨J, hd, hs⟩ := R.ex
  have hi := hs i
  rw [h] at hi
  exact hi.2
theorem Rel.getB (R : Rel fr ρ env m) {i : Nat} {xs : List D} (h : ρ[i]? = some (.b xs)) : ∃ w, env[i]? = some (some w) ∧ BW fr w xs := by
  obtain ⟨J, hd, hs⟩ := R.ex
  have hi := hs i
  rw [h] at hi
  exact hi.2
end
/-! ### masks -/
def wip : List Bool → List PV → List PV
  | true :: bs, _ :: r => .x :: wip bs r
  | false :: bs, v :: r => v :: wip bs r
  | [], r => r
  | _ :: _, [] => []
def isM (ms : List Bool) (i : Nat) : Bool := ms[i]?.getD false
theorem wip_length : ∀ (ms : List Bool) (ρ : List PV), (wip ms ρ).length = ρ.length
  | true :: bs, _ :: r => by simp [wip, wip_length bs r]
  | false :: bs, v :: r => by simp [wip, wip_length bs r]
  | [], r => by cases r <;> rfl
  | _ :: _, [] => by simp [wip]
theorem wip_get : ∀ (ms : List Bool) (ρ : List PV) (i : Nat), (wip ms ρ)[i]? = if isM ms i = true then ρ[i]?.map (fun _ => PV.x) else ρ[i]?
  | true :: bs, v :: r, 0 => by simp [wip, isM]
  | false :: bs, v :: r, 0 => by simp [wip, isM]
  | true :: bs, v :: r, i + 1 => by
    have := wip_get bs r i
    show (wip bs r)[i]? = _
    rw [this]
    rfl
  | false :: bs, v :: r, i + 1 => by
    have := wip_get bs r i
    show (wip bs r)[i]? = _
    rw [this]
    rfl
  | [], r, i => by cases r <;> simp [wip, isM]
  | b :: bs, [], i => by cases b <;> simp [wip]
structure Ag (ms : List Bool) (ρ ρ' : List PV) : Prop where
  len : ρ'.length = ρ.length
  get : ∀ i, isM ms i = false → ρ'[i]? = ρ[i]?
theorem Ag.refl (ms : List Bool) (ρ : List PV) : Ag ms ρ ρ := ⟨rfl, fun _ _ => rfl⟩
theorem Ag.trans {ms : List Bool} {ρ ρ1 ρ2 : List PV} (a : Ag ms ρ ρ1) (b : Ag ms ρ1 ρ2) : Ag ms ρ ρ2 := ⟨b.len.trans a.len, fun i h => (b.get i h).trans (a.get i h)⟩
theorem Ag.set {ms : List Bool} {ρ : List PV} {i : Nat} {v : PV} (h : isM ms i = true) : Ag ms ρ (ρ.set i v) := ⟨by simp, fun k hk => List.getElem?_set_ne (by rintro rfl; rw [h] at hk; cases hk)⟩
theorem Ag.wip {ms : List Bool} {ρ ρ' : List PV} (a : Ag ms ρ ρ') : wip ms ρ' = wip ms ρ := by
  apply List.ext_getElem?
  intro i
  rw [wip_get, wip_get]
  by_cases h : isM ms i = true
  · rw [if_pos h, if_pos h]
    by_cases hi : i < ρ.length
    · rw [List.getElem?_eq_getElem hi, List.getElem?_eq_getElem (by rw [a.len]; exact hi)]; rfl
    · have hl := a.len
      rw [List.getElem?_eq_none (show ρ.length ≤ i by omega), List.getElem?_eq_none (show ρ'.length ≤ i by omega)]
  · rw [if_neg h, if_neg h]
    exact a.get i (by simpa using h)
structure AgE (ms : List Bool) (env env' : Env) : Prop where
  len : env'.length = env.length
  get : ∀ i, isM ms i = false → env'[i]? = env[i]?
theorem AgE.refl (ms : List Bool) (ρ : Env) : AgE ms ρ ρ := ⟨rfl, fun _ _ => rfl⟩
theorem AgE.trans {ms : List Bool} {ρ ρ1 ρ2 : Env} (a : AgE ms ρ ρ1) (b : AgE ms ρ1 ρ2) : AgE ms ρ ρ2 := ⟨b.len.trans a.len, fun i h => (b.get i h).trans (a.get i h)⟩
theorem AgE.set {ms : List Bool} {ρ : Env} {i : Nat} {v : Option W} (h : isM ms i = true) : AgE ms ρ (ρ.set i v) := ⟨by simp, fun k hk => List.getElem?_set_ne (by rintro rfl; rw [h] at hk; cases hk)⟩
/-- what is known outside the mask -/
theorem Rel.wip {fr : Fr} {ρ : List PV} {env env' : Env} {m : Mem} {ms : List Bool} (R : Rel fr ρ env m) (a : AgE ms env env') : Rel fr (wip ms ρ) env' m := by
  refine R.sub (wip_length _ _) a.len fun i v h => ?_
  rw [wip_get] at h
  by_cases q : isM ms i = true
  · rw [if_pos q] at h
    cases z : ρ[i]? with
    | none => rw [z] at h; cases h
    | some u => rw [z] at h; cases h; exact .inl rfl
  · rw [if_neg q] at h
    exact .inr ⟨h, a.get i (by simpa using q)⟩
theorem wip_wip (ms : List Bool) (ρ : List PV) : Ag ms ρ (wip ms ρ) := ⟨wip_length _ _, fun i h => by rw [wip_get, if_neg (by rw [h]; simp)]⟩
/-! ### values -/
def VW (fr : Fr) (s : Nat) (w : W) (x : D) : Prop := match s with
  | 0 => w = .d x
  | 1 => match x with
    | .list ds => w = .fl ds
    | x => w = .d x
  | 2 => w = .d x ∨ ∃ ds, x = .list ds ∧ w = .fl ds
  | 4 => w = .d x ∨ ∃ ds, x = .list ds ∧ BW fr w ds
  | 7 => w = .d x ∨ ∃ ds, x = .list ds ∧ w = .fl ds
  | 8 => match x with
    | .list ds => w = .fl ds
    | x => w = .d x
  | _ => w = .d x ∨ ∃ ds, x = .list ds ∧ (w = .fl ds ∨ BW fr w ds)
def isO (s : Nat) : Bool := match s with
  | 3 => true
  | 4 => true
  | 7 => true
  | 8 => true
  | _ => false
def RVal (fr : Fr) (s : Nat) (env : Env) (w : W) : GV → Prop
  | .v x => VW fr s w x
  | .r i => isO s = true ∧ env[i]? = some (some w)
def up (s s' : Nat) : Bool := match s, s' with
  | 0, 2 => true
  | 0, 4 => true
  | 1, 2 => true
  | _, 3 => true
  | 0, 0 => true
  | 1, 1 => true
  | 2, 2 => true
  | 4, 4 => true
  | 0, 7 => true
  | 1, 7 => true
  | 2, 7 => true
  | 7, 7 => true
  | 1, 8 => true
  | 8, 8 => true
  | 8, 7 => true
  | _, _ => false
theorem VW.dfl {fr : Fr} {w : W} {x : D} (h : VW fr 1 w x) : VW fr 2 w x := by
  cases x with
  | list ds => exact .inr ⟨ds, rfl, h⟩
  | _ => exact .inl h
theorem VW.dfl8 {fr : Fr} {w : W} {x : D} (h : VW fr 8 w x) : VW fr 2 w x := by
  cases x with
  | list ds => exact .inr ⟨ds, rfl, h⟩
  | _ => exact .inl h
theorem VW.any {fr : Fr} {s : Nat} {w : W} {x : D} (h : VW fr s w x) : VW fr 3 w x := by
  match s, h with
  | 0, h => exact .inl h
  | 1, h =>
    rcases VW.dfl h with h | ⟨ds, e, h⟩
    · exact .inl h
    · exact .inr ⟨ds, e, .inl h⟩
  | 2, .inl h => exact .inl h
  | 2, .inr ⟨ds, e, h⟩ => exact .inr ⟨ds, e, .inl h⟩
  | 3, h => exact h
  | 4, .inl h => exact .inl h
  | 4, .inr ⟨ds, e, h⟩ => exact .inr ⟨ds, e, .inr h⟩
  | 5, h => exact h
  | 6, h => exact h
  | 7, .inl h => exact .inl h
  | 7, .inr ⟨ds, e, h⟩ => exact .inr ⟨ds, e, .inl h⟩
  | 8, h =>
    rcases VW.dfl8 h with h | ⟨ds, e, h⟩
    · exact .inl h
    · exact .inr ⟨ds, e, .inl h⟩
  | n + 9, h => exact h
theorem RVal.up {fr : Fr} {s s' : Nat} {env : Env} {w : W} {v : GV} (h : RVal fr s env w v) (u : M.up s s' = true) : RVal fr s' env w v := by
  unfold M.up at u
  split at u <;> first | cases u | skip
  · cases v with
    | v x => exact .inl h
    | r i => exact absurd h.1 (by decide)
  · cases v with
    | v x => exact .inl h
    | r i => exact absurd h.1 (by decide)
  · cases v with
    | v x => exact VW.dfl (fr := fr) h
    | r i => exact absurd h.1 (by decide)
  · cases v with
    | v x => exact VW.any h
    | r i => exact ⟨rfl, h.2⟩
  all_goals first
    | exact h
    | (cases v with
      | v x => first | exact .inl h | exact VW.dfl (fr := fr) h | exact VW.dfl8 (fr := fr) h | exact h
      | r i => first | exact absurd h.1 (by decide) | exact ⟨rfl, h.2⟩)
def gres (ρ : List PV) : GV → Option D
  | .v x => some x
  | .r i => match ρ[i]? with
    | some (.l _ xs) => some (.list xs)
    | _ => none
def See (m : Mem) (w : W) (x : D) : Prop := w = .d x ∨ ∃ ds, x = .list ds ∧ (w = .fl ds ∨ w = .ro ds ∨ ∃ j, w = .obj j ∧ m[j]? = some (.lst ds))
/-- an owned list, data, or a fresh one -/
def SeeN (m : Mem) (w : W) (x : D) : Prop := w = .d x ∨ ∃ ds, x = .list ds ∧ (w = .fl ds ∨ ∃ j, w = .obj j ∧ m[j]? = some (.lst ds))
theorem BW.see {fr : Fr} {ρ : List PV} {env : Env} {m : Mem} (R : Rel fr ρ env m) {w : W} {xs : List D} (h : BW fr w xs) : See m w (.list xs) := by
  rcases h with h | h | ⟨j, e, h1, h2⟩
  · exact .inl h
  · exact .inr ⟨xs, rfl, .inr (.inl h)⟩
  · exact .inr ⟨xs, rfl, .inr (.inr ⟨j, e, by rw [R.fix j (List.getElem?_eq_some_iff.mp h1).1 h2]; exact h1⟩)⟩
theorem Rel.see {fr : Fr} {ρ : List PV} {env : Env} {m : Mem} {s : Nat} {w : W} {v : GV} {x : D} (R : Rel fr ρ env m) (h : RVal fr s env w v) (e : gres ρ v = some x) : See m w x := by
  cases v with
  | v y =>
    cases e
    have h : VW fr s w x := h
    rcases VW.any h with z | ⟨ds, e, z | z⟩
    · exact .inl z
    · exact .inr ⟨ds, e, .inl z⟩
    · subst e; exact BW.see R z
  | r i =>
    have h2 := h.2
    simp only [gres] at e
    split at e
    · rename_i q
      cases e
      obtain ⟨j, e1, e2⟩ := R.getL q
      rw [e1] at h2
      cases h2
      exact .inr ⟨_, rfl, .inr (.inr ⟨j, rfl, e2⟩)⟩
    · cases e
theorem Rel.seeN {fr : Fr} {ρ : List PV} {env : Env} {m : Mem} {w : W} {v : GV} {x : D} (R : Rel fr ρ env m) (h : RVal fr 7 env w v) (e : gres ρ v = some x) : SeeN m w x := by
  cases v with
  | v y =>
    cases e
    rcases h with h | ⟨ds, e, h⟩
    · exact .inl h
    · exact .inr ⟨ds, e, .inl h⟩
  | r i =>
    have h2 := h.2
    simp only [gres] at e
    split at e
    · rename_i q
      cases e
      obtain ⟨j, e1, e2⟩ := R.getL q
      rw [e1] at h2
      cases h2
      exact .inr ⟨_, rfl, .inr ⟨j, rfl, e2⟩⟩
    · cases e
end M
set_option Elab.async false
set_option linter.all false
set_option maxRecDepth 100000
/-! P: operations -/
namespace M
open PySem L2
variable [HasW]
def Out (s : Nat) (m : Mem) (r : Res W) (p : PR D) : Prop := match p with
  | .ok z => ∃ w, r = .ok w m ∧ ∀ fr, VW fr s w z
  | .err e => r = .err e m
  | .bad => True
/-- li: 3 whatever stands there, 7 no list that is only read -/
def SeeL (li : Nat) (m : Mem) (w : W) (x : D) : Prop := if li = 7 then SeeN m w x else See m w x
def OpP (li s : Nat) (g : W → W → Mem → Res W) (p : D → D → PR D) : Prop := ∀ m w1 w2 x y, SeeL li m w1 x → SeeL li m w2 y → Out s m (g w1 w2 m) (p x y)
inductive Sees (m : Mem) : List W → List D → Prop
  | nil : Sees m [] []
  | cons {w : W} {x : D} {ws : List W} {xs : List D} : See m w x → Sees m ws xs → Sees m (w :: ws) (x :: xs)
def CaP (s : Nat) (g : List W → Mem → Res W) (p : List D → PR D) : Prop := ∀ m ws xs, Sees m ws xs → Out s m (g ws m) (p xs)
theorem see_flat {m : Mem} {w : W} {x : D} (h : See m w x) (hx : ∀ ds, x ≠ .list ds) : w = .d x := by
  rcases h with h | ⟨ds, e, _⟩
  · exact h
  · exact absurd e (hx ds)
theorem see_asL {m : Mem} {w : W} {ds : List D} (h : See m w (.list ds)) : asL w m = some ds := by
  rcases h with rfl | ⟨es, e, rfl | rfl | ⟨j, rfl, hj⟩⟩
  · rfl
  · cases e; rfl
  · cases e; rfl
  · cases e; simp [asL, hj]
theorem see_asD {m : Mem} {w : W} {x : D} (h : See m w x) : asD w m = some x := by
  rcases h with rfl | ⟨es, rfl, rfl | rfl | ⟨j, rfl, hj⟩⟩
  · rfl
  · rfl
  · rfl
  · simp [asD, asL, hj]
/-- a list is never seen as something else -/
theorem see_nd {m : Mem} {w : W} {ds : List D} (h : See m w (.list ds)) : ∀ x, w = .d x → x = .list ds := by
  intro x e
  subst e
  rcases h with h | ⟨es, e, h | h | ⟨j, h, hj⟩⟩
  · cases h; rfl
  · cases h
  · cases h
  · cases h
theorem out_d {m : Mem} {z : D} : Out 0 m (.ok (.d z) m) (.ok z) := ⟨_, rfl, fun _ => rfl⟩
noncomputable section
def intP (C : Int → Int → Bool) (g : Int → Int → D) (x y : D) : PR D := match x, y with
  | .int i, .int j => if C i j = true then .ok (g i j) else .bad
  | _, _ => .bad
theorem intP_ok {C : Int → Int → Bool} {g : Int → Int → D} : OpP 3 0 (intW C g) (intP C g) := by
  intro m w1 w2 x y h1 h2
  replace h1 : See m w1 x := h1
  replace h2 : See m w2 y := h2
  unfold intP
  split
  · rw [see_flat h1 (by intro ds e; cases e), see_flat h2 (by intro ds e; cases e)]
    simp only [intW]
    split
    · exact out_d
    · trivial
  · trivial
def int0P (g : Int → Int → D) (x y : D) : PR D := match x, y with
  | .int i, .int j => .ok (g i j)
  | _, _ => .bad
theorem int0P_ok {g : Int → Int → D} : OpP 3 0 (int0W g) (int0P g) := by
  intro m w1 w2 x y h1 h2
  replace h1 : See m w1 x := h1
  replace h2 : See m w2 y := h2
  unfold int0P
  split
  · rw [see_flat h1 (by intro ds e; cases e), see_flat h2 (by intro ds e; cases e)]
    exact out_d
  · trivial
def subP := int0P fun i j => .int (i - j)
def divP := intP divOk fun i j => .int (i / j)
def modP := intP modOk fun i j => .int (i % j)
def ltP := int0P fun i j => .bool (decide (i < j))
def leP := int0P fun i j => .bool (decide (i ≤ j))
def gtP := int0P fun i j => .bool (decide (j < i))
def geP := int0P fun i j => .bool (decide (j ≤ i))
def addIP := int0P fun i j => .int (i + j)
theorem subP_ok : OpP 3 0 subW subP := int0P_ok
theorem divP_ok : OpP 3 0 divW divP := intP_ok
theorem modP_ok : OpP 3 0 modW modP := intP_ok
theorem ltP_ok : OpP 3 0 ltW ltP := int0P_ok
theorem gtP_ok : OpP 3 0 gtW gtP := int0P_ok
def addP (x y : D) : PR D := match x, y with
  | .int i, .int j => .ok (.int (i + j))
  | .str a, .str b => if a.length + b.length ≤ sizeLine then .ok (.str (a ++ b)) else .bad
  | .tuple a, .tuple b => if a.length + b.length ≤ sizeLine then .ok (.tuple (a ++ b)) else .bad
  | .list a, .list b => if a.length + b.length ≤ sizeLine then .ok (.list (a ++ b)) else .bad
  | _, _ => .bad
def eqP (neg : Bool) (x y : D) : PR D := if (SeqAt.shaped x && SeqAt.shaped y) = true then .ok (.bool (if neg then !PyData.eqv x y else PyData.eqv x y)) else .bad
theorem eqP_ok {neg : Bool} : OpP 3 0 (eqW neg) (eqP neg) := by
  intro m w1 w2 x y h1 h2
  unfold eqP eqW
  rw [see_asD h1, see_asD h2]
  dsimp only
  split
  · exact out_d
  · trivial
def inP (neg : Bool) (x y : D) : PR D := match x, y with
  | .str a, .str b => .ok (.bool (ngB neg (inS a b)))
  | x, .tuple ds => if (flatD x && ds.all flatD) = true then .ok (.bool (ngB neg (ds.any fun z => PyData.eqv z x))) else .bad
  | x, .list ds => if (SeqAt.shaped x && SeqAt.shaped (.list ds)) = true then .ok (.bool (ngB neg (ds.any fun z => PyData.eqv z x))) else .bad
  | _, _ => .bad
theorem inP_ok {neg : Bool} : OpP 3 0 (inW neg) (inP neg) := by
  intro m w1 w2 x y h1 h2
  replace h1 : See m w1 x := h1
  replace h2 : See m w2 y := h2
  unfold inP
  split
  · rw [see_flat h1 (by intro ds e; cases e), see_flat h2 (by intro ds e; cases e)]
    exact out_d
  · rw [see_flat h2 (by intro ds e; cases e)]
    split
    · rename_i h
      have hf : flatD x = true := by simp only [Bool.and_eq_true] at h; exact h.1
      rw [see_flat h1 (by intro ds e; subst e; cases hf)]
      simp only [inW]
      rw [if_pos h]
      exact out_d
    · trivial
  · rename_i ds
    split
    · rename_i h
      have e1 := see_asD h1
      have e2 := see_asL h2
      have e : inW neg w1 w2 m = .ok (.d (.bool (ngB neg (ds.any fun z => PyData.eqv z x)))) m := by
        have k2 := see_nd h2
        unfold inW
        split
        · rename_i b
          exact absurd (k2 _ rfl) (by intro z; cases z)
        · exact absurd (k2 _ rfl) (by intro z; cases z)
        · rw [e1, e2]
          dsimp only
          rw [if_pos h]
      rw [e]
      exact out_d
    · trivial
  · trivial
def isNP (neg : Bool) (x y : D) : PR D := match x, y with
  | .none, .none => .ok (.bool (ngB neg true))
  | _, .none => .ok (.bool (ngB neg false))
  | _, _ => .bad
def isBP (neg : Bool) (x y : D) : PR D := match x, y with
  | .bool a, .bool b => .ok (.bool (ngB neg (decide (a = b))))
  | _, _ => .bad
def ixP (x y : D) : PR D := match x, y with
  | .str z, .int i => if z.length ≤ sizeLine then (match L2.atI z.cps.toList i with | some c => .ok (.str ⟨#[c]⟩) | none => .bad) else .bad
  | .tuple ds, .int i => (match L2.atI ds i with | some c => .ok c | none => .bad)
  | .list ds, .int i => (match L2.atI ds i with | some c => .ok c | none => .bad)
  | _, _ => .bad
theorem ixP_ok : OpP 3 0 ixW ixP := by
  intro m w1 w2 x y h1 h2
  replace h1 : See m w1 x := h1
  replace h2 : See m w2 y := h2
  unfold ixP
  split
  · rw [see_flat h1 (by intro ds e; cases e), see_flat h2 (by intro ds e; cases e)]
    rename_i z i
    split
    · rename_i h
      simp only [ixW]
      rw [if_pos h]
      cases q : L2.atI z.cps.toList i with
      | none => trivial
      | some c => exact out_d
    · trivial
  · rename_i ds i
    rw [see_flat h1 (by intro ds e; cases e), see_flat h2 (by intro ds e; cases e)]
    simp only [ixW]
    cases q : L2.atI ds i with
    | none => trivial
    | some c => exact out_d
  · rename_i ds i
    rw [see_flat h2 (by intro ds e; cases e)]
    have e1 := see_asL h1
    have k1 := see_nd h1
    have e : ixW w1 (.d (.int i)) m = (match L2.atI ds i with | some c => .ok (.d c) m | none => .bad) := by
      unfold ixW
      split
      · exact absurd (k1 _ rfl) (by intro z; cases z)
      · exact absurd (k1 _ rfl) (by intro z; cases z)
      · rename_i q
        cases q
        rw [e1]
        rfl
      · rename_i q1 q2 q3
        first | exact absurd rfl (q3 i) | exact absurd rfl (q2 i) | exact absurd rfl (q1 i) | simp_all
    rw [e]
    cases q : L2.atI ds i with
    | none => trivial
    | some c => exact out_d
  · trivial
def slP (x : D) (lo hi : Option Int) : PR D := match x with
  | .str z => if z.length ≤ sizeLine then .ok (.str (cutS z lo hi)) else .bad
  | .tuple ds => .ok (.tuple (cutD ds lo hi))
  | .list ds => .ok (.list (cutD ds lo hi))
  | _ => .bad
theorem slP_ok (m : Mem) (w : W) (x : D) (lo hi : Option Int) (h : See m w x) : Out 1 m (slW w lo hi m) (slP x lo hi) := by
  unfold slP
  split
  · rw [see_flat h (by intro ds e; cases e)]
    split
    · rename_i q
      exact ⟨_, by simp only [slW]; rw [if_pos q], fun _ => rfl⟩
    · trivial
  · rw [see_flat h (by intro ds e; cases e)]
    exact ⟨_, rfl, fun _ => rfl⟩
  · rename_i ds
    have e1 := see_asL h
    have k1 := see_nd h
    have e : slW w lo hi m = .ok (.fl (cutD ds lo hi)) m := by
      unfold slW
      split
      · exact absurd (k1 _ rfl) (by intro z; cases z)
      · exact absurd (k1 _ rfl) (by intro z; cases z)
      · rw [e1]
    rw [e]
    exact ⟨_, rfl, fun _ => rfl⟩
  · trivial
end
end M
set_option Elab.async false
set_option linter.all false
set_option maxRecDepth 100000
/-! P: built-ins -/
namespace M
open PySem L2
variable [HasW]
noncomputable section
theorem sees1 {m : Mem} {ws : List W} {x : D} (h : Sees m ws [x]) : ∃ w, ws = [w] ∧ See m w x := by
  cases h with
  | cons h t => cases t with
    | nil => exact ⟨_, rfl, h⟩
def lenP (xs : List D) : PR D := match xs with
  | [.str z] => if z.length ≤ sizeLine then .ok (.int (z.length : Int)) else .bad
  | [.tuple ds] => .ok (.int (ds.length : Int))
  | [.list ds] => .ok (.int (ds.length : Int))
  | _ => .bad
theorem lenP_ok : CaP 0 lenW lenP := by
  intro m ws xs h
  unfold lenP
  split
  · obtain ⟨w, rfl, hw⟩ := sees1 h
    replace h := hw
    rw [see_flat h (by intro ds e; cases e)]
    split
    · rename_i q
      simp only [lenW]
      rw [if_pos q]
      exact out_d
    · trivial
  · obtain ⟨w, rfl, hw⟩ := sees1 h
    replace h := hw
    rw [see_flat h (by intro ds e; cases e)]
    exact out_d
  · rename_i ds
    obtain ⟨w, rfl, hw⟩ := sees1 h
    replace h := hw
    have e1 := see_asL h
    have k1 := see_nd h
    have e : lenW [w] m = .ok (.d (.int (ds.length : Int))) m := by
      rcases h with rfl | ⟨es, e, rfl | rfl | ⟨j, rfl, hj⟩⟩
      · rfl
      · cases e; rfl
      · cases e; rfl
      · simp only [lenW, e1]
    rw [e]
    exact out_d
  · trivial
def intP1 (xs : List D) : PR D := match xs with
  | [.int i] => .ok (.int i)
  | [.bool b] => .ok (.int (if b then 1 else 0))
  | _ => .bad
def lst1P {α : Type} (g : List D → Option α) (k : α → D) (xs : List D) : PR D := match xs with
  | [.list ds] => match g ds with
    | some ns => .ok (k ns)
    | none => .bad
  | _ => .bad
theorem lst1P_ok {α : Type} {g : List D → Option α} {k : α → D} : CaP 0 (lst1 g k) (lst1P g k) := by
  intro m ws xs h
  unfold lst1P
  split
  · rename_i ds
    obtain ⟨w, rfl, hw⟩ := sees1 h
    replace h := hw
    have e1 := see_asL h
    simp only [lst1, e1, Option.bind_some]
    cases g ds with
    | none => trivial
    | some ns => exact out_d
  · trivial
def allP := lst1P dBools fun ns => .bool (ns.all id)
theorem allP_ok : CaP 0 allW allP := lst1P_ok
/-! methods of texts -/
/-! types, truth -/
def tyP (x : D) : Option Tk := match x with
  | .none => some .non
  | .bool _ => some .bl
  | .int _ => some .int
  | .str _ => some .str
  | .list _ => some .lst
  | .tuple _ => some .tup
  | _ => none
theorem tyP_ok {m : Mem} {w : W} {x : D} {t : Tk} (h : See m w x) (e : tyP x = some t) : tyW w m = some t := by
  rcases h with rfl | ⟨ds, rfl, rfl | rfl | ⟨j, rfl, hj⟩⟩
  · cases x <;> exact e
  · exact e
  · exact e
  · simp only [tyW, hj]; exact e
def truP (x : D) : Option Bool := match x with
  | .none => some false
  | .bool b => some b
  | .int i => some (i != 0)
  | .str x => if x.length ≤ sizeLine then some ((x.length : Int) != 0) else none
  | .tuple ds => some (!ds.isEmpty)
  | .list ds => some (!ds.isEmpty)
  | _ => none
theorem truP_ok {m : Mem} {w : W} {x : D} {t : Bool} (h : See m w x) (e : truP x = some t) : truW w m = some t := by
  rcases h with rfl | ⟨ds, rfl, rfl | rfl | ⟨j, rfl, hj⟩⟩
  · cases x <;> exact e
  · exact e
  · exact e
  · simp only [truW, asL, hj, Option.map_some]; exact e
def negP (x : D) : PR D := match x with
  | .int i => .ok (.int (-i))
  | _ => .bad
/-! ### judgements -/
abbrev GEx := (γ : Type) → List PV → (GV → List PV → PR γ) → PR γ
def EPost (fr : Fr) (s : Nat) (ms : List Bool) (ρ : List PV) (env : Env) {γ : Type} (r : Res W) (p : PR γ) (K : GV → List PV → PR γ) : Prop :=
  (∃ w m' v ρ', r = .ok w m' ∧ Rel fr ρ' env m' ∧ RVal fr s env w v ∧ p = K v ρ' ∧ Ag ms ρ ρ') ∨ (∃ e m', r = .err e m' ∧ p = .err e ∧ Rel fr (wip ms ρ) env m')
def RE (s : Nat) (ms : List Bool) (f : EF) (g : GEx) : Prop := ∀ (γ : Type) (fr : Fr) (ρ : List PV) (env : Env) (m : Mem) (K : GV → List PV → PR γ), Rel fr ρ env m → g γ ρ K ≠ .bad → EPost fr s ms ρ env (f env m) (g γ ρ K) K
abbrev GTx := (γ : Type) → List PV → (Bool → List PV → PR γ) → PR γ
def TPost (fr : Fr) (ms : List Bool) (ρ : List PV) (env : Env) {γ : Type} (r : Res Bool) (p : PR γ) (K : Bool → List PV → PR γ) : Prop :=
  (∃ b m' ρ', r = .ok b m' ∧ Rel fr ρ' env m' ∧ p = K b ρ' ∧ Ag ms ρ ρ') ∨ (∃ e m', r = .err e m' ∧ p = .err e ∧ Rel fr (wip ms ρ) env m')
def RT (ms : List Bool) (f : TF) (g : GTx) : Prop := ∀ (γ : Type) (fr : Fr) (ρ : List PV) (env : Env) (m : Mem) (K : Bool → List PV → PR γ), Rel fr ρ env m → g γ ρ K ≠ .bad → TPost fr ms ρ env (f env m) (g γ ρ K) K
inductive RVals (fr : Fr) (env : Env) : List Nat → List W → List GV → Prop
  | nil : RVals fr env [] [] []
  | cons {s : Nat} {ss : List Nat} {w : W} {ws : List W} {v : GV} {vs : List GV} : RVal fr s env w v → RVals fr env ss ws vs → RVals fr env (s :: ss) (w :: ws) (v :: vs)
abbrev GAx := (γ : Type) → List PV → (List GV → List PV → PR γ) → PR γ
def APost (fr : Fr) (ss : List Nat) (ms : List Bool) (ρ : List PV) (env : Env) {γ : Type} (r : Res (List W)) (p : PR γ) (K : List GV → List PV → PR γ) : Prop :=
  (∃ ws m' vs ρ', r = .ok ws m' ∧ Rel fr ρ' env m' ∧ RVals fr env ss ws vs ∧ p = K vs ρ' ∧ Ag ms ρ ρ') ∨ (∃ e m', r = .err e m' ∧ p = .err e ∧ Rel fr (wip ms ρ) env m')
def RA (ss : List Nat) (ms : List Bool) (f : AF) (g : GAx) : Prop := ∀ (γ : Type) (fr : Fr) (ρ : List PV) (env : Env) (m : Mem) (K : List GV → List PV → PR γ), Rel fr ρ env m → g γ ρ K ≠ .bad → APost fr ss ms ρ env (f env m) (g γ ρ K) K
section
variable {s s' : Nat} {ms : List Bool} {f f' : EF} {g g' : GEx} {fr : Fr} {ρ ρ1 : List PV} {env : Env} {m : Mem}
theorem RE.up (h : RE s ms f g) (u : M.up s s' = true) : RE s' ms f g := by
  intro γ fr ρ env m K R nb
  rcases h γ fr ρ env m K R nb with ⟨w, m', v, ρ', h1, h2, h3, h4, h5⟩ | h
  · exact .inl ⟨w, m', v, ρ', h1, h2, h3.up u, h4, h5⟩
  · exact .inr h
theorem EPost.ok {γ : Type} {K : GV → List PV → PR γ} {w : W} {m' : Mem} {v : GV} {p : PR γ} (R : Rel fr ρ env m') (h : RVal fr s env w v) (hp : p = K v ρ) : EPost fr s ms ρ env (.ok w m') p K := .inl ⟨w, m', v, ρ, rfl, R, h, hp, Ag.refl _ _⟩
theorem EPost.later {γ : Type} {K : GV → List PV → PR γ} {r : Res W} {p : PR γ} (a : Ag ms ρ ρ1) (h : EPost fr s ms ρ1 env r p K) : EPost fr s ms ρ env r p K := by
  rcases h with ⟨w, m', v, ρ', h1, h2, h3, h4, h5⟩ | ⟨e, m', h1, h2, h3⟩
  · exact .inl ⟨w, m', v, ρ', h1, h2, h3, h4, a.trans h5⟩
  · exact .inr ⟨e, m', h1, h2, by rw [a.wip] at h3; exact h3⟩
/-- a step ahead -/
theorem EPost.bind {γ : Type} {K0 K : GV → List PV → PR γ} {r : Res W} {p : PR γ} {k : W → Mem → Res W} (nb : p ≠ .bad) (h : EPost fr s ms ρ env r p K0)
    (hk : ∀ w m' v ρ', Rel fr ρ' env m' → RVal fr s env w v → Ag ms ρ ρ' → K0 v ρ' ≠ .bad → EPost fr s' ms ρ' env (k w m') (K0 v ρ') K) : EPost fr s' ms ρ env (r.bind k) p K := by
  rcases h with ⟨w, m', v, ρ', h1, h2, h3, h4, h5⟩ | ⟨e, m', h1, h2, h3⟩
  · rw [h1, Res.bind_ok, h4]
    exact (hk w m' v ρ' h2 h3 h5 (by rw [← h4]; exact nb)).later h5
  · rw [h1, Res.bind_err]
    exact .inr ⟨e, m', rfl, h2, h3⟩
theorem EPost.bindT {γ : Type} {K0 : GV → List PV → PR γ} {K : Bool → List PV → PR γ} {r : Res W} {p : PR γ} {k : W → Mem → Res Bool} (nb : p ≠ .bad) (h : EPost fr s ms ρ env r p K0)
    (hk : ∀ w m' v ρ', Rel fr ρ' env m' → RVal fr s env w v → Ag ms ρ ρ' → K0 v ρ' ≠ .bad → ∃ b, k w m' = .ok b m' ∧ K0 v ρ' = K b ρ') : TPost fr ms ρ env (r.bind k) p K := by
  rcases h with ⟨w, m', v, ρ', h1, h2, h3, h4, h5⟩ | ⟨e, m', h1, h2, h3⟩
  · rw [h1, Res.bind_ok, h4]
    obtain ⟨b, e1, e2⟩ := hk w m' v ρ' h2 h3 h5 (by rw [← h4]; exact nb)
    exact .inl ⟨b, m', ρ', e1, h2, e2, h5⟩
  · rw [h1, Res.bind_err]
    exact .inr ⟨e, m', rfl, h2, h3⟩
theorem TPost.bindE {γ : Type} {K0 : Bool → List PV → PR γ} {K : GV → List PV → PR γ} {r : Res Bool} {p : PR γ} {k : Bool → Mem → Res W} (nb : p ≠ .bad) (h : TPost fr ms ρ env r p K0)
    (hk : ∀ b m' ρ', Rel fr ρ' env m' → Ag ms ρ ρ' → K0 b ρ' ≠ .bad → EPost fr s ms ρ' env (k b m') (K0 b ρ') K) : EPost fr s ms ρ env (r.bind k) p K := by
  rcases h with ⟨b, m', ρ', h1, h2, h4, h5⟩ | ⟨e, m', h1, h2, h3⟩
  · rw [h1, Res.bind_ok, h4]
    exact (hk b m' ρ' h2 h5 (by rw [← h4]; exact nb)).later h5
  · rw [h1, Res.bind_err]
    exact .inr ⟨e, m', rfl, h2, h3⟩
theorem TPost.later {γ : Type} {K : Bool → List PV → PR γ} {r : Res Bool} {p : PR γ} (a : Ag ms ρ ρ1) (h : TPost fr ms ρ1 env r p K) : TPost fr ms ρ env r p K := by
  rcases h with ⟨w, m', ρ', h1, h2, h4, h5⟩ | ⟨e, m', h1, h2, h3⟩
  · exact .inl ⟨w, m', ρ', h1, h2, h4, a.trans h5⟩
  · exact .inr ⟨e, m', h1, h2, by rw [a.wip] at h3; exact h3⟩
theorem TPost.bind {γ : Type} {K0 K : Bool → List PV → PR γ} {r : Res Bool} {p : PR γ} {k : Bool → Mem → Res Bool} (nb : p ≠ .bad) (h : TPost fr ms ρ env r p K0)
    (hk : ∀ b m' ρ', Rel fr ρ' env m' → Ag ms ρ ρ' → K0 b ρ' ≠ .bad → TPost fr ms ρ' env (k b m') (K0 b ρ') K) : TPost fr ms ρ env (r.bind k) p K := by
  rcases h with ⟨b, m', ρ', h1, h2, h4, h5⟩ | ⟨e, m', h1, h2, h3⟩
  · rw [h1, Res.bind_ok, h4]
    exact (hk b m' ρ' h2 h5 (by rw [← h4]; exact nb)).later h5
  · rw [h1, Res.bind_err]
    exact .inr ⟨e, m', rfl, h2, h3⟩
/-- the end of an operation -/
theorem EPost.out {γ : Type} {K : GV → List PV → PR γ} {r : Res W} {p : PR D} (R : Rel fr ρ env m) (o : Out s m r p) (nb : (p.bind fun z => K (.v z) ρ) ≠ .bad) : EPost fr s ms ρ env r (p.bind fun z => K (.v z) ρ) K := by
  cases p with
  | ok z =>
    obtain ⟨w, e, h⟩ := o
    rw [e]
    exact EPost.ok (v := .v z) R (h fr) rfl
  | err e =>
    have o : r = .err e m := o
    rw [o]
    exact .inr ⟨e, m, rfl, rfl, R.wip (AgE.refl _ _)⟩
  | bad => exact absurd rfl nb
end
end
end M
set_option Elab.async false
set_option linter.all false
set_option maxRecDepth 100000
/-! P: expressions -/
namespace M
open PySem L2
variable [HasW]
noncomputable section
section
variable {s s' : Nat} {ms : List Bool} {f f' fa fb : EF} {g g' ga gb : GEx}
def gVarD (i : Nat) : GEx := fun γ ρ K => match ρ[i]? with
  | some (.d x) => K (.v x) ρ
  | _ => .bad
theorem re_varD (i : Nat) : RE 0 ms (eVar i) (gVarD i) := by
  intro γ fr ρ env m K R nb
  unfold gVarD at nb ⊢
  split at nb
  · rename_i x h
    have e := R.getD h
    simp only [eVar, e]
    exact EPost.ok (v := .v x) R rfl rfl
  · exact absurd rfl nb
def gVarB (i : Nat) : GEx := fun γ ρ K => match ρ[i]? with
  | some (.b xs) => K (.v (.list xs)) ρ
  | _ => .bad
theorem re_varB (i : Nat) : RE 4 ms (eVar i) (gVarB i) := by
  intro γ fr ρ env m K R nb
  unfold gVarB at nb ⊢
  split at nb
  · rename_i xs h
    obtain ⟨w, e, hw⟩ := R.getB h
    simp only [eVar, e]
    exact EPost.ok (v := .v (.list xs)) R (.inr ⟨xs, rfl, hw⟩) rfl
  · exact absurd rfl nb
def gVarO (i : Nat) : GEx := fun γ ρ K => match ρ[i]? with
  | some (.l _ _) => K (.r i) ρ
  | some (.k _ _) => K (.r i) ρ
  | _ => .bad
theorem re_varO (i : Nat) (hs : isO s = true) : RE s ms (eVar i) (gVarO i) := by
  intro γ fr ρ env m K R nb
  unfold gVarO at nb ⊢
  split at nb
  · rename_i p xs h
    obtain ⟨j, e, _⟩ := R.getL h
    simp only [eVar, e]
    exact EPost.ok (v := .r i) R ⟨hs, e⟩ rfl
  · rename_i p q h
    obtain ⟨J, hd, hJ⟩ := R.ex
    have z := hJ i
    rw [h] at z
    obtain ⟨b, a, _, e, _⟩ := z
    simp only [eVar, e]
    exact EPost.ok (v := .r i) R ⟨hs, e⟩ rfl
  · exact absurd rfl nb
def gC (x : D) : GEx := fun γ ρ K => K (.v x) ρ
theorem re_c (x : D) : RE 0 ms (eC x) (gC x) := fun γ fr ρ env m K R nb => EPost.ok (v := .v x) R rfl rfl
def gOp (p : D → D → PR D) (a b : GEx) : GEx := fun γ ρ K => a γ ρ fun x ρ1 => b γ ρ1 fun y ρ2 => match gres ρ2 x, gres ρ2 y with
  | some x, some y => (p x y).bind fun z => K (.v z) ρ2
  | _, _ => .bad
theorem Rel.seeL {fr : Fr} {ρ : List PV} {env : Env} {m : Mem} {li : Nat} {w : W} {v : GV} {x : D} (R : Rel fr ρ env m) (hl : li = 3 ∨ li = 7) (h : RVal fr li env w v) (e : gres ρ v = some x) : SeeL li m w x := by
  rcases hl with rfl | rfl
  · exact R.see h e
  · exact R.seeN h e
theorem re_op {li : Nat} {o : W → W → Mem → Res W} {p : D → D → PR D} (hp : OpP li s o p) (ha : RE li ms fa ga) (hb : RE li ms fb gb) (hl : li = 3 ∨ li = 7 := by decide) : RE s ms (eOp o fa fb) (gOp p ga gb) := by
  intro γ fr ρ env m K R nb
  refine EPost.bind nb (ha γ fr ρ env m _ R nb) fun w m1 v ρ1 R1 h1 a1 nb1 => ?_
  refine EPost.bind nb1 (hb γ fr ρ1 env m1 _ R1 nb1) fun w2 m2 v2 ρ2 R2 h2 a2 nb2 => ?_
  cases e1 : gres ρ2 v with
  | none => rw [e1] at nb2; exact absurd rfl nb2
  | some x =>
    cases e2 : gres ρ2 v2 with
    | none => rw [e1, e2] at nb2; exact absurd rfl nb2
    | some y =>
      rw [e1, e2] at nb2
      exact EPost.out R2 (hp m2 w w2 x y (R2.seeL hl h1 e1) (R2.seeL hl h2 e2)) nb2
def ptb {γ : Type} (z : D) (k : Bool → PR γ) : PR γ := match z with
  | .bool t => k t
  | _ => .bad
def ptt {γ : Type} (z : D) (k : Bool → PR γ) : PR γ := match truP z with
  | some t => k t
  | none => .bad
def pti {γ : Type} (z : D) (k : Int → PR γ) : PR γ := match z with
  | .int t => k t
  | _ => .bad
def pts {γ : Type} (z : D) (k : Str → PR γ) : PR γ := match z with
  | .str t => k t
  | _ => .bad
def pisi {γ : Type} (ts : List Tk) (z : D) (k : D → PR γ) : PR γ := match tyP z with
  | some t => k (.bool (ts.any fun u => t.sub u))
  | none => .bad
@[simp] theorem ptb_bool {γ : Type} (t : Bool) (k : Bool → PR γ) : ptb (.bool t) k = k t := rfl
@[simp] theorem pti_int {γ : Type} (t : Int) (k : Int → PR γ) : pti (.int t) k = k t := rfl
@[simp] theorem pts_str {γ : Type} (t : Str) (k : Str → PR γ) : pts (.str t) k = k t := rfl
theorem ptb_ne {γ : Type} {z : D} {k : Bool → PR γ} (h : ptb z k ≠ .bad) : ∃ t, z = .bool t := by
  unfold ptb at h
  split at h
  · exact ⟨_, rfl⟩
  · exact absurd rfl h
theorem pti_ne {γ : Type} {z : D} {k : Int → PR γ} (h : pti z k ≠ .bad) : ∃ t, z = .int t := by
  unfold pti at h
  split at h
  · exact ⟨_, rfl⟩
  · exact absurd rfl h
/-- data that is no list -/
theorem RVal.flat {fr : Fr} {env : Env} {w : W} {x : D} (h : RVal fr s env w (.v x)) (hx : ∀ ds, x ≠ .list ds) : w = .d x := by
  have h : VW fr s w x := h
  rcases h.any with h | ⟨ds, e, _⟩
  · exact h
  · exact absurd e (hx ds)
/-! tests -/
def gBool (a : GEx) : GTx := fun γ ρ K => a γ ρ fun v ρ1 => match v with
  | .v z => ptb z fun t => K t ρ1
  | .r _ => .bad
theorem rt_bool (ha : RE 3 ms fa ga) : RT ms (tBool fa) (gBool ga) := by
  intro γ fr ρ env m K R nb
  refine EPost.bindT nb (ha γ fr ρ env m _ R nb) fun w m1 v ρ1 R1 h1 a1 nb1 => ?_
  cases v with
  | r i => exact absurd rfl nb1
  | v z =>
    obtain ⟨t, rfl⟩ := ptb_ne nb1
    rw [RVal.flat h1 (by intro ds e; cases e)]
    exact ⟨t, rfl, rfl⟩
def gTru (a : GEx) : GTx := fun γ ρ K => a γ ρ fun v ρ1 => match gres ρ1 v with
  | some z => ptt z fun t => K t ρ1
  | none => .bad
theorem rt_tru (ha : RE 3 ms fa ga) : RT ms (tTru fa) (gTru ga) := by
  intro γ fr ρ env m K R nb
  refine EPost.bindT nb (ha γ fr ρ env m _ R nb) fun w m1 v ρ1 R1 h1 a1 nb1 => ?_
  cases e1 : gres ρ1 v with
  | none => rw [e1] at nb1; exact absurd rfl nb1
  | some z =>
    rw [e1] at nb1
    dsimp only [ptt] at nb1 ⊢
    cases q : truP z with
    | none => rw [q] at nb1; exact absurd rfl nb1
    | some t =>
      rw [truP_ok (R1.see h1 e1) q]
      exact ⟨t, rfl, rfl⟩
variable {fp fq : TF} {gp gq : GTx}
def gtAnd (a b : GTx) : GTx := fun γ ρ K => a γ ρ fun t ρ1 => if t = true then b γ ρ1 K else K false ρ1
def gtOr (a b : GTx) : GTx := fun γ ρ K => a γ ρ fun t ρ1 => if t = true then K true ρ1 else b γ ρ1 K
def gtNot (a : GTx) : GTx := fun γ ρ K => a γ ρ fun t ρ1 => K (!t) ρ1
theorem TPost.ok {γ : Type} {fr : Fr} {ρ : List PV} {env : Env} {K : Bool → List PV → PR γ} {m' : Mem} {t : Bool} {p : PR γ} (R : Rel fr ρ env m') (hp : p = K t ρ) : TPost fr ms ρ env (.ok t m') p K := .inl ⟨t, m', ρ, rfl, R, hp, Ag.refl _ _⟩
theorem rt_and (ha : RT ms fp gp) (hb : RT ms fq gq) : RT ms (tAndF fp fq) (gtAnd gp gq) := by
  intro γ fr ρ env m K R nb
  refine TPost.bind nb (ha γ fr ρ env m _ R nb) fun t m1 ρ1 R1 a1 nb1 => ?_
  cases t with
  | true => rw [if_pos rfl] at nb1 ⊢; rw [if_pos rfl]; exact hb γ fr ρ1 env m1 K R1 nb1
  | false => rw [if_neg (by simp), if_neg (by simp)]; exact TPost.ok R1 rfl
theorem rt_or (ha : RT ms fp gp) (hb : RT ms fq gq) : RT ms (tOrF fp fq) (gtOr gp gq) := by
  intro γ fr ρ env m K R nb
  refine TPost.bind nb (ha γ fr ρ env m _ R nb) fun t m1 ρ1 R1 a1 nb1 => ?_
  cases t with
  | false => rw [if_neg (by simp)] at nb1 ⊢; rw [if_neg (by simp)]; exact hb γ fr ρ1 env m1 K R1 nb1
  | true => rw [if_pos rfl, if_pos rfl]; exact TPost.ok R1 rfl
theorem rt_not (ha : RT ms fp gp) : RT ms (tNotF fp) (gtNot gp) := by
  intro γ fr ρ env m K R nb
  refine TPost.bind nb (ha γ fr ρ env m _ R nb) fun t m1 ρ1 R1 a1 nb1 => ?_
  exact TPost.ok R1 rfl
def gAnd (a b : GEx) : GEx := fun γ ρ K => gBool a γ ρ fun t ρ1 => if t = true then b γ ρ1 K else K (.v (.bool false)) ρ1
def gNot (a : GEx) : GEx := fun γ ρ K => gBool a γ ρ fun t ρ1 => K (.v (.bool (!t))) ρ1
theorem VW.bool {fr : Fr} (s : Nat) (b : Bool) : VW fr s (.d (.bool b)) (.bool b) := by
  unfold VW
  split <;> first | rfl | exact .inl rfl
theorem re_and (ha : RE 3 ms fa ga) (hb : RE s ms fb gb) : RE s ms (eAnd fa fb) (gAnd ga gb) := by
  intro γ fr ρ env m K R nb
  refine TPost.bindE nb (rt_bool ha γ fr ρ env m _ R nb) fun t m1 ρ1 R1 a1 nb1 => ?_
  cases t with
  | true => rw [if_pos rfl] at nb1 ⊢; rw [if_pos rfl]; exact hb γ fr ρ1 env m1 K R1 nb1
  | false => rw [if_neg (by simp), if_neg (by simp)]; exact EPost.ok (v := .v (.bool false)) R1 (VW.bool s false) rfl
theorem re_not (ha : RE 3 ms fa ga) : RE 0 ms (eNot fa) (gNot ga) := by
  intro γ fr ρ env m K R nb
  refine TPost.bindE nb (rt_bool ha γ fr ρ env m _ R nb) fun t m1 ρ1 R1 a1 nb1 => ?_
  exact EPost.ok (v := .v (.bool (!t))) R1 rfl rfl
def gIsi (ts : List Tk) (a : GEx) : GEx := fun γ ρ K => a γ ρ fun v ρ1 => match gres ρ1 v with
  | some z => pisi ts z fun t => K (.v t) ρ1
  | none => .bad
theorem re_isi {ts : List Tk} (ha : RE 3 ms fa ga) : RE 0 ms (eIsi ts fa) (gIsi ts ga) := by
  intro γ fr ρ env m K R nb
  refine EPost.bind nb (ha γ fr ρ env m _ R nb) fun w m1 v ρ1 R1 h1 a1 nb1 => ?_
  cases e1 : gres ρ1 v with
  | none => rw [e1] at nb1; exact absurd rfl nb1
  | some z =>
    rw [e1] at nb1
    dsimp only [pisi] at nb1 ⊢
    cases q : tyP z with
    | none => rw [q] at nb1; exact absurd rfl nb1
    | some t =>
      rw [tyP_ok (R1.see h1 e1) q]
      exact EPost.ok (v := .v (.bool _)) R1 rfl rfl
theorem re_frz (ha : RE 2 ms fa ga) : RE 0 ms (eFrz fa) ga := by
  intro γ fr ρ env m K R nb
  refine EPost.bind nb (ha γ fr ρ env m K R nb) fun w m1 v ρ1 R1 h1 a1 nb1 => ?_
  cases v with
  | r i => exact absurd h1.1 (by decide)
  | v z =>
    rcases h1 with rfl | ⟨ds, rfl, rfl⟩
    · exact EPost.ok (v := .v z) R1 rfl rfl
    · exact EPost.ok (v := .v (.list ds)) R1 rfl rfl
/-! argument lists -/
variable {ss : List Nat} {h : AF} {k : GAx}
def gaNil : GAx := fun γ ρ K => K [] ρ
def gaCons (a : GEx) (r : GAx) : GAx := fun γ ρ K => a γ ρ fun v ρ1 => r γ ρ1 fun vs ρ2 => K (v :: vs) ρ2
theorem ra_nil : RA [] ms aNil gaNil := fun γ fr ρ env m K R nb => .inl ⟨[], m, [], ρ, rfl, R, .nil, rfl, Ag.refl _ _⟩
theorem ra_cons (ha : RE s ms fa ga) (hr : RA ss ms h k) : RA (s :: ss) ms (aCons fa h) (gaCons ga k) := by
  intro γ fr ρ env m K R nb
  rcases ha γ fr ρ env m _ R nb with ⟨w, m1, v, ρ1, h1, R1, h3, h4, h5⟩ | ⟨e, m1, h1, h2, h3⟩
  · rcases hr γ fr ρ1 env m1 (fun vs ρ2 => K (v :: vs) ρ2) R1 (fun z => nb (h4.trans z)) with ⟨ws, m2, vs, ρ2, q1, R2, q3, q4, q5⟩ | ⟨e, m2, q1, q2, q3⟩
    · exact .inl ⟨w :: ws, m2, v :: vs, ρ2, by simp only [aCons, h1, q1, Res.bind_ok], R2, .cons h3 q3, h4.trans q4, h5.trans q5⟩
    · exact .inr ⟨e, m2, by simp only [aCons, h1, q1, Res.bind_ok, Res.bind_err], h4.trans q2, by rw [h5.wip] at q3; exact q3⟩
  · exact .inr ⟨e, m1, by simp only [aCons, h1, Res.bind_err], h2, h3⟩
theorem APost.bind {γ : Type} {fr : Fr} {ρ : List PV} {env : Env} {K0 : List GV → List PV → PR γ} {K : GV → List PV → PR γ} {r : Res (List W)} {p : PR γ} {kk : List W → Mem → Res W} (nb : p ≠ .bad) (h : APost fr ss ms ρ env r p K0)
    (hk : ∀ ws m' vs ρ', Rel fr ρ' env m' → RVals fr env ss ws vs → Ag ms ρ ρ' → K0 vs ρ' ≠ .bad → EPost fr s ms ρ' env (kk ws m') (K0 vs ρ') K) : EPost fr s ms ρ env (r.bind kk) p K := by
  rcases h with ⟨ws, m', vs, ρ', h1, h2, h3, h4, h5⟩ | ⟨e, m', h1, h2, h3⟩
  · rw [h1, Res.bind_ok, h4]
    exact (hk ws m' vs ρ' h2 h3 h5 (by rw [← h4]; exact nb)).later h5
  · rw [h1, Res.bind_err]
    exact .inr ⟨e, m', rfl, h2, h3⟩
def allZ : List Nat → Bool
  | [] => true
  | 0 :: r => allZ r
  | _ :: _ => false
def gvs : List GV → Option (List D)
  | [] => some []
  | .v x :: r => match gvs r with
    | some xs => some (x :: xs)
    | none => none
  | .r _ :: _ => none
theorem rvals_z {fr : Fr} {env : Env} : ∀ {ss : List Nat} {ws : List W} {vs : List GV}, RVals fr env ss ws vs → allZ ss = true → ∃ xs, gvs vs = some xs ∧ asDs ws = some xs ∧ xs.length = ss.length ∧ ws = xs.map .d
  | _, _, _, .nil, _ => ⟨[], rfl, rfl, rfl, rfl⟩
  | 0 :: ss, w :: ws, .v x :: vs, .cons h t, z => by
    obtain ⟨xs, e1, e2, e3, e4⟩ := rvals_z t z
    have h : w = .d x := h
    subst h
    exact ⟨x :: xs, by simp only [gvs, e1], by simp only [asDs, e2]; rfl, by simp [e3], by simp [e4]⟩
  | 0 :: ss, w :: ws, .r x :: vs, .cons h t, z => absurd h.1 (by decide)
  | (n + 1) :: ss, _, _, .cons h t, z => by cases z
def gTup (a : GAx) : GEx := fun γ ρ K => a γ ρ fun vs ρ1 => match gvs vs with
  | some ds => K (.v (.tuple ds)) ρ1
  | none => .bad
def gLst (a : GAx) : GEx := fun γ ρ K => a γ ρ fun vs ρ1 => match gvs vs with
  | some ds => K (.v (.list ds)) ρ1
  | none => .bad
theorem small_line {n : Nat} (h : n ≤ 64) : n ≤ sizeLine := Nat.le_trans h (by decide)
theorem re_tup (ha : RA ss ms h k) (hz : allZ ss = true := by rfl) (hl : ss.length ≤ 64 := by decide) : RE 0 ms (eTup h) (gTup k) := by
  intro γ fr ρ env m K R nb
  refine APost.bind nb (ha γ fr ρ env m _ R nb) fun ws m1 vs ρ1 R1 h1 a1 nb1 => ?_
  obtain ⟨xs, e1, e2, e3, e4⟩ := rvals_z h1 hz
  simp only [e1, e2]
  rw [if_pos (small_line (by omega))]
  exact EPost.ok (v := .v (.tuple xs)) R1 rfl rfl
theorem re_lst (ha : RA ss ms h k) (hz : allZ ss = true := by rfl) (hl : ss.length ≤ 64 := by decide) : RE 1 ms (eLst h) (gLst k) := by
  intro γ fr ρ env m K R nb
  refine APost.bind nb (ha γ fr ρ env m _ R nb) fun ws m1 vs ρ1 R1 h1 a1 nb1 => ?_
  obtain ⟨xs, e1, e2, e3, e4⟩ := rvals_z h1 hz
  simp only [e1, e2]
  rw [if_pos (small_line (by omega))]
  exact EPost.ok (v := .v (.list xs)) R1 rfl rfl
def gress (ρ : List PV) : List GV → Option (List D)
  | [] => some []
  | v :: r => match gres ρ v, gress ρ r with
    | some x, some xs => some (x :: xs)
    | _, _ => none
theorem rvals_see {fr : Fr} {ρ : List PV} {env : Env} {m : Mem} (R : Rel fr ρ env m) : ∀ {ss : List Nat} {ws : List W} {vs : List GV} {xs : List D}, RVals fr env ss ws vs → gress ρ vs = some xs → Sees m ws xs
  | _, _, _, xs, .nil, e => by cases e; exact .nil
  | _, _, v :: vs, xs, .cons h t, e => by
    simp only [gress] at e
    cases q : gres ρ v with
    | none => rw [q] at e; cases e
    | some y =>
      cases q2 : gress ρ vs with
      | none => rw [q, q2] at e; cases e
      | some ys =>
        rw [q, q2] at e
        cases e
        exact .cons (R.see h q) (rvals_see R t q2)
def gCa (p : List D → PR D) (a : GAx) : GEx := fun γ ρ K => a γ ρ fun vs ρ1 => match gress ρ1 vs with
  | some xs => (p xs).bind fun z => K (.v z) ρ1
  | none => .bad
theorem re_ca {o : List W → Mem → Res W} {p : List D → PR D} (hp : CaP s o p) (ha : RA ss ms h k) : RE s ms (eCall o h) (gCa p k) := by
  intro γ fr ρ env m K R nb
  refine APost.bind nb (ha γ fr ρ env m _ R nb) fun ws m1 vs ρ1 R1 h1 a1 nb1 => ?_
  cases e1 : gress ρ1 vs with
  | none => rw [e1] at nb1; exact absurd rfl nb1
  | some xs =>
    rw [e1] at nb1
    exact EPost.out R1 (hp m1 ws xs (rvals_see R1 h1 e1)) nb1
/-! slices -/
abbrev GOx := (γ : Type) → List PV → (Option Int → List PV → PR γ) → PR γ
def RO (ms : List Bool) (f : OF) (g : GOx) : Prop := ∀ (γ : Type) (fr : Fr) (ρ : List PV) (env : Env) (m : Mem) (K : Option Int → List PV → PR γ), Rel fr ρ env m → g γ ρ K ≠ .bad →
  (∃ b m' ρ', f env m = .ok b m' ∧ Rel fr ρ' env m' ∧ g γ ρ K = K b ρ' ∧ Ag ms ρ ρ') ∨ (∃ e m', f env m = .err e m' ∧ g γ ρ K = .err e ∧ Rel fr (wip ms ρ) env m')
def goNone : GOx := fun γ ρ K => K none ρ
def goSome (a : GEx) : GOx := fun γ ρ K => a γ ρ fun v ρ1 => match v with
  | .v z => pti z fun i => K (some i) ρ1
  | .r _ => .bad
theorem ro_none : RO ms oNone goNone := fun γ fr ρ env m K R nb => .inl ⟨none, m, ρ, rfl, R, rfl, Ag.refl _ _⟩
theorem ro_some (ha : RE 3 ms fa ga) : RO ms (oSome fa) (goSome ga) := by
  intro γ fr ρ env m K R nb
  rcases ha γ fr ρ env m _ R nb with ⟨w, m1, v, ρ1, h1, R1, h3, h4, h5⟩ | ⟨e, m1, h1, h2, h3⟩
  · have nb1 := nb
    rw [show goSome ga γ ρ K = _ from h4] at nb1
    cases v with
    | r i => exact absurd rfl nb1
    | v z =>
      obtain ⟨t, rfl⟩ := pti_ne nb1
      rw [RVal.flat h3 (by intro ds e; cases e)] at h1
      exact .inl ⟨some t, m1, ρ1, by simp only [oSome, h1, Res.bind_ok], R1, h4, h5⟩
  · exact .inr ⟨e, m1, by simp only [oSome, h1, Res.bind_err], h2, h3⟩
def gSl (a : GEx) (lo hi : GOx) : GEx := fun γ ρ K => a γ ρ fun v ρ1 => lo γ ρ1 fun l ρ2 => hi γ ρ2 fun h ρ3 => match gres ρ3 v with
  | some x => (slP x l h).bind fun z => K (.v z) ρ3
  | none => .bad
theorem re_sl {lo hi : OF} {gl gh : GOx} (ha : RE 3 ms fa ga) (hl : RO ms lo gl) (hh : RO ms hi gh) : RE 1 ms (eSl slW fa lo hi) (gSl ga gl gh) := by
  intro γ fr ρ env m K R nb
  refine EPost.bind nb (ha γ fr ρ env m _ R nb) fun w m1 v ρ1 R1 h1 a1 nb1 => ?_
  rcases hl γ fr ρ1 env m1 _ R1 nb1 with ⟨l, m2, ρ2, q1, R2, q3, q4⟩ | ⟨e, m2, q1, q2, q3⟩
  · rw [q1, Res.bind_ok, q3]
    have nb2 := nb1
    rw [q3] at nb2
    refine EPost.later q4 ?_
    rcases hh γ fr ρ2 env m2 _ R2 nb2 with ⟨r, m3, ρ3, z1, R3, z3, z4⟩ | ⟨e, m3, z1, z2, z3⟩
    · rw [z1, Res.bind_ok, z3]
      have nb3 := nb2
      rw [z3] at nb3
      refine EPost.later z4 ?_
      cases e1 : gres ρ3 v with
      | none => rw [e1] at nb3; exact absurd rfl nb3
      | some x =>
        rw [e1] at nb3
        exact EPost.out R3 (slP_ok m3 w x l r (R3.see h1 e1)) nb3
    · rw [z1, Res.bind_err]
      exact .inr ⟨e, m3, rfl, z2, z3⟩
  · rw [q1, Res.bind_err]
    exact .inr ⟨e, m2, rfl, q2, q3⟩
/-! methods of texts -/
/-! methods of a slot's list -/
def MuP (zs : Bool) (o : W → List W → Mem → Res W) (p : List D → List D → PR (D × List D)) : Prop := (∀ xs ds e, p xs ds ≠ .err e) ∧ ∀ m j xs ws ds r, m[j]? = some (.lst xs) → Sees m ws ds → (zs = true → ws = ds.map .d) → p xs ds = .ok r → o (.obj j) ws m = .ok (.d r.1) (m.set j (.lst r.2))
def gMu (p : List D → List D → PR (D × List D)) (i : Nat) (b : GAx) : GEx := fun γ ρ K => match ρ[i]? with
  | some (.l _ _) => b γ ρ fun vs ρ1 => match gress ρ1 vs, ρ1[i]? with
    | some ds, some (.l p' xs) => (p xs ds).bind fun r => K (.v r.1) (ρ1.set i (.l p' r.2))
    | _, _ => .bad
  | _ => .bad
theorem gvs_gress {ρ : List PV} : ∀ {vs : List GV} {xs : List D}, gvs vs = some xs → gress ρ vs = some xs
  | [], xs, e => e
  | .v x :: r, xs, e => by
    simp only [gvs] at e
    cases q : gvs r with
    | none => rw [q] at e; cases e
    | some ys =>
      rw [q] at e
      simp only [gress, gres, gvs_gress (ρ := ρ) q]
      exact e
  | .r _ :: _, xs, e => by cases e
theorem re_mu {zs : Bool} {o : W → List W → Mem → Res W} {p : List D → List D → PR (D × List D)} (hp : MuP zs o p) (i : Nat) (hb : RA ss ms h k) (hz : (!zs || allZ ss) = true := by rfl) (hi : isM ms i = true := by rfl) : RE 0 ms (eMt "list" o (eVar i) h) (gMu p i k) := by
  intro γ fr ρ env m K R nb
  simp only [gMu] at nb ⊢
  cases q : ρ[i]? with
  | none => rw [q] at nb; exact absurd rfl nb
  | some v =>
    cases v with
    | l p0 xs0 =>
      rw [q] at nb
      dsimp only at nb ⊢
      obtain ⟨j, e, ej⟩ := R.getL q
      simp only [eMt, eVar, e, Res.bind_ok]
      rw [if_pos (by simp [isTyW, ej])]
      refine APost.bind nb (hb γ fr ρ env m _ R nb) fun ws m1 vs ρ1 R1 h1 a1 nb1 => ?_
      cases e1 : gress ρ1 vs with
      | none => rw [e1] at nb1; exact absurd rfl nb1
      | some ds =>
        cases q1 : ρ1[i]? with
        | none => rw [e1, q1] at nb1; exact absurd rfl nb1
        | some v1 =>
          cases v1 with
          | l p1 xs =>
            rw [e1, q1] at nb1
            dsimp only at nb1 ⊢
            obtain ⟨j', f1, f2⟩ := R1.getL q1
            rw [e] at f1
            cases f1
            have hz' : zs = true → ws = ds.map .d := fun z => by
              have hz : allZ ss = true := by rw [z] at hz; simpa using hz
              obtain ⟨xs', z1, z2, z3, z4⟩ := rvals_z h1 hz
              have := gvs_gress (ρ := ρ1) z1
              rw [e1] at this
              cases this
              exact z4
            cases r0 : p xs ds with
            | bad => rw [r0] at nb1; exact absurd rfl nb1
            | err e => exact absurd r0 (hp.1 xs ds e)
            | ok r =>
              have w := hp.2 m1 j xs ws ds r f2 (rvals_see R1 h1 e1) hz' r0
              rw [w]
              obtain ⟨j2, g1, g2, R2⟩ := R1.mutL q1 r.2
              rw [e] at g1
              cases g1
              exact .inl ⟨_, _, .v r.1, _, rfl, R2, rfl, rfl, Ag.set hi⟩
          | _ => rw [e1, q1] at nb1; exact absurd rfl nb1
    | _ => rw [q] at nb; exact absurd rfl nb
def appendP (xs ds : List D) : PR (D × List D) := match ds with
  | [y] => if xs.length < sizeLine then .ok (.none, xs ++ [y]) else .bad
  | _ => .bad
theorem appendP_ok : MuP true appendW appendP := by
  refine ⟨fun xs ds e z => ?_, fun m j xs ws ds r hj hs hz z => ?_⟩
  · unfold appendP at z
    split at z
    · split at z <;> cases z
    · cases z
  · rw [hz rfl]
    unfold appendP at z
    split at z
    · rename_i y
      by_cases q : xs.length < sizeLine
      · rw [if_pos q] at z
        cases z
        simp [appendW, asO, hj, q]
      · rw [if_neg q] at z; cases z
    · cases z
def clearP (_ ds : List D) : PR (D × List D) := match ds with
  | [] => .ok (.none, [])
  | _ => .bad
end
end
end M
set_option Elab.async false
set_option linter.all false
set_option maxRecDepth 100000
/-! P: statements -/
namespace M
open PySem L2
variable [HasW]
noncomputable section
abbrev GSx := (γ : Type) → List PV → (List PV → PR γ) → (List PV → PR γ) → (List PV → PR γ) → (GV → List PV → PR γ) → PR γ
inductive SPo {γ : Type} (fr : Fr) (sr : Nat) (ms : List Bool) (ρ : List PV) (env : Env) (p : PR γ) (kn kb kc : List PV → PR γ) (kr : GV → List PV → PR γ) : SRes → Prop
  | nx (env' : Env) (m' : Mem) (ρ' : List PV) : Rel fr ρ' env' m' → p = kn ρ' → Ag ms ρ ρ' → AgE ms env env' → SPo fr sr ms ρ env p kn kb kc kr (.nx env' m')
  | bk (env' : Env) (m' : Mem) (ρ' : List PV) : Rel fr ρ' env' m' → p = kb ρ' → Ag ms ρ ρ' → AgE ms env env' → SPo fr sr ms ρ env p kn kb kc kr (.bk env' m')
  | ct (env' : Env) (m' : Mem) (ρ' : List PV) : Rel fr ρ' env' m' → p = kc ρ' → Ag ms ρ ρ' → AgE ms env env' → SPo fr sr ms ρ env p kn kb kc kr (.ct env' m')
  | rt (w : W) (m' : Mem) (v : GV) (ρ' : List PV) (env' : Env) : Rel fr ρ' env' m' → RVal fr sr env' w v → p = kr v ρ' → Ag ms ρ ρ' → SPo fr sr ms ρ env p kn kb kc kr (.rt w m')
  | err (e : Exn) (env' : Env) (m' : Mem) : Rel fr (wip ms ρ) env' m' → p = .err e → AgE ms env env' → SPo fr sr ms ρ env p kn kb kc kr (.err e env' m')
def RS (sr : Nat) (ms : List Bool) (f : SF) (g : GSx) : Prop := ∀ (γ : Type) (fr : Fr) (ρ : List PV) (env : Env) (m : Mem) (kn kb kc : List PV → PR γ) (kr : GV → List PV → PR γ), Rel fr ρ env m → g γ ρ kn kb kc kr ≠ .bad → SPo fr sr ms ρ env (g γ ρ kn kb kc kr) kn kb kc kr (f env m)
section
variable {s sr : Nat} {ms : List Bool} {f fa fb : EF} {g ga gb : GEx} {sa sb : SF} {xa xb : GSx} {fp : TF} {gp : GTx} {γ : Type} {fr : Fr} {ρ ρ1 : List PV} {env env1 : Env} {p : PR γ} {kn kb kc : List PV → PR γ} {kr : GV → List PV → PR γ}
theorem SPo.later {r : SRes} (a : Ag ms ρ ρ1) (b : AgE ms env env1) (h : SPo fr sr ms ρ1 env1 p kn kb kc kr r) : SPo fr sr ms ρ env p kn kb kc kr r := by
  cases h with
  | nx e m q h1 h2 h3 h4 => exact .nx e m q h1 h2 (a.trans h3) (b.trans h4)
  | bk e m q h1 h2 h3 h4 => exact .bk e m q h1 h2 (a.trans h3) (b.trans h4)
  | ct e m q h1 h2 h3 h4 => exact .ct e m q h1 h2 (a.trans h3) (b.trans h4)
  | rt w m v q e h1 h2 h3 h4 => exact .rt w m v q e h1 h2 h3 (a.trans h4)
  | err e v m h1 h2 h3 => exact .err e v m (by rw [a.wip] at h1; exact h1) h2 (b.trans h3)
def gsNx : GSx := fun γ ρ kn _ _ _ => kn ρ
theorem rs_nx : RS sr ms sNx gsNx := fun γ fr ρ env m kn kb kc kr R nb => .nx env m ρ R rfl (Ag.refl _ _) (AgE.refl _ _)
def gsSeq (a b : GSx) : GSx := fun γ ρ kn kb kc kr => a γ ρ (fun ρ' => b γ ρ' kn kb kc kr) kb kc kr
theorem rs_seq (ha : RS sr ms sa xa) (hb : RS sr ms sb xb) : RS sr ms (sSeq sa sb) (gsSeq xa xb) := by
  intro γ fr ρ env m kn kb kc kr R nb
  have h := ha γ fr ρ env m (fun ρ' => xb γ ρ' kn kb kc kr) kb kc kr R nb
  have e : gsSeq xa xb γ ρ kn kb kc kr = xa γ ρ (fun ρ' => xb γ ρ' kn kb kc kr) kb kc kr := rfl
  rw [e] at nb ⊢
  unfold sSeq
  generalize sa env m = r at h
  cases h with
  | nx e1 m1 q h1 h2 h3 h4 =>
    rw [h2] at nb ⊢
    exact SPo.later h3 h4 (hb γ fr q e1 m1 kn kb kc kr h1 nb)
  | bk e1 m1 q h1 h2 h3 h4 => exact .bk e1 m1 q h1 h2 h3 h4
  | ct e1 m1 q h1 h2 h3 h4 => exact .ct e1 m1 q h1 h2 h3 h4
  | rt w m1 v q e1 h1 h2 h3 h4 => exact .rt w m1 v q e1 h1 h2 h3 h4
  | err x e1 m1 h1 h2 h3 => exact .err x e1 m1 h1 h2 h3
/-- an expression ahead -/
theorem EPost.stmt {K0 : GV → List PV → PR γ} {r : Res W} {k : W → Mem → SRes} (nb : p ≠ .bad) (h : EPost fr s ms ρ env r p K0)
    (hk : ∀ w m' v ρ', Rel fr ρ' env m' → RVal fr s env w v → Ag ms ρ ρ' → K0 v ρ' ≠ .bad → SPo fr sr ms ρ' env (K0 v ρ') kn kb kc kr (k w m')) : SPo fr sr ms ρ env p kn kb kc kr (eS r env k) := by
  rcases h with ⟨w, m', v, ρ', h1, h2, h3, h4, h5⟩ | ⟨e, m', h1, h2, h3⟩
  · rw [h1, eS_ok, h4]
    exact SPo.later h5 (AgE.refl _ _) (hk w m' v ρ' h2 h3 h5 (by rw [← h4]; exact nb))
  · rw [h1, eS_err]
    exact .err e env m' h3 h2 (AgE.refl _ _)
theorem TPost.stmt {K0 : Bool → List PV → PR γ} {r : Res Bool} {k : Bool → Mem → SRes} (nb : p ≠ .bad) (h : TPost fr ms ρ env r p K0)
    (hk : ∀ b m' ρ', Rel fr ρ' env m' → Ag ms ρ ρ' → K0 b ρ' ≠ .bad → SPo fr sr ms ρ' env (K0 b ρ') kn kb kc kr (k b m')) : SPo fr sr ms ρ env p kn kb kc kr (eS r env k) := by
  rcases h with ⟨b, m', ρ', h1, h2, h4, h5⟩ | ⟨e, m', h1, h2, h3⟩
  · rw [h1, eS_ok, h4]
    exact SPo.later h5 (AgE.refl _ _) (hk b m' ρ' h2 h5 (by rw [← h4]; exact nb))
  · rw [h1, eS_err]
    exact .err e env m' h3 h2 (AgE.refl _ _)
def gsIf (c : GTx) (a b : GSx) : GSx := fun γ ρ kn kb kc kr => c γ ρ fun t ρ1 => if t = true then a γ ρ1 kn kb kc kr else b γ ρ1 kn kb kc kr
theorem rs_if (hc : RT ms fp gp) (ha : RS sr ms sa xa) (hb : RS sr ms sb xb) : RS sr ms (sIf fp sa sb) (gsIf gp xa xb) := by
  intro γ fr ρ env m kn kb kc kr R nb
  refine TPost.stmt nb (hc γ fr ρ env m _ R nb) fun t m1 ρ1 R1 a1 nb1 => ?_
  cases t with
  | true => rw [if_pos rfl] at nb1 ⊢; rw [if_pos rfl]; exact ha γ fr ρ1 env m1 kn kb kc kr R1 nb1
  | false => rw [if_neg (by simp)] at nb1 ⊢; rw [if_neg (by simp)]; exact hb γ fr ρ1 env m1 kn kb kc kr R1 nb1
def gsRet (a : GEx) : GSx := fun γ ρ kn kb kc kr => a γ ρ kr
theorem rs_ret (ha : RE sr ms fa ga) : RS sr ms (sRet fa) (gsRet ga) := by
  intro γ fr ρ env m kn kb kc kr R nb
  refine EPost.stmt nb (ha γ fr ρ env m _ R nb) fun w m1 v ρ1 R1 h1 a1 nb1 => ?_
  exact .rt w m1 v ρ1 env R1 h1 rfl (Ag.refl _ _)
def gsDrop (a : GEx) : GSx := fun γ ρ kn kb kc kr => a γ ρ fun _ ρ1 => kn ρ1
theorem rs_drop (ha : RE s ms fa ga) : RS sr ms (sDrop fa) (gsDrop ga) := by
  intro γ fr ρ env m kn kb kc kr R nb
  refine EPost.stmt nb (ha γ fr ρ env m _ R nb) fun w m1 v ρ1 R1 h1 a1 nb1 => ?_
  exact .nx env m1 ρ1 R1 rfl (Ag.refl _ _) (AgE.refl _ _)
/-! targets -/
def ptup {γ : Type} (x : D) (k : List D → PR γ) : PR γ := match x with
  | .tuple ds => k ds
  | _ => .bad
def pcons {γ : Type} (ds : List D) (k : D → List D → PR γ) : PR γ := match ds with
  | d :: r => k d r
  | [] => .bad
def pnil {γ : Type} (ds : List D) (k : PR γ) : PR γ := match ds with
  | [] => k
  | _ :: _ => .bad
abbrev GTg := (γ : Type) → D → List PV → (List PV → PR γ) → PR γ
def RG (ms : List Bool) (g : GF) (k : GTg) : Prop := ∀ (γ : Type) (fr : Fr) (ρ : List PV) (env : Env) (m : Mem) (x : D) (K : List PV → PR γ), Rel fr ρ env m → k γ x ρ K ≠ .bad →
  ∃ env' ρ', g (.d x) env = some env' ∧ Rel fr ρ' env' m ∧ k γ x ρ K = K ρ' ∧ Ag ms ρ ρ' ∧ AgE ms env env'
def gtSet (i : Nat) : GTg := fun γ x ρ K => K (ρ.set i (.d x))
theorem rg_set (i : Nat) (hi : isM ms i = true := by rfl) : RG ms (gSet i) (gtSet i) := fun γ fr ρ env m x K R nb => ⟨_, _, rfl, R.setD i x, rfl, Ag.set hi, AgE.set hi⟩
abbrev GTs := (γ : Type) → List D → List PV → (List PV → PR γ) → PR γ
def RGs (ms : List Bool) (g : GsF) (k : GTs) (n : Nat) : Prop := ∀ (γ : Type) (fr : Fr) (ρ : List PV) (env : Env) (m : Mem) (x : List D) (K : List PV → PR γ), Rel fr ρ env m → k γ x ρ K ≠ .bad →
  ∃ env' ρ', x.length = n ∧ g x env = some env' ∧ Rel fr ρ' env' m ∧ k γ x ρ K = K ρ' ∧ Ag ms ρ ρ' ∧ AgE ms env env'
def gtsNil : GTs := fun γ ds ρ K => pnil ds (K ρ)
def gtsCons (t : GTg) (r : GTs) : GTs := fun γ ds ρ K => pcons ds fun d ds => t γ d ρ fun ρ1 => r γ ds ρ1 K
theorem rgs_nil : RGs ms gsNil gtsNil 0 := by
  intro γ fr ρ env m x K R nb
  cases x with
  | nil => exact ⟨env, ρ, rfl, rfl, R, rfl, Ag.refl _ _, AgE.refl _ _⟩
  | cons a b => exact absurd rfl nb
theorem rgs_cons {t : GF} {r : GsF} {gt : GTg} {gr : GTs} {n : Nat} (ht : RG ms t gt) (hr : RGs ms r gr n) : RGs ms (gsCons t r) (gtsCons gt gr) (n + 1) := by
  intro γ fr ρ env m x K R nb
  cases x with
  | nil => exact absurd rfl nb
  | cons a b =>
    have nb : gt γ a ρ (fun ρ1 => gr γ b ρ1 K) ≠ .bad := nb
    obtain ⟨e1, ρ1, h1, h2, h3, h4, h5⟩ := ht γ fr ρ env m a _ R nb
    obtain ⟨e2, ρ2, q0, q1, q2, q3, q4, q5⟩ := hr γ fr ρ1 e1 m b K h2 (fun z => nb (h3.trans z))
    exact ⟨e2, ρ2, by simp [q0], by simp only [gsCons, h1, Option.bind_some]; exact q1, q2, h3.trans q3, h4.trans q4, h5.trans q5⟩
def gtTup (r : GTs) : GTg := fun γ x ρ K => ptup x fun ds => r γ ds ρ K
theorem rg_tup {r : GsF} {gr : GTs} {n : Nat} (hr : RGs ms r gr n) : RG ms (gTupF n r) (gtTup gr) := by
  intro γ fr ρ env m x K R nb
  cases x with
  | tuple ds =>
    have nb : gr γ ds ρ K ≠ .bad := nb
    obtain ⟨e2, ρ2, q0, q1, q2, q3, q4, q5⟩ := hr γ fr ρ env m ds K R nb
    exact ⟨e2, ρ2, by simp only [gTupF]; rw [if_pos q0]; exact q1, q2, q3, q4, q5⟩
  | _ => exact absurd rfl nb
def gsAsg (a : GEx) (t : GTg) : GSx := fun γ ρ kn kb kc kr => a γ ρ fun v ρ1 => match v with
  | .v x => t γ x ρ1 kn
  | .r _ => .bad
theorem rs_asg {t : GF} {gt : GTg} (ha : RE 0 ms fa ga) (ht : RG ms t gt) : RS sr ms (sAsg fa t) (gsAsg ga gt) := by
  intro γ fr ρ env m kn kb kc kr R nb
  refine EPost.stmt nb (ha γ fr ρ env m _ R nb) fun w m1 v ρ1 R1 h1 a1 nb1 => ?_
  cases v with
  | r i => exact absurd rfl nb1
  | v x =>
    have h1 : w = .d x := h1
    subst h1
    obtain ⟨e1, ρ2, q1, q2, q3, q4, q5⟩ := ht γ fr ρ1 env m1 x kn R1 nb1
    simp only [asgK, q1]
    exact .nx e1 m1 ρ2 q2 q3 q4 q5
def ptl {γ : Type} (x : D) (k : List D → PR γ) : PR γ := match x with
  | .list ds => k ds
  | _ => .bad
@[simp] theorem ptl_list {γ : Type} (ds : List D) (k : List D → PR γ) : ptl (.list ds) k = k ds := rfl
@[simp] theorem ptup_tuple {γ : Type} (ds : List D) (k : List D → PR γ) : ptup (.tuple ds) k = k ds := rfl
@[simp] theorem pcons_cons {γ : Type} (d : D) (ds : List D) (k : D → List D → PR γ) : pcons (d :: ds) k = k d ds := rfl
@[simp] theorem pnil_nil {γ : Type} (k : PR γ) : pnil [] k = k := rfl
def gsAsgL (a : GEx) (i : Nat) : GSx := fun γ ρ kn kb kc kr => a γ ρ fun v ρ1 => match v with
  | .v x => ptl x fun xs => kn (ρ1.set i (.l false xs))
  | .r _ => .bad
theorem rs_asgL (i : Nat) (ha : RE 1 ms fa ga) (hi : isM ms i = true := by rfl) : RS sr ms (sAsg (eObj fa) (gSet i)) (gsAsgL ga i) := by
  intro γ fr ρ env m kn kb kc kr R nb
  have h := ha γ fr ρ env m _ R nb
  rcases h with ⟨w, m1, v, ρ1, h1, R1, h3, h4, h5⟩ | ⟨e, m1, h1, h2, h3⟩
  · have e0 : gsAsgL ga i γ ρ kn kb kc kr = _ := h4
    rw [e0] at nb ⊢
    cases v with
    | r i => exact absurd rfl nb
    | v x =>
      cases x with
      | list xs =>
        have h3 : w = .fl xs := h3
        subst h3
        simp only [sAsg, eObj, h1, Res.bind_ok, eS_ok, asgK, gSet]
        exact .nx _ _ (ρ1.set i (.l false xs)) (R1.setL i xs) rfl (h5.trans (Ag.set hi)) (AgE.set hi)
      | _ => exact absurd rfl nb
  · simp only [sAsg, eObj, h1, Res.bind_err, eS_err]
    exact .err e env m1 h3 h2 (AgE.refl _ _)
end
end
end M
set_option Elab.async false
set_option linter.all false
set_option maxRecDepth 100000
/-! P: loops, comprehensions -/
namespace M
open PySem L2
variable [HasW]
noncomputable section
inductive Kd where
  | d
  | l (p : Bool)
  | k (p : Bool)
  | m
  | t (p : Bool)
@[reducible] def St : List (Nat × Kd) → Type
  | [] => Unit
  | (_, .d) :: r => D × St r
  | (_, .l _) :: r => List D × St r
  | (_, .k _) :: r => Dk × St r
  | (_, .m) :: r => List (Str × D) × St r
  | (_, .t _) :: r => List (D × TV) × St r
def un : (ds : List (Nat × Kd)) → List PV → Option (St ds)
  | [], _ => some ()
  | (i, .d) :: r, ρ => match ρ[i]? with
    | some (.d x) => (match un r ρ with | some s => some (x, s) | none => none)
    | _ => none
  | (i, .l true) :: r, ρ => match ρ[i]? with
    | some (.l true x) => (match un r ρ with | some s => some (x, s) | none => none)
    | _ => none
  | (i, .l false) :: r, ρ => match ρ[i]? with
    | some (.l false x) => (match un r ρ with | some s => some (x, s) | none => none)
    | _ => none
  | (i, .k true) :: r, ρ => match ρ[i]? with
    | some (.k true x) => (match un r ρ with | some s => some (x, s) | none => none)
    | _ => none
  | (i, .k false) :: r, ρ => match ρ[i]? with
    | some (.k false x) => (match un r ρ with | some s => some (x, s) | none => none)
    | _ => none
  | (i, .m) :: r, ρ => match ρ[i]? with
    | some (.m x) => (match un r ρ with | some s => some (x, s) | none => none)
    | _ => none
  | (i, .t true) :: r, ρ => match ρ[i]? with
    | some (.t true x) => (match un r ρ with | some s => some (x, s) | none => none)
    | _ => none
  | (i, .t false) :: r, ρ => match ρ[i]? with
    | some (.t false x) => (match un r ρ with | some s => some (x, s) | none => none)
    | _ => none
def put : (ds : List (Nat × Kd)) → List PV → St ds → List PV
  | [], ρ, _ => ρ
  | (i, .d) :: r, ρ, s => put r (ρ.set i (.d s.1)) s.2
  | (i, .l p) :: r, ρ, s => put r (ρ.set i (.l p s.1)) s.2
  | (i, .k p) :: r, ρ, s => put r (ρ.set i (.k p s.1)) s.2
  | (i, .m) :: r, ρ, s => put r (ρ.set i (.m s.1)) s.2
  | (i, .t p) :: r, ρ, s => put r (ρ.set i (.t p s.1)) s.2
theorem put_length : ∀ (ds : List (Nat × Kd)) (ρ : List PV) (s : St ds), (put ds ρ s).length = ρ.length
  | [], ρ, _ => rfl
  | (i, .d) :: r, ρ, s => by simp [put, put_length r]
  | (i, .l p) :: r, ρ, s => by simp [put, put_length r]
  | (i, .k p) :: r, ρ, s => by simp [put, put_length r]
  | (i, .m) :: r, ρ, s => by simp [put, put_length r]
  | (i, .t p) :: r, ρ, s => by simp [put, put_length r]
/-- σ knows no more than ρ' -/
def Less (σ ρ' : List PV) : Prop := ∀ (i : Nat) (v : PV), σ[i]? = some v → v = PV.x ∨ ρ'[i]? = some v
theorem Less.set {σ ρ' : List PV} (h : Less σ ρ') {i : Nat} {v : PV} (e : ρ'[i]? = some v) : Less (σ.set i v) ρ' := by
  intro k u hk
  by_cases hi : k = i
  · subst hi
    have hl : k < σ.length := by
      have := (List.getElem?_eq_some_iff.mp hk).1
      simpa using this
    rw [List.getElem?_set_self hl] at hk
    cases hk
    exact .inr e
  · rw [List.getElem?_set_ne (Ne.symm hi)] at hk
    exact h k u hk
theorem put_less : ∀ (ds : List (Nat × Kd)) {σ ρ' : List PV} {s : St ds}, Less σ ρ' → un ds ρ' = some s → Less (put ds σ s) ρ'
  | [], σ, ρ', s, h, _ => h
  | (i, .d) :: r, σ, ρ', s, h, e => by
    simp only [un] at e
    split at e
    · rename_i x hx
      split at e
      · rename_i s' hs
        cases e
        exact put_less r (h.set hx) hs
      · cases e
    · cases e
  | (i, .l true) :: r, σ, ρ', s, h, e => by
    simp only [un] at e
    split at e
    · rename_i x hx
      split at e
      · rename_i s' hs
        cases e
        exact put_less r (h.set hx) hs
      · cases e
    · cases e
  | (i, .l false) :: r, σ, ρ', s, h, e => by
    simp only [un] at e
    split at e
    · rename_i x hx
      split at e
      · rename_i s' hs
        cases e
        exact put_less r (h.set hx) hs
      · cases e
    · cases e
  | (i, .k true) :: r, σ, ρ', s, h, e => by
    simp only [un] at e
    split at e
    · rename_i x hx
      split at e
      · rename_i s' hs
        cases e
        exact put_less r (h.set hx) hs
      · cases e
    · cases e
  | (i, .k false) :: r, σ, ρ', s, h, e => by
    simp only [un] at e
    split at e
    · rename_i x hx
      split at e
      · rename_i s' hs
        cases e
        exact put_less r (h.set hx) hs
      · cases e
    · cases e
  | (i, .m) :: r, σ, ρ', s, h, e => by
    simp only [un] at e
    split at e
    · rename_i x hx
      split at e
      · rename_i s' hs
        cases e
        exact put_less r (h.set hx) hs
      · cases e
    · cases e
  | (i, .t true) :: r, σ, ρ', s, h, e => by
    simp only [un] at e
    split at e
    · rename_i x hx
      split at e
      · rename_i s' hs
        cases e
        exact put_less r (h.set hx) hs
      · cases e
    · cases e
  | (i, .t false) :: r, σ, ρ', s, h, e => by
    simp only [un] at e
    split at e
    · rename_i x hx
      split at e
      · rename_i s' hs
        cases e
        exact put_less r (h.set hx) hs
      · cases e
    · cases e
def inM (ms : List Bool) : List (Nat × Kd) → Bool
  | [] => true
  | (i, _) :: r => isM ms i && inM ms r
def outM (ms : List Bool) : List (Nat × Kd) → Bool
  | [] => true
  | (i, _) :: r => !isM ms i && outM ms r
theorem put_ag {ms : List Bool} : ∀ (ds : List (Nat × Kd)) {ρ σ : List PV} {s : St ds}, Ag ms ρ σ → inM ms ds = true → Ag ms ρ (put ds σ s)
  | [], ρ, σ, s, h, _ => h
  | (i, .d) :: r, ρ, σ, s, h, e => by
    simp only [inM, Bool.and_eq_true] at e
    exact put_ag r (h.trans (Ag.set e.1)) e.2
  | (i, .l p) :: r, ρ, σ, s, h, e => by
    simp only [inM, Bool.and_eq_true] at e
    exact put_ag r (h.trans (Ag.set e.1)) e.2
  | (i, .t p) :: r, ρ, σ, s, h, e => by
    simp only [inM, Bool.and_eq_true] at e
    exact put_ag r (h.trans (Ag.set e.1)) e.2
  | (i, .k p) :: r, ρ, σ, s, h, e => by
    simp only [inM, Bool.and_eq_true] at e
    exact put_ag r (h.trans (Ag.set e.1)) e.2
  | (i, .m) :: r, ρ, σ, s, h, e => by
    simp only [inM, Bool.and_eq_true] at e
    exact put_ag r (h.trans (Ag.set e.1)) e.2
theorem wip_less {ms : List Bool} {ρ ρ' : List PV} (a : Ag ms ρ ρ') : Less (wip ms ρ) ρ' := by
  intro i v h
  rw [wip_get] at h
  by_cases q : isM ms i = true
  · rw [if_pos q] at h
    cases z : ρ[i]? with
    | none => rw [z] at h; cases h
    | some u => rw [z] at h; cases h; exact .inl rfl
  · rw [if_neg q] at h
    exact .inr (by rw [a.get i (by simpa using q)]; exact h)
/-- the state of a loop from what is known behind a turn -/
theorem Rel.shape {fr : Fr} {ρ1 ρ' : List PV} {env : Env} {m : Mem} {ms : List Bool} {ds : List (Nat × Kd)} {s : St ds} (R : Rel fr ρ' env m) (a : Ag ms ρ1 ρ') (e : un ds ρ' = some s) : Rel fr (put ds (M.wip ms ρ1) s) env m := by
  refine R.sub (by rw [put_length, wip_length, a.len]) rfl fun i v h => ?_
  rcases put_less ds (wip_less a) e i v h with h | h
  · exact .inl h
  · exact .inr ⟨h, rfl⟩
theorem shape_ag {ρ1 : List PV} {ms : List Bool} {ds : List (Nat × Kd)} (hd : inM ms ds = true) (s : St ds) : Ag ms ρ1 (put ds (wip ms ρ1) s) := put_ag ds (wip_wip ms ρ1) hd
/-! ### what is walked -/
abbrev GIx := (γ : Type) → List PV → (List D → Option Nat → List PV → PR γ) → PR γ
def ItC (fr : Fr) (ρ' : List PV) (env : Env) (I : Its) (src : Option Nat) : Prop := ∀ ρ2 env2 m2, Rel fr ρ2 env2 m2 → (∀ i, src = some i → ρ2[i]? = ρ'[i]? ∧ env2[i]? = env[i]?) → I.chk m2 = true
def RI (ms : List Bool) (f : IF) (g : GIx) : Prop := ∀ (γ : Type) (fr : Fr) (ρ : List PV) (env : Env) (m : Mem) (K : List D → Option Nat → List PV → PR γ), Rel fr ρ env m → g γ ρ K ≠ .bad →
  (∃ I m' xs src ρ', f env m = .ok I m' ∧ Rel fr ρ' env m' ∧ g γ ρ K = K xs src ρ' ∧ Ag ms ρ ρ' ∧ I.xs = xs.map .d ∧ ItC fr ρ' env I src) ∨ (∃ e m', f env m = .err e m' ∧ g γ ρ K = .err e ∧ Rel fr (wip ms ρ) env m')
def itemsP (x : D) : PR (List D) := match x with
  | .tuple ds => .ok ds
  | .list ds => .ok ds
  | .str z => .ok (z.cps.toList.map fun c => .str ⟨#[c]⟩)
  | _ => .bad
section
variable {s sr : Nat} {ms : List Bool} {f fa fb : EF} {g ga gb : GEx} {sa sb : SF} {xa xb : GSx} {fp : TF} {gp : GTx}
def giSeq (a : GEx) : GIx := fun γ ρ K => a γ ρ fun v ρ1 => match v with
  | .v x => (itemsP x).bind fun xs => K xs none ρ1
  | .r i => match ρ1[i]? with
    | some (.l _ xs) => K xs (some i) ρ1
    | _ => .bad
theorem ri_seq (ha : RE 3 ms fa ga) : RI ms (iSeq fa) (giSeq ga) := by
  intro γ fr ρ env m K R nb
  rcases ha γ fr ρ env m _ R nb with ⟨w, m1, v, ρ1, h1, R1, h3, h4, h5⟩ | ⟨e1, m1, h1, h2, h3⟩
  · have e0 : giSeq ga γ ρ K = _ := h4
    rw [e0] at nb ⊢
    dsimp only at nb ⊢
    simp only [iSeq, h1, Res.bind_ok]
    cases v with
    | r i =>
      have hw := h3.2
      cases q : ρ1[i]? with
      | none => simp only [q] at nb; exact absurd rfl nb
      | some u =>
        cases u with
        | l p xs =>
          simp only [q]
          obtain ⟨j, e1, e2⟩ := R1.getL q
          rw [e1] at hw
          cases hw
          have e3 : asL (.obj j) m1 = some xs := by simp [asL, e2]
          refine .inl ⟨⟨xs.map .d, sameM j xs⟩, m1, xs, some i, ρ1, by simp only [walkW, e3], R1, rfl, h5, rfl, fun ρ2 env2 m2 R2 hs => ?_⟩
          obtain ⟨hs1, hs2⟩ := hs i rfl
          rw [q] at hs1
          obtain ⟨j2, g1, g2⟩ := R2.getL hs1
          rw [hs2, e1] at g1
          cases g1
          simp only [sameM, asL, g2]
          exact grd_t trivial
        | _ => simp only [q] at nb; exact absurd rfl nb
    | v x =>
      have h3 : VW fr 3 w x := h3
      cases x with
      | tuple ds =>
        have := RVal.flat (s := 3) (env := env) (x := .tuple ds) h3 (by intro ds e; cases e)
        subst this
        exact .inl ⟨itsL ds, m1, ds, none, ρ1, rfl, R1, rfl, h5, rfl, fun _ _ _ _ _ => rfl⟩
      | str z =>
        have := RVal.flat (s := 3) (env := env) (x := .str z) h3 (by intro ds e; cases e)
        subst this
        exact .inl ⟨⟨z.cps.toList.map fun c => .d (.str ⟨#[c]⟩), yesM⟩, m1, z.cps.toList.map fun c => .str ⟨#[c]⟩, none, ρ1, rfl, R1, rfl, h5, by simp, fun _ _ _ _ _ => rfl⟩
      | list ds =>
        rcases h3 with rfl | ⟨es, e, rfl | rfl | rfl | ⟨j, rfl, hj, hp⟩⟩
        · exact .inl ⟨itsL ds, m1, ds, none, ρ1, rfl, R1, rfl, h5, rfl, fun _ _ _ _ _ => rfl⟩
        · cases e; exact .inl ⟨itsL ds, m1, ds, none, ρ1, rfl, R1, rfl, h5, rfl, fun _ _ _ _ _ => rfl⟩
        · cases e; exact .inl ⟨itsL ds, m1, ds, none, ρ1, rfl, R1, rfl, h5, rfl, fun _ _ _ _ _ => rfl⟩
        · cases e; exact .inl ⟨itsL ds, m1, ds, none, ρ1, rfl, R1, rfl, h5, rfl, fun _ _ _ _ _ => rfl⟩
        · cases e
          have hl := (List.getElem?_eq_some_iff.mp hj).1
          have e3 : asL (.obj j) m1 = some ds := by simp [asL, R1.fix j hl hp, hj]
          refine .inl ⟨⟨ds.map .d, sameM j ds⟩, m1, ds, none, ρ1, by simp only [walkW, e3], R1, rfl, h5, rfl, fun ρ2 env2 m2 R2 _ => ?_⟩
          simp only [sameM, asL, R2.fix j hl hp, hj]
          exact grd_t trivial
      | _ => exact absurd rfl nb
  · exact .inr ⟨e1, m1, by simp only [iSeq, h1, Res.bind_err], h2, h3⟩
def rng1P (xs : List D) : PR (List D) := match xs with
  | [.int j] => if smallI j = true then .ok ((List.range j.toNat).map fun (k : Nat) => .int (0 + (k : Int))) else .bad
  | _ => .bad
def ItP (o : List W → Mem → Res Its) (p : List D → PR (List D)) : Prop := (∀ xs e, p xs ≠ .err e) ∧ ∀ m ws ds xs, Sees m ws ds → p ds = .ok xs → ∃ I, o ws m = .ok I m ∧ I.xs = xs.map .d ∧ ∀ m2, I.chk m2 = true
theorem rng1P_ok : ItP rng1 rng1P := by
  refine ⟨fun xs e z => ?_, fun m ws ds xs h e => ?_⟩
  · unfold rng1P at z
    split at z
    · split at z <;> cases z
    · cases z
  · unfold rng1P at e
    split at e
    · rename_i j
      obtain ⟨w, rfl, hw⟩ := sees1 h
      rw [see_flat hw (by intro ds e; cases e)]
      by_cases q : smallI j = true
      · rw [if_pos q] at e
        cases e
        exact ⟨rngI 0 j.toNat, by simp only [rng1]; rw [if_pos q], by simp [rngI], fun _ => rfl⟩
      · rw [if_neg q] at e; cases e
    · cases e
/-- lists as they are (data or fresh), told by strict values -/
def ItZ (o : List W → Mem → Res Its) (p : List D → PR (List D)) : Prop := (∀ xs e, p xs ≠ .err e) ∧ ∀ m ds xs, p ds = .ok xs → ∃ I, o (ds.map .d) m = .ok I m ∧ I.xs = xs.map .d ∧ ∀ m2, I.chk m2 = true
def zipP (xs : List D) : PR (List D) := match xs with
  | [.list ds, .list es] => .ok (zipD ds es)
  | [.tuple ds, .tuple es] => .ok (zipD ds es)
  | _ => .bad
theorem zipP_ok : ItZ zipA zipP := by
  refine ⟨fun xs e z => ?_, fun m ds xs e => ?_⟩
  · unfold zipP at z
    split at z <;> cases z
  · unfold zipP at e
    split at e
    · cases e
      exact ⟨⟨(zipD _ _).map .d, fun m => yesM m && yesM m⟩, rfl, rfl, fun _ => rfl⟩
    · cases e
      exact ⟨itsL (zipD _ _), rfl, rfl, fun _ => rfl⟩
    · cases e
def giCa (p : List D → PR (List D)) (a : GAx) : GIx := fun γ ρ K => a γ ρ fun vs ρ1 => match gress ρ1 vs with
  | some xs => (p xs).bind fun ys => K ys none ρ1
  | none => .bad
theorem ri_ca0 {o : List W → Mem → Res Its} {p : List D → PR (List D)} {ss : List Nat} {h : AF} {k : GAx} (he : ∀ xs e, p xs ≠ .err e) (hp : ∀ fr ρ env m ws vs ds xs, Rel fr ρ env m → RVals fr env ss ws vs → gress ρ vs = some ds → p ds = .ok xs → ∃ I, o ws m = .ok I m ∧ I.xs = xs.map .d ∧ ∀ m2, I.chk m2 = true) (ha : RA ss ms h k) : RI ms (fun env m => (h env m).bind o) (giCa p k) := by
  intro γ fr ρ env m K R nb
  rcases ha γ fr ρ env m _ R nb with ⟨ws, m1, vs, ρ1, h1, R1, h3, h4, h5⟩ | ⟨e1, m1, h1, h2, h3⟩
  · have e0 : giCa p k γ ρ K = _ := h4
    rw [e0] at nb ⊢
    dsimp only at nb ⊢
    cases q : gress ρ1 vs with
    | none => simp only [q] at nb; exact absurd rfl nb
    | some xs =>
      simp only [q] at nb ⊢
      cases r : p xs with
      | bad => rw [r] at nb; exact absurd rfl nb
      | err e => exact absurd r (he xs e)
      | ok ys =>
        obtain ⟨I, i1, i2, i3⟩ := hp fr ρ1 env m1 ws vs xs ys R1 h3 q r
        exact .inl ⟨I, m1, ys, none, ρ1, by simp only [h1, Res.bind_ok, i1], R1, rfl, h5, i2, fun _ _ m2 _ _ => i3 m2⟩
  · exact .inr ⟨e1, m1, by simp only [h1, Res.bind_err], h2, h3⟩
theorem ri_ca {o : List W → Mem → Res Its} {p : List D → PR (List D)} {ss : List Nat} {h : AF} {k : GAx} (hp : ItP o p) (ha : RA ss ms h k) : RI ms (fun env m => (h env m).bind o) (giCa p k) :=
  ri_ca0 hp.1 (fun fr ρ env m ws vs ds xs R h q e => hp.2 m ws ds xs (rvals_see R h q) e) ha
theorem ri_cz {o : List W → Mem → Res Its} {p : List D → PR (List D)} {ss : List Nat} {h : AF} {k : GAx} (hp : ItZ o p) (ha : RA ss ms h k) (hz : allZ ss = true := by rfl) : RI ms (fun env m => (h env m).bind o) (giCa p k) :=
  ri_ca0 hp.1 (fun fr ρ env m ws vs ds xs R h q e => by
    obtain ⟨xs', z1, z2, z3, z4⟩ := rvals_z h hz
    have := gvs_gress (ρ := ρ) z1
    rw [q] at this
    cases this
    rw [z4]
    exact hp.2 m ds xs e) ha
theorem ri_range1 {ss : List Nat} {h : AF} {k : GAx} (ha : RA ss ms h k) : RI ms (iRange1 h) (giCa rng1P k) := ri_ca rng1P_ok ha
theorem ri_zip {ss : List Nat} {h : AF} {k : GAx} (ha : RA ss ms h k) (hz : allZ ss = true := by rfl) : RI ms (iZipA h) (giCa zipP k) := ri_cz zipP_ok ha hz
/-! ### for -/
def foldK {S γ : Type} (step : D → S → (S → PR γ) → (S → PR γ) → PR γ) : List D → S → (S → PR γ) → PR γ
  | [], s, k => k s
  | x :: xs, s, k => step x s (fun s' => foldK step xs s' k) k
def okSrc (ms : List Bool) : Option Nat → Bool
  | none => true
  | some i => !isM ms i
def unK {γ : Type} (ds : List (Nat × Kd)) (ρ : List PV) (k : St ds → PR γ) : PR γ := match un ds ρ with
  | some s => k s
  | none => .bad
theorem unK_ne {γ : Type} {ds : List (Nat × Kd)} {ρ : List PV} {k : St ds → PR γ} (h : unK ds ρ k ≠ .bad) : ∃ s, un ds ρ = some s ∧ unK ds ρ k = k s := by
  unfold unK at h ⊢
  cases q : un ds ρ with
  | none => rw [q] at h; exact absurd rfl h
  | some s => exact ⟨s, rfl, rfl⟩
def gsFor (ds : List (Nat × Kd)) (mb : List Bool) (gi : GIx) (t : GTg) (b : GSx) : GSx := fun γ ρ kn kb kc kr => gi γ ρ fun xs src ρ1 => match okSrc mb src with
  | true => unK ds ρ1 fun s0 => foldK (fun x s kn' kb' => t γ x (put ds (wip mb ρ1) s) fun ρ2 => b γ ρ2 (fun ρ3 => unK ds ρ3 kn') (fun ρ3 => unK ds ρ3 kb') (fun ρ3 => unK ds ρ3 kn') kr) xs s0 (fun s => kn (put ds (wip mb ρ1) s))
  | false => .bad
def subM : List Bool → List Bool → Bool
  | [], _ => true
  | true :: a, true :: b => subM a b
  | true :: _, _ => false
  | false :: a, _ :: b => subM a b
  | false :: a, [] => subM a []
theorem subM_get : ∀ {a b : List Bool}, subM a b = true → ∀ i, isM b i = false → isM a i = false
  | [], _, _, i, _ => rfl
  | true :: a, true :: b, h, 0, q => by cases q
  | true :: a, true :: b, h, i + 1, q => subM_get (a := a) (b := b) h i q
  | true :: _, false :: _, h, _, _ => by cases h
  | true :: _, [], h, _, _ => by cases h
  | false :: a, _ :: b, h, 0, q => rfl
  | false :: a, c :: b, h, i + 1, q => subM_get (a := a) (b := b) h i q
  | false :: a, [], h, 0, q => rfl
  | false :: a, [], h, i + 1, q => subM_get (a := a) (b := []) h i rfl
theorem Ag.sub {a b : List Bool} {ρ ρ' : List PV} (h : Ag a ρ ρ') (hs : subM a b = true) : Ag b ρ ρ' := ⟨h.len, fun i hi => h.get i (subM_get hs i hi)⟩
theorem AgE.sub {a b : List Bool} {ρ ρ' : Env} (h : AgE a ρ ρ') (hs : subM a b = true) : AgE b ρ ρ' := ⟨h.len, fun i hi => h.get i (subM_get hs i hi)⟩
theorem wip_sub {a b : List Bool} (hs : subM a b = true) {fr : Fr} {ρ : List PV} {env : Env} {m : Mem} (R : Rel fr (wip a ρ) env m) : Rel fr (wip b ρ) env m := by
  have z := R.wip (ms := b) (AgE.refl _ env)
  have e : wip b (wip a ρ) = wip b ρ := ((wip_wip a ρ).sub hs).wip
  rw [e] at z
  exact z
theorem rs_for {ds : List (Nat × Kd)} {mb : List Bool} {it : IF} {gi : GIx} {t : GF} {gt : GTg} (hi : RI ms it gi) (ht : RG mb t gt) (hb : RS sr mb sb xb) (hd : inM mb ds = true := by rfl) (hs : subM mb ms = true := by rfl) : RS sr ms (sFor it t sb) (gsFor ds mb gi gt xb) := by
  intro γ fr ρ env m kn kb kc kr R nb
  rcases hi γ fr ρ env m _ R nb with ⟨I, m1, xs, src, ρ1, h1, R1, h3, h4, h5, h6⟩ | ⟨e1, m1, h1, h2, h3⟩
  · have e0 : gsFor ds mb gi gt xb γ ρ kn kb kc kr = _ := h3
    rw [e0] at nb ⊢
    try dsimp only at nb ⊢
    cases ok : okSrc mb src with
    | false => rw [ok] at nb; exact absurd rfl nb
    | true =>
      rw [ok] at nb
      dsimp only at nb ⊢
      obtain ⟨s0, u0, u1⟩ := unK_ne nb
      rw [u1] at nb ⊢
      simp only [sFor, h1, eS_ok]
      rw [h5]
      refine SPo.later h4 (AgE.refl _ _) ?_
      have key : ∀ (xs : List D) (s : St ds) (env' : Env) (m' : Mem), Rel fr (put ds (wip mb ρ1) s) env' m' → AgE mb env env' →
          foldK (fun x s kn' kb' => gt γ x (put ds (wip mb ρ1) s) fun ρ2 => xb γ ρ2 (fun ρ3 => unK ds ρ3 kn') (fun ρ3 => unK ds ρ3 kb') (fun ρ3 => unK ds ρ3 kn') kr) xs s (fun s => kn (put ds (wip mb ρ1) s)) ≠ .bad →
          SPo fr sr ms ρ1 env (foldK (fun x s kn' kb' => gt γ x (put ds (wip mb ρ1) s) fun ρ2 => xb γ ρ2 (fun ρ3 => unK ds ρ3 kn') (fun ρ3 => unK ds ρ3 kb') (fun ρ3 => unK ds ρ3 kn') kr) xs s (fun s => kn (put ds (wip mb ρ1) s))) kn kb kc kr (forM I.chk (sTg t sb) (xs.map .d) env' m') := by
        intro xs
        induction xs with
        | nil =>
          intro s env' m' R' a' nb'
          have hc : I.chk m' = true := h6 _ env' m' R' fun i hi => by
            subst hi
            have hm : isM mb i = false := by simpa [okSrc] using ok
            exact ⟨(shape_ag hd s).get i hm, a'.get i hm⟩
          simp only [List.map_nil, forM, hc, if_true]
          exact .nx env' m' _ R' rfl ((shape_ag hd s).sub hs) (a'.sub hs)
        | cons x xs ih =>
          intro s env' m' R' a' nb'
          have hc : I.chk m' = true := h6 _ env' m' R' fun i hi => by
            subst hi
            have hm : isM mb i = false := by simpa [okSrc] using ok
            exact ⟨(shape_ag hd s).get i hm, a'.get i hm⟩
          simp only [List.map_cons, forM, hc, if_true]
          have eW : ∀ (step : D → St ds → (St ds → PR γ) → (St ds → PR γ) → PR γ) (k : St ds → PR γ), foldK step (x :: xs) s k = step x s (fun s' => foldK step xs s' k) k := fun _ _ => rfl
          rw [eW] at nb' ⊢
          obtain ⟨e2, ρ2, t1, t2, t3, t4, t5⟩ := ht γ fr _ env' m' x _ R' nb'
          rw [t3] at nb' ⊢
          simp only [sTg, t1]
          have hbb := hb γ fr ρ2 e2 m' _ _ _ kr t2 nb'
          have ag2 : Ag mb ρ1 ρ2 := (shape_ag hd s).trans t4
          have ae2 : AgE mb env e2 := a'.trans t5
          generalize sb e2 m' = r at hbb
          cases hbb with
          | nx e3 m3 ρ3 q1 q2 q3 q4 =>
            dsimp only
            rw [q2] at nb' ⊢
            obtain ⟨s', v1, v2⟩ := unK_ne nb'
            rw [v2] at nb' ⊢
            exact ih s' e3 m3 (q1.shape (ag2.trans q3) v1) (ae2.trans q4) nb'
          | ct e3 m3 ρ3 q1 q2 q3 q4 =>
            dsimp only
            rw [q2] at nb' ⊢
            obtain ⟨s', v1, v2⟩ := unK_ne nb'
            rw [v2] at nb' ⊢
            exact ih s' e3 m3 (q1.shape (ag2.trans q3) v1) (ae2.trans q4) nb'
          | bk e3 m3 ρ3 q1 q2 q3 q4 =>
            dsimp only
            rw [q2] at nb' ⊢
            obtain ⟨s', v1, v2⟩ := unK_ne nb'
            rw [v2] at nb' ⊢
            exact .nx e3 m3 _ (q1.shape (ag2.trans q3) v1) rfl ((shape_ag hd s').sub hs) ((ae2.trans q4).sub hs)
          | rt w m3 v ρ3 e3 q1 q2 q3 q4 => exact .rt w m3 v ρ3 e3 q1 q2 q3 ((ag2.trans q4).sub hs)
          | err ex e3 m3 q1 q2 q3 =>
            exact .err ex e3 m3 (by rw [ag2.wip] at q1; exact wip_sub hs q1) q2 ((ae2.trans q3).sub hs)
      exact key xs s0 env m1 (R1.shape (Ag.refl _ _) u0) (AgE.refl _ _) nb
  · simp only [sFor, h1, eS_err]
    exact .err e1 env m1 h3 h2 (AgE.refl _ _)
/-! ### while -/
def whileK {S γ : Type} (step : S → (S → PR γ) → (S → PR γ) → PR γ) : Nat → S → (S → PR γ) → PR γ
  | 0, _, _ => .bad
  | n + 1, s, k => step s (fun s' => whileK step n s' k) k
def gsWhile (ds : List (Nat × Kd)) (mb : List Bool) (c : GTx) (b : GSx) (n : Nat) : GSx := fun γ ρ kn kb kc kr => unK ds ρ fun s0 =>
  whileK (fun s kn' kb' => c γ (put ds (wip mb ρ) s) fun t ρ2 => if t = true then b γ ρ2 (fun ρ3 => unK ds ρ3 kn') (fun ρ3 => unK ds ρ3 kb') (fun ρ3 => unK ds ρ3 kn') kr else unK ds ρ2 kb') n s0 (fun s => kn (put ds (wip mb ρ) s))
theorem rs_while {ds : List (Nat × Kd)} {mb : List Bool} (n : Nat) (hc : RT mb fp gp) (hb : RS sr mb sb xb) (hd : inM mb ds = true := by rfl) (hs : subM mb ms = true := by rfl) : RS sr ms (whileM fp sb n) (gsWhile ds mb gp xb n) := by
  intro γ fr ρ1 env m kn kb kc kr R nb
  obtain ⟨s0, u0, u1⟩ := unK_ne nb
  rw [show gsWhile ds mb gp xb n γ ρ1 kn kb kc kr = _ from u1] at nb ⊢
  clear u1
  have key : ∀ (n : Nat) (s : St ds) (env' : Env) (m' : Mem), Rel fr (put ds (wip mb ρ1) s) env' m' → AgE mb env env' →
      whileK (fun s kn' kb' => gp γ (put ds (wip mb ρ1) s) fun t ρ2 => if t = true then xb γ ρ2 (fun ρ3 => unK ds ρ3 kn') (fun ρ3 => unK ds ρ3 kb') (fun ρ3 => unK ds ρ3 kn') kr else unK ds ρ2 kb') n s (fun s => kn (put ds (wip mb ρ1) s)) ≠ .bad →
      SPo fr sr ms ρ1 env (whileK (fun s kn' kb' => gp γ (put ds (wip mb ρ1) s) fun t ρ2 => if t = true then xb γ ρ2 (fun ρ3 => unK ds ρ3 kn') (fun ρ3 => unK ds ρ3 kb') (fun ρ3 => unK ds ρ3 kn') kr else unK ds ρ2 kb') n s (fun s => kn (put ds (wip mb ρ1) s))) kn kb kc kr (whileM fp sb n env' m') := by
    intro n
    induction n with
    | zero => intro s env' m' R' a' nb'; exact absurd rfl nb'
    | succ n ih =>
      intro s env' m' R' a' nb'
      have eW : ∀ (step : St ds → (St ds → PR γ) → (St ds → PR γ) → PR γ) (k : St ds → PR γ), whileK step (n + 1) s k = step s (fun s' => whileK step n s' k) k := fun _ _ => rfl
      rw [eW] at nb' ⊢
      rw [show whileM fp sb (n + 1) env' m' = eS (fp env' m') env' fun t m1 => if t = true then (match sb env' m1 with
        | .nx e m2 => whileM fp sb n e m2
        | .ct e m2 => whileM fp sb n e m2
        | .bk e m2 => .nx e m2
        | r => r) else .nx env' m1 from rfl]
      rcases hc γ fr _ env' m' _ R' nb' with ⟨t, m2, ρ2, c1, R2, c3, c4⟩ | ⟨ex, m2, c1, c2, c3⟩
      · rw [c1, eS_ok]
        rw [c3] at nb' ⊢
        dsimp only at nb' ⊢
        have ag2 : Ag mb ρ1 ρ2 := (shape_ag hd s).trans c4
        cases t with
        | false =>
          rw [if_neg (by simp)] at nb' ⊢
          rw [if_neg (by simp)]
          obtain ⟨s', v1, v2⟩ := unK_ne nb'
          rw [v2] at nb' ⊢
          exact .nx env' m2 _ (R2.shape ag2 v1) rfl ((shape_ag hd s').sub hs) (a'.sub hs)
        | true =>
          rw [if_pos rfl] at nb' ⊢
          rw [if_pos rfl]
          have hbb := hb γ fr ρ2 env' m2 _ _ _ kr R2 nb'
          generalize sb env' m2 = r at hbb
          cases hbb with
          | nx e3 m3 ρ3 q1 q2 q3 q4 =>
            dsimp only
            rw [q2] at nb' ⊢
            obtain ⟨s', v1, v2⟩ := unK_ne nb'
            rw [v2] at nb' ⊢
            exact ih s' e3 m3 (q1.shape (ag2.trans q3) v1) (a'.trans q4) nb'
          | ct e3 m3 ρ3 q1 q2 q3 q4 =>
            dsimp only
            rw [q2] at nb' ⊢
            obtain ⟨s', v1, v2⟩ := unK_ne nb'
            rw [v2] at nb' ⊢
            exact ih s' e3 m3 (q1.shape (ag2.trans q3) v1) (a'.trans q4) nb'
          | bk e3 m3 ρ3 q1 q2 q3 q4 =>
            dsimp only
            rw [q2] at nb' ⊢
            obtain ⟨s', v1, v2⟩ := unK_ne nb'
            rw [v2] at nb' ⊢
            exact .nx e3 m3 _ (q1.shape (ag2.trans q3) v1) rfl ((shape_ag hd s').sub hs) ((a'.trans q4).sub hs)
          | rt w m3 v ρ3 e3 q1 q2 q3 q4 => exact .rt w m3 v ρ3 e3 q1 q2 q3 ((ag2.trans q4).sub hs)
          | err ex e3 m3 q1 q2 q3 =>
            exact .err ex e3 m3 (by rw [ag2.wip] at q1; exact wip_sub hs q1) q2 ((a'.trans q3).sub hs)
      · rw [c1, eS_err]
        exact .err ex env' m2 (by rw [(shape_ag hd s).wip] at c3; exact wip_sub hs c3) c2 (a'.sub hs)
  exact key n s0 env m (R.shape (Ag.refl _ _) u0) (AgE.refl _ _) nb
end
end
end M
set_option Elab.async false
set_option linter.all false
set_option maxRecDepth 100000
/-! P: comprehensions, defs -/
namespace M
open PySem L2
variable [HasW]
noncomputable section
def lcN {α γ : Type} (r : PR α) (k : α → PR γ) : PR γ := match r with
  | .ok a => k a
  | _ => .bad
def lcO {γ : Type} (acc : List D) (o : Option D) (k : List D → PR γ) : PR γ := match o with
  | some y => if acc.length < sizeLine then k (acc ++ [y]) else .bad
  | none => k acc
@[simp] theorem lcN_ok {α γ : Type} (a : α) (k : α → PR γ) : lcN (.ok a) k = k a := rfl
@[simp] theorem lcO_none {γ : Type} (acc : List D) (k : List D → PR γ) : lcO acc none k = k acc := rfl
def lcK {S γ : Type} (b : D → S → PR (Option D × S)) : List D → S → List D → (List D → S → PR γ) → PR γ
  | [], s, acc, k => k acc s
  | x :: xs, s, acc, k => lcN (b x s) fun r => lcO acc r.1 fun acc' => lcK b xs r.2 acc' k
def gtYes : GTx := fun γ ρ K => K true ρ
theorem rt_yes {ms : List Bool} : RT ms tYesF gtYes := fun γ fr ρ env m K R nb => .inl ⟨true, m, ρ, rfl, R, rfl, Ag.refl _ _⟩
def endK (ds : List (Nat × Kd)) (v : GV) (ρ : List PV) : PR (Option D × St ds) := match v with
  | .v y => unK ds ρ fun s => .ok (some y, s)
  | .r _ => .bad
def gLc (ds : List (Nat × Kd)) (mb : List Bool) (gi : GIx) (t : GTg) (gt : GTx) (ge : GEx) : GEx := fun γ ρ K => gi γ ρ fun xs src ρ1 => match okSrc mb src with
  | true => unK ds ρ1 fun s0 => lcK (fun x s => t _ x (put ds (wip mb ρ1) s) fun ρ2 => gt _ ρ2 fun b ρ3 => if b = true then ge _ ρ3 fun v ρ4 => endK ds v ρ4 else unK ds ρ3 fun s' => .ok (none, s')) xs s0 [] fun acc s => K (.v (.list acc)) (put ds (wip mb ρ1) s)
  | false => .bad
theorem wipeE_get (env : Env) : ∀ (vs : List Nat) (j : Nat), j ∉ vs → (wipeE env vs)[j]? = env[j]?
  | [], j, _ => rfl
  | v :: vs, j, h => by
    show ((wipeE env vs).set v none)[j]? = _
    rw [List.getElem?_set_ne (fun z => h (by rw [z]; exact List.mem_cons_self))]
    exact wipeE_get env vs j fun z => h (List.mem_cons_of_mem _ z)
theorem wipeE_len (env : Env) : ∀ vs : List Nat, (wipeE env vs).length = env.length
  | [] => rfl
  | v :: vs => by
    show ((wipeE env vs).set v none).length = _
    rw [List.length_set]; exact wipeE_len env vs
def allIn (ms : List Bool) : List Nat → Bool
  | [] => true
  | i :: r => isM ms i && allIn ms r
theorem allIn_get {ms : List Bool} : ∀ {vs : List Nat}, allIn ms vs = true → ∀ i ∈ vs, isM ms i = true
  | [], _, i, h => nomatch h
  | v :: vs, h, i, hi => by
    simp only [allIn, Bool.and_eq_true] at h
    rcases List.mem_cons.mp hi with rfl | hi
    · exact h.1
    · exact allIn_get h.2 i hi
theorem outM_get {mt : List Bool} : ∀ {ds : List (Nat × Kd)} {σ : List PV} {s : St ds} {i : Nat}, outM mt ds = true → isM mt i = true → (put ds σ s)[i]? = σ[i]?
  | [], σ, s, i, _, _ => rfl
  | (k, .d) :: r, σ, s, i, h, hi => by
    simp only [outM, Bool.and_eq_true] at h
    show (put r (σ.set k (.d s.1)) s.2)[i]? = _
    rw [outM_get (ds := r) h.2 hi, List.getElem?_set_ne (by rintro rfl; rw [hi] at h; exact absurd h.1 (by simp))]
  | (k, .l p) :: r, σ, s, i, h, hi => by
    simp only [outM, Bool.and_eq_true] at h
    show (put r (σ.set k (.l p s.1)) s.2)[i]? = _
    rw [outM_get (ds := r) h.2 hi, List.getElem?_set_ne (by rintro rfl; rw [hi] at h; exact absurd h.1 (by simp))]
  | (k, .k p) :: r, σ, s, i, h, hi => by
    simp only [outM, Bool.and_eq_true] at h
    show (put r (σ.set k (.k p s.1)) s.2)[i]? = _
    rw [outM_get (ds := r) h.2 hi, List.getElem?_set_ne (by rintro rfl; rw [hi] at h; exact absurd h.1 (by simp))]
  | (k, .t p) :: r, σ, s, i, h, hi => by
    simp only [outM, Bool.and_eq_true] at h
    show (put r (σ.set k (.t p s.1)) s.2)[i]? = _
    rw [outM_get (ds := r) h.2 hi, List.getElem?_set_ne (by rintro rfl; rw [hi] at h; exact absurd h.1 (by simp))]
  | (k, .m) :: r, σ, s, i, h, hi => by
    simp only [outM, Bool.and_eq_true] at h
    show (put r (σ.set k (.m s.1)) s.2)[i]? = _
    rw [outM_get (ds := r) h.2 hi, List.getElem?_set_ne (by rintro rfl; rw [hi] at h; exact absurd h.1 (by simp))]
/-- slots of the mask mt are not known -/
theorem shape_x {ds : List (Nat × Kd)} {mb mt : List Bool} {ρ1 : List PV} {s : St ds} (ho : outM mt ds = true) (hs : subM mt mb = true) {i : Nat} {v : PV} (hi : isM mt i = true) (h : (put ds (wip mb ρ1) s)[i]? = some v) : v = .x := by
  rw [outM_get ho hi, wip_get] at h
  have hb : isM mb i = true := by
    cases q : isM mb i with
    | true => rfl
    | false => rw [subM_get hs i q] at hi; cases hi
  rw [if_pos hb] at h
  cases z : ρ1[i]? with
  | none => rw [z] at h; cases h
  | some u => rw [z] at h; cases h; rfl
section
variable {s : Nat} {ms : List Bool} {f fa fb fe : EF} {g ga gb ge : GEx} {ft : TF} {gt : GTx}
theorem re_lc {ds : List (Nat × Kd)} {mb mt : List Bool} {vs : List Nat} {it : IF} {gi : GIx} {t : GF} {gg : GTg} (hi : RI ms it gi) (ht : RG mt t gg) (hc : RT mb ft gt) (he : RE 0 mb fe ge) (hd : inM mb ds = true := by rfl) (ho : outM mt ds = true := by rfl) (hv : allIn mt vs = true := by rfl) (h1s : subM mt mb = true := by rfl) (hs : subM mb ms = true := by rfl) : RE 1 ms (eLc it t ft fe vs) (gLc ds mb gi gg gt ge) := by
  intro γ fr ρ env m K R nb
  rcases hi γ fr ρ env m _ R nb with ⟨I, m1, xs, src, ρ1, h1, R1, h3, h4, h5, h6⟩ | ⟨e1, m1, h1, h2, h3⟩
  · have e0 : gLc ds mb gi gg gt ge γ ρ K = _ := h3
    rw [e0] at nb ⊢
    try dsimp only at nb ⊢
    cases ok : okSrc mb src with
    | false => rw [ok] at nb; exact absurd rfl nb
    | true =>
      rw [ok] at nb
      dsimp only at nb ⊢
      obtain ⟨s0, u0, u1⟩ := unK_ne nb
      rw [u1] at nb ⊢
      simp only [eLc, h1, Res.bind_ok]
      rw [h5]
      refine EPost.later h4 ?_
      have back : ∀ (s : St ds) (m' : Mem), Rel fr (put ds (wip mb ρ1) s) (wipeE env vs) m' → Rel fr (put ds (wip mb ρ1) s) env m' := by
        intro s m' R'
        refine R'.sub rfl (wipeE_len env vs).symm fun i v h => ?_
        by_cases q : i ∈ vs
        · exact .inl (shape_x ho h1s (allIn_get hv i q) h)
        · exact .inr ⟨h, (wipeE_get env vs i q).symm⟩
      have key : ∀ (xs : List D) (s : St ds) (acc : List D) (m' : Mem), Rel fr (put ds (wip mb ρ1) s) (wipeE env vs) m' →
          lcK (fun x s => gg _ x (put ds (wip mb ρ1) s) fun ρ2 => gt _ ρ2 fun b ρ3 => if b = true then ge _ ρ3 fun v ρ4 => endK ds v ρ4 else unK ds ρ3 fun s' => .ok (none, s')) xs s acc (fun acc s => K (.v (.list acc)) (put ds (wip mb ρ1) s)) ≠ .bad →
          EPost fr 1 ms ρ1 env (lcM I.chk (lcB t ft fe (wipeE env vs)) (xs.map .d) acc m') (lcK (fun x s => gg _ x (put ds (wip mb ρ1) s) fun ρ2 => gt _ ρ2 fun b ρ3 => if b = true then ge _ ρ3 fun v ρ4 => endK ds v ρ4 else unK ds ρ3 fun s' => .ok (none, s')) xs s acc (fun acc s => K (.v (.list acc)) (put ds (wip mb ρ1) s))) K := by
        intro xs
        induction xs with
        | nil =>
          intro s acc m' R' nb'
          have hck : I.chk m' = true := h6 _ env m' (back s m' R') fun i hi => by
            subst hi
            have hm : isM mb i = false := by simpa [okSrc] using ok
            exact ⟨(shape_ag hd s).get i hm, rfl⟩
          simp only [List.map_nil, lcM, hck, if_true]
          exact .inl ⟨.fl acc, m', .v (.list acc), _, rfl, back s m' R', rfl, rfl, (shape_ag hd s).sub hs⟩
        | cons x xs ih =>
          intro s acc m' R' nb'
          have hck : I.chk m' = true := h6 _ env m' (back s m' R') fun i hi => by
            subst hi
            have hm : isM mb i = false := by simpa [okSrc] using ok
            exact ⟨(shape_ag hd s).get i hm, rfl⟩
          simp only [List.map_cons, lcM, hck, if_true]
          have eW : ∀ (b : D → St ds → PR (Option D × St ds)) (k : List D → St ds → PR γ), lcK b (x :: xs) s acc k = lcN (b x s) fun r => lcO acc r.1 fun acc' => lcK b xs r.2 acc' k := fun _ _ => rfl
          rw [eW] at nb' ⊢
          cases bx : (gg (Option D × St ds) x (put ds (wip mb ρ1) s) fun ρ2 => gt _ ρ2 fun b ρ3 => if b = true then ge _ ρ3 fun v ρ4 => endK ds v ρ4 else unK ds ρ3 fun s' => .ok (none, s')) with
          | bad => rw [bx] at nb'; exact absurd rfl nb'
          | err e => rw [bx] at nb'; exact absurd rfl nb'
          | ok r =>
            rw [bx] at nb'
            have nb1 : (gg (Option D × St ds) x (put ds (wip mb ρ1) s) fun ρ2 => gt _ ρ2 fun b ρ3 => if b = true then ge _ ρ3 fun v ρ4 => endK ds v ρ4 else unK ds ρ3 fun s' => .ok (none, s')) ≠ .bad := by rw [bx]; intro z; cases z
            obtain ⟨e2, ρ2, t1, t2, t3, t4, t5⟩ := ht _ fr _ _ m' x _ R' nb1
            rw [t3] at bx nb1
            try dsimp only at bx nb1
            have ag2 : Ag mb ρ1 ρ2 := (shape_ag hd s).trans (t4.sub h1s)
            have next : ∀ (ρ4 : List PV) (m4 : Mem) (s' : St ds), Rel fr ρ4 e2 m4 → Ag mb ρ1 ρ4 → un ds ρ4 = some s' → Rel fr (put ds (wip mb ρ1) s') (wipeE env vs) m4 := by
              intro ρ4 m4 s' R4 a4 u4
              refine (R4.shape a4 u4).sub rfl t5.len.symm fun i v h => ?_
              by_cases q : isM mt i = true
              · exact .inl (shape_x ho h1s q h)
              · exact .inr ⟨h, (t5.get i (by simpa using q)).symm⟩
            rcases hc _ fr ρ2 e2 m' _ t2 nb1 with ⟨b, m3, ρ3, c1, R3, c3, c4⟩ | ⟨ex, m3, c1, c2, c3⟩
            · rw [c3] at bx nb1
              dsimp only at bx nb1
              cases b with
              | false =>
                rw [if_neg (by simp)] at bx nb1
                obtain ⟨s', v1, v2⟩ := unK_ne nb1
                rw [v2] at bx
                cases bx
                rw [lcN_ok, lcO_none] at nb' ⊢
                simp only [lcB, t1, c1, noErr, Res.bind_ok, if_neg (show ¬ (false = true) by simp)]
                exact ih s' acc m3 (next ρ3 m3 s' R3 (ag2.trans c4) v1) nb'
              | true =>
                rw [if_pos rfl] at bx nb1
                rcases he _ fr ρ3 e2 m3 _ R3 nb1 with ⟨w, m4, v, ρ4, d1, R4, d3, d4, d5⟩ | ⟨ex, m4, d1, d2, d3⟩
                · rw [d4] at bx nb1
                  cases v with
                  | r i => exact absurd rfl nb1
                  | v y =>
                    have d3 : w = .d y := d3
                    subst d3
                    obtain ⟨s', v1, v2⟩ := unK_ne (show unK ds ρ4 (fun s => PR.ok (some y, s)) ≠ .bad from nb1)
                    have bx : PR.ok (some y, s') = PR.ok r := (Eq.symm v2).trans bx
                    cases bx
                    rw [lcN_ok] at nb' ⊢
                    simp only [lcO] at nb' ⊢
                    simp only [lcB, t1, c1, noErr, Res.bind_ok, if_true, d1]
                    by_cases hl : acc.length < sizeLine
                    · rw [if_pos hl] at nb' ⊢
                      rw [if_pos hl]
                      exact ih s' (acc ++ [y]) m4 (next ρ4 m4 s' R4 ((ag2.trans c4).trans d5) v1) nb'
                    · rw [if_neg hl] at nb'; exact absurd rfl nb'
                · rw [d2] at bx; cases bx
            · rw [c2] at bx; cases bx
      refine key xs s0 [] m1 ?_ nb
      refine (R1.shape (Ag.refl _ _) u0).sub rfl (wipeE_len env vs) fun i v h => ?_
      by_cases q : i ∈ vs
      · exact .inl (shape_x ho h1s (allIn_get hv i q) h)
      · exact .inr ⟨h, wipeE_get env vs i q⟩
  · exact .inr ⟨e1, m1, by simp only [eLc, h1, Res.bind_err], h2, h3⟩
end
end
end M
set_option Elab.async false
set_option linter.all false
set_option maxRecDepth 100000
/-! P: defs and their calls -/
namespace M
open PySem L2
variable [HasW]
noncomputable section
inductive PK where
  | d | b | l | k | n | t | u
inductive AV where
  | d (x : D)
  | b (xs : List D)
  | l (i : Nat) (xs : List D)
  | k (i : Nat) (q : Dk)
  | n (kvs : List (Str × D))
  | t (i : Nat) (kvs : List (D × TV))
  | u (kvs : List (D × D))
inductive UV where
  | l (xs : List D)
  | k (q : Dk)
  | t (kvs : List (D × TV))
abbrev GFn := (γ : Type) → List AV → (D → List (Nat × UV) → PR γ) → PR γ
/-- all of it data -/
def flatT : List (D × TV) → Option (List (D × D))
  | [] => some []
  | (k, .d x) :: r => match flatT r with
    | some s => some ((k, x) :: s)
    | none => none
  | _ :: _ => none
def avK {γ : Type} (ρ : List PV) : PK → GV → (AV → PR γ) → PR γ
  | .d, .v x, K => K (.d x)
  | .b, .v x, K => ptl x fun xs => K (.b xs)
  | .b, .r i, K => match ρ[i]? with
    | some (.l _ xs) => K (.b xs)
    | _ => .bad
  | .l, .r i, K => match ρ[i]? with
    | some (.l _ xs) => K (.l i xs)
    | _ => .bad
  | .k, .r i, K => match ρ[i]? with
    | some (.k _ q) => K (.k i q)
    | _ => .bad
  | .n, .r i, K => match ρ[i]? with
    | some (.m kvs) => K (.n kvs)
    | some (.n kvs) => K (.n kvs)
    | _ => .bad
  | .t, .r i, K => match ρ[i]? with
    | some (.t _ kvs) => K (.t i kvs)
    | _ => .bad
  | .u, .r i, K => match ρ[i]? with
    | some (.t _ kvs) => match flatT kvs with
      | some ys => K (.u ys)
      | none => .bad
    | some (.u kvs) => K (.u kvs)
    | _ => .bad
  | _, _, _ => .bad
def avsK {γ : Type} (ρ : List PV) : List PK → List GV → (List AV → PR γ) → PR γ
  | [], [], K => K []
  | k :: ks, v :: vs, K => avK ρ k v fun a => avsK ρ ks vs fun as => K (a :: as)
  | _, _, _ => .bad
def mrefs : List AV → List Nat
  | [] => []
  | .l i _ :: r => i :: mrefs r
  | .k i _ :: r => i :: mrefs r
  | .t i _ :: r => i :: mrefs r
  | _ :: r => mrefs r
/-- slots handed over to be changed -/
def grefs : List PK → List GV → List Nat
  | .l :: ks, .r i :: vs => i :: grefs ks vs
  | .k :: ks, .r i :: vs => i :: grefs ks vs
  | .t :: ks, .r i :: vs => i :: grefs ks vs
  | _ :: ks, _ :: vs => grefs ks vs
  | _, _ => []
/-- slots handed over to be read -/
def brefs : List PK → List GV → List Nat
  | .b :: ks, .r i :: vs => i :: brefs ks vs
  | .n :: ks, .r i :: vs => i :: brefs ks vs
  | .u :: ks, .r i :: vs => i :: brefs ks vs
  | _ :: ks, _ :: vs => brefs ks vs
  | _, _ => []
def nodupB : List Nat → Bool
  | [] => true
  | a :: r => !r.contains a && nodupB r
def refsOk (ms : List Bool) (ks : List PK) (vs : List GV) : Bool := allIn ms (grefs ks vs) && nodupB (grefs ks vs) && (brefs ks vs).all fun i => !(grefs ks vs).contains i
def upd1 (ρ : List PV) (i : Nat) : UV → List PV
  | .l xs => match ρ[i]? with
    | some (.l p _) => ρ.set i (.l p xs)
    | _ => ρ
  | .k q => match ρ[i]? with
    | some (.k p _) => ρ.set i (.k p q)
    | _ => ρ
  | .t q => match ρ[i]? with
    | some (.t p _) => ρ.set i (.t p q)
    | _ => ρ
def upds (ρ : List PV) : List (Nat × UV) → List PV
  | [] => ρ
  | (i, u) :: r => upds (upd1 ρ i u) r
def gCall (ms : List Bool) (ks : List PK) (F : GFn) (a : GAx) : GEx := fun γ ρ K => a γ ρ fun vs ρ1 => match refsOk ms ks vs with
  | true => avsK ρ1 ks vs fun avs => F γ avs fun x us => K (.v x) (upds ρ1 us)
  | false => .bad
/-! ### what a def promises -/
def ArgOk (m : Mem) (J : Nat → List Nat) (rs : List Nat) (w : W) : AV → Prop
  | .d x => w = .d x
  | .b xs => w = .d (.list xs) ∨ w = .ro xs ∨ ∃ j, w = .obj j ∧ m[j]? = some (.lst xs) ∧ ∀ i ∈ rs, j ∉ J i
  | .l i xs => ∃ j, w = .obj j ∧ J i = [j] ∧ m[j]? = some (.lst xs)
  | .k i q => ∃ b a, w = .obj b ∧ J i = [b, a] ∧ DkAt m a b q
  | .n kvs => ∃ j, w = .obj j ∧ m[j]? = some (mkO kvs) ∧ ∀ i ∈ rs, j ∉ J i
  | .t i kvs => ∃ j ks, w = .obj j ∧ J i = j :: j :: j :: ks ∧ TrAt m j kvs ks
  | .u kvs => ∃ j, w = .obj j ∧ m[j]? = some (.dcn (kvN kvs)) ∧ ∀ i ∈ rs, j ∉ J i
inductive ArgsOk (m : Mem) (J : Nat → List Nat) (rs : List Nat) : List W → List AV → Prop
  | nil : ArgsOk m J rs [] []
  | cons {w : W} {a : AV} {ws : List W} {as : List AV} : ArgOk m J rs w a → ArgsOk m J rs ws as → ArgsOk m J rs (w :: ws) (a :: as)
def Has (m : Mem) (J : Nat → List Nat) (i : Nat) : UV → Prop
  | .l xs => ∃ j, J i = [j] ∧ m[j]? = some (.lst xs)
  | .k q => ∃ b a, J i = [b, a] ∧ DkAt m a b q
  | .t kvs => ∃ j ks, J i = j :: j :: j :: ks ∧ TrAt m j kvs ks
structure Keep (m m' : Mem) (J : Nat → List Nat) (rs : List Nat) : Prop where
  len : m'.length = m.length
  get : ∀ j, (∀ i ∈ rs, j ∉ J i) → m'[j]? = m[j]?
  dn : ∀ i ∈ rs, ∀ j ∈ J i, ∀ o : O, m'[j]? = some o → okJ (J i) o = true
def SpG (F : FF) (s : Nat) (Q : GFn) : Prop := ∀ (γ : Type) (m : Mem) (ws : List W) (avs : List AV) (J : Nat → List Nat) (K : D → List (Nat × UV) → PR γ), (∀ (j : Nat) (o : O), m[j]? = some o → okO m.length o = true) → ArgsOk m J (mrefs avs) ws avs → (mrefs avs).Nodup → (∀ i ∈ mrefs avs, ∀ i' ∈ mrefs avs, ∀ j, j ∈ J i → j ∈ J i' → i = i') → Q γ avs K ≠ .bad →
  (∃ w m' x us, F ws m = .ok w m' ∧ (∀ fr, VW fr s w x) ∧ Q γ avs K = K x us ∧ us.map (·.1) = mrefs avs ∧ (∀ u ∈ us, Has m' J u.1 u.2) ∧ Keep m m' J (mrefs avs)) ∨ (∃ e m', F ws m = .err e m' ∧ Q γ avs K = .err e ∧ Keep m m' J (mrefs avs))
theorem nodupB_iff : ∀ {l : List Nat}, nodupB l = true → l.Nodup
  | [], _ => List.nodup_nil
  | a :: r, h => by
    simp only [nodupB, Bool.and_eq_true] at h
    exact List.nodup_cons.mpr ⟨by simpa using h.1, nodupB_iff h.2⟩
section
variable {s : Nat} {ms : List Bool} {fr : Fr} {ρ : List PV} {env : Env} {m m' : Mem}
/-- levels of the arguments: a value, or what is only read or handed over -/
def lvOk : List PK → List Nat → Bool
  | [], [] => true
  | .d :: ks, 0 :: ss => lvOk ks ss
  | .b :: ks, 4 :: ss => lvOk ks ss
  | .l :: ks, 4 :: ss => lvOk ks ss
  | .k :: ks, 4 :: ss => lvOk ks ss
  | .n :: ks, 4 :: ss => lvOk ks ss
  | .t :: ks, 4 :: ss => lvOk ks ss
  | .u :: ks, 4 :: ss => lvOk ks ss
  | _, _ => false
theorem flatT_ch {m : Mem} {kws : List (D × W)} {kvs : List (D × TV)} {ks : List Nat} (h : ChAt m kws kvs ks) : ∀ {ys : List (D × D)}, flatT kvs = some ys → kws = kvN ys := by
  induction h with
  | nil => intro ys e; cases e; rfl
  | d t ih =>
    intro ys e
    simp only [flatT] at e
    split at e
    · rename_i s es
      cases e
      rw [ih es]; rfl
    · cases e
  | l e n t ih => intro ys e; cases e
  | c e n t ih => intro ys e; cases e
theorem flatT_at {m : Mem} {j : Nat} {kvs : List (D × TV)} {ks : List Nat} {ys : List (D × D)} (e : flatT kvs = some ys) (h : TrAt m j kvs ks) : m[j]? = some (.dcn (kvN ys)) := by
  obtain ⟨_, kws, h2, h3⟩ := h
  rw [h2, flatT_ch h3 e]
theorem avs_ok (R : Rel fr ρ env m) {J : Nat → List Nat} (hd : ∀ i i' j, j ∈ J i → j ∈ J i' → i = i') (hJ : ∀ i, SlotOk fr m i (J i) env[i]? ρ[i]?) {γ : Type} : ∀ {ks : List PK} {ss : List Nat} {ws : List W} {vs : List GV} {K : List AV → PR γ}, lvOk ks ss = true → RVals fr env ss ws vs → avsK ρ ks vs K ≠ .bad →
    ∃ avs, avsK ρ ks vs K = K avs ∧ mrefs avs = grefs ks vs ∧ noFl ws = true ∧ ∀ rs, (∀ i ∈ brefs ks vs, i ∉ rs) → ArgsOk m J rs ws avs
  | [], [], [], [], K, _, .nil, nb => ⟨[], rfl, rfl, rfl, fun _ _ => .nil⟩
  | .d :: ks, 0 :: ss, w :: ws, .v x :: vs, K, hl, .cons h t, nb => by
    obtain ⟨avs, e1, e2, e4, e3⟩ := avs_ok R hd hJ (ks := ks) (K := fun as => K (.d x :: as)) hl t nb
    have h : w = .d x := h
    subst h
    exact ⟨.d x :: avs, e1, e2, e4, fun rs hr => .cons rfl (e3 rs hr)⟩
  | .d :: ks, 0 :: ss, w :: ws, .r i :: vs, K, hl, .cons h t, nb => absurd h.1 (by decide)
  | .b :: ks, 4 :: ss, w :: ws, .v x :: vs, K, hl, .cons h t, nb => by
    cases x with
    | list xs =>
      obtain ⟨avs, e1, e2, e4, e3⟩ := avs_ok R hd hJ (ks := ks) (K := fun as => K (.b xs :: as)) hl t nb
      rcases h with rfl | ⟨es, e, h⟩
      · exact ⟨.b xs :: avs, e1, e2, e4, fun rs hr => .cons (.inl rfl) (e3 rs hr)⟩
      · cases e
        rcases h with rfl | rfl | ⟨j, rfl, hj, hp⟩
        · exact ⟨.b xs :: avs, e1, e2, e4, fun rs hr => .cons (.inl rfl) (e3 rs hr)⟩
        · exact ⟨.b xs :: avs, e1, e2, e4, fun rs hr => .cons (.inr (.inl rfl)) (e3 rs hr)⟩
        · refine ⟨.b xs :: avs, e1, e2, e4, fun rs hr => .cons (.inr (.inr ⟨j, rfl, ?_, fun i hi hj' => ?_⟩)) (e3 rs hr)⟩
          · rw [R.fix j (List.getElem?_eq_some_iff.mp hj).1 hp]; exact hj
          · have hl := (List.getElem?_eq_some_iff.mp hj).1
            rcases (hJ i).own j hj' with z | z
            · exact hp i z
            · omega
    | _ => exact absurd rfl nb
  | .b :: ks, 4 :: ss, w :: ws, .r i :: vs, K, hl, .cons h t, nb => by
    have h2 := h.2
    simp only [avsK, avK] at nb ⊢
    cases q : ρ[i]? with
    | none => rw [q] at nb; exact absurd rfl nb
    | some u =>
      cases u with
      | l p xs =>
        rw [q] at nb
        dsimp only at nb ⊢
        obtain ⟨avs, e1, e2, e4, e3⟩ := avs_ok R hd hJ (ks := ks) (K := fun as => K (.b xs :: as)) hl t nb
        have z := hJ i
        rw [q] at z
        obtain ⟨j, z1, z2, z3, z4⟩ := z
        rw [z2] at h2
        cases h2
        refine ⟨.b xs :: avs, e1, e2, e4, fun rs hr => .cons (.inr (.inr ⟨j, rfl, z3, fun i' hi hj' => ?_⟩)) (e3 rs fun i' hi' => hr i' (List.mem_cons_of_mem _ hi'))⟩
        have := hd i i' j (by rw [z1]; simp) hj'
        subst this
        exact hr i (List.mem_cons_self) hi
      | _ => rw [q] at nb; exact absurd rfl nb
  | .l :: ks, 4 :: ss, w :: ws, .v x :: vs, K, hl, .cons h t, nb => absurd rfl nb
  | .l :: ks, 4 :: ss, w :: ws, .r i :: vs, K, hl, .cons h t, nb => by
    have h2 := h.2
    simp only [avsK, avK] at nb ⊢
    cases q : ρ[i]? with
    | none => rw [q] at nb; exact absurd rfl nb
    | some u =>
      cases u with
      | l p xs =>
        rw [q] at nb
        dsimp only at nb ⊢
        obtain ⟨avs, e1, e2, e4, e3⟩ := avs_ok R hd hJ (ks := ks) (K := fun as => K (.l i xs :: as)) hl t nb
        have z := hJ i
        rw [q] at z
        obtain ⟨j, z1, z2, z3, z4⟩ := z
        rw [z2] at h2
        cases h2
        exact ⟨.l i xs :: avs, e1, by simp [mrefs, grefs, e2], e4, fun rs hr => .cons ⟨j, rfl, z1, z3⟩ (e3 rs hr)⟩
      | _ => rw [q] at nb; exact absurd rfl nb
  | .k :: ks, 4 :: ss, w :: ws, .v x :: vs, K, hl, .cons h t, nb => absurd rfl nb
  | .k :: ks, 4 :: ss, w :: ws, .r i :: vs, K, hl, .cons h t, nb => by
    have h2 := h.2
    simp only [avsK, avK] at nb ⊢
    cases q : ρ[i]? with
    | none => rw [q] at nb; exact absurd rfl nb
    | some u =>
      cases u with
      | k p xs =>
        rw [q] at nb
        dsimp only at nb ⊢
        obtain ⟨avs, e1, e2, e4, e3⟩ := avs_ok R hd hJ (ks := ks) (K := fun as => K (.k i xs :: as)) hl t nb
        have z := hJ i
        rw [q] at z
        obtain ⟨b, a, z1, z2, z3, z4⟩ := z
        rw [z2] at h2
        cases h2
        exact ⟨.k i xs :: avs, e1, by simp [mrefs, grefs, e2], e4, fun rs hr => .cons ⟨b, a, rfl, z1, z3⟩ (e3 rs hr)⟩
      | _ => rw [q] at nb; exact absurd rfl nb
  | .n :: ks, 4 :: ss, w :: ws, .v x :: vs, K, hl, .cons h t, nb => absurd rfl nb
  | .n :: ks, 4 :: ss, w :: ws, .r i :: vs, K, hl, .cons h t, nb => by
    have h2 := h.2
    simp only [avsK, avK] at nb ⊢
    cases q : ρ[i]? with
    | none => rw [q] at nb; exact absurd rfl nb
    | some u =>
      cases u with
      | m kvs =>
        rw [q] at nb
        dsimp only at nb ⊢
        obtain ⟨avs, e1, e2, e4, e3⟩ := avs_ok R hd hJ (ks := ks) (K := fun as => K (.n kvs :: as)) hl t nb
        have z := hJ i
        rw [q] at z
        obtain ⟨j, z1, z2, z3, z4⟩ := z
        rw [z2] at h2
        cases h2
        refine ⟨.n kvs :: avs, e1, e2, e4, fun rs hr => .cons ⟨j, rfl, z3, fun i' hi hj' => ?_⟩ (e3 rs fun i' hi' => hr i' (List.mem_cons_of_mem _ hi'))⟩
        have := hd i i' j (by rw [z1]; simp) hj'
        subst this
        exact hr i (List.mem_cons_self) hi
      | n kvs =>
        rw [q] at nb
        dsimp only at nb ⊢
        obtain ⟨avs, e1, e2, e4, e3⟩ := avs_ok R hd hJ (ks := ks) (K := fun as => K (.n kvs :: as)) hl t nb
        have z := hJ i
        rw [q] at z
        obtain ⟨_, j, z2, z3, z4⟩ := z
        rw [z2] at h2
        cases h2
        have hl' := (List.getElem?_eq_some_iff.mp z3).1
        refine ⟨.n kvs :: avs, e1, e2, e4, fun rs hr => .cons ⟨j, rfl, by rw [R.fix j hl' z4]; exact z3, fun i' hi hj' => ?_⟩ (e3 rs fun i' hi' => hr i' (List.mem_cons_of_mem _ hi'))⟩
        rcases (hJ i').own j hj' with z | z
        · exact z4 i' z
        · omega
      | _ => rw [q] at nb; exact absurd rfl nb
  | .t :: ks, 4 :: ss, w :: ws, .v x :: vs, K, hl, .cons h t, nb => absurd rfl nb
  | .t :: ks, 4 :: ss, w :: ws, .r i :: vs, K, hl, .cons h t, nb => by
    have h2 := h.2
    simp only [avsK, avK] at nb ⊢
    cases q : ρ[i]? with
    | none => rw [q] at nb; exact absurd rfl nb
    | some u =>
      cases u with
      | t p xs =>
        rw [q] at nb
        dsimp only at nb ⊢
        obtain ⟨avs, e1, e2, e4, e3⟩ := avs_ok R hd hJ (ks := ks) (K := fun as => K (.t i xs :: as)) hl t nb
        have z := hJ i
        rw [q] at z
        obtain ⟨j, kk, z1, z2, z3, z4⟩ := z
        rw [z2] at h2
        cases h2
        exact ⟨.t i xs :: avs, e1, by simp [mrefs, grefs, e2], e4, fun rs hr => .cons ⟨j, kk, rfl, z1, z3⟩ (e3 rs hr)⟩
      | _ => rw [q] at nb; exact absurd rfl nb
  | .u :: ks, 4 :: ss, w :: ws, .v x :: vs, K, hl, .cons h t, nb => absurd rfl nb
  | .u :: ks, 4 :: ss, w :: ws, .r i :: vs, K, hl, .cons h t, nb => by
    have h2 := h.2
    simp only [avsK, avK] at nb ⊢
    cases q : ρ[i]? with
    | none => rw [q] at nb; exact absurd rfl nb
    | some u =>
      cases u with
      | t p kvs =>
        rw [q] at nb
        dsimp only at nb ⊢
        cases qf : flatT kvs with
        | none => rw [qf] at nb; exact absurd rfl nb
        | some ys =>
          rw [qf] at nb
          dsimp only at nb ⊢
          obtain ⟨avs, e1, e2, e4, e3⟩ := avs_ok R hd hJ (ks := ks) (K := fun as => K (.u ys :: as)) hl t nb
          have z := hJ i
          rw [q] at z
          obtain ⟨j, kk, z1, z2, z3, z4⟩ := z
          rw [z2] at h2
          cases h2
          refine ⟨.u ys :: avs, e1, e2, e4, fun rs hr => .cons ⟨j, rfl, flatT_at qf z3, fun i' hi hj' => ?_⟩ (e3 rs fun i' hi' => hr i' (List.mem_cons_of_mem _ hi'))⟩
          have := hd i i' j (by rw [z1]; simp) hj'
          subst this
          exact hr i (List.mem_cons_self) hi
      | u kvs =>
        rw [q] at nb
        dsimp only at nb ⊢
        obtain ⟨avs, e1, e2, e4, e3⟩ := avs_ok R hd hJ (ks := ks) (K := fun as => K (.u kvs :: as)) hl t nb
        have z := hJ i
        rw [q] at z
        obtain ⟨_, j, z2, z3, z4⟩ := z
        rw [z2] at h2
        cases h2
        have hl' := (List.getElem?_eq_some_iff.mp z3).1
        refine ⟨.u kvs :: avs, e1, e2, e4, fun rs hr => .cons ⟨j, rfl, by rw [R.fix j hl' z4]; exact z3, fun i' hi hj' => ?_⟩ (e3 rs fun i' hi' => hr i' (List.mem_cons_of_mem _ hi'))⟩
        rcases (hJ i').own j hj' with z | z
        · exact z4 i' z
        · omega
      | _ => rw [q] at nb; exact absurd rfl nb
theorem upd1_length (ρ : List PV) (i : Nat) (u : UV) : (upd1 ρ i u).length = ρ.length := by
  cases u with
  | l xs => simp only [upd1]; split <;> simp
  | k q => simp only [upd1]; split <;> simp
  | t q => simp only [upd1]; split <;> simp
theorem upd1_ne {i k : Nat} (u : UV) (h : k ≠ i) : (upd1 ρ i u)[k]? = ρ[k]? := by
  cases u with
  | l xs => simp only [upd1]; split <;> simp [List.getElem?_set_ne (Ne.symm h)]
  | k q => simp only [upd1]; split <;> simp [List.getElem?_set_ne (Ne.symm h)]
  | t q => simp only [upd1]; split <;> simp [List.getElem?_set_ne (Ne.symm h)]
theorem upds_length : ∀ (us : List (Nat × UV)) (ρ : List PV), (upds ρ us).length = ρ.length
  | [], ρ => rfl
  | (i, u) :: r, ρ => by simp only [upds]; rw [upds_length r, upd1_length]
theorem upds_ag : ∀ (us : List (Nat × UV)) {ρ0 ρ : List PV}, Ag ms ρ0 ρ → allIn ms (us.map (·.1)) = true → Ag ms ρ0 (upds ρ us)
  | [], ρ0, ρ, a, _ => a
  | (i, u) :: r, ρ0, ρ, a, h => by
    simp only [List.map_cons, allIn, Bool.and_eq_true] at h
    refine upds_ag r (a.trans ⟨upd1_length _ _ _, fun k hk => upd1_ne u ?_⟩) h.2
    rintro rfl
    rw [h.1] at hk; cases hk
def kindOk : UV → Option PV → Prop
  | .l _, some (.l _ _) => True
  | .k _, some (.k _ _) => True
  | .t _, some (.t _ _) => True
  | _, _ => False
theorem upds_slots {J : Nat → List Nat} {m' : Mem} : ∀ (us : List (Nat × UV)) {σ : List PV}, (us.map (·.1)).Nodup → (∀ u ∈ us, Has m' J u.1 u.2) → (∀ i, i ∉ us.map (·.1) → SlotOk fr m' i (J i) env[i]? σ[i]?) → (∀ i, i ∈ us.map (·.1) → SlotOk fr m i (J i) env[i]? σ[i]? ) →
    (∀ u ∈ us, kindOk u.2 σ[u.1]?) →
    ∀ i, SlotOk fr m' i (J i) env[i]? (upds σ us)[i]?
  | [], σ, _, _, h, _, _ => fun i => h i (by simp)
  | (k, u) :: r, σ, hn, hh, h1, h2, h3 => by
    simp only [List.map_cons, List.nodup_cons] at hn
    refine upds_slots r hn.2 (fun u hu => hh u (List.mem_cons_of_mem _ hu)) (fun i hi => ?_) (fun i hi => ?_) (fun v hv => ?_)
    · by_cases hk : i = k
      · subst hk
        have z := h2 i (by simp)
        have z3 := h3 (i, u) List.mem_cons_self
        have zh := hh (i, u) List.mem_cons_self
        cases u with
        | l xs =>
          cases q : σ[i]? with
          | none => rw [q] at z3; exact False.elim z3
          | some pv =>
            cases pv with
            | l p ys =>
              have hl : i < σ.length := (List.getElem?_eq_some_iff.mp q).1
              simp only [upd1, q]
              rw [List.getElem?_set_self hl]
              rw [q] at z
              obtain ⟨j, z1, z2, z3, z4⟩ := z
              obtain ⟨j', y1, y2⟩ := zh
              rw [z1] at y1
              cases y1
              exact ⟨j, z1, z2, y2, z4⟩
            | _ => rw [q] at z3; exact False.elim z3
        | k xs =>
          cases q : σ[i]? with
          | none => rw [q] at z3; exact False.elim z3
          | some pv =>
            cases pv with
            | k p ys =>
              have hl : i < σ.length := (List.getElem?_eq_some_iff.mp q).1
              simp only [upd1, q]
              rw [List.getElem?_set_self hl]
              rw [q] at z
              obtain ⟨b, a, z1, z2, z3, z4⟩ := z
              obtain ⟨b', a', y1, y2⟩ := zh
              rw [z1] at y1
              cases y1
              exact ⟨b, a, z1, z2, y2, z4⟩
            | _ => rw [q] at z3; exact False.elim z3
        | t xs =>
          cases q : σ[i]? with
          | none => rw [q] at z3; exact False.elim z3
          | some pv =>
            cases pv with
            | t p ys =>
              have hl : i < σ.length := (List.getElem?_eq_some_iff.mp q).1
              simp only [upd1, q]
              rw [List.getElem?_set_self hl]
              rw [q] at z
              obtain ⟨b, kk, z1, z2, z3, z4⟩ := z
              obtain ⟨b', kk', y1, y2⟩ := zh
              rw [z1] at y1
              cases y1
              exact ⟨b, kk, z1, z2, y2, z4⟩
            | _ => rw [q] at z3; exact False.elim z3
      · rw [upd1_ne u hk]
        exact h1 i (by simp only [List.map_cons, List.mem_cons, not_or]; exact ⟨hk, hi⟩)
    · have hk : i ≠ k := by rintro rfl; exact hn.1 hi
      rw [upd1_ne u hk]
      exact h2 i (List.mem_cons_of_mem _ hi)
    · have hk : v.1 ≠ k := by
        intro e
        exact hn.1 (by rw [← e]; exact List.mem_map_of_mem hv)
      rw [upd1_ne u hk]
      exact h3 v (List.mem_cons_of_mem _ hv)
end
end
end M
set_option Elab.async false
set_option linter.all false
set_option maxRecDepth 100000
/-! P: defs and their calls -/
namespace M
open PySem L2
variable [HasW]
noncomputable section
section
variable {s sr : Nat} {ms : List Bool} {fr : Fr} {ρ : List PV} {env : Env} {m m' : Mem}
theorem has_kind {J : Nat → List Nat} {i : Nat} {e : Option (Option W)} {v : Option PV} {u : UV} (h : SlotOk fr m i (J i) e v) (hh : Has m' J i u) : kindOk u v := by
  cases u with
  | l xs =>
    obtain ⟨j, hj, _⟩ := hh
    match v, h with
    | none, h => rw [show J i = [] from h] at hj; cases hj
    | some .x, h => rw [show J i = [] from h] at hj; cases hj
    | some (.d v), h => rw [h.1] at hj; cases hj
    | some (.b v), h => rw [h.1] at hj; cases hj
    | some (.l p xs), _ => trivial
    | some (.k p q), ⟨b, a, e1, _⟩ => rw [e1] at hj; cases hj
    | some (.m v), ⟨k, e1, _⟩ => rw [e1] at hj; cases hj
    | some (.n v), h => rw [h.1] at hj; cases hj
    | some (.u v), h => rw [h.1] at hj; cases hj
    | some (.t p v), ⟨k, ks, e1, _⟩ => rw [e1] at hj; cases hj
  | t xs =>
    obtain ⟨b', kk, hj, hk⟩ := hh
    match v, h with
    | none, h => rw [show J i = [] from h] at hj; cases hj
    | some .x, h => rw [show J i = [] from h] at hj; cases hj
    | some (.d v), h => rw [h.1] at hj; cases hj
    | some (.b v), h => rw [h.1] at hj; cases hj
    | some (.l p xs), ⟨j, e1, _⟩ => rw [e1] at hj; cases hj
    | some (.k p q), ⟨b, a, e1, _⟩ => rw [e1] at hj; cases hj
    | some (.m v), ⟨k, e1, _⟩ => rw [e1] at hj; cases hj
    | some (.n v), h => rw [h.1] at hj; cases hj
    | some (.u v), h => rw [h.1] at hj; cases hj
    | some (.t p v), _ => trivial
  | k xs =>
    obtain ⟨b', a', hj, hk⟩ := hh
    match v, h with
    | none, h => rw [show J i = [] from h] at hj; cases hj
    | some .x, h => rw [show J i = [] from h] at hj; cases hj
    | some (.d v), h => rw [h.1] at hj; cases hj
    | some (.b v), h => rw [h.1] at hj; cases hj
    | some (.l p xs), ⟨j, e1, _⟩ => rw [e1] at hj; cases hj
    | some (.k p q), _ => trivial
    | some (.m v), ⟨k, e1, _⟩ => rw [e1] at hj; cases hj; exact absurd hk.ab (Nat.lt_irrefl _)
    | some (.n v), h => rw [h.1] at hj; cases hj
    | some (.u v), h => rw [h.1] at hj; cases hj
    | some (.t p v), ⟨k, ks, e1, _⟩ => rw [e1] at hj; cases hj
/-- a slot's places ahead of the frame are its pinned ones -/
theorem SlotOk.pinned {i : Nat} {js : List Nat} {e : Option (Option W)} {v : Option PV} (h : SlotOk fr m i js e v) : ∀ j ∈ js, j < fr.m0.length → fr.pin i = js := by
  intro j hj hl
  match v, h with
  | none, h => rw [show js = [] from h] at hj; cases hj
  | some .x, h => rw [show js = [] from h] at hj; cases hj
  | some (.d v), h => rw [h.1] at hj; cases hj
  | some (.b v), h => rw [h.1] at hj; cases hj
  | some (.l p xs), ⟨k, e1, e2, e3, e4⟩ =>
    rcases e4 with ⟨_, e4⟩ | ⟨_, e4⟩
    · rw [e4, e1]
    · rw [e1] at hj
      rw [List.mem_singleton.mp hj] at hl
      omega
  | some (.k p q), ⟨b, a, e1, e2, e3, e4⟩ =>
    have := e3.ab
    rcases e4 with ⟨_, e4⟩ | ⟨_, e4⟩
    · rw [e4, e1]
    · rw [e1] at hj
      rcases List.mem_cons.mp hj with rfl | hj
      · omega
      · rw [List.mem_singleton.mp hj] at hl; omega
  | some (.m kvs), ⟨k, e1, e2, e3, e4⟩ =>
    rw [e1] at hj
    have : j = k := by simpa using hj
    omega
  | some (.n v), h => rw [h.1] at hj; cases hj
  | some (.u v), h => rw [h.1] at hj; cases hj
  | some (.t p kvs), ⟨k, ks, e1, e2, e3, e4⟩ =>
    rcases e4 with ⟨_, e4⟩ | ⟨_, e4⟩
    · exact e4
    · have := e4 j hj; omega
theorem Rel.keep (R : Rel fr ρ env m) {J : Nat → List Nat} {rs : List Nat} (hJ : ∀ i, SlotOk fr m i (J i) env[i]? ρ[i]?) (k : Keep m m' J rs) : fr.m0.length ≤ m'.length ∧ (∀ j, j < fr.m0.length → (∀ i, j ∉ fr.pin i) → m'[j]? = fr.m0[j]?) ∧ (∀ (i j : Nat), j ∈ fr.pin i → ∀ o : O, m'[j]? = some o → ∃ i', j ∈ fr.pin i' ∧ okJ (fr.pin i') o = true) ∧ (∀ (j : Nat) (o : O), fr.m0.length ≤ j → m'[j]? = some o → okO m'.length o = true) := by
  have go : ∀ (j : Nat) (o : O), m'[j]? = some o → (∃ i ∈ rs, j ∈ J i ∧ okJ (J i) o = true) ∨ m[j]? = some o := fun j o e => by
    by_cases hp : ∃ i ∈ rs, j ∈ J i
    · obtain ⟨i, hi, hj⟩ := hp
      exact .inl ⟨i, hi, hj, k.dn i hi j hj o e⟩
    · exact .inr (by rw [← k.get j fun i hi hj => hp ⟨i, hi, hj⟩]; exact e)
  refine ⟨by rw [k.len]; exact R.len, fun j h1 h2 => ?_, fun i j hj o e => ?_, fun j o hj e => ?_⟩
  · rw [k.get j fun i hi hj => ?_]
    · exact R.fix j h1 h2
    · rcases (hJ i).own j hj with z | z
      · exact h2 i z
      · omega
  · rcases go j o e with ⟨i', _, hj', z⟩ | z
    · have hl := R.pok i j hj
      have e1 := (hJ i').pinned j hj' hl
      exact ⟨i', by rw [e1]; exact hj', by rw [e1]; exact z⟩
    · exact R.cp i j hj o z
  · have hl := (List.getElem?_eq_some_iff.mp e).1
    rcases go j o e with ⟨i', _, hj', z⟩ | z
    · exact okJ.le z fun j' hj2 => by rw [k.len]; exact (hJ i').lt j' hj2
    · rw [k.len]
      exact R.cn j o hj z
theorem re_call {F : FF} {ks : List PK} {ss : List Nat} {Q : GFn} {h : AF} {k : GAx} (hF : SpG F s Q) (ha : RA ss ms h k) (hl : lvOk ks ss = true := by rfl) : RE s ms (eCallF F h) (gCall ms ks Q k) := by
  intro γ fr ρ env m K R nb
  refine APost.bind nb (ha γ fr ρ env m _ R nb) fun ws m1 vs ρ1 R1 h1 a1 nb1 => ?_
  cases ok : refsOk ms ks vs with
  | false => rw [ok] at nb1; exact absurd rfl nb1
  | true =>
    rw [ok] at nb1
    dsimp only at nb1 ⊢
    obtain ⟨J, hd, hJ⟩ := R1.ex
    simp only [refsOk, Bool.and_eq_true] at ok
    obtain ⟨⟨ok1, ok2⟩, ok3⟩ := ok
    obtain ⟨avs, e1, e2, e4, e3⟩ := avs_ok R1 hd hJ hl h1 nb1
    rw [e1] at nb1 ⊢
    have hA := e3 (mrefs avs) (fun i hi hi' => by
      rw [e2] at hi'
      have := List.all_eq_true.mp ok3 i hi
      simp only [Bool.not_eq_true', List.contains_eq_mem, decide_eq_false_iff_not] at this
      exact this hi')
    simp only [callM, e4, if_true]
    rcases hF γ m1 ws avs J _ R1.cm hA (by rw [e2]; exact nodupB_iff ok2) (fun i _ i' _ j => hd i i' j) nb1 with ⟨w, m2, x, us, f1, f2, f3, f4, f5, f6⟩ | ⟨e, m2, f1, f2, f3⟩
    · rw [f1, f3]
      have ag : Ag ms ρ1 (upds ρ1 us) := upds_ag us (Ag.refl _ _) (by rw [f4, e2]; exact ok1)
      refine .inl ⟨w, m2, .v x, upds ρ1 us, rfl, ?_, f2 fr, rfl, ag⟩
      obtain ⟨k1, k2, k3, k4⟩ := R1.keep hJ f6
      refine ⟨R1.pok, k1, k2, R1.c0, k3, k4, by rw [upds_length]; exact R1.el, J, hd, ?_⟩
      refine upds_slots (m := m1) us (by rw [f4, e2]; exact nodupB_iff ok2) f5 (fun i hi => ?_) (fun i hi => hJ i) (fun u hu => has_kind (hJ u.1) (f5 u hu))
      refine (hJ i).mem fun j hj => f6.get j fun i' hi' hj' => ?_
      have := hd i i' j hj hj'
      subst this
      exact hi (by rw [f4]; exact hi')
    · rw [f1, f2]
      refine .inr ⟨e, m2, rfl, rfl, ?_⟩
      obtain ⟨k1, k2, k3, k4⟩ := R1.keep hJ f3
      refine ⟨R1.pok, k1, k2, R1.c0, k3, k4, by rw [wip_length]; exact R1.el, fun i => if isM ms i = true then [] else J i, fun i i' j h1 h2 => ?_, fun i => ?_⟩
      · dsimp only at h1 h2
        split at h1
        · cases h1
        · split at h2
          · cases h2
          · exact hd i i' j h1 h2
      · dsimp only
        rw [wip_get]
        by_cases q : isM ms i = true
        · rw [if_pos q, if_pos q]
          cases ρ1[i]? <;> exact (rfl : ([] : List Nat) = [])
        · rw [if_neg q, if_neg q]
          refine (hJ i).mem fun j hj => f3.get j fun i' hi' hj' => ?_
          have := hd i i' j hj hj'
          subst this
          rw [e2] at hi'
          exact q (allIn_get ok1 i hi')
/-! ### a def by its body -/
def initV : AV → PV
  | .d x => .d x
  | .b xs => .b xs
  | .l _ xs => .l true xs
  | .k _ q => .k true q
  | .n kvs => .n kvs
  | .t _ kvs => .t true kvs
  | .u kvs => .u kvs
def init0 (N : Nat) (avs : List AV) : List PV := avs.map initV ++ List.replicate (N - avs.length) .x
def aref : AV → Option Nat
  | .l i _ => some i
  | .k i _ => some i
  | .t i _ => some i
  | _ => none
theorem mrefs_fm : ∀ avs : List AV, mrefs avs = avs.filterMap aref
  | [] => rfl
  | .d _ :: r => by rw [List.filterMap_cons]; exact mrefs_fm r
  | .n _ :: r => by rw [List.filterMap_cons]; exact mrefs_fm r
  | .u _ :: r => by rw [List.filterMap_cons]; exact mrefs_fm r
  | .t _ _ :: r => by simp [mrefs, aref, mrefs_fm r]
  | .b _ :: r => by rw [List.filterMap_cons]; exact mrefs_fm r
  | .l _ _ :: r => by simp [mrefs, aref, mrefs_fm r]
  | .k _ _ :: r => by simp [mrefs, aref, mrefs_fm r]
theorem fm_inj {α β : Type} {f : α → Option β} : ∀ {l : List α} {a b : Nat} {x y : α} {i : β}, (l.filterMap f).Nodup → l[a]? = some x → l[b]? = some y → f x = some i → f y = some i → a = b
  | [], a, b, x, y, i, _, ha, _, _, _ => by simp at ha
  | z :: l, 0, 0, x, y, i, _, _, _, _, _ => rfl
  | z :: l, 0, b + 1, x, y, i, hn, ha, hb, hx, hy => by
    simp at ha
    subst ha
    rw [List.filterMap_cons, hx] at hn
    have := (List.nodup_cons.mp hn).1
    exact absurd (List.mem_filterMap.mpr ⟨y, List.mem_of_getElem? (by simpa using hb), hy⟩) this
  | z :: l, a + 1, 0, x, y, i, hn, ha, hb, hx, hy => by
    simp at hb
    subst hb
    rw [List.filterMap_cons, hy] at hn
    have := (List.nodup_cons.mp hn).1
    exact absurd (List.mem_filterMap.mpr ⟨x, List.mem_of_getElem? (by simpa using ha), hx⟩) this
  | z :: l, a + 1, b + 1, x, y, i, hn, ha, hb, hx, hy => by
    have hn' : (l.filterMap f).Nodup := by
      rw [List.filterMap_cons] at hn
      split at hn
      · exact hn
      · exact (List.nodup_cons.mp hn).2
    exact congrArg (· + 1) (fm_inj (l := l) hn' (by simpa using ha) (by simpa using hb) hx hy)
theorem ArgsOk.get {J : Nat → List Nat} {rs : List Nat} : ∀ {ws : List W} {avs : List AV} {a : Nat}, ArgsOk m J rs ws avs → (∀ v, avs[a]? = some v → ∃ w, ws[a]? = some w ∧ ArgOk m J rs w v)
  | _, _, _, .nil => by intro v h; simp at h
  | _, _, 0, .cons h t => by intro v e; simp at e; subst e; exact ⟨_, rfl, h⟩
  | _, _, a + 1, .cons h t => by
    intro v e
    obtain ⟨w, h1, h2⟩ := ArgsOk.get (a := a) t v (by simpa using e)
    exact ⟨w, by simpa using h1, h2⟩
theorem ArgsOk.len {J : Nat → List Nat} {rs : List Nat} : ∀ {ws : List W} {avs : List AV}, ArgsOk m J rs ws avs → ws.length = avs.length
  | _, _, .nil => rfl
  | _, _, .cons h t => by simp [t.len]
def pinOf (J : Nat → List Nat) (avs : List AV) (a : Nat) : List Nat := match (avs[a]?).bind aref with
  | some i => J i
  | none => []
theorem okO_dk {a b : Nat} {l t s : Int} {x : Bool} (h : a < b) : okO b (.dct (dk a l t s x)) = true := by
  simp [okO, dk, okW, h]
theorem rel_init {N : Nat} {J : Nat → List Nat} {ws : List W} {avs : List AV} (hcl : ∀ (j : Nat) (o : O), m[j]? = some o → okO m.length o = true) (hA : ArgsOk m J (mrefs avs) ws avs) (hn : (mrefs avs).Nodup) (hd : ∀ i ∈ mrefs avs, ∀ i' ∈ mrefs avs, ∀ j, j ∈ J i → j ∈ J i' → i = i') : Rel ⟨m, pinOf J avs⟩ (init0 N avs) (env0 N ws) m := by
  have hl := hA.len
  have mem : ∀ {a : Nat} {i : Nat}, (avs[a]?).bind aref = some i → i ∈ mrefs avs := by
    intro a i h
    rw [mrefs_fm]
    cases q : avs[a]? with
    | none => rw [q] at h; cases h
    | some v => rw [q] at h; exact List.mem_filterMap.mpr ⟨v, List.mem_of_getElem? q, h⟩
  have lt : ∀ a j, j ∈ pinOf J avs a → j < m.length := by
    intro a j hj
    unfold pinOf at hj
    cases q : avs[a]? with
    | none => rw [q] at hj; cases hj
    | some v =>
      rw [q] at hj
      obtain ⟨w, h1, h2⟩ := hA.get v q
      cases v with
      | d x => cases hj
      | b x => cases hj
      | l i xs =>
        obtain ⟨k, e1, e2, e3⟩ := h2
        have hj : j ∈ J i := hj
        rw [e2] at hj
        rw [List.mem_singleton.mp hj]
        exact (List.getElem?_eq_some_iff.mp e3).1
      | k i q =>
        obtain ⟨b, a, e1, e2, e3⟩ := h2
        have hj : j ∈ J i := hj
        have hb := (List.getElem?_eq_some_iff.mp e3.cb).1
        have := e3.ab
        rw [e2] at hj
        rcases List.mem_cons.mp hj with rfl | hj
        · exact hb
        · rw [List.mem_singleton.mp hj]; omega
      | n kvs => cases hj
      | u kvs => cases hj
      | t i kvs =>
        obtain ⟨b, kk, e1, e2, e3⟩ := h2
        have hj : j ∈ J i := hj
        rw [e2] at hj
        exact e3.lt j (by simpa using hj)
  have cp : ∀ a j, j ∈ pinOf J avs a → ∀ o : O, m[j]? = some o → ∃ i', j ∈ pinOf J avs i' ∧ okJ (pinOf J avs i') o = true := by
    intro a j hj o eo
    refine ⟨a, hj, ?_⟩
    unfold pinOf at hj ⊢
    cases q : avs[a]? with
    | none => rw [q] at hj; cases hj
    | some v =>
      rw [q] at hj
      obtain ⟨w, h1, h2⟩ := hA.get v q
      cases v with
      | d x => cases hj
      | b x => cases hj
      | l i xs =>
        obtain ⟨k, e1, e2, e3⟩ := h2
        have hj : j ∈ J i := hj
        rw [e2] at hj
        rw [List.mem_singleton.mp hj] at eo
        rw [e3] at eo
        cases eo
        rfl
      | k i q =>
        obtain ⟨b, a, e1, e2, e3⟩ := h2
        have hj : j ∈ J i := hj
        show okJ (J i) o = true
        rw [e2] at hj ⊢
        rcases List.mem_cons.mp hj with rfl | hj
        · rw [e3.cb] at eo
          cases eo
          simp [okJ, dk, okJW]
        · rw [List.mem_singleton.mp hj, e3.ca] at eo
          cases eo
          rfl
      | n kvs => cases hj
      | u kvs => cases hj
      | t i kvs =>
        obtain ⟨b, kk, e1, e2, e3⟩ := h2
        have hj : j ∈ J i := hj
        show okJ (J i) o = true
        rw [e2] at hj ⊢
        exact e3.okJ (fun i hi => by simp [hi]) j (by simpa using hj) o eo
  refine ⟨lt, Nat.le_refl _, fun j _ _ => rfl, hcl, cp, fun j o hj e => (by rw [List.getElem?_eq_none hj] at e; cases e), ?_, pinOf J avs, fun a a' j h1 h2 => ?_, fun a => ?_⟩
  · simp [init0, env0, hl]
  · unfold pinOf at h1 h2
    cases q : (avs[a]?).bind aref with
    | none => rw [q] at h1; cases h1
    | some i =>
      cases q' : (avs[a']?).bind aref with
      | none => rw [q'] at h2; cases h2
      | some i' =>
        rw [q] at h1; rw [q'] at h2
        have := hd i (mem q) i' (mem q') j h1 h2
        subst this
        rw [mrefs_fm] at hn
        cases z : avs[a]? with
        | none => rw [z] at q; cases q
        | some v =>
          cases z' : avs[a']? with
          | none => rw [z'] at q'; cases q'
          | some v' =>
            rw [z] at q; rw [z'] at q'
            exact fm_inj hn z z' q q'
  · by_cases ha : a < avs.length
    · have e1 : (init0 N avs)[a]? = (avs[a]?).map initV := by
        unfold init0
        rw [List.getElem?_append_left (by simpa using ha), List.getElem?_map]
      have e2 : (env0 N ws)[a]? = (ws[a]?).map some := by
        unfold env0
        rw [List.getElem?_append_left (by simp [hl, ha]), List.getElem?_map]
      rw [e1, e2]
      cases q : avs[a]? with
      | none => rw [List.getElem?_eq_none_iff] at q; omega
      | some v =>
        obtain ⟨w, h1, h2⟩ := hA.get v q
        rw [h1]
        have ep : pinOf J avs a = match aref v with | some i => J i | none => [] := by unfold pinOf; rw [q]; rfl
        rw [ep]
        cases v with
        | d x => exact ⟨rfl, by rw [show w = .d x from h2]; rfl⟩
        | b xs =>
          refine ⟨rfl, w, rfl, ?_⟩
          rcases h2 with h | h | ⟨j, h, hj, hi⟩
          · exact .inl h
          · exact .inr (.inl h)
          · refine .inr (.inr ⟨j, h, hj, fun a' hj' => ?_⟩)
            have hj' : j ∈ pinOf J avs a' := hj'
            unfold pinOf at hj'
            cases q' : (avs[a']?).bind aref with
            | none => rw [q'] at hj'; cases hj'
            | some i' => rw [q'] at hj'; exact hi i' (mem q') hj'
        | l i xs =>
          obtain ⟨k, e1, e2, e3⟩ := h2
          subst e1
          exact ⟨k, e2, rfl, e3, .inl ⟨rfl, by show pinOf J avs a = _; rw [ep]; exact e2⟩⟩
        | k i xs =>
          obtain ⟨b, c, e1, e2, e3⟩ := h2
          subst e1
          exact ⟨b, c, e2, rfl, e3, .inl ⟨rfl, by show pinOf J avs a = _; rw [ep]; exact e2⟩⟩
        | t i xs =>
          obtain ⟨b, c, e1, e2, e3⟩ := h2
          subst e1
          exact ⟨b, c, e2, rfl, e3, .inl ⟨rfl, by show pinOf J avs a = _; rw [ep]⟩⟩
        | u kvs =>
          obtain ⟨j, h, hj, hi⟩ := h2
          subst h
          refine ⟨rfl, j, rfl, hj, fun a' hj' => ?_⟩
          have hj' : j ∈ pinOf J avs a' := hj'
          unfold pinOf at hj'
          cases q' : (avs[a']?).bind aref with
          | none => rw [q'] at hj'; cases hj'
          | some i' => rw [q'] at hj'; exact hi i' (mem q') hj'
        | n kvs =>
          obtain ⟨j, h, hj, hi⟩ := h2
          subst h
          refine ⟨rfl, j, rfl, hj, fun a' hj' => ?_⟩
          have hj' : j ∈ pinOf J avs a' := hj'
          unfold pinOf at hj'
          cases q' : (avs[a']?).bind aref with
          | none => rw [q'] at hj'; cases hj'
          | some i' => rw [q'] at hj'; exact hi i' (mem q') hj'
    · have ep : pinOf J avs a = [] := by
        unfold pinOf
        rw [List.getElem?_eq_none (by omega)]
        rfl
      rw [ep]
      have e1 : (init0 N avs)[a]? = some .x ∨ (init0 N avs)[a]? = none := by
        unfold init0
        rw [List.getElem?_append_right (by simpa using ha), List.getElem?_replicate]
        split
        · exact .inl rfl
        · exact .inr rfl
      rcases e1 with e1 | e1 <;> rw [e1] <;> exact (rfl : ([] : List Nat) = [])
/-- a dict frozen -/
def frzV : TV → D
  | .d x => x
  | .l xs => .list xs
  | .c kvs => .dict kvs
def frzT (kvs : List (D × TV)) : List (D × D) := kvs.map fun p => (p.1, frzV p.2)
theorem views_kvN {n : Nat} {m : Mem} {f : Nat} : ∀ kvs : List (D × D), viewsM (viewM n m f) (kvN kvs) = some (kvs, [])
  | [] => rfl
  | p :: r => by
    show viewsM (viewM n m f) ((p.1, .d p.2) :: kvN r) = _
    simp only [viewsM]
    rw [views_kvN r]
    cases f <;> rfl
theorem view_ch {n : Nat} {m : Mem} {kws : List (D × W)} {kvs : List (D × TV)} {ks : List Nat} (h : ChAt m kws kvs ks) (hn : ∀ j ∈ ks, n ≤ j) (f : Nat) : viewsM (viewM n m (f + 2)) kws = some (frzT kvs, ks) := by
  induction h with
  | nil => rfl
  | d t ih =>
    simp only [viewsM]
    rw [ih hn]
    rfl
  | @l k i xs kws kvs ks e nn t ih =>
    have hi := hn i List.mem_cons_self
    have e1 : viewM n m (f + 2) (.obj i) = some (.list xs, [i]) := by
      simp only [viewM, if_neg (Nat.not_lt.mpr hi), e]
    simp only [viewsM]
    rw [e1, ih fun j hj => hn j (List.mem_cons_of_mem _ hj)]
    rfl
  | @c k i ys kws kvs ks e nn t ih =>
    have hi := hn i List.mem_cons_self
    have e1 : viewM n m (f + 2) (.obj i) = some (.dict ys, [i]) := by
      simp only [viewM, if_neg (Nat.not_lt.mpr hi), e]
      rw [views_kvN]
    simp only [viewsM]
    rw [e1, ih fun j hj => hn j (List.mem_cons_of_mem _ hj)]
    rfl
theorem view_tr {n : Nat} {m : Mem} {j : Nat} {kvs : List (D × TV)} {ks : List Nat} (h : TrAt m j kvs ks) (hn : ∀ i ∈ j :: ks, n ≤ i) : viewM n m 4 (.obj j) = some (.dict (frzT kvs), j :: ks) := by
  obtain ⟨_, kws, h2, h3⟩ := h
  have hj := hn j List.mem_cons_self
  simp only [viewM, if_neg (Nat.not_lt.mpr hj), h2]
  have := view_ch h3 (fun i hi => hn i (List.mem_cons_of_mem _ hi)) 1
  rw [this]
/-- a body run on its own -/
def retK {τ : Type} (out : D → List PV → PR τ) (v : GV) (ρ : List PV) : PR τ := match v with
  | .v x => out x ρ
  | .r i => match ρ[i]? with
    | some (.l false xs) => out (.list xs) ρ
    | some (.t false kvs) => out (.dict (frzT kvs)) ρ
    | _ => .bad
def runG {τ : Type} (g : GSx) (ρ0 : List PV) (out : D → List PV → PR τ) : PR τ := g τ ρ0 (fun ρ => out .none ρ) (fun _ => .bad) (fun _ => .bad) (fun v ρ => retK out v ρ)
def Fin1 (m' : Mem) (J : Nat → List Nat) (avs : List AV) (ρ' : List PV) : Prop := (∀ (a i : Nat) xs xs', avs[a]? = some (.l i xs) → ρ'[a]? = some (.l true xs') → Has m' J i (.l xs')) ∧ (∀ (a i : Nat) q q', avs[a]? = some (.k i q) → ρ'[a]? = some (.k true q') → Has m' J i (.k q')) ∧ (∀ (a i : Nat) q q', avs[a]? = some (.t i q) → ρ'[a]? = some (.t true q') → Has m' J i (.t q'))
def lvRet (sr s : Nat) : Bool := match sr, s with
  | 7, 2 => true
  | 8, 1 => true
  | 0, 0 => true
  | _, _ => false
theorem fin_of {N : Nat} {J : Nat → List Nat} {ws : List W} {avs : List AV} {ρ' : List PV} {env' : Env} (hd : ∀ i ∈ mrefs avs, ∀ i' ∈ mrefs avs, ∀ j, j ∈ J i → j ∈ J i' → i = i') (R : Rel ⟨m, pinOf J avs⟩ ρ' env' m') : Fin1 (m'.take m.length) J avs ρ' ∧ Keep m (m'.take m.length) J (mrefs avs) := by
  have len : m.length ≤ m'.length := R.len
  refine ⟨⟨fun a i xs xs' ha hr => ?_, fun a i q q' ha hr => ?_, fun a i q q' ha hr => ?_⟩, ⟨by rw [List.length_take]; omega, fun j hj => ?_, fun i hi j hj o e => ?_⟩⟩
  · obtain ⟨J2, hd2, hJ2⟩ := R.ex
    have z := hJ2 a
    rw [hr] at z
    obtain ⟨j, z1, z2, z3, z4 | z4⟩ := z
    · have ep : pinOf J avs a = J i := by unfold pinOf; rw [ha]; rfl
      have z5 : J i = [j] := by rw [← ep]; exact z4.2
      have lt : j < m.length := R.pok a j (by show j ∈ pinOf J avs a; rw [ep, z5]; simp)
      exact ⟨j, z5, by rw [List.getElem?_take_of_lt lt]; exact z3⟩
    · exact absurd z4.1 (by simp)
  · obtain ⟨J2, hd2, hJ2⟩ := R.ex
    have z := hJ2 a
    rw [hr] at z
    obtain ⟨b, c, z1, z2, z3, z4 | z4⟩ := z
    · have ep : pinOf J avs a = J i := by unfold pinOf; rw [ha]; rfl
      have z5 : J i = [b, c] := by rw [← ep]; exact z4.2
      have lt : b < m.length := R.pok a b (by show b ∈ pinOf J avs a; rw [ep, z5]; simp)
      have lt2 : c < m.length := R.pok a c (by show c ∈ pinOf J avs a; rw [ep, z5]; simp)
      exact ⟨b, c, z5, z3.ab, by rw [List.getElem?_take_of_lt lt2]; exact z3.ca, by rw [List.getElem?_take_of_lt lt]; exact z3.cb⟩
    · exact absurd z4.1 (by simp)
  · obtain ⟨J2, hd2, hJ2⟩ := R.ex
    have z := hJ2 a
    rw [hr] at z
    obtain ⟨b, c, z1, z2, z3, z4 | z4⟩ := z
    · have ep : pinOf J avs a = J i := by unfold pinOf; rw [ha]; rfl
      have z5 : J i = b :: b :: b :: c := by rw [← ep, ← z1]; exact z4.2
      refine ⟨b, c, z5, z3.mem fun k hk => List.getElem?_take_of_lt (R.pok a k ?_)⟩
      show k ∈ pinOf J avs a
      rw [ep, z5]
      rcases List.mem_cons.mp hk with rfl | hk
      · simp
      · simp [hk]
    · exact absurd z4.1 (by simp)
  · by_cases h : j < m.length
    · rw [List.getElem?_take_of_lt h]
      refine R.fix j h fun a ha => ?_
      have ha : j ∈ pinOf J avs a := ha
      unfold pinOf at ha
      cases q : (avs[a]?).bind aref with
      | none => rw [q] at ha; cases ha
      | some i =>
        rw [q] at ha
        refine hj i ?_ ha
        rw [mrefs_fm]
        cases z : avs[a]? with
        | none => rw [z] at q; cases q
        | some v => rw [z] at q; exact List.mem_filterMap.mpr ⟨v, List.mem_of_getElem? z, q⟩
    · rw [List.getElem?_eq_none (by rw [List.length_take]; omega), List.getElem?_eq_none (by omega)]
  · rw [mrefs_fm] at hi
    obtain ⟨v, hv, hr⟩ := List.mem_filterMap.mp hi
    obtain ⟨a, ha⟩ := List.getElem?_of_mem hv
    have hl := (List.getElem?_eq_some_iff.mp e).1
    rw [List.length_take] at hl
    rw [List.getElem?_take_of_lt (by omega)] at e
    have hp : j ∈ pinOf J avs a := by
      unfold pinOf
      rw [ha]
      show j ∈ (match aref v with | some i => J i | none => [])
      rw [hr]
      exact hj
    obtain ⟨a', h1, h2⟩ := R.cp a j hp o e
    have h1 : j ∈ pinOf J avs a' := h1
    have h2 : okJ (pinOf J avs a') o = true := h2
    unfold pinOf at h1 h2
    cases q : (avs[a']?).bind aref with
    | none => rw [q] at h1; cases h1
    | some i' =>
      rw [q] at h1 h2
      have hm : i' ∈ mrefs avs := by
        rw [mrefs_fm]
        cases z : avs[a']? with
        | none => rw [z] at q; cases q
        | some v' => rw [z] at q; exact List.mem_filterMap.mpr ⟨v', List.mem_of_getElem? z, q⟩
      have hi0 : i ∈ mrefs avs := by rw [mrefs_fm]; exact hi
      have := hd i hi0 i' hm j hj h1
      subst this
      exact h2
theorem finM_d {n : Nat} {x : D} {m : Mem} (h : clM n m = true) : finM n (.d x) m = .ok (.d x) (m.take n) := by
  unfold finM
  rw [if_pos h]
theorem finM_fl {n : Nat} {x : List D} {m : Mem} (h : clM n m = true) : finM n (.fl x) m = .ok (.fl x) (m.take n) := by
  unfold finM
  rw [if_pos h]
theorem body_run {N : Nat} {f : SF} {g : GSx} (hb : RS sr ms f g) (hs : lvRet sr s = true) {J : Nat → List Nat} {ws : List W} {avs : List AV} (hcl : ∀ (j : Nat) (o : O), m[j]? = some o → okO m.length o = true) (hA : ArgsOk m J (mrefs avs) ws avs) (hn : (mrefs avs).Nodup) (hd : ∀ i ∈ mrefs avs, ∀ i' ∈ mrefs avs, ∀ j, j ∈ J i → j ∈ J i' → i = i') {τ : Type} {out : D → List PV → PR τ} (nb : runG g (init0 N avs) out ≠ .bad) :
    (∃ w m' x ρ', runF N f ws m = .ok w m' ∧ (∀ fr, VW fr s w x) ∧ runG g (init0 N avs) out = out x ρ' ∧ Fin1 m' J avs ρ' ∧ Keep m m' J (mrefs avs)) ∨ (∃ e m', runF N f ws m = .err e m' ∧ runG g (init0 N avs) out = .err e ∧ Keep m m' J (mrefs avs)) := by
  have R0 := rel_init (N := N) hcl hA hn hd
  have h := hb τ _ _ _ m (fun ρ => out .none ρ) (fun _ => .bad) (fun _ => .bad) (fun v ρ => retK out v ρ) R0 nb
  unfold runF
  have e0 : runG g (init0 N avs) out = g τ (init0 N avs) (fun ρ => out .none ρ) (fun _ => .bad) (fun _ => .bad) (fun v ρ => retK out v ρ) := rfl
  rw [e0] at nb ⊢
  generalize f (env0 N ws) m = r at h
  cases h with
  | nx e1 m1 ρ1 h1 h2 h3 h4 =>
    obtain ⟨f1, f2⟩ := fin_of (N := N) (ws := ws) hd h1
    refine .inl ⟨.d .none, m1.take m.length, .none, ρ1, finM_d h1.cl, fun fr => ?_, h2, f1, f2⟩
    unfold lvRet at hs
    split at hs
    · exact .inl rfl
    · rfl
    · rfl
    · cases hs
  | bk e1 m1 ρ1 h1 h2 h3 h4 => exact absurd h2 nb
  | ct e1 m1 ρ1 h1 h2 h3 h4 => exact absurd h2 nb
  | err e e1 m1 h1 h2 h3 =>
    obtain ⟨f1, f2⟩ := fin_of (N := N) (ws := ws) hd h1
    exact .inr ⟨e, _, if_pos h1.cl, h2, f2⟩
  | rt w m1 v ρ1 e1 h1 h2 h3 h4 =>
    obtain ⟨f1, f2⟩ := fin_of (N := N) (ws := ws) hd h1
    rw [h3] at nb ⊢
    cases v with
    | v x =>
      have e : finM m.length w m1 = .ok w (m1.take m.length) ∧ ∀ fr, VW fr s w x := by
        unfold lvRet at hs
        split at hs
        · rcases h2 with rfl | ⟨ds, rfl, rfl⟩
          · exact ⟨finM_d h1.cl, fun _ => .inl rfl⟩
          · exact ⟨finM_fl h1.cl, fun _ => .inr ⟨ds, rfl, rfl⟩⟩
        · cases x with
          | list ds =>
            have h2 : w = .fl ds := h2
            subst h2
            exact ⟨finM_fl h1.cl, fun _ => rfl⟩
          | none => have h2 : w = .d .none := h2; subst h2; exact ⟨finM_d h1.cl, fun _ => rfl⟩
          | bool y => have h2 : w = .d (.bool y) := h2; subst h2; exact ⟨finM_d h1.cl, fun _ => rfl⟩
          | int y => have h2 : w = .d (.int y) := h2; subst h2; exact ⟨finM_d h1.cl, fun _ => rfl⟩
          | str y => have h2 : w = .d (.str y) := h2; subst h2; exact ⟨finM_d h1.cl, fun _ => rfl⟩
          | tuple y => have h2 : w = .d (.tuple y) := h2; subst h2; exact ⟨finM_d h1.cl, fun _ => rfl⟩
          | dict y => have h2 : w = .d (.dict y) := h2; subst h2; exact ⟨finM_d h1.cl, fun _ => rfl⟩
        · have h2 : w = .d x := h2
          subst h2
          exact ⟨finM_d h1.cl, fun _ => rfl⟩
        · cases hs
      exact .inl ⟨w, _, x, ρ1, e.1, e.2, rfl, f1, f2⟩
    | r i =>
      simp only [retK] at nb ⊢
      cases q : ρ1[i]? with
      | none => rw [q] at nb; exact absurd rfl nb
      | some u =>
        cases u with
        | l p xs =>
          cases p with
          | true => rw [q] at nb; exact absurd rfl nb
          | false =>
            rw [q] at nb
            dsimp only at nb ⊢
            obtain ⟨J2, hd2, hJ2⟩ := h1.ex
            have z := hJ2 i
            rw [q] at z
            obtain ⟨j, z1, z2, z3, z4 | z4⟩ := z
            · exact absurd z4.1 (by simp)
            · have hw := h2.2
              rw [z2] at hw
              cases hw
              have hj : m.length ≤ j := z4.2
              have ef : finM m.length (.obj j) m1 = .ok (.fl xs) (m1.take m.length) := by
                simp only [finM]
                rw [if_pos h1.cl, if_neg (by omega), z3]
              refine .inl ⟨.fl xs, _, .list xs, ρ1, ef, fun fr => ?_, rfl, f1, f2⟩
              unfold lvRet at hs
              split at hs
              · exact .inr ⟨xs, rfl, rfl⟩
              · rfl
              · exact absurd h2.1 (by decide)
              · cases hs
        | t p kvs =>
          cases p with
          | true => rw [q] at nb; exact absurd rfl nb
          | false =>
            rw [q] at nb
            dsimp only at nb ⊢
            obtain ⟨J2, hd2, hJ2⟩ := h1.ex
            have z := hJ2 i
            rw [q] at z
            obtain ⟨j, kk, z1, z2, z3, z4 | z4⟩ := z
            · exact absurd z4.1 (by simp)
            · have hw := h2.2
              rw [z2] at hw
              cases hw
              have hj : ∀ k ∈ j :: kk, m.length ≤ k := fun k hk => z4.2 k (by rw [z1]; rcases List.mem_cons.mp hk with rfl | hk <;> simp [*])
              have hv := view_tr z3 hj
              obtain ⟨_, kws, z5, _⟩ := z3
              have ef : finM m.length (.obj j) m1 = .ok (.d (.dict (frzT kvs))) (m1.take m.length) := by
                simp only [finM]
                rw [if_pos h1.cl, if_neg (Nat.not_lt.mpr (hj j List.mem_cons_self)), z5]
                dsimp only
                rw [hv]
              refine .inl ⟨.d (.dict (frzT kvs)), _, .dict (frzT kvs), ρ1, ef, fun fr => ?_, rfl, f1, f2⟩
              unfold lvRet at hs
              split at hs
              · exact .inl rfl
              · rfl
              · rfl
              · cases hs
        | _ => rw [q] at nb; exact absurd rfl nb
def OutAt (avs : List AV) (ρ' : List PV) (i : Nat) : UV → Prop
  | .l xs' => ∃ (a : Nat) (xs : List D), avs[a]? = some (AV.l i xs) ∧ ρ'[a]? = some (PV.l true xs')
  | .k q' => ∃ (a : Nat) (q : Dk), avs[a]? = some (AV.k i q) ∧ ρ'[a]? = some (PV.k true q')
  | .t q' => ∃ (a : Nat) (q : List (D × TV)), avs[a]? = some (AV.t i q) ∧ ρ'[a]? = some (PV.t true q')
theorem sp_fin {N : Nat} {f : SF} {g : GSx} (hb : RS sr ms f g) (hs : lvRet sr s = true) {J : Nat → List Nat} {ws : List W} {avs : List AV} (hcl : ∀ (j : Nat) (o : O), m[j]? = some o → okO m.length o = true) (hA : ArgsOk m J (mrefs avs) ws avs) (hn : (mrefs avs).Nodup) (hd : ∀ i ∈ mrefs avs, ∀ i' ∈ mrefs avs, ∀ j, j ∈ J i → j ∈ J i' → i = i') {τ γ : Type} {out : D → List PV → PR τ} {P : PR τ} {K : D → List (Nat × UV) → PR γ} {res : τ → D} {us : τ → List (Nat × UV)}
    (hP : runG g (init0 N avs) out = P) (ho : ∀ x ρ', out x ρ' ≠ .bad → ∃ t, out x ρ' = .ok t ∧ res t = x ∧ (us t).map (·.1) = mrefs avs ∧ ∀ u ∈ us t, OutAt avs ρ' u.1 u.2) (nb : (P.bind fun r => K (res r) (us r)) ≠ .bad) :
    (∃ w m' x us', runF N f ws m = .ok w m' ∧ (∀ fr, VW fr s w x) ∧ (P.bind fun r => K (res r) (us r)) = K x us' ∧ us'.map (·.1) = mrefs avs ∧ (∀ u ∈ us', Has m' J u.1 u.2) ∧ Keep m m' J (mrefs avs)) ∨ (∃ e m', runF N f ws m = .err e m' ∧ (P.bind fun r => K (res r) (us r)) = .err e ∧ Keep m m' J (mrefs avs)) := by
  have nb1 : runG g (init0 N avs) out ≠ .bad := by
    rw [hP]
    rintro rfl
    exact nb rfl
  rcases body_run hb hs hcl hA hn hd nb1 with ⟨w, m', x, ρ', h1, h2, h3, h4, h5⟩ | ⟨e, m', h1, h2, h3⟩
  · rw [h3] at nb1
    obtain ⟨t, e1, e2, e3, e4⟩ := ho x ρ' nb1
    have eP : P = .ok t := by rw [← hP, h3, e1]
    subst eP
    refine .inl ⟨w, m', x, us t, h1, h2, by rw [PR.bind_ok, e2], e3, fun u hu => ?_, h5⟩
    have := e4 u hu
    obtain ⟨i, u⟩ := u
    cases u with
    | l xs' => obtain ⟨a, xs, z1, z2⟩ := this; exact h4.1 a i xs xs' z1 z2
    | k q' => obtain ⟨a, xs, z1, z2⟩ := this; exact h4.2.1 a i xs q' z1 z2
    | t q' => obtain ⟨a, xs, z1, z2⟩ := this; exact h4.2.2 a i xs q' z1 z2
  · have eP : P = .err e := by rw [← hP, h2]
    subst eP
    exact .inr ⟨e, m', h1, rfl, h3⟩
/-! what is handed back beside the value -/
def out0 (x : D) (_ : List PV) : PR D := .ok x
def outK (a : Nat) (x : D) (ρ : List PV) : PR (D × Dk) := match ρ[a]? with
  | some (.k true xs) => .ok (x, xs)
  | _ => .bad
theorem out0_ok {avs : List AV} (h : mrefs avs = []) : ∀ x ρ', out0 x ρ' ≠ .bad → ∃ t, out0 x ρ' = .ok t ∧ id t = x ∧ ((fun (_ : D) => ([] : List (Nat × UV))) t).map (·.1) = mrefs avs ∧ ∀ u ∈ ((fun (_ : D) => ([] : List (Nat × UV))) t), OutAt avs ρ' u.1 u.2 := fun x ρ' _ => ⟨x, rfl, rfl, by rw [h]; rfl, fun u hu => nomatch hu⟩
theorem outK_ok {avs : List AV} {a i : Nat} {ys : Dk} (h : mrefs avs = [i]) (ha : avs[a]? = some (.k i ys)) : ∀ x ρ', outK a x ρ' ≠ .bad → ∃ t, outK a x ρ' = .ok t ∧ Prod.fst t = x ∧ ((fun (t : D × Dk) => [(i, UV.k t.2)]) t).map (·.1) = mrefs avs ∧ ∀ u ∈ ((fun (t : D × Dk) => [(i, UV.k t.2)]) t), OutAt avs ρ' u.1 u.2 := by
  intro x ρ' nb
  unfold outK at nb ⊢
  split at nb
  · rename_i xs q
    refine ⟨(x, xs), rfl, rfl, by rw [h]; rfl, fun u hu => ?_⟩
    have := List.mem_singleton.mp hu
    subst this
    exact ⟨a, ys, ha, q⟩
  · exact absurd rfl nb
end
end
end M
set_option Elab.async false
set_option linter.all false
set_option maxRecDepth 100000
/-! P: the deck, more operations -/
namespace M
open PySem L2
variable [HasW]
noncomputable section
section
variable {s sr : Nat} {ms : List Bool} {fa fb : EF} {ga gb : GEx}
def addSP (x y : D) : PR D := match x, y with
  | .int i, .int j => .ok (.int (i + j))
  | .str a, .str b => if a.length + b.length ≤ sizeLine then .ok (.str (a ++ b)) else .bad
  | .tuple a, .tuple b => if a.length + b.length ≤ sizeLine then .ok (.tuple (a ++ b)) else .bad
  | _, _ => .bad
/-- an object handed over -/
theorem re_objV (i : Nat) (hs : isO s = true := by rfl) : RE s ms (eObj (eVar i)) (gVarO i) := by
  intro γ fr ρ env m K R nb
  unfold gVarO at nb ⊢
  split at nb
  · rename_i p xs h
    obtain ⟨j, e, _⟩ := R.getL h
    simp only [eObj, eVar, e, Res.bind_ok]
    exact EPost.ok (v := .r i) R ⟨hs, e⟩ rfl
  · rename_i p q h
    obtain ⟨J, hd, hJ⟩ := R.ex
    have z := hJ i
    rw [h] at z
    obtain ⟨b, a, _, e, _⟩ := z
    simp only [eObj, eVar, e, Res.bind_ok]
    exact EPost.ok (v := .r i) R ⟨hs, e⟩ rfl
  · exact absurd rfl nb
/-! ### the deck -/
def mixS (q : Dk) : Int := (q.s * 48271 + q.cs.getD ((q.t + 1) % (q.cs.length : Int)).toNat 0 + (q.t + 1)) % 2147483647
def mixQ (q : Dk) : Int := (mixS q * mixS q + 7919 * (q.t + 1)) % 2147483629
def mixN (q : Dk) : Int := mixQ q * (mixQ q + 69621) % 999999999989
def plnL (q : Dk) : Int := if q.l - 1 = 0 ∧ 1 < q.cs.length then 12 else q.l - 1
def plnC (q : Dk) : List Int := if q.l - 1 = 0 ∧ 1 < q.cs.length then q.cs.tail else q.cs.headD 0 / 1000000000000 :: q.cs.tail
def nextN (q : Dk) : Int := if q.x = true then mixN q else q.cs.headD 0 % 1000000000000
theorem plnC_ne (q : Dk) : plnC q ≠ [] := by
  unfold plnC
  split
  · rename_i h
    intro z
    have := congrArg List.length z
    simp at this
    omega
  · simp
theorem plnC_le (q : Dk) : (plnC q).length ≤ 100 := by
  have h := q.le
  have h0 := List.length_pos_iff.mpr q.ne
  unfold plnC
  split
  · simp; omega
  · simp; omega
def nextQ (q : Dk) : Dk := if q.x = true then ⟨q.cs, q.l, q.t + 1, mixS q, true, q.ne, q.le, by unfold mixS; omega, by unfold mixS; omega⟩ else ⟨plnC q, plnL q, q.t, q.s, false, plnC_ne q, plnC_le q, q.s0, q.s1⟩
theorem nextN_ge (q : Dk) : 0 ≤ nextN q := by unfold nextN mixN; split <;> omega
theorem nextN_lt (q : Dk) : nextN q < 1000000000000 := by unfold nextN mixN; split <;> omega
@[irreducible] def P__law_next (q : Dk) : PR (D × Dk) := .ok (.int (nextN q), nextQ q)
theorem next_eq (q : Dk) : P__law_next q = .ok (.int (nextN q), nextQ q) := by unfold P__law_next; rfl
def deckC (ns : List Int) : List Int := ns.take 63 ++ [0]
theorem deckC_len (ns : List Int) : (deckC ns).length ≤ 64 := by unfold deckC; simp; omega
@[irreducible] def mkDeck (xs : List D) : PR Dk := match dInts xs with
  | some ns => .ok ⟨(deckC ns).headD 0 / 2 :: (deckC ns).tail, 12, 0, 1 + ((deckC ns).headD 0 / 2 :: (deckC ns).tail).sum % 2147483646, decide ((deckC ns).headD 0 % 2 = 1), by simp, by have := deckC_len ns; simp; omega, by omega, by omega⟩
  | none => .bad
def DeckOk (F : FF) : Prop := ∀ m w xs q, See m w (.list xs) → mkDeck xs = .ok q → ∃ l a b, F [w] m = .ok (.obj b) (m ++ l) ∧ m.length ≤ a ∧ DkAt (m ++ l) a b q ∧ ∀ o ∈ l, okO (m ++ l).length o = true
theorem Rel.setK {fr : Fr} {ρ : List PV} {env : Env} {m : Mem} (R : Rel fr ρ env m) (i : Nat) {q : Dk} {a b : Nat} {l : List O} (ha : m.length ≤ a) (hq : DkAt (m ++ l) a b q) (hl : ∀ o ∈ l, okO (m ++ l).length o = true) : Rel fr (ρ.set i (.k false q)) (env.set i (some (.obj b))) (m ++ l) := by
  obtain ⟨J, hd, hs⟩ := R.ex
  have lt : ∀ k, ∀ j ∈ J k, j < m.length := fun k => (hs k).lt
  have hab := hq.ab
  have hlen := R.len
  refine ⟨R.pok, by rw [List.length_append]; omega, fun j h1 h2 => by rw [List.getElem?_append_left (by omega)]; exact R.fix j h1 h2, R.c0, R.cpA _, R.cnA hl, by simpa using R.el, fun k => if k = i then (if i < ρ.length then [b, a] else []) else J k, fun k k' j h1 h2 => ?_, fun k => ?_⟩
  · dsimp only at h1 h2
    by_cases hk : k = i
    · by_cases hk' : k' = i
      · rw [hk, hk']
      · rw [if_pos hk] at h1; rw [if_neg hk'] at h2
        have := lt k' j h2
        split at h1
        · rcases List.mem_cons.mp h1 with h1 | h1
          · omega
          · have := List.mem_singleton.mp h1; omega
        · cases h1
    · by_cases hk' : k' = i
      · rw [if_neg hk] at h1; rw [if_pos hk'] at h2
        have := lt k j h1
        split at h2
        · rcases List.mem_cons.mp h2 with h2 | h2
          · omega
          · have := List.mem_singleton.mp h2; omega
        · cases h2
      · rw [if_neg hk] at h1; rw [if_neg hk'] at h2; exact hd k k' j h1 h2
  · dsimp only
    by_cases hk : k = i
    · subst hk
      rw [if_pos rfl]
      by_cases hl : k < ρ.length
      · rw [List.getElem?_set_self hl, List.getElem?_set_self (by rw [R.el]; exact hl), if_pos hl]
        exact ⟨b, a, rfl, rfl, hq, .inr ⟨rfl, by omega⟩⟩
      · have e : (ρ.set k (.k false q))[k]? = none := List.getElem?_eq_none (by simpa using hl)
        rw [if_neg hl, e]
        exact (rfl : ([] : List Nat) = [])
    · rw [if_neg hk, List.getElem?_set_ne (Ne.symm hk), List.getElem?_set_ne (Ne.symm hk)]
      exact (hs k).mem fun j hj => List.getElem?_append_left (lt k j hj)
def gsDeck (a : GEx) (i : Nat) : GSx := fun γ ρ kn kb kc kr => a γ ρ fun v ρ1 => match gres ρ1 v with
  | some z => ptl z fun xs => (mkDeck xs).bind fun q => kn (ρ1.set i (.k false q))
  | none => .bad
theorem rs_deck {F : FF} (i : Nat) (hF : DeckOk F) (ha : RE 4 ms fa ga) (hi : isM ms i = true := by rfl) : RS sr ms (sAsg (eObj (eCallF F (aCons fa aNil))) (gSet i)) (gsDeck ga i) := by
  intro γ fr ρ env m kn kb kc kr R nb
  rcases ha γ fr ρ env m _ R nb with ⟨w, m1, v, ρ1, h1, R1, h3, h4, h5⟩ | ⟨e, m1, h1, h2, h3⟩
  · have e0 : gsDeck ga i γ ρ kn kb kc kr = _ := h4
    rw [e0] at nb ⊢
    dsimp only at nb ⊢
    cases q0 : gres ρ1 v with
    | none => rw [q0] at nb; exact absurd rfl nb
    | some z =>
      rw [q0] at nb
      dsimp only at nb ⊢
      have hsee := R1.see h3 q0
      cases z with
      | list xs =>
        rw [ptl_list] at nb ⊢
        cases q1 : mkDeck xs with
        | bad => rw [q1] at nb; exact absurd rfl nb
        | err e =>
          unfold mkDeck at q1
          split at q1 <;> cases q1
        | ok q =>
          obtain ⟨l, a, b, f1, f2, f3, f4⟩ := hF m1 w xs q hsee q1
          have hfl : noFl [w] = true := by
            cases v with
            | v x =>
              rcases h3 with rfl | ⟨ds, e, rfl | rfl | ⟨j, rfl, _⟩⟩ <;> rfl
            | r k =>
              have hw := h3.2
              unfold gres at q0
              dsimp only at q0
              split at q0
              · rename_i qk
                obtain ⟨j, z1, z2⟩ := R1.getL qk
                rw [z1] at hw
                cases hw
                rfl
              · cases q0
          simp only [sAsg, eObj, eCallF, aCons, aNil, h1, Res.bind_ok, callM, hfl, if_true, f1, eS_ok, asgK, gSet, PR.bind_ok]
          exact .nx _ _ (ρ1.set i (.k false q)) (R1.setK i f2 f3 f4) rfl (h5.trans (Ag.set hi)) (AgE.set hi)
      | _ => exact absurd rfl nb
  · simp only [sAsg, eObj, eCallF, aCons, aNil, h1, Res.bind_err, eS_err]
    exact .err e env m1 h3 h2 (AgE.refl _ _)
/-! ### the law -/
theorem law_of {F : FF} {Q : GFn} {P : List D → PR D} (h : SpG F 2 Q) (hQ : ∀ xs, Q D [.b xs] (fun x _ => .ok x) = (P xs).bind fun x => .ok x) (hP : ∀ ns : List Int, ns.length ≤ 63 → P (ns.map .int) = .ok (.bool true)) : ∀ ns : List Int, ns.length ≤ 63 → ∃ m, F [.ro (ns.map .int)] [] = .ok (.d (.bool true)) m := by
  intro ns hn
  have e : Q D [.b (ns.map .int)] (fun x _ => .ok x) = .ok (.bool true) := by rw [hQ, hP ns hn]; rfl
  rcases h D [] [.ro (ns.map .int)] [.b (ns.map .int)] (fun _ => []) (fun x _ => .ok x) (by simp) (.cons (.inr (.inl rfl)) .nil) (by simp [mrefs]) (by simp [mrefs]) (by rw [e]; intro z; cases z) with ⟨w, m', x, us, h1, h2, h3, _⟩ | ⟨ex, m', h1, h2, h3⟩
  · rw [e] at h3
    cases h3
    have hw : w = .d (.bool true) := by
      rcases h2 ⟨[], fun _ => []⟩ with h | ⟨ds, z, _⟩
      · exact h
      · cases z
    subst hw
    exact ⟨m', h1⟩
  · rw [e] at h2; cases h2
end
end
end M
set_option Elab.async false
set_option linter.all false
set_option maxRecDepth 100000
/-! P: laws of the operations, for the plain part -/
namespace M
open PySem L2
variable [HasW]
@[simp] theorem okC_nil : okC [] = true := rfl
@[simp] theorem okC_cons (c : Nat) (l : List Nat) : okC (c :: l) = (decide (c < 0x110000) && okC l) := rfl
section
variable {i j : Int} {n : Bool} {a b : List Nat} {x y : D} {ds es : List D}
@[simp] theorem addP_int : addP (.int i) (.int j) = .ok (.int (i + j)) := rfl
@[simp] theorem addSP_int : addSP (.int i) (.int j) = .ok (.int (i + j)) := rfl
@[simp] theorem addIP_int : addIP (.int i) (.int j) = .ok (.int (i + j)) := rfl
@[simp] theorem subP_int : subP (.int i) (.int j) = .ok (.int (i - j)) := rfl
@[simp] theorem negP_int : negP (.int i) = .ok (.int (-i)) := rfl
@[simp] theorem ltP_int : ltP (.int i) (.int j) = .ok (.bool (decide (i < j))) := rfl
@[simp] theorem leP_int : leP (.int i) (.int j) = .ok (.bool (decide (i ≤ j))) := rfl
@[simp] theorem gtP_int : gtP (.int i) (.int j) = .ok (.bool (decide (j < i))) := rfl
@[simp] theorem geP_int : geP (.int i) (.int j) = .ok (.bool (decide (j ≤ i))) := rfl
@[simp] theorem modP_s (h : 0 < j) : modP (.int i) (.int j) = .ok (.int (i % j)) := by
  show (if modOk i j = true then _ else _) = _
  rw [if_pos (show modOk i j = true from grd_t h)]
@[simp] theorem divP_s (h : 0 < j) (h' : j < 18446744073709551616) : divP (.int i) (.int j) = .ok (.int (i / j)) := by
  show (if divOk i j = true then _ else _) = _
  rw [if_pos]
  refine grd_t ⟨h, ?_⟩
  have h2 : j.natAbs < 2 ^ 64 := by omega
  have := PySem.Flt.log2_lt_of (show 0 < 64 by decide) h2
  omega
theorem addP_list (h : ds.length + es.length ≤ sizeLine) : addP (.list ds) (.list es) = .ok (.list (ds ++ es)) := by
  show (if _ then _ else _) = _
  rw [if_pos h]
theorem addP_str (h : a.length + b.length ≤ sizeLine) : addP (.str (S a)) (.str (S b)) = .ok (.str (S (a ++ b))) := by
  show (if (S a).length + (S b).length ≤ sizeLine then _ else _) = _
  rw [if_pos (show (S a).length + (S b).length ≤ sizeLine from h), S_app]
@[simp] theorem eqP_int : eqP n (.int i) (.int j) = .ok (.bool (ngB n (decide (i = j)))) := by
  unfold eqP
  simp only [shaped_int, Bool.and_self, if_true, eqv_int]
  rfl
@[simp] theorem eqP_str (ha : okC a = true) (hb : okC b = true) : eqP n (.str (S a)) (.str (S b)) = .ok (.bool (ngB n (decide (a = b)))) := by
  unfold eqP
  simp only [shaped_str, ha, hb, Bool.and_self, if_true, eqv_str, S_beq]
  rfl
@[simp] theorem ngB_f (b : Bool) : ngB false b = b := rfl
@[simp] theorem ngB_t (b : Bool) : ngB true b = !b := rfl
theorem inP_tup (h : (flatD x && ds.all flatD) = true) : inP n x (.tuple ds) = .ok (.bool (ngB n (ds.any fun z => PyData.eqv z x))) := by
  unfold inP
  split
  · rename_i e; cases e
  · rename_i e; cases e; rw [if_pos h]
  · rename_i e; cases e
  · rename_i q1 q2 q3; first | exact absurd rfl (q1 ds) | exact absurd rfl (q2 ds) | exact absurd rfl (q3 ds)
theorem inP_list (h : (SeqAt.shaped x && SeqAt.shaped (.list ds)) = true) : inP n x (.list ds) = .ok (.bool (ngB n (ds.any fun z => PyData.eqv z x))) := by
  unfold inP
  split
  · rename_i e; cases e
  · rename_i e; cases e
  · rename_i e; cases e; rw [if_pos h]
  · rename_i q1 q2 q3; first | exact absurd rfl (q3 ds) | exact absurd rfl (q2 ds) | exact absurd rfl (q1 ds)
@[simp] theorem lenP_list : lenP [.list ds] = .ok (.int (ds.length : Int)) := rfl
@[simp] theorem lenP_tup : lenP [.tuple ds] = .ok (.int (ds.length : Int)) := rfl
theorem lenP_str (h : a.length ≤ sizeLine) : lenP [.str (S a)] = .ok (.int (a.length : Int)) := by
  show (if (S a).length ≤ sizeLine then _ else _) = _
  rw [if_pos (show (S a).length ≤ sizeLine from h)]; rfl
@[simp] theorem itemsP_list : itemsP (.list ds) = .ok ds := rfl
@[simp] theorem itemsP_tup : itemsP (.tuple ds) = .ok ds := rfl
@[simp] theorem isNP_nn : isNP n .none .none = .ok (.bool (ngB n true)) := rfl
@[simp] theorem isNP_tup : isNP n (.tuple ds) .none = .ok (.bool (ngB n false)) := rfl
@[simp] theorem isNP_list : isNP n (.list ds) .none = .ok (.bool (ngB n false)) := rfl
@[simp] theorem isNP_int : isNP n (.int i) .none = .ok (.bool (ngB n false)) := rfl
@[simp] theorem isNP_str (z : Str) : isNP n (.str z) .none = .ok (.bool (ngB n false)) := rfl
@[simp] theorem isBP_b (p q : Bool) : isBP n (.bool p) (.bool q) = .ok (.bool (ngB n (decide (p = q)))) := rfl
theorem ixP_tup {c : D} (h : L2.atI ds i = some c) : ixP (.tuple ds) (.int i) = .ok c := by
  show (match L2.atI ds i with | some c => PR.ok c | none => .bad) = _
  rw [h]
theorem ixP_list {c : D} (h : L2.atI ds i = some c) : ixP (.list ds) (.int i) = .ok c := by
  show (match L2.atI ds i with | some c => PR.ok c | none => .bad) = _
  rw [h]
theorem ixP_str {l : List Nat} {c : Nat} (hl : l.length ≤ sizeLine) (h : L2.atI l i = some c) : ixP (.str (S l)) (.int i) = .ok (.str (S [c])) := by
  show (if (S l).length ≤ sizeLine then (match L2.atI (S l).cps.toList i with | some c => PR.ok (PyData.str ⟨#[c]⟩) | none => .bad) else .bad) = _
  rw [if_pos (show (S l).length ≤ sizeLine from hl), S_cps, h]
  rfl
@[simp] theorem slP_tup {lo hi : Option Int} : slP (.tuple ds) lo hi = .ok (.tuple (cutD ds lo hi)) := rfl
@[simp] theorem slP_list {lo hi : Option Int} : slP (.list ds) lo hi = .ok (.list (cutD ds lo hi)) := rfl
theorem mk_ok (ns : List Int) : ∃ q, mkDeck (ns.map .int) = .ok q := by
  have : dInts (ns.map PyData.int) = some ns := by
    induction ns with
    | nil => rfl
    | cons n ns ih => rw [List.map_cons, dInts, ih]; rfl
  unfold mkDeck
  rw [this]
  exact ⟨_, rfl⟩
theorem nxt (q : Dk) : ∃ (a : Nat) (q' : Dk), a < 1000000000000 ∧ P__law_next q = .ok (.int (a : Int), q') := by
  have h0 := nextN_ge q
  have h1 := nextN_lt q
  exact ⟨(nextN q).toNat, nextQ q, by omega, by rw [next_eq]; congr 3; omega⟩
@[simp] theorem ixP_t0 (a : D) : ixP (.tuple (a :: ds)) (.int 0) = .ok a := ixP_tup (by simp)
@[simp] theorem ixP_t1 (a b : D) : ixP (.tuple (a :: b :: ds)) (.int 1) = .ok b := ixP_tup (by simp)
@[simp] theorem ixP_t2 (a b c : D) : ixP (.tuple (a :: b :: c :: ds)) (.int 2) = .ok c := ixP_tup (by simp)
@[simp] theorem ixP_l0 (a : D) : ixP (.list (a :: ds)) (.int 0) = .ok a := ixP_list (by simp)
@[simp] theorem ixP_l1 (a b : D) : ixP (.list (a :: b :: ds)) (.int 1) = .ok b := ixP_list (by simp)
@[simp] theorem intP1_b (b : Bool) : intP1 [.bool b] = .ok (.int (if b then 1 else 0)) := rfl
@[simp] theorem intP1_i : intP1 [.int i] = .ok (.int i) := rfl
@[simp] theorem appendP_s (y : D) (h : ds.length < sizeLine) : appendP ds [y] = .ok (.none, ds ++ [y]) := by
  show (if _ then _ else _) = _
  rw [if_pos h]
@[simp] theorem clearP_s : clearP ds [] = .ok (.none, []) := rfl
theorem rng1P_s (h : -1000000 ≤ j) (h' : j ≤ 1000000) : rng1P [.int j] = .ok ((List.range j.toNat).map fun (k : Nat) => .int (k : Int)) := by
  have e : smallI j = true := grd_t ⟨by omega, by omega⟩
  show (if smallI j = true then _ else _) = _
  rw [if_pos e]
  simp
@[simp] theorem pisi_b {γ : Type} (ts : List Tk) (b : Bool) (k : D → PR γ) : pisi ts (.bool b) k = k (.bool (ts.any fun u => Tk.bl.sub u)) := rfl
@[simp] theorem pisi_i {γ : Type} (ts : List Tk) (k : D → PR γ) : pisi ts (.int i) k = k (.bool (ts.any fun u => Tk.int.sub u)) := rfl
@[simp] theorem pisi_s {γ : Type} (ts : List Tk) (z : Str) (k : D → PR γ) : pisi ts (.str z) k = k (.bool (ts.any fun u => Tk.str.sub u)) := rfl
@[simp] theorem pisi_t {γ : Type} (ts : List Tk) (k : D → PR γ) : pisi ts (.tuple ds) k = k (.bool (ts.any fun u => Tk.tup.sub u)) := rfl
@[simp] theorem pisi_l {γ : Type} (ts : List Tk) (k : D → PR γ) : pisi ts (.list ds) k = k (.bool (ts.any fun u => Tk.lst.sub u)) := rfl
@[simp] theorem pisi_n {γ : Type} (ts : List Tk) (k : D → PR γ) : pisi ts .none k = k (.bool (ts.any fun u => Tk.non.sub u)) := rfl
@[simp] theorem ptt_b {γ : Type} (b : Bool) (k : Bool → PR γ) : ptt (.bool b) k = k b := rfl
end
/-! ### loops -/
section
variable {σ γ : Type}
@[simp] theorem foldK_nil (step : D → σ → (σ → PR γ) → (σ → PR γ) → PR γ) (s : σ) (k : σ → PR γ) : foldK step [] s k = k s := rfl
theorem foldK_cons (step : D → σ → (σ → PR γ) → (σ → PR γ) → PR γ) (x : D) (xs : List D) (s : σ) (k : σ → PR γ) : foldK step (x :: xs) s k = step x s (fun s' => foldK step xs s' k) k := rfl
theorem foldK_inv {step : D → σ → (σ → PR γ) → (σ → PR γ) → PR γ} (I : Nat → σ → Prop) : ∀ {xs : List D} {i : Nat} {s : σ} {k : σ → PR γ}, (∀ m x s, xs[m]? = some x → I (i + m) s → ∃ s', I (i + m + 1) s' ∧ ∀ kn kb, step x s kn kb = kn s') → I i s → ∃ s', I (i + xs.length) s' ∧ foldK step xs s k = k s'
  | [], i, s, k, _, h0 => ⟨s, h0, rfl⟩
  | x :: xs, i, s, k, h, h0 => by
    obtain ⟨s1, h1, h2⟩ := h 0 x s rfl h0
    obtain ⟨s2, h3, h4⟩ := foldK_inv (step := step) I (xs := xs) (i := i + 1) (s := s1) (k := k) (fun m y t hm ht => by
      obtain ⟨t', q1, q2⟩ := h (m + 1) y t (by simpa using hm) (by rw [show i + (m + 1) = i + 1 + m by omega]; exact ht)
      exact ⟨t', by rw [show i + 1 + m + 1 = i + (m + 1) + 1 by omega]; exact q1, q2⟩) h1
    exact ⟨s2, by rw [List.length_cons, show i + (xs.length + 1) = i + 1 + xs.length by omega]; exact h3, by rw [foldK_cons, h2]; exact h4⟩
theorem whileK_inv {step : σ → (σ → PR γ) → (σ → PR γ) → PR γ} (I : Nat → σ → Prop) (Z : σ → Prop) (h : ∀ m s, I m s → (∃ s', Z s' ∧ ∀ kn kb, step s kn kb = kb s') ∨ (∃ m' s', m' < m ∧ I m' s' ∧ ∀ kn kb, step s kn kb = kn s')) : ∀ {n m : Nat} {s : σ} {k : σ → PR γ}, I m s → m < n → ∃ s', Z s' ∧ whileK step n s k = k s'
  | 0, m, s, k, _, hn => absurd hn (Nat.not_lt_zero _)
  | n + 1, m, s, k, hi, hn => by
    have e : whileK step (n + 1) s k = step s (fun s' => whileK step n s' k) k := rfl
    rcases h m s hi with ⟨s', hz, q⟩ | ⟨m', s', hm, hi', q⟩
    · exact ⟨s', hz, by rw [e, q]⟩
    · obtain ⟨s2, h1, h2⟩ := whileK_inv (step := step) I Z h (n := n) (k := k) hi' (by omega)
      exact ⟨s2, h1, by rw [e, q]; exact h2⟩
end
end M
set_option Elab.async false
set_option linter.all false
set_option maxRecDepth 100000
/-! P: exceptions -/
namespace M
open PySem L2
variable [HasW]
noncomputable section
inductive TO (σ : Type) where
  | nx (s : σ)
  | rt (x : D) (s : σ)
def toK {σ γ : Type} (o : TO σ) (k : σ → PR γ) (r : D → σ → PR γ) : PR γ := match o with
  | .nx s => k s
  | .rt x s => r x s
@[simp] theorem toK_nx {σ γ : Type} (s : σ) (k : σ → PR γ) (r : D → σ → PR γ) : toK (.nx s) k r = k s := rfl
@[simp] theorem toK_rt {σ γ : Type} (x : D) (s : σ) (k : σ → PR γ) (r : D → σ → PR γ) : toK (.rt x s) k r = r x s := rfl
def tryK {σ γ : Type} (tab : Str → Option Bool) (b h : PR (TO σ)) (k : TO σ → PR γ) : PR γ := match b with
  | .ok o => k o
  | .err e => (match tab e.cls with
    | some true => lcN h k
    | some false => .err e
    | none => .bad)
  | .bad => .bad
@[simp] theorem tryK_ok {σ γ : Type} (tab : Str → Option Bool) (o : TO σ) (h : PR (TO σ)) (k : TO σ → PR γ) : tryK tab (.ok o) h k = k o := rfl
end
end M
set_option Elab.async false
set_option linter.all false
set_option maxRecDepth 100000
/-! P: a new list handed over to a def that changes it -/
namespace M
open PySem L2
variable [HasW]
noncomputable section
theorem addAW_list {m : Mem} {w1 w2 : W} {a b : List D} (h1 : See m w1 (.list a)) (h2 : See m w2 (.list b)) : addAW w1 w2 m = if a.length + b.length ≤ sizeLine then .ok (.fl (a ++ b)) m else .bad := by
  have e1 := see_asL h1
  have e2 := see_asL h2
  rcases h1 with rfl | ⟨es, e, rfl | rfl | ⟨j, rfl, hj⟩⟩ <;> rcases h2 with rfl | ⟨fs, e', rfl | rfl | ⟨k, rfl, hk⟩⟩ <;> simp [addAW, e1, e2]
theorem addAP_ok : OpP 3 1 addAW addP := by
  intro m w1 w2 x y h1 h2
  replace h1 : See m w1 x := h1
  replace h2 : See m w2 y := h2
  unfold addP
  split
  · rw [see_flat h1 (by intro ds e; cases e), see_flat h2 (by intro ds e; cases e)]
    exact ⟨_, rfl, fun _ => rfl⟩
  · rw [see_flat h1 (by intro ds e; cases e), see_flat h2 (by intro ds e; cases e)]
    split
    · rename_i h; exact ⟨_, by simp only [addAW]; rw [if_pos h], fun _ => rfl⟩
    · trivial
  · rw [see_flat h1 (by intro ds e; cases e), see_flat h2 (by intro ds e; cases e)]
    split
    · rename_i h; exact ⟨_, by simp only [addAW]; rw [if_pos h], fun _ => rfl⟩
    · trivial
  · rw [addAW_list h1 h2]
    split
    · exact ⟨_, rfl, fun _ => rfl⟩
    · trivial
  · trivial
theorem addASP_ok : OpP 3 0 addAW addSP := by
  intro m w1 w2 x y h1 h2
  replace h1 : See m w1 x := h1
  replace h2 : See m w2 y := h2
  unfold addSP
  split
  · rw [see_flat h1 (by intro ds e; cases e), see_flat h2 (by intro ds e; cases e)]
    exact out_d
  · rw [see_flat h1 (by intro ds e; cases e), see_flat h2 (by intro ds e; cases e)]
    split
    · rename_i h
      simp only [addAW]
      rw [if_pos h]
      exact out_d
    · trivial
  · rw [see_flat h1 (by intro ds e; cases e), see_flat h2 (by intro ds e; cases e)]
    split
    · rename_i h
      simp only [addAW]
      rw [if_pos h]
      exact out_d
    · trivial
  · trivial
section
variable {s : Nat} {ms : List Bool} {fa : EF} {ga : GEx}
theorem Ag.nil {ρ ρ' : List PV} (a : Ag [] ρ ρ') : ρ' = ρ := by
  apply List.ext_getElem?
  intro i
  exact a.get i rfl
theorem ArgsOk.some {m : Mem} {J : Nat → List Nat} {rs : List Nat} : ∀ {ws : List W} {avs : List AV}, ArgsOk m J rs ws avs → ∀ i ∈ mrefs avs, J i ≠ []
  | _, _, .nil, i, hi => nomatch hi
  | w :: ws, .d x :: as, .cons h t, i, hi => ArgsOk.some t i hi
  | w :: ws, .b x :: as, .cons h t, i, hi => ArgsOk.some t i hi
  | w :: ws, .n x :: as, .cons h t, i, hi => ArgsOk.some t i hi
  | w :: ws, .u x :: as, .cons h t, i, hi => ArgsOk.some t i hi
  | w :: ws, .t k x :: as, .cons h t, i, hi => by
    rcases List.mem_cons.mp hi with rfl | hi
    · obtain ⟨b, a, e, q1, q2⟩ := h; rw [q1]; simp
    · exact ArgsOk.some t i hi
  | w :: ws, .l k x :: as, .cons h t, i, hi => by
    rcases List.mem_cons.mp hi with rfl | hi
    · obtain ⟨j, e, q1, q2⟩ := h; rw [q1]; simp
    · exact ArgsOk.some t i hi
  | w :: ws, .k k x :: as, .cons h t, i, hi => by
    rcases List.mem_cons.mp hi with rfl | hi
    · obtain ⟨b, a, e, q1, q2⟩ := h; rw [q1]; simp
    · exact ArgsOk.some t i hi
end
end
end M
set_option Elab.async false
set_option linter.all false
set_option maxRecDepth 100000
/-! P: further laws of the operations, for the plain part -/
namespace M
open PySem L2
variable [HasW]
section
variable {σ γ : Type}
theorem lcK_mapE {α : Type} {b : D → σ → PR (Option D × σ)} {e : α → D} {f : α → D} {s : σ} {k : List D → σ → PR γ} : ∀ {xs : List α} {acc : List D}, (∀ x ∈ xs, b (e x) s = .ok (some (f x), s)) → acc.length + xs.length ≤ sizeLine → lcK b (xs.map e) s acc k = k (acc ++ xs.map f) s
  | [], acc, _, _ => by simp [lcK]
  | x :: xs, acc, h, hl => by
    rw [List.length_cons] at hl
    have q : lcK b ((x :: xs).map e) s acc k = lcN (b (e x) s) fun r => lcO acc r.1 fun acc' => lcK b (xs.map e) r.2 acc' k := rfl
    rw [q, h x List.mem_cons_self, lcN_ok]
    show (if acc.length < sizeLine then _ else _) = _
    rw [if_pos (by omega), lcK_mapE (fun y hy => h y (List.mem_cons_of_mem _ hy)) (by rw [List.length_append, List.length_singleton]; omega)]
    simp
theorem lcK_fmE {α : Type} {b : D → σ → PR (Option D × σ)} {e : α → D} {f : α → Option D} {s : σ} {k : List D → σ → PR γ} : ∀ {xs : List α} {acc : List D}, (∀ x ∈ xs, b (e x) s = .ok (f x, s)) → acc.length + xs.length ≤ sizeLine → lcK b (xs.map e) s acc k = k (acc ++ xs.filterMap f) s
  | [], acc, _, _ => by simp [lcK]
  | x :: xs, acc, h, hl => by
    rw [List.length_cons] at hl
    have q0 : lcK b ((x :: xs).map e) s acc k = lcN (b (e x) s) fun r => lcO acc r.1 fun acc' => lcK b (xs.map e) r.2 acc' k := rfl
    rw [q0, h x List.mem_cons_self, lcN_ok]
    cases q : f x with
    | none =>
      show lcK b (xs.map e) s acc k = _
      rw [lcK_fmE (fun y hy => h y (List.mem_cons_of_mem _ hy)) (by omega), List.filterMap_cons, q]
    | some y =>
      show (if acc.length < sizeLine then _ else _) = _
      rw [if_pos (by omega), lcK_fmE (fun y hy => h y (List.mem_cons_of_mem _ hy)) (by rw [List.length_append, List.length_singleton]; omega), List.filterMap_cons, q]
      simp
end
end M
set_option Elab.async false
set_option linter.all false
set_option maxRecDepth 100000
/-! M: own classes without fields and without an own __init__: their instances made, their methods called -/
namespace M
open PySem L2
variable [HasW]
/-- a class that is made by object's own __init__ -/
structure MkO (K : PySem.W.Frag) (C : Addr) : Prop where
  makes : PySem.W.makesIn K C = true
  init : PySem.W.findIn K (.ref C) "__init__" = some (some (.builtin "object.__init__"))
  sub : PySem.W.subIn K (.ref C) (.type "object") = some true
  kp : PySem.W.keepIn K (.ref C) = true
def tMakeO (C : Addr) : TE := fun σ H Q => ∀ x dx, H x = none → H dx = none → dx ≠ x → Q (.ref x) (upd (upd H dx (.own x)) x (.ins C dx []))
theorem kind_oi : builtinKind "object.__init__" = some .slot := by decide +kernel
theorem split_oi : splitId "object.__init__" = some ("object", "__init__") := by decide +kernel
section
variable {X : Cx} {C : Addr} {x : Str} {p pos : Pos}
theorem run_makeO {pins : List (Addr × Obj)} {σ : L2.St} {H : Hp} {s : Shared} {Q : VK} (mk : MkO X.K C) (I : Inv X pins σ H s) (h : tMakeO C σ H Q) : wpAny (model X.prog X.w) X.A (call (.ref C) []) (EP X pins σ Q) X.xe s := by
  have hq := h (s.heap.objs.size + 1) s.heap.objs.size (I.hok.fresh (Nat.le_succ _)) (I.hok.fresh (Nat.le_refl _)) (Nat.ne_of_lt (Nat.lt_succ_self _))
  have I2 := Inv.made (C := C) I
  have e2 : ((s.heap.push PySem.W.emptyDict).push (PySem.W.instObj C s.heap.objs.size)).get? (s.heap.objs.size + 1) = some (PySem.W.instObj C s.heap.objs.size) := by
    have := Heap.get?_push_size (s.heap.push PySem.W.emptyDict) (o := PySem.W.instObj C s.heap.objs.size) rfl
    rwa [Heap.size_push] at this
  refine wpAny_call (make_map0 I.kIn mk.makes mk.init (fun self => PySem.W.Looks.of_pure (PySem.F.slot_object_init.bind self)) ?_)
  refine codeAny_call_builtin PySem.F.slot_object_init.plain PySem.F.entry_object_init ?_
  have LT : PySem.W.Looks (model X.prog X.w) ((s.heap.push PySem.W.emptyDict).push (PySem.W.instObj C s.heap.objs.size)) (typeOf (.ref (s.heap.objs.size + 1))) (.ref C) := fun A Q E s k q => wpAny_typeOf_ref (k _ _ e2) q
  have LI : PySem.W.Looks (model X.prog X.w) ((s.heap.push PySem.W.emptyDict).push (PySem.W.instObj C s.heap.objs.size)) (isInstance (.ref (s.heap.objs.size + 1)) (.type "object")) true := LT.andThen (PySem.W.looks_subIn I2.kIn mk.sub)
  refine @PySem.W.check_slot (model X.prog X.w) _ _ { s with heap := (s.heap.push PySem.W.emptyDict).push (PySem.W.instObj C s.heap.objs.size) } "object.__init__" "object" "__init__" (.ref (s.heap.objs.size + 1)) [] [] _ kind_oi split_oi LI (PySem.F.args_object_init_1 _) ?_
  exact wpAny_pure ⟨rfl, ⟨V.ref (s.heap.objs.size + 1), _, I2, rfl, hq⟩⟩
theorem pe_makeO (mk : MkO X.K C) (hg : Gl X x) (hm : X.mg x = some (.ref C)) (hdb : (x == ("__debug__" : Str)) = false := by decide) : PE X (.Call (.Name x p) [] [] pos) (tMakeO C) := by
  refine ⟨fun pins s σ H Q I h => ?_⟩
  refine wpAny_Call_Name_kw (ld_glob I hg hm ?_ hdb)
  exact PySem.W.callWith_K0 I.kIn mk.kp (run_makeO mk I h)
theorem pe_or {e : Expr} {t t' : TE} (h : PE X e t) (h' : PE X e t') : PE X e (fun σ H Q => t σ H Q ∨ t' σ H Q) :=
  ⟨fun pins s σ H Q I q => q.elim (fun q => h.run pins s σ H Q I q) (fun q => h'.run pins s σ H Q I q)⟩
theorem cx_noG {P : Program} {w : World} {o : List PySem.Env} {H : Hp} {s : Shared} {e : Value} {s' : Shared} (h : L2.CX P w o H s (fun _ _ _ => False) e s') : False := by
  obtain ⟨_, _, _, _, _, _, _, _, _, _, _, _, z⟩ := h
  exact z
theorem pass_no {X : Cx} : Passes (L2.CX X.prog X.w) X (fun _ _ _ => False) := fun _ _ _ _ _ _ _ h => (cx_noG h).elim
end
/-! ### methods over data -/
/-- a method's promise: data in, data out; the object is not looked at -/
def SpD (K : PySem.W.Frag) (n : Nat) (P : List D → PR D) : Sp := fun vs H Q _ => ∃ v0 vs' G ds m z, vs = v0 :: vs' ∧ G.H = H ∧ RelM K G m ∧ Reps K G.lv G.H vs' ds ∧ ds.length = n ∧ P ds = .ok z ∧ ∀ v G', Le G G' → RelM K G' m → Rep K G'.lv G'.H v z → Q v G'.H
theorem Reps.paired {K : PySem.W.Frag} {G : Wd} : ∀ {vs : List V} {ds : List D}, Reps K G.lv G.H vs ds → Paired (RepW K G) vs (ds.map W.d)
  | _, _, .nil => .nil
  | _, _, .cons h r => .cons h (Reps.paired r)
theorem relS_none {K : PySem.W.Frag} {G : Wd} {σ : L2.St} {env : Env} {v : Option V} (S : RelS K G σ env) : RelS K G (v :: σ) (none :: env) := by
  refine ⟨by simp [S.len], fun i w e => ?_⟩
  cases i with
  | zero => simp at e
  | succ i => exact S.get i w (by simpa using e)
def ro0 (N : Nat) (ds : List D) : List PV := .x :: (ds.map PV.d ++ List.replicate (N - ds.length) .x)
theorem rel0 (m : Mem) (hcl : ∀ (j : Nat) (o : O), m[j]? = some o → okO m.length o = true) (N : Nat) (ds : List D) : Rel ⟨m, fun _ => []⟩ (ro0 N ds) (none :: env0 N (ds.map W.d)) m := by
  refine ⟨fun i j h => absurd h (List.not_mem_nil), Nat.le_refl _, fun _ _ _ => rfl, hcl, fun i j h => absurd h (List.not_mem_nil), fun j o hj e => (by rw [List.getElem?_eq_none hj] at e; cases e), by simp [ro0, env0], fun _ => [], fun _ _ _ h => absurd h (List.not_mem_nil), fun i => ?_⟩
  cases i with
  | zero => exact (rfl : ([] : List Nat) = [])
  | succ i =>
    show SlotOk _ _ _ _ ((ds.map W.d).map some ++ List.replicate (N - (ds.map W.d).length) none)[i]? (ds.map PV.d ++ List.replicate (N - ds.length) .x)[i]?
    by_cases hi : i < ds.length
    · rw [List.getElem?_append_left (by simpa using hi), List.getElem?_append_left (by simpa using hi)]
      simp only [List.getElem?_map, List.getElem?_eq_getElem hi, Option.map_some]
      exact ⟨rfl, rfl⟩
    · rw [List.getElem?_append_right (by simpa using hi), List.getElem?_append_right (by simpa using hi)]
      simp only [List.length_map, List.getElem?_replicate]
      split
      · exact (rfl : ([] : List Nat) = [])
      · exact (rfl : ([] : List Nat) = [])
section
variable {P : Program} {w : World} {K : PySem.W.Frag} {mg : Str → Option Value} {base : Heap}
theorem okD {x qual : Str} {st : Stmt} {f : Addr} {fd : FuncData} {N ps : List Str} {k n N' : Nat} {ms : List Bool} {g : SF} {gx : GSx} {PF : List D → PR D} (F : Fun K x qual st f fd) (S : FnScope N ps (defScope st)) (hN : N.length = N' + 1) (hps : ps.length = n + 1)
    (hbody : ∀ (cdv : Value) (A : Around) (outer : List PySem.Env) (s : Shared) (H : Hp) (E : XK), Room k (A.deeper (PyProof.Rows.envOfC qual (defScope st) s.heap.objs.size f cdv)) →
      MB (cxM P w K mg base N qual (defScope st) f cdv A outer s H E) (fun c d _ H' => E c d H') (defBody st) g)
    (hrs : RS 7 ms g gx) (hP : ∀ ds, ds.length = n → runG gx (ro0 N' ds) out0 = PF ds) : FnOk P w K mg base (L2.CX P w) (k + 1) f fd ps (SpD K n PF) := by
  refine F.okX S (fun vs H Q E h => ?_) fun cdv A outer s H vs Q E hr h => ?_
  · obtain ⟨v0, vs', G, ds, m, z, rfl, _, _, r, hl, _⟩ := h
    rw [List.length_cons, r.length, hl, hps]
  · obtain ⟨v0, vs', G, ds, m, z, rfl, eH, R, r, hl, hz, hq⟩ := h
    subst eH
    obtain ⟨t, p, q⟩ := hbody cdv A outer s G.H E hr
    have hS : RelS K G (L2.start N (v0 :: vs')) (none :: env0 N' (ds.map W.d)) := by
      have := relS_none (v := some v0) (RelS.start (N := List.replicate N' "") r.paired)
      rw [List.length_replicate] at this
      have e : L2.start N (v0 :: vs') = some v0 :: L2.start (List.replicate N' "") vs' := by
        unfold L2.start
        simp [hN]
      rw [e]
      exact this
    have e1 := hP ds hl
    rw [hz] at e1
    have hs := hrs D ⟨m, fun _ => []⟩ _ _ m (fun ρ => out0 .none ρ) (fun _ => .bad) (fun _ => .bad) (fun v ρ => retK out0 v ρ) (rel0 m R.dw N' ds) (fun z => by
      have z2 : runG gx (ro0 N' ds) out0 = .bad := z
      rw [e1] at z2
      cases z2)
    have e0 : gx D (ro0 N' ds) (fun ρ => out0 .none ρ) (fun _ => .bad) (fun _ => .bad) (fun v ρ => retK out0 v ρ) = .ok z := e1
    rw [e0] at hs
    refine ⟨t, p, q (none :: env0 N' (ds.map W.d)) m _ G _ hS R ?_⟩
    have tk : ∀ {m' : Mem} {ρ' : List PV} {env' : PySem.Env → Prop} {e' : Env}, Rel ⟨m, fun _ => []⟩ ρ' e' m' → m'.take m.length = m := fun {m' ρ' env' e'} R' => by
      have l : m.length ≤ m'.length := R'.len
      apply List.ext_getElem?
      intro j
      rw [List.getElem?_take]
      by_cases hj : j < m.length
      · rw [if_pos hj]
        exact R'.fix j hj (fun _ h => by cases h)
      · rw [if_neg hj, List.getElem?_eq_none (by omega)]
    generalize g (none :: env0 N' (ds.map W.d)) m = res at hs ⊢
    cases hs with
    | nx e' m' ρ' h1 h2 h3 h4 =>
      have hz2 : z = .none := by cases h2; rfl
      subst hz2
      intro σ' G' le R' S'
      have t1 := tk (env' := fun _ => True) h1
      have := R.cut (kp := none) R' le h1.cl
      rw [t1] at this
      exact hq _ (G'.cut G none) le.cut this .non
    | bk e' m' ρ' h1 h2 h3 h4 => cases h2
    | ct e' m' ρ' h1 h2 h3 h4 => cases h2
    | rt w' m' v ρ' e' h1 h2 h3 h4 =>
      have t1 := tk (env' := fun _ => True) h1
      have fl : ∀ es, z = .list es → CPost K mg G (.ok (.fl es) (m'.take m.length)) Q E := fun es hz u G' le R' ru => by
        subst hz
        rw [t1] at R'
        obtain ⟨p', us, e1, e2, e3, e4, e5, e6⟩ := ru
        subst e1
        have rc := R.cut (kp := none) R' le (by unfold clM; rw [List.take_length, List.all_eq_true]; intro o ho; obtain ⟨j, e⟩ := List.getElem?_of_mem ho; exact R.dw j o e)
        rw [List.take_length] at rc
        refine hq _ (G'.cut G none) le.cut rc (.lst ⟨fun zz => ?_, e5⟩ (Reps.mono Mo.cut e6))
        rcases (mem_cut.mp zz).2 with z1 | z1
        · exact R.lt _ z1 e2
        · cases z1
      have dt : CPost K mg G (.ok (.d z) (m'.take m.length)) Q E := fun u G' le R' ru => by
        rw [t1] at R'
        exact hq _ G' le R' ru
      suffices hc : CPost K mg G (finM m.length w' m') Q E from fun u G' le R' ru => finM_ok R R' le ru hc
      cases v with
      | r i =>
        have h3 : PR.ok z = retK out0 (.r i) ρ' := h3
        simp only [retK] at h3
        cases q : ρ'[i]? with
        | none => rw [q] at h3; cases h3
        | some u =>
          rw [q] at h3
          cases u with
          | l p xs =>
            cases p with
            | true => cases h3
            | false =>
              have hz2 : z = .list xs := by cases h3; rfl
              obtain ⟨J2, hd2, hJ2⟩ := h1.ex
              have zz := hJ2 i
              rw [q] at zz
              obtain ⟨j, z1, z2, z3, z4 | z4⟩ := zz
              · exact absurd z4.1 (by simp)
              · have hw := h2.2
                rw [z2] at hw
                cases hw
                have hj : m.length ≤ j := z4.2
                simp only [finM]
                rw [if_pos h1.cl, if_neg (by omega), z3]
                exact fl xs hz2
          | t p kvs =>
            cases p with
            | true => cases h3
            | false =>
              have hz2 : z = .dict (frzT kvs) := by cases h3; rfl
              obtain ⟨J2, hd2, hJ2⟩ := h1.ex
              have zz := hJ2 i
              rw [q] at zz
              obtain ⟨j, kk, z1, z2, z3, z4 | z4⟩ := zz
              · exact absurd z4.1 (by simp)
              · have hw := h2.2
                rw [z2] at hw
                cases hw
                have hj : ∀ k ∈ j :: kk, m.length ≤ k := fun k hk => z4.2 k (by rw [z1]; rcases List.mem_cons.mp hk with rfl | hk <;> simp [*])
                have hv := view_tr z3 hj
                obtain ⟨_, kws, z5, _⟩ := z3
                simp only [finM]
                rw [if_pos h1.cl, if_neg (Nat.not_lt.mpr (hj j List.mem_cons_self)), z5]
                dsimp only
                rw [hv]
                subst hz2
                exact dt
          | _ => cases h3
      | v y =>
        have hy : z = y := by cases h3; rfl
        subst hy
        rcases (show w' = .d z ∨ ∃ ds, z = .list ds ∧ w' = .fl ds from h2) with hw | ⟨es, hw, hw'⟩
        · subst hw
          rw [finM_d h1.cl]
          exact dt
        · subst hw'
          rw [finM_fl h1.cl]
          exact fl es hw
    | err e e' m' h1 h2 h3 => cases h2
end
/-! ### a list unpacked into names -/
/-! ### a list the other way round: l[::-1] -/
/-! ### defs over data by a pure function: their mirrors and what they keep to -/
def noE {α : Type} (r : PR α) : PR α := match r with
  | .err _ => .bad
  | r => r
theorem noE_ok {α : Type} {r : PR α} {z : α} (h : noE r = .ok z) : r = .ok z := by
  cases r with
  | ok a => exact h
  | err e => cases h
  | bad => cases h
theorem noE_of {α : Type} {r : PR α} {z : α} (h : r = .ok z) : noE r = .ok z := by rw [h]; rfl
def allD : List W → Option (List D)
  | [] => some []
  | .d x :: r => (allD r).map (x :: ·)
  | _ :: _ => none
theorem allD_eq : ∀ {ws : List W} {ds : List D}, allD ws = some ds → ws = ds.map W.d
  | [], ds, h => by cases h; rfl
  | .d x :: r, ds, h => by
    simp only [allD, Option.map_eq_some_iff] at h
    obtain ⟨es, h1, rfl⟩ := h
    rw [List.map_cons, allD_eq h1]
  | .obj _ :: _, _, h => by cases h
  | .fl _ :: _, _, h => by cases h
  | .ro _ :: _, _, h => by cases h
theorem allD_map : ∀ ds : List D, allD (ds.map W.d) = some ds
  | [] => rfl
  | d :: ds => by rw [List.map_cons, allD, allD_map ds]; rfl
/-- the mirror of a def over data -/
def dataF (PF : List D → PR D) : FF := fun ws m => match allD ws with
  | some ds => (match noE (PF ds) with
    | .ok z => .ok (.d z) m
    | _ => .bad)
  | none => .bad
theorem dataF_in {K : PySem.W.Frag} {mg : Str → Option Value} {PF : List D → PR D} {G : Wd} {ws : List W} {m : Mem} {vs : List V} {Q : VK} {E : XK} (hp : Paired (RepW K G) vs ws) (h : CPost K mg G (dataF PF ws m) Q E) :
    ∃ ds z, ws = ds.map W.d ∧ PF ds = .ok z ∧ Reps K G.lv G.H vs ds ∧ ∀ v G', Le G G' → RelM K G' m → Rep K G'.lv G'.H v z → Q v G'.H := by
  unfold dataF at h
  cases q : allD ws with
  | none => rw [q] at h; exact False.elim h
  | some ds =>
    rw [q] at h
    dsimp only at h
    cases q2 : noE (PF ds) with
    | err e => rw [q2] at h; exact False.elim h
    | bad => rw [q2] at h; exact False.elim h
    | ok z =>
      rw [q2] at h
      have e := allD_eq q
      refine ⟨ds, z, e, noE_ok q2, ?_, h⟩
      rw [e] at hp
      have go : ∀ {vs : List V} {ds : List D}, Paired (RepW K G) vs (ds.map W.d) → Reps K G.lv G.H vs ds := by
        intro vs ds
        induction ds generalizing vs with
        | nil => intro h; cases h; exact .nil
        | cons d ds ih =>
          intro h
          cases h with
          | cons a r => exact .cons a (ih r)
      exact go hp
def dataW (n : Nat) (PF : List D → PR D) : GFn := fun γ avs K => match allA avs with
  | some ds => if ds.length = n then (noE (PF ds)).bind fun r => K r [] else .bad
  | none => .bad
where allA : List AV → Option (List D)
  | [] => some []
  | .d x :: r => (allA r).map (x :: ·)
  | _ :: _ => none
theorem allA_args {m : Mem} {J : Nat → List Nat} {rs : List Nat} : ∀ {ws : List W} {avs : List AV} {ds : List D}, ArgsOk m J rs ws avs → dataW.allA avs = some ds → ws = ds.map W.d ∧ mrefs avs = []
  | _, [], ds, .nil, h => by cases h; exact ⟨rfl, rfl⟩
  | _, .d x :: avs, ds, .cons a r, h => by
    simp only [dataW.allA, Option.map_eq_some_iff] at h
    obtain ⟨es, h1, rfl⟩ := h
    obtain ⟨h2, h3⟩ := allA_args r h1
    refine ⟨?_, h3⟩
    rw [List.map_cons, ← h2]
    have : _ = W.d x := a
    rw [this]
  | _, .b _ :: _, _, _, h => by cases h
  | _, .l _ _ :: _, _, _, h => by cases h
  | _, .k _ _ :: _, _, _, h => by cases h
theorem sp_data (n : Nat) (PF : List D → PR D) : SpG (dataF PF) 2 (dataW n PF) := by
  intro γ m ws avs J K hcl hA hn hd nb
  unfold dataW at nb ⊢
  cases q : dataW.allA avs with
  | none => rw [q] at nb; exact absurd rfl nb
  | some ds =>
    rw [q] at nb
    dsimp only at nb ⊢
    obtain ⟨e1, e2⟩ := allA_args hA q
    split at nb
    · rename_i hl
      cases q2 : noE (PF ds) with
      | bad => rw [q2] at nb; exact absurd rfl nb
      | err e =>
        exfalso
        unfold noE at q2
        split at q2
        · cases q2
        · rename_i h1; rw [q2] at h1; exact h1 e rfl
      | ok z =>
        refine .inl ⟨.d z, m, z, [], ?_, fun fr => .inl rfl, ?_, by rw [e2]; rfl, fun u hu => (by cases hu), ⟨rfl, fun j _ => rfl, fun i hi => by rw [e2] at hi; cases hi⟩⟩
        · unfold dataF
          rw [e1, allD_map]
          dsimp only
          rw [q2]
        · rw [if_pos hl]
          rfl
    · exact absurd rfl nb
/-! ### the four rules -/
theorem same_mk {H : Hp} {x d C : Addr} (hx : H x = none) (hd : H d = none) : Same H (upd (upd H d (.own x)) x (.ins C d [])) := fun b o e => by
  rw [upd_ne (ne_of_none e hx), upd_ne (ne_of_none e hd)]
  exact e
theorem same_new {H : Hp} {x : Addr} {o : HO} (hx : H x = none) : Same H (upd H x o) := fun b o e => by
  rw [upd_ne (ne_of_none e hx)]
  exact e
theorem Le.same {K : PySem.W.Frag} {G : Wd} {m : Mem} {H1 : Hp} (R : RelM K G m) (s : Same G.H H1) : Le G ⟨G.io, G.lv, H1⟩ :=
  ⟨R.lt, ⟨[], by simp, fun _ h => nomatch h⟩, fun _ h => .inl h, fun _ h _ => h, fun a o h _ _ => s a o h, fun a h => by
    cases q : G.H a with
    | none => rfl
    | some o => rw [show (⟨G.io, G.lv, H1⟩ : Wd).H a = some o from s a o q] at h; cases h⟩
theorem RelM.same {K : PySem.W.Frag} {G : Wd} {m : Mem} {H1 : Hp} (R : RelM K G m) (s : Same G.H H1) : RelM K ⟨G.io, G.lv, H1⟩ m := by
  have mo : Mo G.lv G.H G.lv H1 := ⟨fun a o h _ _ => s a o h, fun _ _ _ h => h⟩
  refine ⟨R.dw, R.len, R.nd, fun a h z => ?_, fun a h z => ?_, fun i a o h1 h2 => ?_, R.tb.step (fun a o e _ => s a o e) fun a _ z => z⟩
  · cases q : G.H a with
    | none => exact R.lt a h q
    | some o => have := s a o q; rw [show H1 a = none from z] at this; cases this
  · cases q : G.H a with
    | none => exact R.it a h q
    | some o => have := s a o q; rw [show H1 a = none from z] at this; cases this
  · have ob := R.ob i a o h1 h2
    cases o with
    | lst ds => obtain ⟨e1, vs, e2, e3⟩ := ob; exact ⟨e1, vs, s _ _ e2, e3.mono mo⟩
    | fz ds => obtain ⟨e1, vs, e2, e3⟩ := ob; exact ⟨e1, vs, s _ _ e2, e3.mono mo⟩
    | dct kvs =>
      obtain ⟨e1, ks, e2, e3⟩ := ob
      refine ⟨e1, ks, s _ _ e2, Paired.mono (fun _ _ z => ⟨z.1, ?_⟩) e3⟩
      exact z.2.mono (Le.same R s)
    | lsw ws =>
      obtain ⟨e1, vs, e2, e3⟩ := ob
      exact ⟨e1, vs, s _ _ e2, Paired.mono (fun _ _ z => z.mono (Le.same R s)) e3⟩
    | dcn kvs =>
      obtain ⟨e1, o, es, kvv, e2, e3, e4, r, n⟩ := ob
      exact ⟨e1, o, es, kvv, s _ _ e2, e3, e4.mono mo, Paired.mono (fun _ _ z => ⟨z.1, z.2.mono (Le.same R s)⟩) r, n⟩
    | dead => exact ob.imp (fun ⟨vs, z⟩ => ⟨vs, s _ _ z⟩) (fun ⟨o, z⟩ => ⟨o, s _ _ z⟩)
    | ins c kvs =>
      obtain ⟨e1, C, dx, vs, e0, e2, r⟩ := ob
      exact ⟨e1, C, dx, vs, e0, s _ _ e2, Paired.mono (fun _ _ z => ⟨z.1, z.2.mono (Le.same R s)⟩) r⟩
def madeGo : List (PR D × D) → PR D
  | [] => .ok .none
  | (j, s) :: r => j.bind fun z => match z with
    | .none => madeGo r
    | z => .ok (.tuple [s, z])
def meantGo (sg : D) : List (D × PR D) → PR D
  | [] => .ok .none
  | (s, j) :: r => (eqP false s sg).bind fun b => ptb b fun t => if t = true then j else meantGo sg r
end M
set_option Elab.async false
set_option linter.all false
set_option maxRecDepth 100000
/-! M: judgements under a hypothesis on the slots; an exception caught by name -/
namespace M
open PySem L2
variable [HasW]
/-- what is known of the slots, and stays so -/
class JMono (J : L2.St → Hp → Prop) : Prop where
  mono : ∀ {K : PySem.W.Frag} {σ : L2.St} {G G' : Wd} {m : Mem}, RelM K G m → Le G G' → J σ G.H → J σ G'.H
def MEJ (X : Cx) (Wx : WX) (J : L2.St → Hp → Prop) (e : Expr) (f : EF) : Prop :=
  ∃ t, PE X e t ∧ ∀ env m σ G Q, RelS X.K G σ env → RelM X.K G m → J σ G.H → GPost X Wx σ G (RepR X.K) (f env m) Q → t σ G.H Q
def MTJ (X : Cx) (Wx : WX) (J : L2.St → Hp → Prop) (e : Expr) (f : TF) : Prop :=
  ∃ t, PT X e t ∧ ∀ env m σ G Q, RelS X.K G σ env → RelM X.K G m → J σ G.H → GPost X Wx σ G relEq (f env m) Q → t σ G.H Q
def withJ (J : L2.St → Hp → Prop) (E : Ends) : Ends := { E with nx := fun σ H => J σ H → E.nx σ H }
def MSJ (X : Cx) (Wx : WX) (J : L2.St → Hp → Prop) (st : Stmt) (f : SF) : Prop :=
  ∃ t, PS X st t ∧ ∀ env m σ G E, RelS X.K G σ env → RelM X.K G m → J σ G.H → SPost X Wx G (f env m) (withJ J E) → t E σ G.H
def MBJ (X : Cx) (Wx : WX) (J : L2.St → Hp → Prop) (st : List Stmt) (f : SF) : Prop :=
  ∃ t, PSs X st t ∧ ∀ env m σ G E, RelS X.K G σ env → RelM X.K G m → J σ G.H → SPost X Wx G (f env m) (withJ J E) → t E σ G.H
section
variable {X : Cx} {Wx : WX} {J : L2.St → Hp → Prop} [JMono J]
theorem ME.j {e : Expr} {f : EF} (h : ME X Wx e f) : MEJ X Wx J e f := let ⟨t, p, q⟩ := h; ⟨t, p, fun env m σ G Q S R _ h => q env m σ G Q S R h⟩
theorem MT.j {e : Expr} {f : TF} (h : MT X Wx e f) : MTJ X Wx J e f := let ⟨t, p, q⟩ := h; ⟨t, p, fun env m σ G Q S R _ h => q env m σ G Q S R h⟩
theorem msj_ret {e : Expr} {f : EF} {pos : Pos} (h : MEJ X Wx J e f) : MSJ X Wx J (.Return (some e) pos) (sRet f) := by
  obtain ⟨t, p, q⟩ := h
  exact ⟨_, ps_ret p, fun env m σ G E S R j h => q env m σ G _ S R j (SPost.ofE0 h S fun a m v G1 le R1 q1 h1 => h1 v G1 le R1 q1)⟩
theorem mbj_nil : MBJ X Wx J [] sNx := ⟨_, pss_nil, fun env m σ G E S R j h => h σ G (Le.refl R) R S j⟩
theorem mbj_one {st : Stmt} {f : SF} (h : MSJ X Wx J st f) : MBJ X Wx J [st] f := let ⟨t, p, q⟩ := h; ⟨t, pss_one p, q⟩
theorem mbj_cons {st : Stmt} {rest : List Stmt} {f g : SF} (h : MSJ X Wx J st f) (h' : MBJ X Wx J rest g) : MBJ X Wx J (st :: rest) (sSeq f g) := by
  obtain ⟨ta, pa, qa⟩ := h
  obtain ⟨tb, pb, qb⟩ := h'
  refine ⟨_, pss_cons pa pb, fun env m σ G E S R j h => qa env m σ G _ S R j ?_⟩
  unfold sSeq at h
  cases e : f env m with
  | nx e1 m1 => rw [e] at h; exact fun σ' G' le R' S' j' => qb e1 m1 σ' G' E S' R' j' (SPost.later h le)
  | bk e1 m1 => rw [e] at h; exact h
  | ct e1 m1 => rw [e] at h; exact h
  | rt w m1 => rw [e] at h; exact h
  | err x e1 m1 => rw [e] at h; exact h
  | bad => rw [e] at h; exact h
theorem msj_if {c : Expr} {a b : List Stmt} {fc : TF} {fa fb : SF} {pos : Pos} (hc : MTJ X Wx J c fc) (ha : MBJ X Wx J a fa) (hb : MBJ X Wx J b fb) : MSJ X Wx J (.If c a b pos) (sIf fc fa fb) := by
  obtain ⟨tc, pc, qc⟩ := hc
  obtain ⟨ta, pa, qa⟩ := ha
  obtain ⟨tb, pb, qb⟩ := hb
  refine ⟨_, ps_if pc pa pb, fun env m σ G E S R j h => qc env m σ G _ S R j (SPost.ofE h S fun k m1 v G1 le R1 q1 h1 => ?_)⟩
  rw [show v = k from q1]
  cases k with
  | true => exact iteT (qa env m1 σ G1 E (S.mono le) R1 (JMono.mono R le j) h1)
  | false => exact iteF (qb env m1 σ G1 E (S.mono le) R1 (JMono.mono R le j) h1)
end
/-! ### an exception held by a slot: isinstance -/
abbrev Hd (i : Nat) (a : Addr) : L2.St → Hp → Prop := fun σ _ => σ[i]? = some (some (.ref a))
instance {i : Nat} {a : Addr} : JMono (Hd i a) := ⟨fun _ _ h => h⟩
theorem Hd.set {i k : Nat} {a : Addr} (h : k ≠ i) : ∀ (σ : L2.St) (v : Option V) (H : Hp), Hd i a σ H → Hd i a (σ.set k v) H := fun σ v H hh => by
  show (σ.set k v)[i]? = _
  rw [List.getElem?_set_ne h]
  exact hh
/-! ### try .. except C as e -/
end M
set_option Elab.async false
set_option linter.all false
set_option maxRecDepth 100000
/-! P: an exception caught by name -/
namespace M
open PySem L2
variable [HasW]
/-! ### text * int -/
noncomputable section
def tryKE {σ γ : Type} (tab : Str → Option Bool) (b : PR (TO σ)) (h : Exn → PR (TO σ)) (k : TO σ → PR γ) : PR γ := match b with
  | .ok o => k o
  | .err e => (match tab e.cls with
    | some true => lcN (h e) k
    | some false => .err e
    | none => .bad)
  | .bad => .bad
@[simp] theorem tryKE_ok {σ γ : Type} (tab : Str → Option Bool) (o : TO σ) (h : Exn → PR (TO σ)) (k : TO σ → PR γ) : tryKE tab (.ok o) h k = k o := rfl
end
end M
set_option Elab.async false
set_option linter.all false
set_option maxRecDepth 100000
/-! M: an exception caught by name and kept in another slot, for what stands behind the try -/
namespace M
open PySem L2
/-! ### isinstance and is None of what a slot keeps -/
/-! ### the try, and what stands behind -/
end M
set_option Elab.async false
set_option linter.all false
set_option maxRecDepth 100000
/-! P: a try whose exception is kept for what stands behind -/
namespace M
open PySem L2
variable [HasW]
noncomputable section
def tryKB {σ γ : Type} (tab : Str → Option Bool) (b : PR (TO σ)) (h : Exn → PR γ) (k : TO σ → PR γ) : PR γ := match b with
  | .ok o => k o
  | .err e => (match tab e.cls with
    | some true => h e
    | some false => .err e
    | none => .bad)
  | .bad => .bad
@[simp] theorem tryKB_ok {σ γ : Type} (tab : Str → Option Bool) (o : TO σ) (h : Exn → PR γ) (k : TO σ → PR γ) : tryKB tab (.ok o) h k = k o := rfl
end
end M
set_option Elab.async false
set_option linter.all false
set_option maxRecDepth 100000
/-! M: a kept exception that may have fields -/
namespace M
open PySem L2
variable [HasW]
/-- a slot holds the exception at a; its dict, if it has one, holds fs -/
def HdF (i : Nat) (a : Addr) (d : Option Addr) (fs : List (Str × V)) : L2.St → Hp → Prop := fun σ H => σ[i]? = some (some (.ref a)) ∧ ∀ dd, d = some dd → H dd = some (.xd fs)
theorem xd_out {K : PySem.W.Frag} {G : Wd} {m : Mem} {dd : Addr} {fs : List (Str × V)} (R : RelM K G m) (h : G.H dd = some (.xd fs)) : dd ∉ G.io := by
  intro z
  obtain ⟨i, hi⟩ := List.mem_iff_getElem?.mp z
  have hl : i < m.length := by rw [← R.len]; exact (List.getElem?_eq_some_iff.mp hi).1
  have ob := R.ob i dd _ hi (List.getElem?_eq_getElem hl)
  cases q : m[i] with
  | lst ds => rw [q] at ob; obtain ⟨_, vs, e, _⟩ := ob; rw [h] at e; cases e
  | fz ds => rw [q] at ob; obtain ⟨_, vs, e, _⟩ := ob; rw [h] at e; cases e
  | dct kvs => rw [q] at ob; obtain ⟨_, ks, e, _⟩ := ob; rw [h] at e; cases e
  | lsw ws => rw [q] at ob; obtain ⟨_, vs, e, _⟩ := ob; rw [h] at e; cases e
  | dcn kvs => rw [q] at ob; obtain ⟨_, o, _, _, e, _⟩ := ob; rw [h] at e; cases e
  | ins _ _ => rw [q] at ob; obtain ⟨_, C, dx, vs, _, e, _⟩ := ob; rw [h] at e; cases e
  | dead =>
    rw [q] at ob
    rcases ob with ⟨vs, e⟩ | ⟨o, e⟩
    · rw [h] at e; cases e
    · rw [h] at e; cases e
instance {i : Nat} {a : Addr} {d : Option Addr} {fs : List (Str × V)} : JMono (HdF i a d fs) := ⟨fun R le h => ⟨h.1, fun dd e => le.keep dd _ (h.2 dd e) (fun z => xd_out R (h.2 dd e) z.1) nofun⟩⟩
theorem HdF.set {i k : Nat} {a : Addr} {d : Option Addr} {fs : List (Str × V)} (h : k ≠ i) : ∀ (σ : L2.St) (v : Option V) (H : Hp), HdF i a d fs σ H → HdF i a d fs (σ.set k v) H := fun σ v H hh => ⟨by rw [List.getElem?_set_ne h]; exact hh.1, hh.2⟩
/-! ### a field of a kept exception -/
section
variable {Y : Cx} {Wx : WX} {a : Addr} {oe : Obj} {cls : Value} {d : Option Addr} {i : Nat} {n f : Str} {p1 pos : Pos} {e : Exn} {fs : List (Str × V)}
/-- fields that no heap is asked for -/
def FlatFs (fs : List (Str × V)) (xs : List (Str × D)) : Prop := Paired (fun (p : Str × V) (q : Str × D) => p.1 = q.1 ∧ ∀ (K : PySem.W.Frag) (lv : List Addr) (H : Hp), Rep K lv H p.2 q.2) fs xs
theorem FlatFs.get {fs : List (Str × V)} {xs : List (Str × D)} (h : FlatFs fs xs) {x : D} (hl : xs.lookup f = some x) : ∃ v, fs.lookup f = some v ∧ ∀ (K : PySem.W.Frag) (lv : List Addr) (H : Hp), Rep K lv H v x := by
  induction h with
  | nil => cases hl
  | @cons p q ps qs hpq _ ih =>
    obtain ⟨pn, pv⟩ := p
    obtain ⟨qn, qv⟩ := q
    obtain ⟨e1, e2⟩ := hpq
    dsimp only at e1 e2
    subst e1
    rw [List.lookup_cons] at hl ⊢
    cases hb : f == pn with
    | true => rw [hb] at hl; cases hl; exact ⟨pv, rfl, e2⟩
    | false => rw [hb] at hl; exact ih hl
/-- the classes that have the field -/
inductive TabX (K : PySem.W.Frag) (mg : Str → Option Value) (f : Str) : List Str → Prop
  | nil : TabX K mg f []
  | cons {n : Str} {D : Addr} {l : List Str} : mg n = some (.ref D) → XfC K D → PySem.W.findIn K (.ref D) f = some none → TabX K mg f l → TabX K mg f (n :: l)
theorem TabX.get {K : PySem.W.Frag} {mg : Str → Option Value} {l : List Str} (h : TabX K mg f l) {n : Str} (hn : n ∈ l) : ∃ D, mg n = some (.ref D) ∧ XfC K D ∧ PySem.W.findIn K (.ref D) f = some none := by
  induction h with
  | nil => cases hn
  | cons h1 h2 h3 _ ih =>
    rcases List.mem_cons.mp hn with rfl | hn
    · exact ⟨_, h1, h2, h3⟩
    · exact ih hn
end
/-! ### the try, and what stands behind; exceptions with flat fields -/
end M
set_option Elab.async false
set_option linter.all false
set_option maxRecDepth 100000
/-! M: an own exception class with fields: its __init__, raise -/
namespace M
open PySem L2
variable [HasW]
/-! ### __init__ of a class with two fields, or one -/
section
variable {K : PySem.W.Frag} {C : Addr} {f1 f2 : Str} {z : Str}
def sp2 (C : Addr) (f1 f2 : Str) : Sp := fun vs H Q _ => ∃ a v1 v2, vs = [.ref a, v1, v2] ∧ H a = some (exo a C none) ∧ ∀ dx, H dx = none → dx ≠ a → Q .non (upd (upd (upd H dx (exd dx [(f1, v1)])) a (exo a C (some dx))) dx (exd dx [(f2, v2), (f1, v1)]))
variable {P : Program} {w : World} {mg : Str → Option Value} {base : Heap}
end
/-! ### raise C(x, y) -/
/-! ### what may be asked of a field -/
end M
set_option Elab.async false
set_option linter.all false
set_option maxRecDepth 100000
/-! P: exceptions with fields -/
namespace M
open PySem L2
end M
set_option Elab.async false
set_option linter.all false
set_option maxRecDepth 100000
/-! M: lists of objects (lsw) -/
namespace M
open PySem L2
end M
set_option Elab.async false
set_option linter.all false
set_option maxRecDepth 100000
/-! M, P: max, min -/
namespace M
open PySem L2
end M
set_option Elab.async false
set_option linter.all false
set_option maxRecDepth 100000
/-! P: a new list handed over behind two values -/
namespace M
open PySem L2
end M
set_option Elab.async false
set_option linter.all false
set_option maxRecDepth 100000
set_option maxHeartbeats 4000000
namespace M
open PySem L2
/-! ### dicts with texts as keys: {}, k in d, d.get(k) -/
end M
set_option Elab.async false
set_option linter.all false
set_option maxRecDepth 100000
/-! P: dicts with texts as keys and data as values -/
namespace M
open PySem L2
end M
set_option Elab.async false
set_option linter.all false
set_option maxRecDepth 100000
/-! M: exceptions known to have no context; an except suite that raises; else -/
namespace M
open PySem L2
/-! ### else, where neither the body nor the suite ends by itself -/
end M
set_option Elab.async false
set_option linter.all false
set_option maxRecDepth 100000
/-! P: try / except x: raise x2 / else -/
namespace M
open PySem L2
variable [HasW]
noncomputable section
def tryXK {σ γ : Type} (tab : Str → Option Bool) (x2 : Str) (b : PR (TO σ)) (k : σ → PR γ) : PR γ := match b with
  | .ok (.nx s) => k s
  | .ok (.rt _ _) => .bad
  | .err e => (match tab e.cls with
    | some true => .err ⟨x2, []⟩
    | _ => .bad)
  | .bad => .bad
@[simp] theorem tryXK_ok {σ γ : Type} (tab : Str → Option Bool) (x2 : Str) (s : σ) (k : σ → PR γ) : tryXK tab x2 (.ok (.nx s)) k = k s := rfl
end
end M
set_option Elab.async false
set_option linter.all false
set_option maxRecDepth 100000
set_option maxHeartbeats 1000000
/-! M, P: max(list, default=d); int(text) -/
namespace M
open PySem L2
end M
set_option Elab.async false
set_option linter.all false
set_option maxRecDepth 100000
/-! M, P: text.find(sign, from) -/
namespace M
open PySem L2
end M
set_option Elab.async false
set_option linter.all false
set_option maxRecDepth 100000
set_option maxHeartbeats 1000000
/-! M, P: sorted(list, key=def) -/
namespace M
open PySem L2 PyProof.Rows PySem.W
/-! ### P level -/
end M
set_option Elab.async false
set_option linter.all false
set_option maxRecDepth 100000
/-! M: dicts with data as keys -/
namespace M
open PySem L2 PySem.W PyProof.Rows
variable [HasW]
/-! ### keys -/
mutual
theorem nkey_data : ∀ {d : D} {k : NestedKey}, nkey d = some k → k.data = d
  | .none, k, h => by simp only [nkey, Option.some.injEq] at h; subst h; rfl
  | .int i, k, h => by simp only [nkey, Option.some.injEq] at h; subst h; rfl
  | .str x, k, h => by simp only [nkey, Option.some.injEq] at h; subst h; rfl
  | .tuple ds, k, h => by
    simp only [nkey] at h
    split at h
    · rename_i ks e
      cases h
      show PyData.tuple (NestedKey.datas ks) = _
      rw [nkeys_data e]
    · cases h
  | .bool _, k, h => by simp [nkey] at h
  | .list _, k, h => by simp [nkey] at h
  | .dict _, k, h => by simp [nkey] at h
theorem nkeys_data : ∀ {ds : List D} {ks : List NestedKey}, nkeys ds = some ks → NestedKey.datas ks = ds
  | [], ks, h => by simp only [nkeys, Option.some.injEq] at h; subst h; rfl
  | d :: ds, ks, h => by
    simp only [nkeys] at h
    split at h
    · rename_i k e
      split at h
      · rename_i ks' e'
        cases h
        show NestedKey.data k :: NestedKey.datas ks' = _
        rw [nkey_data e, nkeys_data e']
      · cases h
    · cases h
end
theorem nkey_inj {d d' : D} {k : NestedKey} (h : nkey d = some k) (h' : nkey d' = some k) : d = d' := by
  rw [← nkey_data h, ← nkey_data h']
section
variable {X : Cx} {pins : List (Addr × Obj)} {σ : L2.St} {H : Hp} {s : Shared} {lv : List Addr}
mutual
theorem key_is (I : Inv X pins σ H s) : ∀ {v : V} {u : Value} {d : D} {k : NestedKey}, Rep X.K lv H v d → RelV v u → nkey d = some k → NestedIs s.heap k u
  | _, u, _, k, .non, r, e => by
    simp only [nkey, Option.some.injEq] at e; subst e
    cases (show u = .none from r)
    exact .none
  | _, u, _, k, .bl b, r, e => by simp [nkey] at e
  | _, u, _, k, .int i, r, e => by
    simp only [nkey, Option.some.injEq] at e; subst e
    obtain ⟨t, rfl⟩ := (show ∃ t, u = .int i t from r)
    exact .int i t
  | _, u, _, k, .str x, r, e => by
    simp only [nkey, Option.some.injEq] at e; subst e
    obtain ⟨t, rfl⟩ := (show ∃ t, u = .str x t from r)
    exact .text x t
  | _, u, _, k, .lst _ _, r, e => by simp [nkey] at e
  | _, u, _, k, .dct _ _ _ _, r, e => by simp [nkey] at e
  | _, u, _, k, .tup (a := a) (ds := ds) t rs, r, e => by
    simp only [nkey] at e
    split at e
    · rename_i ks ek
      cases e
      obtain rfl : u = .ref a := r
      obtain ⟨its, rv, ⟨o, h1, h2, n, h3⟩, _⟩ := I.tuple t.sq
      refine .tup h1 h2 h3 ?_
      have := keys_are I rs rv ek
      simpa using this
    · cases e
theorem keys_are (I : Inv X pins σ H s) : ∀ {vs : List V} {us : List Value} {ds : List D} {ks : List NestedKey}, Reps X.K lv H vs ds → Vals vs us → nkeys ds = some ks → NestedAll s.heap ks us
  | _, _, _, ks, .nil, .nil, e => by
    simp only [nkeys, Option.some.injEq] at e; subst e
    exact .nil
  | _, _, _, ks, .cons h r, .cons a t, e => by
    simp only [nkeys] at e
    split at e
    · rename_i k ek
      split at e
      · rename_i ks' ek'
        cases e
        exact .cons (key_is I h a ek) (keys_are I r t ek')
      · cases e
    · cases e
end
end
/-! ### look-ups -/
noncomputable def klook {α : Type} (kvs : List (D × α)) (k : D) : Option α := (kvs.find? fun p => grd (p.1 = k)).map (·.2)
noncomputable def kput {α : Type} (kvs : List (D × α)) (k : D) (v : α) : List (D × α) := if (klook kvs k).isSome = true then kvs.map (fun p => if grd (p.1 = k) = true then (p.1, v) else p) else kvs ++ [(k, v)]
def isT (d : D) : Bool := (kof d).isSome
def isN (d : D) : Bool := match nkey d with
  | some (.tup ks) => decide ((NestedKey.tup ks).depth ≤ 8)
  | _ => false
/-- the keys at hand are of one kind with k -/
def uniK {α : Type} (kvs : List (D × α)) (k : D) : Bool := if isT k = true then kvs.all (fun p => isT p.1) else isN k && kvs.all (fun p => !isT p.1)
theorem grd_true {p : Prop} (h : p) : grd p = true := grd_iff.mpr h
theorem grd_false {p : Prop} (h : ¬ p) : grd p = false := by
  cases q : grd p with
  | false => rfl
  | true => exact absurd (grd_iff.mp q) h
open Classical in
theorem klook_cons {α : Type} (p : D × α) (r : List (D × α)) (k : D) : klook (p :: r) k = if p.1 = k then some p.2 else klook r k := by
  unfold klook
  rw [List.find?_cons]
  by_cases h : p.1 = k
  · rw [if_pos h, grd_true h]; rfl
  · rw [if_neg h, grd_false h]
theorem kput_length {α : Type} (kvs : List (D × α)) (k : D) (v : α) : (kput kvs k v).length ≤ kvs.length + 1 := by
  unfold kput
  split <;> simp
theorem klook_none {α : Type} {kvs : List (D × α)} {k : D} (h : klook kvs k = none) : k ∉ kvs.map (·.1) := by
  induction kvs with
  | nil => simp
  | cons p r ih =>
    rw [klook_cons] at h
    split at h
    · cases h
    · rename_i e
      simp only [List.map_cons, List.mem_cons, not_or]
      exact ⟨fun z => e z.symm, ih h⟩
theorem kput_keys {α : Type} (kvs : List (D × α)) (k : D) (v : α) : (kput kvs k v).map (·.1) = if (klook kvs k).isSome = true then kvs.map (·.1) else kvs.map (·.1) ++ [k] := by
  unfold kput
  split
  · rw [List.map_map]
    refine List.map_congr_left fun p _ => ?_
    simp only [Function.comp]
    split <;> rfl
  · simp
theorem kput_nodup {α : Type} {kvs : List (D × α)} {k : D} {v : α} (h : (kvs.map (·.1)).Nodup) : ((kput kvs k v).map (·.1)).Nodup := by
  rw [kput_keys]
  split
  · exact h
  · rename_i e
    rw [List.nodup_append]
    refine ⟨h, by simp, fun a ha b hb => ?_⟩
    rw [List.mem_singleton.mp hb]
    rintro rfl
    exact klook_none (by simpa using e) ha
/-- values by the same keys -/
theorem klook_pair {α β : Type} {F : α → β → Prop} {l₁ : List (D × α)} {l₂ : List (D × β)} (h : Paired (fun p q => p.1 = q.1 ∧ F p.2 q.2) l₁ l₂) (k : D) : (klook l₁ k = none ∧ klook l₂ k = none) ∨ ∃ a b, klook l₁ k = some a ∧ klook l₂ k = some b ∧ F a b := by
  induction h with
  | nil => exact .inl ⟨rfl, rfl⟩
  | @cons p q ps qs h t ih =>
    rw [klook_cons, klook_cons]
    by_cases e : p.1 = k
    · rw [if_pos e, if_pos (by rw [← h.1]; exact e)]
      exact .inr ⟨_, _, rfl, rfl, h.2⟩
    · rw [if_neg e, if_neg (by rw [← h.1]; exact e)]
      exact ih
theorem paired_snoc {α β : Type} {F : α → β → Prop} : ∀ {l₁ : List α} {l₂ : List β} {a : α} {b : β}, Paired F l₁ l₂ → F a b → Paired F (l₁ ++ [a]) (l₂ ++ [b])
  | _, _, _, _, .nil, h => .cons h .nil
  | _, _, _, _, .cons z t, h => .cons z (paired_snoc t h)
theorem paired_mapB {α β : Type} {F G : α → β → Prop} {f : α → α} {g : β → β} (hf : ∀ a b, F a b → G (f a) (g b)) : ∀ {l₁ : List α} {l₂ : List β}, Paired F l₁ l₂ → Paired G (l₁.map f) (l₂.map g)
  | _, _, .nil => .nil
  | _, _, .cons z t => .cons (hf _ _ z) (paired_mapB hf t)
theorem kput_pair {α β : Type} {F : α → β → Prop} {l₁ : List (D × α)} {l₂ : List (D × β)} (h : Paired (fun p q => p.1 = q.1 ∧ F p.2 q.2) l₁ l₂) (k : D) {a : α} {b : β} (hab : F a b) : Paired (fun p q => p.1 = q.1 ∧ F p.2 q.2) (kput l₁ k a) (kput l₂ k b) := by
  unfold kput
  rcases klook_pair h k with ⟨e1, e2⟩ | ⟨x, y, e1, e2, _⟩
  · rw [e1, e2]
    exact paired_snoc h ⟨rfl, hab⟩
  · rw [e1, e2]
    simp only [Option.isSome_some, if_true]
    refine paired_mapB (fun p q z => ?_) h
    rw [z.1]
    by_cases e : q.1 = k
    · rw [grd_true e]; exact ⟨rfl, hab⟩
    · rw [grd_false e]; exact z
/-! ### the dict as the library's: texts as keys -/
section
variable {K : PySem.W.Frag} {lv : List Addr} {H : Hp} {P : Program}
def TxR (p : D × V) (q : Key × Value) : Prop := kof p.1 = some q.1 ∧ RelV p.2 q.2
theorem kof_nk {d : D} {k : Key} (h : kof d = some k) {ks : List NestedKey} : nkey d ≠ some (.tup ks) := by
  cases d <;> simp [kof] at h <;> simp [nkey]
theorem ent_text : ∀ {es : List DictEntry} {kvv : List (D × V)}, EntV K lv H es kvv → (∀ p ∈ kvv, isT p.1 = true) → ∃ vs : List (Key × Value), Paired TxR kvv vs ∧ Pairs (mixKind P HasW.w) es vs ∧ (∀ e ∈ es, ∃ k, (mixKind P HasW.w).is k e.key = true ∧ e.hash = (mixKind P HasW.w).hash k)
  | _, _, .nil, _ => ⟨[], .nil, .nil, by simp⟩
  | e :: es, p :: kvv, .cons ⟨h1, h2⟩ t, hT => by
    obtain ⟨vs, a, b, c⟩ := ent_text t (fun q hq => hT q (List.mem_cons_of_mem _ hq))
    obtain ⟨pk, pv⟩ := p
    cases h1 with
    | @text _ kk kv u k1 k2 =>
      refine ⟨(kk, u) :: vs, .cons ⟨k1, h2⟩ a, .cons k2 rfl b, fun e he => ?_⟩
      rcases List.mem_cons.mp he with rfl | he
      · exact ⟨kk, k2, rfl⟩
      · exact c e he
    | tup u g1 g2 g3 =>
      have := hT (pk, pv) List.mem_cons_self
      dsimp only at this
      unfold isT at this
      obtain ⟨k, hk⟩ := Option.isSome_iff_exists.mp this
      exact absurd g1 (kof_nk hk)
theorem txr_nodup {kvv : List (D × V)} {vs : List (Key × Value)} (h : Paired TxR kvv vs) (n : (kvv.map (·.1)).Nodup) : (vs.map (·.1)).Nodup := by
  induction h with
  | nil => exact List.nodup_nil
  | @cons p q ps qs h t ih =>
    rw [List.map_cons, List.nodup_cons] at n ⊢
    refine ⟨fun z => n.1 ?_, ih n.2⟩
    obtain ⟨h1, _⟩ := h
    clear ih n
    induction t with
    | nil => cases z
    | @cons p' q' ps' qs' h' t' ih' =>
      obtain ⟨g1, _⟩ := h'
      rw [List.map_cons, List.mem_cons] at z ⊢
      rcases z with z | z
      · rw [z] at h1
        exact .inl (kof_inj h1 g1)
      · exact .inr (ih' z)
theorem txr_look {kvv : List (D × V)} {vs : List (Key × Value)} (h : Paired TxR kvv vs) {k : D} {x : Key} (hk : kof k = some x) : (klook kvv k = none ∧ valueAt vs x = none) ∨ ∃ v u, klook kvv k = some v ∧ valueAt vs x = some u ∧ RelV v u := by
  induction h with
  | nil => exact .inl ⟨rfl, rfl⟩
  | @cons p q ps qs h t ih =>
    obtain ⟨h1, h3⟩ := h
    rw [klook_cons]
    unfold valueAt at ih ⊢
    rw [List.find?_cons]
    by_cases e : p.1 = k
    · have e2 : q.1 = x := by
        rw [e, hk] at h1
        injection h1 with h1
        exact h1.symm
      rw [if_pos e, decide_eq_true e2]
      exact .inr ⟨_, _, rfl, rfl, h3⟩
    · have e2 : ¬ q.1 = x := fun z => e (kof_inj h1 (by rw [z]; exact hk))
      rw [if_neg e, decide_eq_false e2]
      exact ih
theorem txr_put {kvv : List (D × V)} {vs : List (Key × Value)} (h : Paired TxR kvv vs) {k : D} {x : Key} (hk : kof k = some x) {v : V} {u : Value} (r : RelV v u) : Paired TxR (kput kvv k v) (stored vs x u) := by
  unfold kput stored
  have e : (vs.any fun kv => decide (kv.1 = x)) = (klook kvv k).isSome := by
    have : (valueAt vs x).isSome = vs.any fun kv => decide (kv.1 = x) := by
      unfold valueAt
      rw [Option.isSome_map]
      rw [← List.isSome_find?]
    rw [← this]
    rcases txr_look h hk with ⟨e1, e2⟩ | ⟨_, _, e1, e2, _⟩ <;> rw [e1, e2] <;> rfl
  rw [e]
  by_cases q : (klook kvv k).isSome = true
  · rw [if_pos q, if_pos q]
    refine paired_mapB (fun p q z => ?_) h
    obtain ⟨h1, h3⟩ := z
    by_cases e : p.1 = k
    · have e2 : q.1 = x := by
        rw [e, hk] at h1
        injection h1 with h1
        exact h1.symm
      rw [grd_true e, if_pos rfl, if_pos e2]
      exact ⟨h1, r⟩
    · have e2 : ¬ q.1 = x := fun z => e (kof_inj h1 (by rw [z]; exact hk))
      rw [grd_false e, if_neg e2]
      exact ⟨h1, h3⟩
  · rw [if_neg q, if_neg q]
    exact paired_snoc h ⟨hk, r⟩
/-- back from the library's pairs -/
theorem ent_ofText : ∀ {es : List DictEntry} {kvv : List (D × V)} {vs : List (Key × Value)}, Paired TxR kvv vs → Pairs (mixKind P HasW.w) es vs → (∀ e ∈ es, ∃ k, (mixKind P HasW.w).is k e.key = true ∧ e.hash = (mixKind P HasW.w).hash k) → EntV K lv H es kvv
  | _, _, _, .nil, .nil, _ => .nil
  | e :: es, p :: kvv, q :: vs, .cons h t, .cons g1 g2 g3, c => by
    refine .cons ?_ (ent_ofText t g3 fun e' he => c e' (List.mem_cons_of_mem _ he))
    obtain ⟨h1, h3⟩ := h
    obtain ⟨k, c1, c2⟩ := c e List.mem_cons_self
    have g1 : keyIs q.1 e.key = true := g1
    have ek' : k = q.1 := (mixKind P HasW.w).inj e.key k q.1 c1 g1
    subst ek'
    refine ⟨?_, by rw [g2]; exact h3⟩
    obtain ⟨eh, ekk, ev⟩ := e
    have c2 : eh = keyH HasW.w q.1 := c2
    subst c2
    exact .text ev h1 g1
/-! ### tuples as keys -/
def TuR (K : PySem.W.Frag) (lv : List Addr) (H : Hp) (p : D × V) (q : NestedKey × Addr × Value) : Prop := nkey p.1 = some q.1 ∧ (∃ ks, q.1 = .tup ks) ∧ q.1.depth ≤ 8 ∧ Rep K lv H (.ref q.2.1) p.1 ∧ RelV p.2 q.2.2
theorem ent_tup : ∀ {es : List DictEntry} {kvv : List (D × V)}, EntV K lv H es kvv → (∀ p ∈ kvv, isT p.1 = false) → ∃ xs : List (NestedKey × Addr × Value), Paired (TuR K lv H) kvv xs ∧ es = xs.map (entryOfKey (nestedKind P HasW.w))
  | _, _, .nil, _ => ⟨[], .nil, rfl⟩
  | e :: es, p :: kvv, .cons ⟨h1, h2⟩ t, hT => by
    obtain ⟨xs, a, b⟩ := ent_tup t (fun q hq => hT q (List.mem_cons_of_mem _ hq))
    obtain ⟨pk, pv⟩ := p
    cases h1 with
    | text u k1 k2 =>
      have := hT (pk, pv) List.mem_cons_self
      dsimp only at this
      unfold isT at this
      rw [k1] at this
      cases this
    | tup u g1 g2 g3 =>
      rename_i ks bb
      exact ⟨(.tup ks, bb, u) :: xs, .cons ⟨g1, ⟨_, rfl⟩, g2, g3, h2⟩ a, by rw [List.map_cons, ← b]; rfl⟩
theorem tur_nodup {kvv : List (D × V)} {xs : List (NestedKey × Addr × Value)} (h : Paired (TuR K lv H) kvv xs) (n : (kvv.map (·.1)).Nodup) : (xs.map (·.1)).Nodup := by
  induction h with
  | nil => exact List.nodup_nil
  | @cons p q ps qs h t ih =>
    rw [List.map_cons, List.nodup_cons] at n ⊢
    refine ⟨fun z => n.1 ?_, ih n.2⟩
    have h1 := h.1
    clear ih n h
    induction t with
    | nil => cases z
    | @cons p' q' ps' qs' h' t' ih' =>
      rw [List.map_cons, List.mem_cons] at z ⊢
      rcases z with z | z
      · exact .inl (nkey_inj h1 (by rw [z]; exact h'.1))
      · exact .inr (ih' z)
theorem tur_look {kvv : List (D × V)} {xs : List (NestedKey × Addr × Value)} (h : Paired (TuR K lv H) kvv xs) {k : D} {nk : NestedKey} (hk : nkey k = some nk) : (klook kvv k = none ∧ atKey xs nk = none) ∨ ∃ v p, klook kvv k = some v ∧ atKey xs nk = some p ∧ RelV v p.2 := by
  induction h with
  | nil => exact .inl ⟨rfl, rfl⟩
  | @cons p q ps qs h t ih =>
    rw [klook_cons]
    unfold atKey at ih ⊢
    rw [List.find?_cons]
    by_cases e : p.1 = k
    · have eq : q.1 = nk := by
        have := h.1
        rw [e, hk] at this
        exact (Option.some.inj this).symm
      rw [if_pos e, decide_eq_true eq]
      exact .inr ⟨_, _, rfl, rfl, h.2.2.2.2⟩
    · have eq : ¬ q.1 = nk := fun z => e (nkey_inj h.1 (by rw [z]; exact hk))
      rw [if_neg e, decide_eq_false eq]
      exact ih
theorem tur_put {kvv : List (D × V)} {xs : List (NestedKey × Addr × Value)} (h : Paired (TuR K lv H) kvv xs) {k : D} {ks : List NestedKey} (hk : nkey k = some (.tup ks)) (hd : (NestedKey.tup ks).depth ≤ 8) {b : Addr} (hb : Rep K lv H (.ref b) k) {v : V} {u : Value} (r : RelV v u) :
    Paired (TuR K lv H) (kput kvv k v) (storedH xs (.tup ks) b u) := by
  unfold kput storedH
  have e : (klook kvv k).isSome = (atKey xs (.tup ks)).isSome := by
    rcases tur_look h hk with ⟨e1, e2⟩ | ⟨_, _, e1, e2, _⟩ <;> rw [e1, e2] <;> rfl
  rw [e]
  by_cases q : (atKey xs (.tup ks)).isSome = true
  · rw [if_pos q, if_pos q]
    refine paired_mapB (fun p q z => ?_) h
    by_cases e : p.1 = k
    · have eq : q.1 = .tup ks := by
        have := z.1
        rw [e, hk] at this
        exact (Option.some.inj this).symm
      rw [grd_true e]
      unfold putAt
      rw [if_pos eq]
      simp only [if_true]
      exact ⟨z.1, z.2.1, z.2.2.1, z.2.2.2.1, r⟩
    · have eq : ¬ q.1 = .tup ks := fun y => e (nkey_inj z.1 (by rw [y]; exact hk))
      rw [grd_false e]
      unfold putAt
      rw [if_neg eq]
      exact z
  · rw [if_neg q, if_neg q]
    exact paired_snoc h ⟨hk, ⟨_, rfl⟩, hd, hb, r⟩
theorem ent_ofTup : ∀ {kvv : List (D × V)} {xs : List (NestedKey × Addr × Value)}, Paired (TuR K lv H) kvv xs → EntV K lv H (xs.map (entryOfKey (nestedKind P HasW.w))) kvv
  | _, _, .nil => .nil
  | p :: kvv, q :: xs, .cons h t => by
    obtain ⟨h1, ⟨ks, h2⟩, h3, h4, h5⟩ := h
    refine .cons ⟨?_, h5⟩ (ent_ofTup t)
    obtain ⟨qk, qa, qv⟩ := q
    dsimp only at h2
    subst h2
    exact .tup qv h1 h3 h4
end
end M
set_option Elab.async false
set_option linter.all false
set_option maxRecDepth 100000
set_option maxHeartbeats 1000000
/-! M: dicts with data as keys: the library's rules -/
namespace M
open PySem L2 PySem.W PyProof.Rows
variable [HasW]
theorem isN_iff {k : D} (h : isN k = true) : ∃ ks ds, nkey k = some (.tup ks) ∧ (NestedKey.tup ks).depth ≤ 8 ∧ k = .tuple ds := by
  unfold isN at h
  split at h
  · rename_i ks e
    refine ⟨ks, _, e, of_decide_eq_true h, (nkey_data e).symm⟩
  · cases h
theorem isT_iff {k : D} (h : isT k = true) : ∃ x, kof k = some x := Option.isSome_iff_exists.mp h
theorem kof_rel {K : PySem.W.Frag} {lv : List Addr} {H : Hp} {k : D} {x : Key} {y : V} {u : Value} (hk : kof k = some x) (rk : Rep K lv H y k) (ry : RelV y u) : keyIs x u = true := by
  cases k <;> simp [kof] at hk
  · subst hk; cases rk; obtain ⟨t, rfl⟩ := ry; exact keyIs_int _ t
  · subst hk; cases rk; obtain ⟨t, rfl⟩ := ry; exact keyIs_str _ t
theorem uniK_pair {α β : Type} {F : α → β → Prop} {l₁ : List (D × α)} {l₂ : List (D × β)} (h : Paired (fun p q => p.1 = q.1 ∧ F p.2 q.2) l₁ l₂) (k : D) : uniK l₁ k = uniK l₂ k := by
  have e1 : l₁.all (fun p => isT p.1) = l₂.all (fun p => isT p.1) := by
    induction h with
    | nil => rfl
    | cons z t ih => rw [List.all_cons, List.all_cons, ih, z.1]
  have e2 : l₁.all (fun p => !isT p.1) = l₂.all (fun p => !isT p.1) := by
    clear e1
    induction h with
    | nil => rfl
    | cons z t ih => rw [List.all_cons, List.all_cons, ih, z.1]
  unfold uniK
  rw [e1, e2]
def KDr (K : PySem.W.Frag) (lv : List Addr) (H : Hp) (a : Addr) (kvv : List (D × V)) : Prop :=
  ∃ o es, (H a = some (PinO a o) ∨ K.lookup a = some o) ∧ DObj a o es ∧ EntV K lv H es kvv ∧ (kvv.map (·.1)).Nodup
def KDw (K : PySem.W.Frag) (lv : List Addr) (H : Hp) (a : Addr) (kvv : List (D × V)) : Prop :=
  ∃ o es, H a = some (PinO a o) ∧ DObj a o es ∧ EntV K lv H es kvv ∧ (kvv.map (·.1)).Nodup
theorem KDw.r {K : PySem.W.Frag} {lv : List Addr} {H : Hp} {a : Addr} {kvv : List (D × V)} (h : KDw K lv H a kvv) : KDr K lv H a kvv := by
  obtain ⟨o, es, h1, h2⟩ := h
  exact ⟨o, es, .inl h1, h2⟩
section
variable {X : Cx} {pins : List (Addr × Obj)} {σ : L2.St} {H : Hp} {s : Shared} {lv : List Addr} {a : Addr} {kvv : List (D × V)} {k : D} {y v : V} {u r : Value} {A : Around} {E : Value → Shared → Prop}
theorem kd_raw (I : Inv X pins σ H s) (h : KDr X.K lv H a kvv) : ∃ o ea ep, s.heap.get? a = some o ∧ o.ExactDict ∧ o.data = .dict ea ep ∧ EntV X.K lv H ea.toList kvv ∧ (kvv.map (·.1)).Nodup ∧ ea.toList.length ≤ sizeLine ∧ (a == sysModules) = false := by
  obtain ⟨o, es, h1, ⟨x1, ⟨ea, ep, x2, rfl⟩, x3, x4⟩, h3, h4⟩ := h
  refine ⟨o, ea, ep, ?_, x1, x2, h3, h4, x3, x4⟩
  rcases h1 with h1 | h1
  · exact (I.hok a _ h1).1
  · exact I.kIn a o h1
theorem kd_text (I : Inv X pins σ H s) (hw : X.w = HasW.w) (h : KDr X.K lv H a kvv) (hT : ∀ p ∈ kvv, isT p.1 = true) : ∃ vs, Paired TxR kvv vs ∧ s.heap.DictOf (mixKind X.prog X.w) a vs ∧ vs.length ≤ sizeLine ∧ (a == sysModules) = false := by
  obtain ⟨o, ea, ep, h1, h2, h3, h4, h5, h6, h7⟩ := kd_raw I h
  obtain ⟨vs, g1, g2, g3⟩ := ent_text (P := X.prog) h4 hT
  rw [hw]
  have l1 := h4.length
  have l2 := g1.length
  exact ⟨vs, g1, ⟨o, ea, ep, h1, h2, h3, fun e he => g3 e (by simpa using he), g2, txr_nodup g1 h5⟩, by omega, h7⟩
theorem kd_tup (I : Inv X pins σ H s) (hw : X.w = HasW.w) (h : KDr X.K lv H a kvv) (hT : ∀ p ∈ kvv, isT p.1 = false) : ∃ xs, Paired (TuR X.K lv H) kvv xs ∧ s.heap.DictOfH (nestedKind X.prog X.w) a xs ∧ xs.length ≤ sizeLine ∧ (a == sysModules) = false := by
  obtain ⟨o, ea, ep, h1, h2, h3, h4, h5, h6, h7⟩ := kd_raw I h
  obtain ⟨xs, g1, g2⟩ := ent_tup (P := X.prog) h4 hT
  rw [hw]
  have l1 := h4.length
  have l2 := g1.length
  refine ⟨xs, g1, ⟨o, ea, ep, h1, h2, h3, g2, fun x hx => ?_, tur_nodup g1 h5⟩, by omega, h7⟩
  obtain ⟨i, hi⟩ := List.getElem?_of_mem hx
  obtain ⟨p, hp, z1, ⟨ks, z2⟩, z3, z4, _⟩ := Paired.get g1 hi
  exact ⟨key_is I z4 rfl z1, z3⟩
theorem uni_text {α : Type} {kvs : List (D × α)} {k : D} (hk : isT k = true) (h : uniK kvs k = true) : ∀ p ∈ kvs, isT p.1 = true := by
  unfold uniK at h
  rw [if_pos hk] at h
  exact List.all_eq_true.mp h
theorem uni_tup {α : Type} {kvs : List (D × α)} {k : D} (hk : isT k = false) (h : uniK kvs k = true) : isN k = true ∧ ∀ p ∈ kvs, isT p.1 = false := by
  unfold uniK at h
  rw [if_neg (by rw [hk]; simp), Bool.and_eq_true] at h
  exact ⟨h.1, fun p hp => by simpa using List.all_eq_true.mp h.2 p hp⟩
theorem nk_room (hu : A.units + 65 < cLine) {P : Program} {w : World} : (nestedKind P w).room A.in1 := by
  show A.units + 1 + 8 < cLine
  omega
/-- d[k], there -/
theorem kd_get {Q : Value → Shared → Prop} (hu : A.units + 65 < cLine) (hw : X.w = HasW.w) (I : Inv X pins σ H s) (h : KDr X.K lv H a kvv) (ry : RelV y u) (rk : Rep X.K lv H y k) (uk : uniK kvv k = true) (e : klook kvv k = some v)
    (hq : ∀ w' s', Inv X pins σ H s' → RelV v w' → Q w' s') : wpAny (model X.prog X.w) A (getItem (.ref a) u) Q E s := by
  cases hk : isT k with
  | true =>
    obtain ⟨x, hx⟩ := isT_iff hk
    obtain ⟨vs, g1, g2, g3, g4⟩ := kd_text I hw h (uni_text hk uk)
    have kx := kof_rel hx rk ry
    rcases txr_look g1 hx with ⟨z, _⟩ | ⟨v', w', z1, z2, z3⟩
    · rw [e] at z; cases z
    · rw [e] at z1
      cases z1
      exact wpAny_getItem_of kx g2.mapOf z2 (hq w' _ (I.tok _) z3)
  | false =>
    obtain ⟨hn, hT⟩ := uni_tup hk uk
    obtain ⟨ks, ds, n1, n2, rfl⟩ := isN_iff hn
    obtain ⟨xs, g1, g2, g3, g4⟩ := kd_tup I hw h hT
    rcases tur_look g1 n1 with ⟨z, _⟩ | ⟨v', p, z1, z2, z3⟩
    · rw [e] at z; cases z
    · rw [e] at z1
      cases z1
      have hkey := key_is I rk ry n1
      cases rk with
      | tup t rs =>
        cases (show u = _ from ry)
        exact wpAny_getItem_heap (nk_room hu) ⟨hkey, n2⟩ g2 z2 (hq p.2 _ (I.tok _) z3)
theorem mo_upd {K : PySem.W.Frag} {H : Hp} {o : HO} (ha : a ∈ lv) : Mo lv H lv (upd H a o) := ⟨fun b o' h n _ => by rw [upd_ne (fun z => n (by rw [z]; exact ha))]; exact h, fun _ _ _ n => n⟩
theorem pin_ok {P : Program} {w : World} {H' : Hp} {h' : Heap} {o : Obj} (e : h'.get? a = some o) : ObjOk P w H' h' a (PinO a o) := ⟨e, ⟨o, e⟩, fun _ _ z k => k _ z⟩
/-- the dict behind a store, by texts -/
theorem kd_newT {P : Program} {vs : List (Key × Value)} {h' : Heap} {H' : Hp} {x : Key} (hx : kof k = some x) {w : Value} (ha : a ∈ lv) (g1 : Paired TxR kvv vs) (hw : X.w = HasW.w) (dd : h'.DictOf (mixKind X.prog X.w) a (stored vs x w)) (rv : RelV v w) (nd : (kvv.map (·.1)).Nodup) (hl : kvv.length < sizeLine) (sm : (a == sysModules) = false) :
    ∃ o', h'.get? a = some o' ∧ KDw X.K lv (upd H a (PinO a o')) a (kput kvv k v) := by
  obtain ⟨o', es, ep, d1, d2, d3, d4, d5, d6⟩ := dd
  refine ⟨o', d1, o', es.toList, upd_same, ⟨d2, ⟨es, ep, d3, rfl⟩, ?_, sm⟩, ?_, kput_nodup nd⟩
  · have l1 := d5.length
    have l2 := (txr_put g1 hx rv).length
    have := kput_length kvv k v
    omega
  · rw [hw] at d4 d5
    exact ent_ofText (P := X.prog) (txr_put g1 hx rv) d5 fun e he => d4 e (by simpa using he)
theorem kd_newN {xs : List (NestedKey × Addr × Value)} {h' : Heap} {ks : List NestedKey} {b : Addr} {w : Value} (ha : a ∈ lv) (g1 : Paired (TuR X.K lv H) kvv xs) (hw : X.w = HasW.w) (n1 : nkey k = some (.tup ks)) (n2 : (NestedKey.tup ks).depth ≤ 8) (rk : Rep X.K lv H (.ref b) k)
    (dd : h'.DictOfH (nestedKind X.prog X.w) a (storedH xs (.tup ks) b w)) (rv : RelV v w) (nd : (kvv.map (·.1)).Nodup) (hl : kvv.length < sizeLine) (sm : (a == sysModules) = false) :
    ∃ o', h'.get? a = some o' ∧ KDw X.K lv (upd H a (PinO a o')) a (kput kvv k v) := by
  obtain ⟨o', es, ep, d1, d2, d3, d4, _, d6⟩ := dd
  have pp := tur_put g1 n1 n2 rk rv
  refine ⟨o', d1, o', es.toList, upd_same, ⟨d2, ⟨es, ep, d3, rfl⟩, ?_, sm⟩, ?_, kput_nodup nd⟩
  · have l1 := pp.length
    rw [d4, List.length_map]
    have := kput_length kvv k v
    omega
  · rw [d4, hw]
    exact (ent_ofTup (P := X.prog) pp).mono (mo_upd (K := X.K) ha)
/-- d[k] = v -/
theorem kd_set {Q : Unit → Shared → Prop} (hu : A.units + 65 < cLine) (hw : X.w = HasW.w) (I : Inv X pins σ H s) (h : KDw X.K lv H a kvv) (ha : a ∈ lv) (ry : RelV y u) (rk : Rep X.K lv H y k) (uk : uniK kvv k = true) (rv : RelV v r) (hl : kvv.length < sizeLine)
    (hq : ∀ o' s', Inv X pins σ (upd H a (PinO a o')) s' → KDw X.K lv (upd H a (PinO a o')) a (kput kvv k v) → Q () s') : wpAny (model X.prog X.w) A (setItem (.ref a) u r) Q E s := by
  have mu : Mut (H a) := by
    obtain ⟨o, es, h1, _⟩ := h
    rw [h1]; trivial
  have nd : (kvv.map (·.1)).Nodup := by
    obtain ⟨o, es, _, _, _, h4⟩ := h
    exact h4
  cases hk : isT k with
  | true =>
    obtain ⟨x, hx⟩ := isT_iff hk
    obtain ⟨vs, g1, g2, g3, g4⟩ := kd_text I hw h.r (uni_text hk uk)
    have kx := kof_rel hx rk ry
    refine wpAny_setItem_pairs (hsz := g3) kx g2 fun h' dd hs => ?_
    obtain ⟨o', e', z⟩ := kd_newT (H := H) (X := X) (P := X.prog) (H' := H) hx ha g1 hw dd rv nd hl g4
    exact hq o' _ (d_write I mu hs ⟨o', e'⟩ (pin_ok e')) z
  | false =>
    obtain ⟨hn, hT⟩ := uni_tup hk uk
    obtain ⟨ks, ds, n1, n2, rfl⟩ := isN_iff hn
    obtain ⟨xs, g1, g2, g3, g4⟩ := kd_tup I hw h.r hT
    have hkey := key_is I rk ry n1
    cases rk with
    | @tup b _ _ t rs =>
      cases (show u = _ from ry)
      refine wpAny_setItem_heap (hsz := g3) (nk_room hu) ⟨hkey, n2⟩ g2 fun h' dd hs => ?_
      obtain ⟨o', e', z⟩ := kd_newN (X := X) ha g1 hw n1 n2 (.tup t rs) dd rv nd hl g4
      exact hq o' _ (d_write I mu hs ⟨o', e'⟩ (pin_ok e')) z
end
end M
set_option Elab.async false
set_option linter.all false
set_option maxRecDepth 100000
set_option maxHeartbeats 1000000
/-! M: dicts with data as keys: operations -/
namespace M
open PySem L2 PySem.W PyProof.Rows
variable [HasW]
def asK (w : W) (m : Mem) : Option (List (D × W)) := match w with
  | .d (.dict kvs) => some (kvs.map fun p => (p.1, .d p.2))
  | .obj j => match m[j]? with
    | some (.dcn kvs) => some kvs
    | _ => none
  | _ => none
section
variable {X : Cx} {Wx : WX} {pins : List (Addr × Obj)} {σ : L2.St} {H : Hp} {s : Shared}
theorem kd_type (I : Inv X pins σ H s) {lv : List Addr} {a : Addr} {kvv : List (D × V)} (h : KDr X.K lv H a kvv) : s.TypeIs (.ref a) "dict" ∧ ∃ ob, s.heap.get? a = some ob ∧ ob.dict = none := by
  obtain ⟨o, ea, ep, h1, h2, h3, _⟩ := kd_raw I h
  exact ⟨⟨o, h1, h2.1⟩, o, h1, h2.2.1⟩
theorem paired_keys {α β : Type} {F : α → β → Prop} {l₁ : List (D × α)} {l₂ : List (D × β)} (h : Paired (fun p q => p.1 = q.1 ∧ F p.2 q.2) l₁ l₂) : l₁.map (·.1) = l₂.map (·.1) := by
  induction h with
  | nil => rfl
  | cons z t ih => rw [List.map_cons, List.map_cons, ih, z.1]
/-- a dict that is seen: its place, its values -/
theorem asK_sq {G : Wd} {m : Mem} {H0 : Hp} {v : V} {w : W} {kvs : List (D × W)} (R : RelM X.K G m) (h : RepR X.K H0 G v w) (e : asK w m = some kvs) : ∃ a kvv, v = .ref a ∧ KDr X.K G.lv G.H a kvv ∧ Paired (fun (p : D × V) (q : D × W) => p.1 = q.1 ∧ RepW X.K G p.2 q.2) kvv kvs := by
  cases w with
  | d x =>
    cases x with
    | dict ks =>
      cases e
      cases h with
      | @dct a o es _ h1 h2 h3 h4 =>
        obtain ⟨kvv, g1, g2⟩ := h3.ent
        refine ⟨a, kvv, rfl, ⟨o, es, h1.imp And.right id, h2, g1, ?_⟩, ?_⟩
        · rw [paired_keys g2]; exact h4
        · have : Paired (fun (p : D × V) (q : D × D) => (fun (p : D × V) (q : D × W) => p.1 = q.1 ∧ RepW X.K G p.2 q.2) p (q.1, .d q.2)) kvv ks := g2
          clear g1 h3 h4 g2
          induction this with
          | nil => exact .nil
          | cons z t ih => exact .cons z ih
    | _ => cases e
  | obj j =>
    obtain ⟨a, h1, rfl⟩ := h
    simp only [asK] at e
    cases eo : m[j]? with
    | none => rw [eo] at e; cases e
    | some ob =>
      rw [eo] at e
      cases ob with
      | dcn ks =>
        cases e
        obtain ⟨_, o, es, kvv, z1, z2, z3, z4, z5⟩ := R.ob j a _ h1 eo
        exact ⟨a, kvv, rfl, ⟨o, es, .inl z1, z2, z3, by rw [paired_keys z4]; exact z5⟩, z4⟩
      | _ => cases e
  | _ => cases e
/-! d[k] -/
def rKGet (K : PySem.W.Frag) : R2 := fun x y H Q => ∃ a lv kvv k v, x = .ref a ∧ KDr K lv H a kvv ∧ Rep K lv H y k ∧ uniK kvv k = true ∧ klook kvv k = some v ∧ Q v H
theorem ix_kd (hu : X.A.units + 65 < cLine) (hw : X.w = HasW.w) : IxR X (rKGet X.K) := by
  intro value slice pins s σ H x y v u Q I rx ry h hs
  obtain ⟨a, lv, kvv, k, z, rfl, h1, h2, h3, h4, q⟩ := h
  obtain rfl : v = Value.ref a := rx
  have hT := (kd_type I h1).1
  unfold subscriptTail
  refine wpAny_bind ?_
  rw [getitemInPython_of_ne hT.not_modules]
  refine wpAny_bind (wpAny_specialOf hT PySem.F.slot_dict_getitem.lookup ?_)
  have fin : wpAny (model X.prog X.w) X.A (subscripted slice false (.ref a) u) (fun r s₃ => wpAny (model X.prog X.w) X.A (letTemporaryGo value (.ref a) r >>= fun _ => pure r) (EP X pins σ Q) X.xe s₃) X.xe s := by
    rw [hs]
    exact wpAny_operating (kd_get hu hw I h1 ry h2 h3 h4 fun w' s' I' r' => wpAny_bind (wpAny_letTemporaryGo (wpAny_pure ⟨z, H, I', r', q⟩)))
  first
    | exact wpAny_pure (wpAny_bind fin)
    | exact wpAny_bind (wpAny_pure (wpAny_bind fin))
    | exact wpAny_bind fin
theorem ix_all (hu : X.A.units + 65 < cLine) (hw : X.w = HasW.w) : IxR X (fun x y H Q => rIx X.K x y H Q ∨ rKGet X.K x y H Q) := IxR.or ix_seq (ix_kd hu hw)
noncomputable def ixA (x y : W) (m : Mem) : Res W := match asK x m, y with
  | some kvs, .d k => if uniK kvs k = true then (match klook kvs k with | some w => .ok w m | none => .bad) else .bad
  | some _, _ => .bad
  | none, _ => ixW x y m
theorem ixA_ok : OpOk X Wx (fun x y H Q => rIx X.K x y H Q ∨ rKGet X.K x y H Q) ixA := by
  intro σ G m v u x y H0 H1 Q R rx ry h
  unfold ixA at h
  split at h
  · rename_i kvs k e
    obtain ⟨a, kvv, rfl, g1, g2⟩ := asK_sq R rx e
    split at h
    · rename_i uk
      rcases klook_pair g2 k with ⟨e1, e2⟩ | ⟨p, q, e1, e2, hp⟩
      · rw [e2] at h; exact False.elim h
      · rw [e2] at h
        exact .inr ⟨a, G.lv, kvv, k, p, rfl, g1, ry, by rw [uniK_pair g2]; exact uk, e1, h p G (Le.refl R) R hp.r⟩
    · exact False.elim h
  · exact False.elim h
  · exact .inl (ixW_ok σ G m v u _ _ H0 H1 Q R rx ry h)
/-! k in d -/
/-! {} -/
def eNewK (_ : Env) (m : Mem) : Res W := .ok (.obj m.length) (m ++ [.dcn []])
def tNewP (K : PySem.W.Frag) : TE := fun _ H Q => ∀ p o, H p = none → (∀ lv, KDw K lv (upd H p (PinO p o)) p []) → Q (.ref p) (upd H p (PinO p o))
theorem pe_newP {pos : Pos} : PE X (.Dict [] [] pos) (tNewP X.K) := ⟨fun pins s σ H Q I h =>
  wpAny_Dict_empty ⟨.ref s.heap.objs.size, _, I.laid (a := s.heap.objs.size) (o := PinO s.heap.objs.size { cls := .type "dict", data := .dict #[] }) (t' := s.toks) (fun _ _ q => Heap.get?_push_of_some _ q) (Nat.le_refl _) (pin_ok (Heap.get?_push_size _ rfl)), rfl,
    h _ _ (I.hok.fresh (Nat.le_refl _)) fun lv => ⟨_, [], upd_same, ⟨⟨rfl, rfl, rfl⟩, ⟨#[], 0, rfl, rfl⟩, Nat.zero_le _, beq_eq_false_iff_ne.mpr (Ne.symm (Nat.ne_of_lt I.big))⟩, .nil, List.nodup_nil⟩⟩⟩
theorem me_newK {pos : Pos} : ME X Wx (.Dict [] [] pos) eNewK := by
  refine ⟨_, pe_newP, fun env m σ G Q S R h p o hp hk => ?_⟩
  have le0 : Le G ⟨G.io, p :: G.lv, upd G.H p (PinO p o)⟩ := Le.newL R hp
  have R0 : RelM X.K ⟨G.io, p :: G.lv, upd G.H p (PinO p o)⟩ m := R.newL hp
  have np : p ∉ G.io := (R.ne hp).1
  obtain ⟨o', es, k1, k2, k3, k4⟩ := hk (p :: G.lv)
  have R4 := R0.own (p := p) (ob := .dcn []) np (by show upd _ _ _ _ ≠ none; rw [upd_same]; simp) ⟨List.mem_cons_self, o', es, [], k1, k2, k3, .nil, k4⟩ rfl
  have h : GPost X Wx σ G (RepR X.K) (.ok (.obj m.length) (m ++ [.dcn []])) Q := h
  refine h (.ref p) _ (le0.own hp) R4 ⟨p, ?_, rfl⟩
  show (G.io ++ [p])[m.length]? = some p
  rw [← R.len]; simp
/-! d[k] = v -/
noncomputable def ksetW (x k v : W) (m : Mem) : Res Unit := match x, k with
  | .obj j, .d k => (match m[j]? with
    | some (.dcn kvs) => if (uniK kvs k && decide (kvs.length < sizeLine) && okW m.length v) = true then .ok () (m.set j (.dcn (kput kvs k v))) else .bad
    | _ => .bad)
  | _, _ => .bad
noncomputable def sSetK (o i : EF) (f : EF) (env : Env) (m : Mem) : SRes := eS ((f env m).bind fun v m1 => (o env m1).bind fun x m2 => (i env m2).bind fun k m3 => ksetW x k v m3) env fun _ m1 => .nx env m1
def tKPut (K : PySem.W.Frag) (to ti tv : TE) : TS := fun D σ H => tv σ H fun v H1 => to σ H1 fun x H2 => ti σ H2 fun y H3 => ∃ a lv kvv k, x = .ref a ∧ KDw K lv H3 a kvv ∧ a ∈ lv ∧ Rep K lv H3 y k ∧ uniK kvv k = true ∧ kvv.length < sizeLine ∧
  ∀ o', KDw K lv (upd H3 a (PinO a o')) a (kput kvv k v) → D.nx σ (upd H3 a (PinO a o'))
theorem ps_kput {o i value : Expr} {pos' pos : Pos} {to ti tv : TE} (hu : X.A.units + 65 < cLine) (hw : X.w = HasW.w) (ho : PE X o to) (hi : PE X i ti) (hv : PE X value tv) (hs : swapsWith value (some (.Subscript o i pos')) pos.line X.env = pure false) :
    PS X (.Assign [.Subscript o i pos'] value pos) (tKPut X.K to ti tv) := by
  refine ⟨fun pins s σ H D I h => ?_⟩
  refine wpAny_Assign_Subscript (thn (hv.run pins s σ H _ I h) fun r s1 ⟨v, H1, I1, rv, q1⟩ => thn (ho.run pins s1 σ H1 _ I1 q1) fun u s2 ⟨x, H2, I2, rx, q2⟩ => thn (hi.run pins s2 σ H2 _ I2 q2) fun iv s3 ⟨y, H3, I3, ry, a, lv, kvv, k, ex, g1, g2, g3, g4, g5, q3⟩ => ?_) hs
  subst ex
  obtain rfl : u = Value.ref a := rx
  exact kd_set hu hw I3 g1 g2 ry g3 g4 rv g5 fun o' s4 I4 z => ⟨σ, _, I4, q3 o' z⟩
theorem okO_kput {n : Nat} {kvs : List (D × W)} {k : D} {v : W} (h : okO n (.dcn kvs) = true) (hv : okW n v = true) : okO n (.dcn (kput kvs k v)) = true := by
  have h : ∀ p ∈ kvs, okW n p.2 = true := by simpa [okO] using h
  show (kput kvs k v).all (fun p => okW n p.2) = true
  rw [List.all_eq_true]
  intro p hp
  unfold kput at hp
  split at hp
  · obtain ⟨q, hq, rfl⟩ := List.mem_map.mp hp
    split
    · exact hv
    · exact h q hq
  · rcases List.mem_append.mp hp with hp | hp
    · exact h p hp
    · rw [List.mem_singleton.mp hp]; exact hv
/-- an own dict behind a store -/
theorem RelM.kset {G : Wd} {m : Mem} {j : Nat} {a : Addr} {kvs : List (D × W)} {kvv : List (D × V)} {k : D} {v : V} {w : W} {o' : Obj} (R : RelM X.K G m) (g1 : G.io[j]? = some a) (gl : a ∈ G.lv) (e : m[j]? = some (.dcn kvs)) (pp : Paired (fun (p : D × V) (q : D × W) => p.1 = q.1 ∧ RepW X.K G p.2 q.2) kvv kvs)
    (rv : RepW X.K G v w) (ok : okW m.length w = true) (nd : (kvs.map (·.1)).Nodup) (z : KDw X.K G.lv (upd G.H a (PinO a o')) a (kput kvv k v)) : Le G ⟨G.io, G.lv, upd G.H a (PinO a o')⟩ ∧ RelM X.K ⟨G.io, G.lv, upd G.H a (PinO a o')⟩ (m.set j (.dcn (kput kvs k w))) := by
  have le : Le G ⟨G.io, G.lv, upd G.H a (PinO a o')⟩ := Le.mut R g1 gl
  obtain ⟨o2, es, z1, z2, z3, z4⟩ := z
  exact ⟨le, R.mut g1 gl ⟨gl, o2, es, _, z1, z2, z3, Paired.mono (fun _ _ y => ⟨y.1, y.2.mono le⟩) (kput_pair pp k rv), kput_nodup nd⟩ (okO_kput (R.dw j _ e) ok)⟩
theorem own_kd {G : Wd} {m : Mem} {j : Nat} {a : Addr} {kvs : List (D × W)} (R : RelM X.K G m) (g1 : G.io[j]? = some a) (e : m[j]? = some (.dcn kvs)) : a ∈ G.lv ∧ ∃ kvv, KDw X.K G.lv G.H a kvv ∧ Paired (fun (p : D × V) (q : D × W) => p.1 = q.1 ∧ RepW X.K G p.2 q.2) kvv kvs ∧ (kvs.map (·.1)).Nodup := by
  obtain ⟨z0, o, es, kvv, z1, z2, z3, z4, z5⟩ := R.ob j a _ g1 e
  exact ⟨z0, kvv, ⟨o, es, z1, z2, z3, by rw [paired_keys z4]; exact z5⟩, z4, z5⟩
theorem ms_setK {o i e : Expr} {fo fi f : EF} {tpos pos : Pos} (hu : X.A.units + 65 < cLine) (hw : X.w = HasW.w) (ho : ME X Wx o fo) (hi : ME X Wx i fi) (he : ME X Wx e f)
    (hs : swapsWith e (some (.Subscript o i tpos)) pos.line X.env = pure false := by rfl) : MS X Wx (.Assign [.Subscript o i tpos] e pos) (sSetK fo fi f) := by
  obtain ⟨to, po, qo⟩ := ho
  obtain ⟨ti, pi, qi⟩ := hi
  obtain ⟨t, p, q⟩ := he
  refine ⟨_, ps_kput hu hw po pi p hs, fun env m σ G E S R h => ?_⟩
  have h' : GPost X Wx σ G (fun _ _ (_ : Unit) (_ : Unit) => True) ((f env m).bind fun v m1 => (fo env m1).bind fun x m2 => (fi env m2).bind fun k m3 => ksetW x k v m3) (fun _ H' => E.nx σ H') := SPost.ofE h S fun a m1 v G1 le R1 _ h1 => h1 σ G1 (Le.refl R1) R1 (S.mono le)
  have wk : Weak (fun (_ : Hp) (_ : Wd) (_ : Unit) (_ : Unit) => True) := fun _ _ _ _ _ _ _ => trivial
  refine q env m σ G _ S R (GPost.bind wk h' fun w m1 v G1 le1 R1 q1 h1 => ?_)
  refine qo env m1 σ G1 _ (S.mono le1) R1 (GPost.bind wk h1 fun x m2 u G2 le2 R2 q2 h2 => ?_)
  refine qi env m2 σ G2 _ ((S.mono le1).mono le2) R2 (GPost.bind wk h2 fun k m3 z G3 le3 R3 q3 h3 => ?_)
  unfold ksetW at h3
  split at h3
  · rename_i j kk
    obtain ⟨a, g1, rfl⟩ := q2.mono le3
    split at h3
    · rename_i kvs e
      obtain ⟨gl, kvv, g2, g3, g4⟩ := own_kd R3 g1 e
      split at h3
      · rename_i hz
        rw [Bool.and_eq_true, Bool.and_eq_true] at hz
        obtain ⟨⟨hz1, hz2⟩, hz3⟩ := hz
        have hl := of_decide_eq_true hz2
        have rv : RepW X.K G3 v w := okW_rep ((q1.mono le2).mono le3) hz3
        refine ⟨a, G3.lv, kvv, kk, rfl, g2, gl, q3, by rw [uniK_pair g3]; exact hz1, by rw [g3.length]; exact hl, fun o' z => ?_⟩
        obtain ⟨le, R4⟩ := R3.kset g1 gl e g3 rv hz3 g4 z
        exact h3 () _ le R4 trivial
      · exact False.elim h3
    · exact False.elim h3
  · exact False.elim h3
/-! d.get(k), d.get(k, x), d.setdefault(k, x) -/
/-! get -/
/-! setdefault -/
end
end M
set_option Elab.async false
set_option linter.all false
set_option maxRecDepth 100000
set_option maxHeartbeats 1000000
/-! M: dicts with data as keys: walks -/
namespace M
open PySem L2 PySem.W PyProof.Rows
end M
set_option Elab.async false
set_option linter.all false
set_option maxRecDepth 100000
set_option maxHeartbeats 1000000
/-! M: sorted(d, key=def), list(d.values()) -/
namespace M
open PySem L2 PySem.W PyProof.Rows
end M
set_option Elab.async false
set_option linter.all false
set_option maxRecDepth 100000
set_option maxHeartbeats 1000000
/-! M: list(d.values()); a dict frozen; pairs with an object; try that meets no exception -/
namespace M
open PySem L2 PySem.W PyProof.Rows
variable [HasW]
/-! ### list(d.values()) -/
/-! ### what is frozen: a dict and what it holds become data -/
def killM (js : List Nat) (m : Mem) : Mem := js.foldl (fun m j => m.set j .dead) m
theorem killM_len : ∀ (js : List Nat) (m : Mem), (killM js m).length = m.length
  | [], m => rfl
  | j :: js, m => by
    show (killM js (m.set j .dead)).length = _
    rw [killM_len js, List.length_set]
theorem killM_get : ∀ (js : List Nat) (m : Mem) (i : Nat), (i ∉ js → (killM js m)[i]? = m[i]?) ∧ (i ∈ js → i < m.length → (killM js m)[i]? = some .dead)
  | [], m, i => ⟨fun _ => rfl, fun h => by cases h⟩
  | j :: js, m, i => by
    obtain ⟨h1, h2⟩ := killM_get js (m.set j .dead) i
    refine ⟨fun h => ?_, fun h hl => ?_⟩
    · rw [List.mem_cons, not_or] at h
      show (killM js (m.set j .dead))[i]? = _
      rw [h1 h.2, List.getElem?_set_ne (fun z => h.1 z.symm)]
    · show (killM js (m.set j .dead))[i]? = _
      by_cases hi : i ∈ js
      · exact h2 hi (by rw [List.length_set]; exact hl)
      · rcases List.mem_cons.mp h with z | z
        · subst z
          rw [h1 hi, List.getElem?_set_self hl]
        · exact absurd z hi
def fzE (i : Nat) (env : Env) (m : Mem) : Option (Env × Mem) := match env[i]? with
  | some (some w) => match viewM 0 m 4 w with
    | some (d, js) => some (env.set i (some (.d d)), killM js m)
    | none => none
  | _ => none
end M
set_option Elab.async false
set_option linter.all false
set_option maxRecDepth 100000
set_option maxHeartbeats 1000000
/-! P: dicts with data as keys: places -/
namespace M
open PySem L2
variable [HasW]
noncomputable section
def dataAt (kvs : List (D × TV)) (k : D) : Bool := kvs.all fun p => !grd (p.1 = k) || (match p.2 with
  | .d _ => true
  | _ => false)
section
variable {m : Mem} {kws : List (D × W)} {kvs : List (D × TV)} {ks : List Nat}
theorem ChAt.keys (h : ChAt m kws kvs ks) : kws.map (·.1) = kvs.map (·.1) := by
  induction h with
  | nil => rfl
  | d t ih => rw [List.map_cons, List.map_cons, ih]
  | l e n t ih => rw [List.map_cons, List.map_cons, ih]
  | c e n t ih => rw [List.map_cons, List.map_cons, ih]
theorem uniK_keys {α β : Type} {l₁ : List (D × α)} {l₂ : List (D × β)} (h : l₁.map (·.1) = l₂.map (·.1)) (k : D) : uniK l₁ k = uniK l₂ k := by
  have e1 : l₁.all (fun p => isT p.1) = l₂.all (fun p => isT p.1) := by
    have : (l₁.map (·.1)).all isT = (l₂.map (·.1)).all isT := by rw [h]
    simpa [List.all_map, Function.comp_def] using this
  have e2 : l₁.all (fun p => !isT p.1) = l₂.all (fun p => !isT p.1) := by
    have : (l₁.map (·.1)).all (fun x => !isT x) = (l₂.map (·.1)).all (fun x => !isT x) := by rw [h]
    simpa [List.all_map, Function.comp_def] using this
  unfold uniK
  rw [e1, e2]
theorem ChAt.uni (h : ChAt m kws kvs ks) (k : D) : uniK kws k = uniK kvs k := uniK_keys h.keys k
theorem ChAt.len (h : ChAt m kws kvs ks) : kws.length = kvs.length := by
  have := congrArg List.length h.keys
  simpa using this
inductive LkAt (m : Mem) (ks : List Nat) : Option W → Option TV → Prop
  | no : LkAt m ks none none
  | d (x : D) : LkAt m ks (some (.d x)) (some (.d x))
  | l {c : Nat} {xs : List D} : m[c]? = some (.lst xs) → c ∈ ks → LkAt m ks (some (.obj c)) (some (.l xs))
  | c {c : Nat} {ys : List (D × D)} : m[c]? = some (.dcn (kvN ys)) → c ∈ ks → LkAt m ks (some (.obj c)) (some (.c ys))
theorem LkAt.mono {ks' : List Nat} {a : Option W} {b : Option TV} (h : LkAt m ks a b) (hk : ∀ i ∈ ks, i ∈ ks') : LkAt m ks' a b := by
  cases h with
  | no => exact .no
  | d x => exact .d x
  | l e i => exact .l e (hk _ i)
  | c e i => exact .c e (hk _ i)
theorem ChAt.look (h : ChAt m kws kvs ks) (k : D) : LkAt m ks (klook kws k) (klook kvs k) := by
  induction h with
  | nil => exact .no
  | d t ih =>
    rw [klook_cons, klook_cons]
    split
    · exact .d _
    · exact ih
  | l e n t ih =>
    rw [klook_cons, klook_cons]
    split
    · exact .l e List.mem_cons_self
    · exact ih.mono fun i hi => List.mem_cons_of_mem _ hi
  | c e n t ih =>
    rw [klook_cons, klook_cons]
    split
    · exact .c e List.mem_cons_self
    · exact ih.mono fun i hi => List.mem_cons_of_mem _ hi
theorem ChAt.snoc {k : D} {w : W} {v : TV} {ls : List Nat} (h : ChAt m kws kvs ks) (h1 : ChAt m [(k, w)] [(k, v)] ls) (hd : ∀ i ∈ ls, i ∉ ks) : ChAt m (kws ++ [(k, w)]) (kvs ++ [(k, v)]) (ks ++ ls) := by
  induction h with
  | nil => exact h1
  | d t ih => exact .d (ih hd)
  | l e n t ih =>
    refine .l e (fun z => ?_) (ih fun i hi z => hd i hi (List.mem_cons_of_mem _ z))
    rcases List.mem_append.mp z with z | z
    · exact n z
    · exact hd _ z List.mem_cons_self
  | c e n t ih =>
    refine .c e (fun z => ?_) (ih fun i hi z => hd i hi (List.mem_cons_of_mem _ z))
    rcases List.mem_append.mp z with z | z
    · exact n z
    · exact hd _ z List.mem_cons_self
theorem ChAt.mapD {k v : D} (h : ChAt m kws kvs ks) (hk : dataAt kvs k = true) : ChAt m (kws.map fun p => if grd (p.1 = k) = true then (p.1, .d v) else p) (kvs.map fun p => if grd (p.1 = k) = true then (p.1, .d v) else p) ks := by
  induction h with
  | nil => exact .nil
  | @d k' x kws kvs ks t ih =>
    have hk' : dataAt kvs k = true := by
      unfold dataAt at hk ⊢
      rw [List.all_cons, Bool.and_eq_true] at hk
      exact hk.2
    rw [List.map_cons, List.map_cons]
    by_cases e : k' = k
    · simp only [grd_true e, if_true]; exact .d (ih hk')
    · simp only [grd_false e]; exact .d (ih hk')
  | @l k' i xs kws kvs ks e n t ih =>
    unfold dataAt at hk
    rw [List.all_cons, Bool.and_eq_true] at hk
    obtain ⟨h1, h2⟩ := hk
    have en : grd (k' = k) = false := by simpa using h1
    rw [List.map_cons, List.map_cons]
    simp only [en]
    exact .l e n (ih h2)
  | @c k' i xs kws kvs ks e n t ih =>
    unfold dataAt at hk
    rw [List.all_cons, Bool.and_eq_true] at hk
    obtain ⟨h1, h2⟩ := hk
    have en : grd (k' = k) = false := by simpa using h1
    rw [List.map_cons, List.map_cons]
    simp only [en]
    exact .c e n (ih h2)
theorem look_some (h : ChAt m kws kvs ks) (k : D) : (klook kws k).isSome = (klook kvs k).isSome := by
  have := h.look k
  generalize klook kws k = a at this
  generalize klook kvs k = b at this
  cases this <;> rfl
theorem ChAt.putD {k v : D} (h : ChAt m kws kvs ks) (hk : dataAt kvs k = true) : ChAt m (kput kws k (.d v)) (kput kvs k (.d v)) ks := by
  unfold kput
  rw [look_some h k]
  split
  · exact h.mapD hk
  · have := h.snoc (k := k) (w := .d v) (v := .d v) (ls := []) (.d .nil) (fun i hi => nomatch hi)
    rwa [List.append_nil] at this
end
/-! ### the frame -/
section
variable {fr : Fr} {ρ : List PV} {env : Env} {m : Mem}
theorem Rel.getT (R : Rel fr ρ env m) {i : Nat} {p : Bool} {kvs : List (D × TV)} (h : ρ[i]? = some (.t p kvs)) : ∃ j kws ks, env[i]? = some (some (.obj j)) ∧ m[j]? = some (.dcn kws) ∧ ChAt m kws kvs ks ∧ j ∉ ks := by
  obtain ⟨J, hd, hJ⟩ := R.ex
  have z := hJ i
  rw [h] at z
  obtain ⟨j, ks, _, z2, ⟨z3, kws, z4, z5⟩, _⟩ := z
  exact ⟨j, kws, ks, z2, z4, z5, z3⟩
theorem Rel.getU (R : Rel fr ρ env m) {i : Nat} {kvs : List (D × D)} (h : ρ[i]? = some (.u kvs)) : ∃ j, env[i]? = some (some (.obj j)) ∧ m[j]? = some (.dcn (kvN kvs)) := by
  obtain ⟨J, hd, hJ⟩ := R.ex
  have z := hJ i
  rw [h] at z
  obtain ⟨_, j, z2, z3, z4⟩ := z
  exact ⟨j, z2, by rw [R.fix j (List.getElem?_eq_some_iff.mp z3).1 z4]; exact z3⟩
/-- what an own dict holds changes: at one place c, of its own -/
theorem Rel.mutAt (R : Rel fr ρ env m) {i : Nat} {p : Bool} {kvs kvs' : List (D × TV)} (h : ρ[i]? = some (.t p kvs)) (c : Nat) (o : O)
    (ho : ∀ j kws ks, m[j]? = some (.dcn kws) → ChAt m kws kvs ks → j ∉ ks → env[i]? = some (some (.obj j)) → (c = j ∨ c ∈ ks) ∧ TrAt (m.set c o) j kvs' ks) : Rel fr (ρ.set i (.t p kvs')) env (m.set c o) := by
  obtain ⟨J, hd, hJ⟩ := R.ex
  have hi := hJ i
  rw [h] at hi
  obtain ⟨j, ks, e1, e2, ⟨e3, kws, e5, e6⟩, e4⟩ := hi
  obtain ⟨hc, tr⟩ := ho j kws ks e5 e6 e3 e2
  have hcJ : c ∈ J i := by rw [e1]; rcases hc with rfl | hc <;> simp [*]
  have hcl : c < m.length := (hJ i).lt c hcJ
  have okc : ∀ k ∈ J i, ∀ o' : O, (m.set c o)[k]? = some o' → okJ (J i) o' = true := by
    rw [e1]
    intro k hk o' eo
    exact tr.okJ (fun x hx => by simp [hx]) k (by simpa using hk) o' eo
  have old : ∀ (k : Nat) (o' : O), (m.set c o)[k]? = some o' → k = c ∨ m[k]? = some o' := fun k o' e => by
    by_cases hk : c = k
    · exact .inl hk.symm
    · rw [List.getElem?_set_ne hk] at e
      exact .inr e
  refine ⟨R.pok, by rw [List.length_set]; exact R.len, fun k h1 h2 => ?_, R.c0, fun i' k hk o' eo => ?_, fun k o' hk eo => ?_, by rw [List.length_set]; exact R.el, J, hd, fun k => ?_⟩
  · rw [List.getElem?_set_ne]
    · exact R.fix k h1 h2
    · rintro rfl
      rcases (hJ i).own c hcJ with z | z
      · exact h2 i z
      · omega
  · rcases old k o' eo with rfl | z
    · have e1' := (hJ i).pinned k hcJ (R.pok i' k hk)
      exact ⟨i, by rw [e1']; exact hcJ, by rw [e1']; exact okc k hcJ o' eo⟩
    · exact R.cp i' k hk o' z
  · rw [List.length_set]
    rcases old k o' eo with rfl | z
    · exact okJ.le (okc k hcJ o' eo) fun x hx => (hJ i).lt x hx
    · exact R.cn k o' hk z
  · by_cases hk : k = i
    · subst hk
      have hl : k < ρ.length := (List.getElem?_eq_some_iff.mp h).1
      rw [List.getElem?_set_self hl]
      exact ⟨j, ks, e1, e2, tr, e4⟩
    · rw [List.getElem?_set_ne (Ne.symm hk)]
      refine (hJ k).mem fun j' hj' => List.getElem?_set_ne ?_
      rintro rfl
      exact hk (hd k i c hj' hcJ)
/-- a new own dict -/
theorem Rel.setT (R : Rel fr ρ env m) (i : Nat) : Rel fr (ρ.set i (.t false [])) (env.set i (some (.obj m.length))) (m ++ [.dcn []]) := by
  obtain ⟨J, hd, hs⟩ := R.ex
  have lt : ∀ k, ∀ j ∈ J k, j < m.length := fun k => (hs k).lt
  refine ⟨R.pok, by rw [List.length_append]; have := R.len; omega, fun j h1 h2 => by rw [List.getElem?_append_left (by have := R.len; omega)]; exact R.fix j h1 h2, R.c0, R.cpA _, R.cnA (fun o ho => by rw [List.mem_singleton.mp ho]; rfl), by simpa using R.el, fun k => if k = i then (if i < ρ.length then [m.length, m.length, m.length] else []) else J k, fun k k' j h1 h2 => ?_, fun k => ?_⟩
  · dsimp only at h1 h2
    by_cases hk : k = i
    · by_cases hk' : k' = i
      · rw [hk, hk']
      · rw [if_pos hk] at h1; rw [if_neg hk'] at h2
        have := lt k' j h2
        split at h1
        · have : j = m.length := by simpa using h1
          omega
        · cases h1
    · by_cases hk' : k' = i
      · rw [if_neg hk] at h1; rw [if_pos hk'] at h2
        have := lt k j h1
        split at h2
        · have : j = m.length := by simpa using h2
          omega
        · cases h2
      · rw [if_neg hk] at h1; rw [if_neg hk'] at h2; exact hd k k' j h1 h2
  · dsimp only
    by_cases hk : k = i
    · subst hk
      rw [if_pos rfl]
      by_cases hl : k < ρ.length
      · rw [List.getElem?_set_self hl, List.getElem?_set_self (by rw [R.el]; exact hl), if_pos hl]
        exact ⟨m.length, [], rfl, rfl, ⟨by simp, [], by simp, .nil⟩, .inr ⟨rfl, fun x hx => by have : x = m.length := (by simpa using hx); rw [this]; exact R.len⟩⟩
      · have e : (ρ.set k (.t false []))[k]? = none := List.getElem?_eq_none (by simpa using hl)
        rw [if_neg hl, e]
        exact (rfl : ([] : List Nat) = [])
    · rw [if_neg hk, List.getElem?_set_ne (Ne.symm hk), List.getElem?_set_ne (Ne.symm hk)]
      exact (hs k).mem fun j hj => List.getElem?_append_left (lt k j hj)
/-- an own dict frozen -/
theorem Rel.fz (R : Rel fr ρ env m) {i : Nat} {kvs : List (D × TV)} (h : ρ[i]? = some (.t false kvs)) : ∃ e' m', fzE i env m = some (e', m') ∧ e' = env.set i (some (.d (.dict (frzT kvs)))) ∧ Rel fr (ρ.set i (.d (.dict (frzT kvs)))) e' m' := by
  obtain ⟨J, hd, hJ⟩ := R.ex
  have hi := hJ i
  rw [h] at hi
  obtain ⟨j, ks, e1, e2, tr, e4 | e4⟩ := hi
  · exact absurd e4.1 (by simp)
  have hv := view_tr (n := 0) tr (fun _ _ => Nat.zero_le _)
  have hge : ∀ x ∈ j :: ks, fr.m0.length ≤ x := fun x hx => e4.2 x (by rw [e1]; rcases List.mem_cons.mp hx with rfl | hx <;> simp [*])
  have ef : fzE i env m = some (env.set i (some (.d (.dict (frzT kvs)))), killM (j :: ks) m) := by
    unfold fzE
    rw [e2]
    dsimp only
    rw [hv]
  refine ⟨_, _, ef, rfl, ?_⟩
  have kl := killM_len (j :: ks) m
  have kg := fun x => killM_get (j :: ks) m x
  have hl : i < ρ.length := (List.getElem?_eq_some_iff.mp h).1
  refine ⟨R.pok, by rw [kl]; exact R.len, fun x h1 h2 => ?_, R.c0, fun i' x hx o' eo => ?_, fun x o' hx eo => ?_, by simp [R.el], fun x => if x = i then [] else J x, fun x x' y h1 h2 => ?_, fun x => ?_⟩
  · rw [(kg x).1 fun z => by have := hge x z; omega]
    exact R.fix x h1 h2
  · rw [(kg x).1 fun z => by have := hge x z; have := R.pok i' x hx; omega] at eo
    exact R.cp i' x hx o' eo
  · rw [kl]
    by_cases z : x ∈ j :: ks
    · have hxl := (List.getElem?_eq_some_iff.mp eo).1
      rw [kl] at hxl
      rw [(kg x).2 z hxl] at eo
      cases eo; rfl
    · rw [(kg x).1 z] at eo
      exact R.cn x o' hx eo
  · dsimp only at h1 h2
    by_cases hx : x = i
    · rw [if_pos hx] at h1; cases h1
    · by_cases hx' : x' = i
      · rw [if_pos hx'] at h2; cases h2
      · rw [if_neg hx] at h1; rw [if_neg hx'] at h2; exact hd x x' y h1 h2
  · dsimp only
    by_cases hx : x = i
    · subst hx
      rw [if_pos rfl, List.getElem?_set_self hl, List.getElem?_set_self (by rw [R.el]; exact hl)]
      exact ⟨rfl, rfl⟩
    · rw [if_neg hx, List.getElem?_set_ne (Ne.symm hx), List.getElem?_set_ne (Ne.symm hx)]
      refine (hJ x).mem fun y hy => (kg y).1 fun z => ?_
      refine hx (hd x i y hy ?_)
      rw [e1]
      rcases List.mem_cons.mp z with rfl | z <;> simp [*]
end
end
end M
set_option Elab.async false
set_option linter.all false
set_option maxRecDepth 100000
set_option maxHeartbeats 1000000
/-! P: dicts with data as keys: operations -/
namespace M
open PySem L2
end M
set_option Elab.async false
set_option linter.all false
set_option maxRecDepth 100000
set_option maxHeartbeats 1000000
/-! P: own dicts -/
namespace M
open PySem L2
variable [HasW]
noncomputable section
def slotT (ρ : List PV) (i : Nat) : Option (List (D × TV)) := match ρ[i]? with
  | some (.t _ kvs) => some kvs
  | some (.u kvs) => some (kvs.map fun p => (p.1, .d p.2))
  | _ => none
section
variable {s sr : Nat} {ms : List Bool} {fa fb fc fk fv fz f1 f2 : EF} {ga gb gc gk gv gz g1 g2 : GEx} {fr : Fr} {ρ : List PV} {env : Env} {m : Mem}
theorem ChAt.flat (kvs : List (D × D)) : ChAt m (kvN kvs) (kvs.map fun p => (p.1, .d p.2)) [] := by
  induction kvs with
  | nil => exact .nil
  | cons p r ih => exact .d ih
theorem Rel.getK (R : Rel fr ρ env m) {i : Nat} {kvs : List (D × TV)} (h : slotT ρ i = some kvs) : ∃ j kws ks, env[i]? = some (some (.obj j)) ∧ m[j]? = some (.dcn kws) ∧ ChAt m kws kvs ks := by
  unfold slotT at h
  split at h
  · rename_i p ys q
    cases h
    obtain ⟨j, kws, ks, h1, h2, h3, _⟩ := R.getT q
    exact ⟨j, kws, ks, h1, h2, h3⟩
  · rename_i ys q
    cases h
    obtain ⟨j, h1, h2⟩ := R.getU q
    exact ⟨j, _, [], h1, h2, ChAt.flat ys⟩
  · cases h
def gVarK (i : Nat) : GEx := fun γ ρ K => match slotT ρ i with
  | some _ => K (.r i) ρ
  | none => .bad
theorem re_objK (i : Nat) (hs : isO s = true := by rfl) : RE s ms (eObj (eVar i)) (gVarK i) := by
  intro γ fr ρ env m K R nb
  unfold gVarK at nb ⊢
  cases q : slotT ρ i with
  | none => rw [q] at nb; exact absurd rfl nb
  | some kvs =>
    obtain ⟨j, _, _, e, _⟩ := R.getK q
    simp only [eObj, eVar, e, Res.bind_ok]
    exact EPost.ok (v := .r i) R ⟨hs, e⟩ rfl
/-- d[k] by data -/
def ptd {γ : Type} (kvs : List (D × TV)) (k : D) (K : D → PR γ) : PR γ := if uniK kvs k = true then (match klook kvs k with
  | some (.d y) => K y
  | _ => .bad) else .bad
def gTget (i : Nat) (a : GEx) : GEx := fun γ ρ K => match slotT ρ i with
  | some _ => a γ ρ fun v ρ1 => match v with
    | .v k => (match slotT ρ1 i with
      | some kvs => ptd kvs k fun y => K (.v y) ρ1
      | none => .bad)
    | .r _ => .bad
  | none => .bad
theorem asK_own {j : Nat} {kws : List (D × W)} (h : m[j]? = some (.dcn kws)) : asK (.obj j) m = some kws := by simp only [asK, h]
theorem re_tget (i : Nat) (ha : RE 0 ms fk gk) : RE 0 ms (eOp ixA (eVar i) fk) (gTget i gk) := by
  intro γ fr ρ env m K R nb
  unfold gTget at nb ⊢
  cases q : slotT ρ i with
  | none => rw [q] at nb; exact absurd rfl nb
  | some kvs0 =>
    rw [q] at nb
    dsimp only at nb ⊢
    obtain ⟨j, _, _, e, _⟩ := R.getK q
    simp only [eOp, eVar, e, Res.bind_ok]
    refine EPost.bind nb (ha γ fr ρ env m _ R nb) fun w m1 v ρ1 R1 h1 a1 nb1 => ?_
    cases v with
    | r i => exact absurd rfl nb1
    | v k =>
      have h1 : w = .d k := h1
      subst h1
      dsimp only at nb1 ⊢
      cases q1 : slotT ρ1 i with
      | none => rw [q1] at nb1; exact absurd rfl nb1
      | some kvs =>
        rw [q1] at nb1
        dsimp only at nb1 ⊢
        obtain ⟨j', kws, ks, e', ej, ch⟩ := R1.getK q1
        rw [e] at e'
        cases e'
        unfold ptd at nb1 ⊢
        by_cases hu : uniK kvs k = true
        · rw [if_pos hu] at nb1 ⊢
          have hl := ch.look k
          have hx : ∀ y, klook kvs k = some (.d y) → klook kws k = some (.d y) := fun y hy => by
            rw [hy] at hl
            generalize klook kws k = z at hl
            cases hl; rfl
          cases hk : klook kvs k with
          | none => rw [hk] at nb1; exact absurd rfl nb1
          | some z =>
            rw [hk] at nb1
            cases z with
            | d y =>
              dsimp only at nb1 ⊢
              have : ixA (.obj j) (.d k) m1 = .ok (.d y) m1 := by
                simp only [ixA, asK_own ej, ch.uni k, hu, if_true, hx y hk]
              rw [this]
              exact EPost.ok (v := .v y) R1 rfl rfl
            | _ => exact absurd rfl nb1
        · rw [if_neg hu] at nb1; exact absurd rfl nb1
end
end
end M
set_option Elab.async false
set_option linter.all false
set_option maxRecDepth 100000
set_option maxHeartbeats 1000000
/-! P: own dicts: statements -/
namespace M
open PySem L2
variable [HasW]
noncomputable section
/-! what is pure -/
section
variable {s sr : Nat} {ms : List Bool} {fa fb fc fk fv fz f1 f2 : EF} {ga gb gc gk gv gz g1 g2 : GEx} {fr : Fr} {ρ : List PV} {env : Env} {m : Mem}
/-- x = {} -/
def gsNewT (i : Nat) : GSx := fun γ ρ kn kb kc kr => kn (ρ.set i (.t false []))
theorem rs_newT (i : Nat) (hi : isM ms i = true := by rfl) : RS sr ms (sAsg eNewK (gSet i)) (gsNewT i) := by
  intro γ fr ρ env m kn kb kc kr R nb
  show SPo fr sr ms ρ env _ kn kb kc kr (.nx (env.set i (some (.obj m.length))) (m ++ [.dcn []]))
  exact .nx _ _ (ρ.set i (.t false [])) (R.setT i) rfl (Ag.set hi) (AgE.set hi)
/-- x[k] = y, y data -/
def ptput {γ : Type} (kvs : List (D × TV)) (k y : D) (K : List (D × TV) → PR γ) : PR γ := if (uniK kvs k && decide (kvs.length < sizeLine) && dataAt kvs k) = true then K (kput kvs k (.d y)) else .bad
def slotW {γ : Type} (ρ : List PV) (i : Nat) (K : Bool → List (D × TV) → PR γ) : PR γ := match ρ[i]? with
  | some (.t p kvs) => K p kvs
  | _ => .bad
theorem slotW_ne {γ : Type} {ρ : List PV} {i : Nat} {K : Bool → List (D × TV) → PR γ} (h : slotW ρ i K ≠ .bad) : ∃ p kvs, ρ[i]? = some (.t p kvs) ∧ slotW ρ i K = K p kvs := by
  unfold slotW at h ⊢
  split at h
  · rename_i p kvs q
    exact ⟨p, kvs, q, rfl⟩
  · exact absurd rfl h
def gsPutT (i : Nat) (ak av : GEx) : GSx := fun γ ρ kn kb kc kr => av γ ρ fun v ρ1 => match v with
  | .v y => slotW ρ1 i fun _ _ => ak γ ρ1 fun u ρ2 => match u with
    | .v k => slotW ρ2 i fun p kvs => ptput kvs k y fun kvs' => kn (ρ2.set i (.t p kvs'))
    | .r _ => .bad
  | .r _ => .bad
theorem eS_bind_ok {α β : Type} {r : Res α} {k : α → Mem → Res β} {env : Env} {g : β → Mem → SRes} : eS (r.bind k) env g = eS r env fun a m => eS (k a m) env g := by
  cases r <;> rfl
theorem rs_putT (i : Nat) (hk : RE 0 ms fk gk) (hv : RE 0 ms fv gv) (hi : isM ms i = true := by rfl) : RS sr ms (sSetK (eVar i) fk fv) (gsPutT i gk gv) := by
  intro γ fr ρ env m kn kb kc kr R nb
  unfold sSetK
  rw [eS_bind_ok]
  refine EPost.stmt nb (hv γ fr ρ env m _ R nb) fun w m1 v ρ1 R1 h1 a1 nb1 => ?_
  cases v with
  | r k => exact absurd rfl nb1
  | v y =>
    have h1 : w = .d y := h1
    subst h1
    dsimp only at nb1 ⊢
    obtain ⟨p0, kvs0, q0, e0⟩ := slotW_ne nb1
    rw [e0] at nb1 ⊢
    obtain ⟨j, _, _, ej, _⟩ := R1.getT q0
    simp only [eVar, ej, Res.bind_ok]
    rw [eS_bind_ok]
    refine EPost.stmt nb1 (hk γ fr ρ1 env m1 _ R1 nb1) fun w2 m2 v2 ρ2 R2 h2 a2 nb2 => ?_
    cases v2 with
    | r k => exact absurd rfl nb2
    | v k =>
      have h2 : w2 = .d k := h2
      subst h2
      dsimp only at nb2 ⊢
      obtain ⟨p, kvs, q, e⟩ := slotW_ne nb2
      rw [e] at nb2 ⊢
      obtain ⟨j', kws, ks, ej', em, ch, nj⟩ := R2.getT q
      rw [ej] at ej'
      cases ej'
      unfold ptput at nb2 ⊢
      by_cases hg : (uniK kvs k && decide (kvs.length < sizeLine) && dataAt kvs k) = true
      · rw [if_pos hg] at nb2 ⊢
        rw [Bool.and_eq_true, Bool.and_eq_true] at hg
        obtain ⟨⟨g1, g2⟩, g3⟩ := hg
        have g2' := of_decide_eq_true g2
        have ek : ksetW (.obj j) (.d k) (.d y) m2 = .ok () (m2.set j (.dcn (kput kws k (.d y)))) := by
          simp only [ksetW, em, ch.uni k, g1, ch.len, g2, okW, Bool.and_self, if_true]
        rw [ek]
        have hj : j < m2.length := (List.getElem?_eq_some_iff.mp em).1
        have R3 := R2.mutAt q j (.dcn (kput kws k (.d y))) (kvs' := kput kvs k (.d y)) fun j2 kws2 ks2 z1 z2 z3 z4 => by
          rw [ej] at z4
          cases z4
          rw [em] at z1
          cases z1
          exact ⟨.inl rfl, z3, _, List.getElem?_set_self hj, (z2.putD g3).mem fun x hx => List.getElem?_set_ne (by rintro rfl; exact z3 hx)⟩
        exact .nx _ _ _ R3 rfl (Ag.set hi) (AgE.refl _ _)
      · rw [if_neg hg] at nb2; exact absurd rfl nb2
end
end
end M
set_option Elab.async false
set_option linter.all false
set_option maxRecDepth 100000
set_option maxHeartbeats 1000000
/-! P: a list in an own dict under a name -/
namespace M
open PySem L2
end M
set_option Elab.async false
set_option linter.all false
set_option maxRecDepth 100000
set_option maxHeartbeats 1000000
/-! P: a def that hands back a pair of data and a new own dict; try without exceptions -/
namespace M
open PySem L2
end M
set_option Elab.async false
set_option linter.all false
set_option maxRecDepth 100000
/-! P: try that meets no exception -/
namespace M
open PySem L2
variable [HasW]
noncomputable section
def tryNK {σ γ : Type} (b : PR (TO σ)) (k : σ → PR γ) (kr : D → σ → PR γ) : PR γ := match b with
  | .ok (.nx s) => k s
  | .ok (.rt x s) => kr x s
  | _ => .bad
@[simp] theorem tryNK_nx {σ γ : Type} (s : σ) (k : σ → PR γ) (kr : D → σ → PR γ) : tryNK (.ok (.nx s)) k kr = k s := rfl
@[simp] theorem tryNK_rt {σ γ : Type} (x : D) (s : σ) (k : σ → PR γ) (kr : D → σ → PR γ) : tryNK (.ok (.rt x s)) k kr = kr x s := rfl
end
end M
set_option Elab.async false
set_option linter.all false
/-! P: words of the generator -/
namespace M
open PySem L2
noncomputable section
def pflat {γ : Type} (kvs : List (D × TV)) (K : List (D × D) → PR γ) : PR γ := match flatT kvs with
  | some ys => K ys
  | none => .bad
end
end M
set_option Elab.async false
set_option linter.all false
set_option maxRecDepth 100000
set_option maxHeartbeats 1000000
/-! M: list(zip(a, b)) -/
namespace M
open PySem L2 PySem.W PyProof.Rows
/-! ### the tuples as they are tracked -/
/-! ### P -/
end M
set_option Elab.async false
set_option linter.all false
set_option maxRecDepth 100000
set_option maxHeartbeats 1000000
/-! list.index of data -/
namespace M
open PySem L2
end M
set_option Elab.async false
set_option linter.all false
set_option maxRecDepth 100000
set_option maxHeartbeats 1000000
/-! tuple.index of texts; list.index of data in a list that is data -/
namespace M
open PySem L2
end M
set_option Elab.async false
set_option linter.all false
set_option maxRecDepth 100000
set_option maxHeartbeats 1000000
/-! zip over lists that are only read -/
namespace M
open PySem L2
end M
set_option Elab.async false
set_option linter.all false
set_option maxRecDepth 100000
set_option maxHeartbeats 1000000
/-! instances of the program's classes: made, fields read and stored, methods -/
namespace M
open PySem L2
variable [HasW]
/-- C is the class of that name -/
def Cln (K : PySem.W.Frag) (c : Str) (C : Addr) : Prop := PySem.W.nsIn K mainGlobals c = some (some (.ref C))
theorem Cln.inj {K : PySem.W.Frag} {c : Str} {C C' : Addr} (h : Cln K c C) (h' : PySem.W.nsIn K mainGlobals c = some (some (.ref C'))) : C' = C := by
  unfold Cln at h
  rw [h] at h'
  injection h' with h'
  injection h' with h'
  injection h' with h'
  exact h'.symm
end M
set_option Elab.async false
set_option linter.all false
set_option maxRecDepth 100000
set_option maxHeartbeats 1000000
/-! P: instances of data -/
namespace M
open PySem L2
variable [HasW]
noncomputable section
/-- the class and the fields of an instance -/
def insP (kvs : List (Str × D)) : Option (Str × List (Str × D)) := match kvs with
  | (k, .str c) :: r => if k = insK then some (c, r) else none
  | _ => none
@[simp] theorem insP_ins (c : Str) (fs : List (Str × D)) : insP ((insK, .str c) :: fs) = some (c, fs) := by simp [insP]
end
end M
set_option Elab.async false
set_option linter.all false
set_option maxRecDepth 100000
set_option maxHeartbeats 1000000
/-! divmod -/
namespace M
open PySem L2
end M
set_option Elab.async false
set_option linter.all false
set_option maxRecDepth 100000
set_option maxHeartbeats 1000000
/-! C(..).m(..) -/
namespace M
open PySem L2
end M
set_option Elab.async false
set_option linter.all false
set_option maxRecDepth 100000
set_option maxHeartbeats 1000000
/-! steps of an __init__ -/
namespace M
open PySem L2
variable [HasW]
/-- all_rules: four new instances in a new list -/
def SpAllN (C1 C2 C3 C4 : Addr) : Sp := fun vs H Q _ => vs = [] ∧ ∀ H' p x1 x2 x3 x4 d1 d2 d3 d4, Same H H' → H p = none → H' p = some (.lst [.ref x1, .ref x2, .ref x3, .ref x4]) → H' x1 = some (.ins C1 d1 []) → H' x2 = some (.ins C2 d2 []) → H' x3 = some (.ins C3 d3 []) → H' x4 = some (.ins C4 d4 []) → H x1 = none → H x2 = none → H x3 = none → H x4 = none → Q (.ref p) H'
theorem same_none {H H' : Hp} {a : Addr} (s : Same H H') (z : H' a = none) : H a = none := by
  cases q : H a with
  | none => rfl
  | some o => rw [s _ _ q] at z; cases z
end M
set_option Elab.async false
set_option linter.all false
set_option maxRecDepth 100000
set_option maxHeartbeats 1000000
/-! what an own dict holds is frozen, the dict itself stays -/
namespace M
open PySem L2
/-! P level -/
end M
set_option Elab.async false
set_option linter.all false
set_option maxRecDepth 100000
set_option maxHeartbeats 1000000
/-! data < data, list(d) of a frozen dict -/
namespace M
open PySem L2
end M
set_option Elab.async false
set_option linter.all false
set_option maxRecDepth 100000
set_option maxHeartbeats 1000000
/-! M and P: list(d), d a frozen dict; calls in which a default stands (a whole number) -/
namespace M
open PySem L2 PySem.W PyProof.Rows
variable [HasW]
/-! ### list(d) -/
/-! ### f(e, ..), where the last parameter has a default -/
/-! ### a def with defaults -/
section
variable {P : Program} {w : World} {K : PySem.W.Frag} {mg : Str → Option Value} {base : Heap}
/-- a def's body, from its mirror -/
theorem mb_run {X : Cx} {N : List Str} {body : List Stmt} {g : SF} {n : Nat} {E : XK} {vs : List V} {H : Hp} {Q : VK} (hK : X.K = K) (hmg : X.mg = mg) (hb : MB X (fun c d _ H' => E c d H') body g) (h : SpM K mg n (runF N.length g) vs H Q E) :
    ∃ t, PSs X body t ∧ t { nx := fun _ H' => Q .non H', rt := Q } (L2.start N vs) H := by
  subst hK hmg
  obtain ⟨G, ws, m, eH, R, hp, hl, hq⟩ := h
  subst eH
  obtain ⟨t, p, q⟩ := hb
  refine ⟨t, p, q (env0 N.length ws) m (L2.start N vs) G _ (RelS.start hp) R ?_⟩
  unfold runF at hq
  cases e : g (env0 N.length ws) m with
  | rt w' m' => rw [e] at hq; exact fun v G' le R' r => finM_ok R R' le r hq
  | nx e1 m' => rw [e] at hq; exact fun σ' G' le R' S' => finM_ok (w := .d .none) (v := .non) R R' le Rep.non hq
  | bk e1 m' => rw [e] at hq; exact False.elim hq
  | ct e1 m' => rw [e] at hq; exact False.elim hq
  | err x e1 m' =>
    rw [e] at hq
    intro c d σ' G' le R' S' hx
    by_cases hc : clM m.length m' = true
    rotate_left
    · dsimp only at hq
      rw [if_neg hc] at hq
      exact False.elim hq
    dsimp only at hq
    rw [if_pos hc] at hq
    refine hq c d (G'.cut G none) le.cut (R.cut R' le hc) ⟨hx.1, ?_⟩
    rcases hx.2 with z | ⟨dd, fs, z0, z1, z2, z3, z4⟩
    · exact .inl z
    · refine .inr ⟨dd, fs, z0, z1, z2, fun z => z3 ?_, Paired.mono (fun _ _ z => ⟨z.1, Rep.mono Mo.cut z.2⟩) z4⟩
      obtain ⟨κ, ek, _⟩ := le.io
      rw [ek]
      exact List.mem_append_left _ z
  | bad => rw [e] at hq; exact False.elim hq
theorem spM_len {n : Nat} {F : FF} : ∀ vs H Q E, SpM K mg n F vs H Q E → vs.length = n := fun vs H Q E ⟨_, _, _, _, _, h, hl, _⟩ => (Paired.length h).trans hl
end
/-! ### P -/
end M
set_option Elab.async false
set_option linter.all false
set_option maxRecDepth 100000
set_option maxHeartbeats 3200000
/-! M: set(list) of keys of any kind; repr of a tuple; defs that run while no repr is under way -/
namespace M
open PySem L2 PySem.W PyProof.Rows
/-! ### set(xs), xs a list -/
end M
set_option Elab.async false
set_option linter.all false
set_option maxRecDepth 100000
set_option maxHeartbeats 1000000
/-! M and P: repr of a tuple, len(set(texts)) -/
namespace M
open PySem L2 PySem.W PyProof.Rows
/-! ### repr(t) -/
/-! ### P -/
end M
set_option Elab.async false
set_option linter.all false
set_option maxRecDepth 100000
set_option maxHeartbeats 1000000
/-! M: defs that are called while no repr is under way; the end for such a law -/
namespace M
open PySem L2 PySem.W PyProof.Rows
variable [HasW]
structure FnG (P : Program) (w : World) (K : PySem.W.Frag) (mg : Str → Option Value) (base : Heap) (k : Nat) (f : Addr) (fd : FuncData) (ps : List Str) (sp : Sp) : Prop where
  len : ∀ vs H Q E, sp vs H Q E → vs.length = ps.length
  run : ∀ (A : Around) (outer : List PySem.Env) (s : Shared) (H : Hp) (args : Args) (us : List Value) (vs : List V) (Q : VK) (E : XK), Room k A → A.guards = some [] → Env0 P w K mg base A outer s H → BindsTo s fd args (ps.zip us) → Vals vs us → sp vs H Q E →
    codeAny (model P w) A (.call (.ref f) args) (CR (L2.CX P w) outer P w H s Q E) s
section
variable {P : Program} {w : World} {K : PySem.W.Frag} {mg : Str → Option Value} {base : Heap}
theorem FnG.imp {k : Nat} {f : Addr} {fd : FuncData} {ps : List Str} {sp sp2 : Sp} (F : FnG P w K mg base k f fd ps sp) (h : ∀ vs H Q E, sp2 vs H Q E → sp vs H Q E) : FnG P w K mg base k f fd ps sp2 where
  len := fun vs H Q E q => F.len vs H Q E (h vs H Q E q)
  run := fun A o s H args us vs Q E r g e b v q => F.run A o s H args us vs Q E r g e b v (h vs H Q E q)
end
end M
set_option Elab.async false
set_option linter.all false
set_option maxRecDepth 100000
set_option maxHeartbeats 1000000
/-! M and P: sorted(set(xs)), xs whole numbers -/
namespace M
open PySem L2 PySem.W PyProof.Rows
end M
set_option Elab.async false
set_option linter.all false
set_option maxRecDepth 100000
set_option maxHeartbeats 1000000
/-! M: functions handed over -/
namespace M
open PySem L2 PySem.W PyProof.Rows
variable [HasW]
/-! ### code objects are no pinned things -/
omit [HasW] in
theorem heap_sz : ∀ n : Nat, ∃ h : Heap, h.objs.size = n
  | 0 => ⟨{}, rfl⟩
  | n + 1 => by
    obtain ⟨h, e⟩ := heap_sz n
    exact ⟨h.push { cls := .none }, by rw [Heap.size_push, e]⟩
omit [HasW] in
theorem code_pin (c : Addr) (q : Str) (o : Obj) : LamX.CodeO c q ≠ PinO c o := by
  intro z
  unfold LamX.CodeO PinO at z
  have z := HO.ext.inj z
  obtain ⟨h, e⟩ := heap_sz c
  subst e
  have two : ∀ d : Option Addr, o = { cls := .none, dict := d, data := .fields #[.none, .str q 0] } := fun d => by
    have g : (h.push ({ cls := .none, dict := d, data := .fields #[.none, .str q 0] } : Obj)).get? h.objs.size = some { cls := .none, dict := d, data := .fields #[.none, .str q 0] } := Heap.get?_push_size _ rfl
    have p := congrFun z (h.push { cls := .none, dict := d, data := .fields #[.none, .str q 0] })
    have r := Eq.mp p ⟨_, _, 0, g, rfl, rfl⟩
    rw [g] at r
    exact (Option.some.inj r).symm
  have a := two none
  rw [two (some 0)] at a
  cases a
theorem obj_no {K : PySem.W.Frag} {G : Wd} {a : Addr} {ob : O} (q : ORep K G a ob) : ∃ o, G.H a = some o ∧ (∀ ps, o ≠ .tbl ps) ∧ ∀ x, o ≠ LamX.CodeO a x := by
  have n1 : ∀ (vs : List V) x, (HO.lst vs) ≠ LamX.CodeO a x := fun vs x z => by unfold LamX.CodeO at z; cases z
  cases ob with
  | lst ds => obtain ⟨_, vs, h2, _⟩ := q; exact ⟨_, h2, nofun, n1 _⟩
  | fz ds => obtain ⟨_, vs, h2, _⟩ := q; exact ⟨_, h2, nofun, n1 _⟩
  | lsw ds => obtain ⟨_, vs, h2, _⟩ := q; exact ⟨_, h2, nofun, n1 _⟩
  | dct kvs => obtain ⟨_, ks, h2, _⟩ := q; exact ⟨_, h2, nofun, fun x z => by unfold LamX.CodeO at z; cases z⟩
  | dcn kvs => obtain ⟨_, o, es, kvv, h2, _⟩ := q; exact ⟨_, h2, pin_tbl _ _, fun x z => code_pin _ _ _ z.symm⟩
  | dead =>
    rcases q with ⟨vs, h2⟩ | ⟨o, h2⟩
    · exact ⟨_, h2, nofun, n1 _⟩
    · exact ⟨_, h2, pin_tbl _ _, fun x z => code_pin _ _ _ z.symm⟩
  | ins c fs => obtain ⟨_, C, dx, vs, _, h2, _⟩ := q; exact ⟨_, h2, nofun, fun x z => by unfold LamX.CodeO at z; cases z⟩
theorem io_obj {K : PySem.W.Frag} {G : Wd} {m : Mem} (R : RelM K G m) {a : Addr} (h : a ∈ G.io) : ∃ o, G.H a = some o ∧ (∀ ps, o ≠ .tbl ps) ∧ ∀ x, o ≠ LamX.CodeO a x := by
  obtain ⟨i, hi⟩ := List.getElem?_of_mem h
  have hl : i < m.length := by rw [← R.len]; exact (List.getElem?_eq_some_iff.mp hi).1
  exact obj_no (R.ob i a _ hi (List.getElem?_eq_getElem hl))
theorem code_out {K : PySem.W.Frag} {G : Wd} {m : Mem} (R : RelM K G m) {c : Addr} {q : Str} (h : G.H c = some (LamX.CodeO c q)) : c ∉ G.io := fun z => by
  obtain ⟨o, h1, _, h3⟩ := io_obj R z
  rw [h] at h1
  cases h1
  exact h3 q rfl
theorem code_keep {K : PySem.W.Frag} {G G' : Wd} {m : Mem} (R : RelM K G m) (le : Le G G') {c : Addr} {q : Str} (h : G.H c = some (LamX.CodeO c q)) : G'.H c = some (LamX.CodeO c q) :=
  le.keep c _ h (fun z => code_out R h z.1) LamX.codeO_ne
/-! ### the function in a slot; its code -/
def JF (i : Nat) (f c : Addr) (q : Str) (σ : L2.St) (H : Hp) : Prop := σ[i]? = some (some (.ref f)) ∧ H c = some (LamX.CodeO c q)
instance {i : Nat} {f c : Addr} {q : Str} : JMono (JF i f c q) := ⟨fun R le h => ⟨h.1, code_keep R le h.2⟩⟩
/-- the function's object, and what it captured -/
structure FvAt (f : Addr) (ob : Obj) (cv : List (Addr × Obj)) (fr : List Addr) (h : Heap) (H : Hp) : Prop where
  at_ : ∀ p ∈ (f, ob) :: cv, h.get? p.1 = some p.2 ∧ H p.1 = none ∧ p.1 ∉ fr
omit [HasW] in
theorem FvAt.later {X : Cx} {pins : List (Addr × Obj)} {σ : L2.St} {H : Hp} {s : Shared} {f : Addr} {ob : Obj} {cv : List (Addr × Obj)} (I : Inv X pins σ H s) (hex : X.ex = []) (a : FvAt f ob cv X.fs X.s_0.heap X.H_0) : FvAt f ob cv (frs X.stack) s.heap H := ⟨fun p hp => by
  obtain ⟨h1, h2, h3⟩ := a.at_ p hp
  have nx : p.1 ∉ X.ex := by rw [hex]; simp
  refine ⟨I.base.keep _ _ h1 h2 h3 nx, I.base.free _ _ h1 h2 nx, fun z => ?_⟩
  rcases List.mem_cons.mp (I.stkSub _ z) with e | e
  · have l1 := Heap.lt_size h1
    have l2 := I.ok.above
    rw [e] at l1
    exact absurd (Nat.lt_of_lt_of_le l1 l2) (Nat.lt_irrefl _)
  · exact h3 e⟩
structure FvOk (P : Program) (w : World) (K : PySem.W.Frag) (mg : Str → Option Value) (base : Heap) (k : Nat) (f : Addr) (ob : Obj) (cv : List (Addr × Obj)) (c : Addr) (q : Str) (n : Nat) (F : FF) : Prop where
  fn : ∃ od fd sl, ob = ⟨.type "function", od, .func fd, sl⟩
  run : ∀ (A : Around) (outer : List PySem.Env) (s : Shared) (H : Hp) (us : List Value) (vs : List V) (Q : VK) (E : XK), Room k A → Env0 P w K mg base A outer s H → FvAt f ob cv (frs outer) s.heap H → H c = some (LamX.CodeO c q) → Vals vs us → SpM K mg n F vs H Q E →
    codeAny (model P w) A (.call (.ref f) ⟨us, []⟩) (CR (L2.CX P w) outer P w H s Q E) s
section
variable {X : Cx} {Wx : WX} {i k n : Nat} {f c g : Addr} {ob : Obj} {cv : List (Addr × Obj)} {q : Str} {F : FF}
omit [HasW] in
theorem FvAt.fn {fr : List Addr} {h : Heap} {H : Hp} (a : FvAt f ob cv fr h H) (hf : ∃ od fd sl, ob = ⟨.type "function", od, .func fd, sl⟩) : PySem.W.FnAt f h := by
  obtain ⟨od, fd, sl, e⟩ := hf
  have := (a.at_ _ List.mem_cons_self).1
  exact ⟨.type "function", od, fd, sl, by rw [← e]; exact this⟩
/-- a call of the function in a slot -/
theorem mej_callF {x : Str} {p pos : Pos} {e : Expr} {es : List Expr} {g : AF} (tk : Takes X Wx) (hF : FvOk X.prog X.w X.K X.mg X.base k f ob cv c q n F) (hr : Room k X.A) (hex : X.ex = []) (ha0 : FvAt f ob cv X.fs X.s_0.heap X.H_0) (hN : X.N[i]? = some x) (hv : Vis X.env.scope x)
    (ha : MA X Wx (e :: es) g) (hn : ∀ env m ws m', g env m = .ok ws m' → ws.length = n) (hdb : (x == ("__debug__" : Str)) = false := by decide) (hcd : (x == ("__classdict__" : Str)) = false := by decide)
    (he : starEach (e :: es) X.env = (false, eval e X.env) :: starEach es X.env := by rfl) (hpl : (backTo pos (starEach es X.env)).any (·.1) = false := by rfl) : MEJ X Wx (JF i f c q) (.Call (.Name x p) (e :: es) [] pos) (eCallF F g) := by
  obtain ⟨t, pa, qa⟩ := ha
  refine ⟨fun σ H Q => σ[i]? = some (some (.ref f)) ∧ t σ H (fun vs H1 => H1 c = some (LamX.CodeO c q) ∧ SpM X.K X.mg n F vs H1 Q (WE Wx σ)), ⟨fun pins s σ H Q I h => ?_⟩, fun env m σ G Q S R j h => ?_⟩
  · obtain ⟨hs, ht⟩ := h
    refine wpAny_Call_Name_kw (thn ((pe_var (pos := p) hN hv hdb hcd).run pins s σ H (fun v H1 => v = .ref f ∧ H1 = H) I ⟨.ref f, hs, rfl, rfl⟩) fun u s1 ⟨v, H1, I1, r1, q1⟩ => ?_)
    obtain ⟨rfl, rfl⟩ := q1
    cases r1
    refine PySem.W.callWith_F (first := []) ((FvAt.later I1 hex ha0).fn hF.fn) (thn (pa.run pos pins s1 σ _ _ I1 ht) fun us s2 ⟨vs, H2, I2, r, hc, q⟩ => ⟨(FvAt.later I2 hex ha0).fn hF.fn, ?_⟩) he hpl
    show wpAny _ _ (call (.ref f) us) _ _ _
    refine wpAny_call (codeAny_mono (hF.run X.A X.stack s2 H2 us vs Q _ hr I2.env0 (FvAt.later I2 hex ha0) hc r q) fun r s' hq => ?_)
    cases r with
    | error e => exact passAt tk σ pins H2 s2 e s' I2 hq
    | ok fl =>
      cases fl with
      | ret u => exact I2.after hq
      | next => exact False.elim hq
      | brk => exact False.elim hq
      | cont => exact False.elim hq
  · refine ⟨j.1, ?_⟩
    unfold eCallF at h
    cases ew : g env m with
    | ok ws m1 =>
      have hl := hn env m ws m1 ew
      rw [ew] at h
      refine qa env m σ G _ S R ?_
      rw [ew]
      exact fun vs G1 le1 R1 q1 => ⟨code_keep R le1 j.2, callM_ok R1 q1 hl (GPost.later weakR h le1)⟩
    | err x m1 => rw [ew] at h; refine qa env m σ G _ S R ?_; rw [ew]; exact h
    | bad => rw [ew] at h; exact False.elim h
end
/-! ### a def that is handed a function -/
structure MbOk (P : Program) (w : World) (K : PySem.W.Frag) (mg : Str → Option Value) (base : Heap) (k : Nat) (g : Addr) (fd : FuncData) (ps : List Str) (f : Addr) (ob : Obj) (cv : List (Addr × Obj)) (c : Addr) (q : Str) (F : FF) : Prop where
  two : ps.length = 2
  run : ∀ (A : Around) (outer : List PySem.Env) (s : Shared) (H : Hp) (args : Args) (us : List Value) (v : V) (Q : VK) (E : XK), Room k A → Env0 P w K mg base A outer s H → FvAt f ob cv (frs outer) s.heap H → H c = some (LamX.CodeO c q) → BindsTo s fd args (ps.zip us) → Vals [v, .ref f] us → SpM K mg 1 F [v] H Q E →
    codeAny (model P w) A (.call (.ref g) args) (CR (L2.CX P w) outer P w H s Q E) s
section
variable {P : Program} {w : World} {K : PySem.W.Frag} {mg : Str → Option Value} {base : Heap} {f c : Addr} {ob : Obj} {cv : List (Addr × Obj)} {q : Str}
theorem MbOk.mono {j k : Nat} {g : Addr} {fd : FuncData} {ps : List Str} {F : FF} (M : MbOk P w K mg base j g fd ps f ob cv c q F) (h : j ≤ k) : MbOk P w K mg base k g fd ps f ob cv c q F :=
  ⟨M.two, fun A outer s H args us v Q E hr => M.run A outer s H args us v Q E (hr.mono h)⟩
theorem mbBad {k : Nat} {g : Addr} {fd : FuncData} {ps : List Str} (h2 : ps.length = 2) : MbOk P w K mg base k g fd ps f ob cv c q badF :=
  ⟨h2, fun A outer s H args us v Q E _ _ _ _ _ _ ⟨_, _, _, _, _, _, _, h⟩ => False.elim h⟩
theorem relS_two {G : Wd} {N : List Str} {v u : V} {ws : List W} (h : Paired (RepW K G) [v] ws) (h2 : 2 ≤ N.length) : RelS K G (L2.start N [v, u]) (env0 N.length ws) := by
  have S0 := RelS.start (N := N) h
  have hl := Paired.length h
  refine ⟨by unfold L2.start env0; simp; simp at hl; omega, fun i w e => ?_⟩
  have hi : i = 0 := by
    unfold env0 at e
    by_cases hi : i < ws.length
    · simp at hl; omega
    · rw [List.getElem?_append_right (by rw [List.length_map]; omega)] at e
      have := List.mem_of_getElem? e
      simp at this
  subst hi
  obtain ⟨v', h1, h2⟩ := S0.get 0 w e
  have e1 : (L2.start N [v])[0]? = some (some v) := rfl
  rw [e1] at h1
  cases h1
  exact ⟨v, rfl, h2⟩
theorem mbj_run {X : Cx} {N : List Str} {body : List Stmt} {b : SF} {E : XK} {v : V} {H : Hp} {Q : VK} (hN : 2 ≤ N.length) (hK : X.K = K) (hmg : X.mg = mg) (hb : MBJ X (fun c d _ H' => E c d H') (JF 1 f c q) body b) (hc : H c = some (LamX.CodeO c q)) (h : SpM K mg 1 (runF N.length b) [v] H Q E) :
    ∃ t, PSs X body t ∧ t { nx := fun _ H' => Q .non H', rt := Q } (L2.start N [v, .ref f]) H := by
  subst hK hmg
  obtain ⟨G, ws, m, eH, R, hp, hl, hq⟩ := h
  subst eH
  obtain ⟨t, p, qq⟩ := hb
  refine ⟨t, p, qq (env0 N.length ws) m (L2.start N [v, .ref f]) G _ (relS_two hp hN) R ⟨rfl, hc⟩ ?_⟩
  unfold runF at hq
  cases e : b (env0 N.length ws) m with
  | rt w' m' => rw [e] at hq; exact fun v G' le R' r => finM_ok R R' le r hq
  | nx e1 m' => rw [e] at hq; exact fun σ' G' le R' S' _ => finM_ok (w := .d .none) (v := .non) R R' le Rep.non hq
  | bk e1 m' => rw [e] at hq; exact False.elim hq
  | ct e1 m' => rw [e] at hq; exact False.elim hq
  | err x e1 m' =>
    rw [e] at hq
    intro c d σ' G' le R' S' hx
    by_cases hc : clM m.length m' = true
    rotate_left
    · dsimp only at hq
      rw [if_neg hc] at hq
      exact False.elim hq
    dsimp only at hq
    rw [if_pos hc] at hq
    refine hq c d (G'.cut G none) le.cut (R.cut R' le hc) ⟨hx.1, ?_⟩
    rcases hx.2 with z | ⟨dd, fs, z0, z1, z2, z3, z4⟩
    · exact .inl z
    · refine .inr ⟨dd, fs, z0, z1, z2, fun z => z3 ?_, Paired.mono (fun _ _ z => ⟨z.1, Rep.mono Mo.cut z.2⟩) z4⟩
      obtain ⟨κ, ek, _⟩ := le.io
      rw [ek]
      exact List.mem_append_left _ z
  | bad => rw [e] at hq; exact False.elim hq
theorem okMb {x qual : Str} {st : Stmt} {g : Addr} {fd : FuncData} {N : List Str} {p0 p1 : Str} {k : Nat} {b : SF} (Fn : Fun K x qual st g fd) (S : FnScope N [p0, p1] (defScope st))
    (hbody : ∀ (cdv : Value) (A : Around) (outer : List PySem.Env) (s : Shared) (H : Hp) (E : XK), Room k (A.deeper (PyProof.Rows.envOfC qual (defScope st) s.heap.objs.size g cdv)) → FvAt f ob cv (frs outer) s.heap H →
      MBJ (cxM P w K mg base N qual (defScope st) g cdv A outer s H E) (fun c d _ H' => E c d H') (JF 1 f c q) (defBody st) b) : MbOk P w K mg base (k + 1) g fd [p0, p1] f ob cv c q (runF N.length b) := by
  obtain ⟨oc, od, kV, doc, pm, an, cdv, ct, osl, rfl, lk, hcd⟩ := Fn.ex
  refine ⟨rfl, fun A outer s H args us v Q E room e0 fa hc hb rv hsp => ?_⟩
  have inK : K.In s.heap := e0.mod.kin.keeps fun b o e => (e0.bs b o e).1
  have hN : 2 ≤ N.length := by have := congrArg List.length S.pre; rw [List.length_take] at this; simp at this; omega
  obtain ⟨t, pt, qt⟩ := mbj_run hN rfl rfl (hbody cdv A outer s H E (room.deeper _) fa) hc hsp
  have par : ∀ y ∈ [p0, p1].zip us, (defScope st).names.lookup y.1 = some .local ∨ ((defScope st).names.lookup y.1 = some .cell ∧ ((cellsFrom (s.heap.objs.size + 1) (defScope st).names []).lookup y.1).isSome = true) := fun y hy =>
    (S.par y.1 (List.of_mem_zip (show (y.1, y.2) ∈ [p0, p1].zip us from hy)).1).imp id fun q => ⟨q, PySem.W.cellsFrom_some _ _ _ (.inl q)⟩
  refine codeAny_call_function room.depth (inK _ _ lk) rfl S.co S.gen rfl (PySem.W.codeRec_of inK hcd) (hb _ _ _ _ (wpAny_newFunctionEnv_cells S.kind par fun env he z zin => ?_))
  subst he
  refine ⟨(e0.mod.nolimit.keeps fun b o e => (e0.bs b o e).1).keeps zin.toInCall.keep, codeAny_func ?_⟩
  have I : Inv (cxM P w K mg base N qual (defScope st) g cdv A outer s H E) [] (L2.start N [v, .ref f]) H z := inv_start S room.hd e0 rfl rv zin
  refine wpAny_mono (pt.run [] z _ H _ I qt) (fun fl y hy => ?_) fun e y hy => hy
  cases fl with
  | ret u =>
    obtain ⟨v, σ2, H2, J, rv2, q2⟩ := hy
    exact ⟨v, H2, J.os, J.bare, J.base, J.hok, rv2, q2⟩
  | next =>
    obtain ⟨σ2, H2, J, q2⟩ := hy
    exact ⟨.non, H2, J.os, J.bare, J.base, J.hok, rfl, q2⟩
  | brk => exact hy.elim fun _ q => q.elim fun _ q => q.2.elim
  | cont => exact hy.elim fun _ q => q.elim fun _ q => q.2.elim
end
section
variable {X : Cx} {Wx : WX} {i k : Nat} {f c g : Addr} {ob : Obj} {cv : List (Addr × Obj)} {q : Str} {F : FF} {fd : FuncData} {ps : List Str}
theorem run_mb {pins : List (Addr × Obj)} {σ : L2.St} {H : Hp} {s : Shared} {Q : VK} {us : List Value} {v : V} (tk : Takes X Wx) (Mb : MbOk X.prog X.w X.K X.mg X.base k g fd ps f ob cv c q F) (hr : Room k X.A) (hb : Binds X.K fd ps []) (I : Inv X pins σ H s) (fa : FvAt f ob cv (frs X.stack) s.heap H)
    (hc : H c = some (LamX.CodeO c q)) (r : Vals [v, .ref f] us) (h : SpM X.K X.mg 1 F [v] H Q (WE Wx σ)) : wpAny (model X.prog X.w) X.A (call (.ref g) us) (EP X pins σ Q) X.xe s := by
  have hl : us.length = ps.length := by rw [← r.length, Mb.two]; rfl
  have b := hb s us I.kIn (by rw [List.append_nil]; exact hl)
  rw [List.append_nil] at b
  refine wpAny_call (codeAny_mono (Mb.run X.A X.stack s H ⟨us, []⟩ us v Q _ hr I.env0 fa hc b r h) fun r s' hq => ?_)
  cases r with
  | error e => exact passAt tk σ pins H s e s' I hq
  | ok fl =>
    cases fl with
    | ret u => exact I.after hq
    | next => exact False.elim hq
    | brk => exact False.elim hq
    | cont => exact False.elim hq
/-- x(e, y), y the slot that holds the function -/
theorem mej_callM {x y : Str} {p p2 pos : Pos} {e : Expr} {fe : EF} (tk : Takes X Wx) (Mb : MbOk X.prog X.w X.K X.mg X.base k g fd ps f ob cv c q F) (hr : Room k X.A) (hex : X.ex = []) (ha0 : FvAt f ob cv X.fs X.s_0.heap X.H_0) (hg : Gl X x) (hm : X.mg x = some (.ref g)) (hk : PySem.W.keepIn X.K (.ref g) = true) (hb : Binds X.K fd ps [])
    (hN : X.N[i]? = some y) (hv : Vis X.env.scope y) (he : ME X Wx e fe) (hdb : (x == ("__debug__" : Str)) = false := by decide) (hd : (y == ("__debug__" : Str)) = false := by decide) (hcd : (y == ("__classdict__" : Str)) = false := by decide)
    (h1 : starEach [e, .Name y p2] X.env = (false, eval e X.env) :: starEach [.Name y p2] X.env := by rfl) (hpl : (backTo pos (starEach [.Name y p2] X.env)).any (·.1) = false := by rfl) (h2 : starEach [.Name y p2] X.env = (false, eval (.Name y p2) X.env) :: starEach [] X.env := by rfl) :
    MEJ X Wx (JF i f c q) (.Call (.Name x p) [e, .Name y p2] [] pos) (eCallF F (aCons fe aNil)) := by
  obtain ⟨te, pe, qe⟩ := he
  have pa := pa_cons pe (pa_cons (pe_var (pos := p2) hN hv hd hcd) pa_nil h2) h1
  refine ⟨fun σ H Q => tCons te (tCons (tVar i) tNil) σ H fun vs H1 => ∃ v, vs = [v, .ref f] ∧ H1 c = some (LamX.CodeO c q) ∧ SpM X.K X.mg 1 F [v] H1 Q (WE Wx σ), ⟨fun pins s σ H Q I h => ?_⟩, fun env m σ G Q S R j h => ?_⟩
  · refine wpAny_Call_Name_kw (ld_glob I hg hm ?_ hdb)
    refine PySem.W.callWith_K (h₀ := X.base) I.ok.mod.kin hk (thn (pa.run pos pins s σ H _ I h) fun us s1 ⟨vs, H1, I1, r, v, ev, hc, hq⟩ => ⟨I1.kIn, ?_⟩) h1 hpl
    subst ev
    exact run_mb tk Mb hr hb I1 (FvAt.later I1 hex ha0) hc r hq
  · unfold eCallF aCons aNil at h
    cases ew : fe env m with
    | ok w m1 =>
      rw [ew] at h
      refine qe env m σ G _ S R ?_
      rw [ew]
      exact fun v G1 le1 R1 q1 => ⟨.ref f, j.1, v, rfl, code_keep R le1 j.2, callM_ok (vs := [v]) (ws := [w]) R1 (.cons q1 .nil) rfl (GPost.later weakR h le1)⟩
    | err x m1 => rw [ew] at h; refine qe env m σ G _ S R ?_; rw [ew]; exact h
    | bad => rw [ew] at h; exact False.elim h
/-! lists of arguments, tuples, targets -/
theorem asgJ {X : Cx} {Wx : WX} {J : L2.St → Hp → Prop} {g : GF} {t : TG} {is : List Nat} (q : ∀ w env env' σ (G : Wd) v (Q : L2.St → Hp → Prop), RelS X.K G σ env → RepW X.K G v w → g w env = some env' → (∀ σ', Off is σ σ' → RelS X.K G σ' env' → Q σ' G.H) → t v σ G.H Q) (hJ : ∀ σ σ' H, Off is σ σ' → J σ H → J σ' H)
    {env : Env} {σ : L2.St} {G G1 : Wd} {m1 : Mem} {w : W} {v : V} {E : Ends} {H0 : Hp} (S : RelS X.K G1 σ env) (R1 : RelM X.K G1 m1) (j : J σ G1.H) (r : RepR X.K H0 G1 v w)
    (h : SPost X Wx G1 (asgK g env w m1) (withJ J E)) : t v σ G1.H E.nx := by
  have go : RepW X.K G1 v w → SPost X Wx G1 (match g w env with | some e => .nx e m1 | none => .bad) (withJ J E) → t v σ G1.H E.nx := fun r h => by
    cases e : g w env with
    | none => rw [e] at h; exact False.elim h
    | some e1 => rw [e] at h; exact q w env e1 σ G1 v _ S r e fun σ' o S' => h σ' G1 (Le.refl R1) R1 S' (hJ _ _ _ o j)
  cases w with
  | fl _ => exact False.elim h
  | d x => exact go r h
  | obj x => exact go r h
  | ro x => exact go r h
  | pr x i => exact go r h
def MAJ (X : Cx) (Wx : WX) (J : L2.St → Hp → Prop) (es : List Expr) (f : AF) : Prop :=
  ∃ t, PA X es t ∧ ∀ env m σ G Q, RelS X.K G σ env → RelM X.K G m → J σ G.H → GPost X Wx σ G (RepRs X.K) (f env m) Q → t σ G.H Q
theorem MA.j {J : L2.St → Hp → Prop} {es : List Expr} {f : AF} (h : MA X Wx es f) : MAJ X Wx J es f := let ⟨t, p, q⟩ := h; ⟨t, p, fun env m σ G Q S R _ h => q env m σ G Q S R h⟩
theorem maj_cons {J : L2.St → Hp → Prop} [JMono J] {e : Expr} {es : List Expr} {f : EF} {g : AF} (ha : MEJ X Wx J e f) (hr : MAJ X Wx J es g) (hs : starEach (e :: es) X.env = (false, eval e X.env) :: starEach es X.env := by rfl) : MAJ X Wx J (e :: es) (aCons f g) := by
  obtain ⟨ta, pa, qa⟩ := ha
  obtain ⟨tr, pr, qr⟩ := hr
  refine ⟨_, pa_cons pa pr hs, fun env m σ G Q S R j h => qa env m σ G _ S R j (GPost.bind0 h fun x m1 v G1 le1 R1 q1 h1 => ?_)⟩
  refine qr env m1 σ G1 _ (S.mono le1) R1 (JMono.mono R le1 j) (GPost.bind1 h1 le1 fun xs m2 vs G2 le2 R2 q2 h2 => ?_)
  exact h2 (v :: vs) G2 (le1.trans le2) R2 (.cons (q1.mono le2) (Paired.mono (fun _ _ z => z.weak le1.tr) q2))
theorem mej_tup {J : L2.St → Hp → Prop} {es : List Expr} {f : AF} {x1} {pos : Pos} (h : MAJ X Wx J es f) : MEJ X Wx J (.Tuple es x1 pos) (eTup f) := by
  obtain ⟨t, p, q⟩ := h
  refine ⟨_, pe_tup p, fun env m σ G Q S R j h => q env m σ G _ S R j (GPost.bind weakR h fun ws m1 vs G1 le1 R1 q1 h1 => ?_)⟩
  cases e : asDs ws with
  | none => rw [e] at h1; exact False.elim h1
  | some ds =>
    rw [e] at h1
    have r := asDs_reps q1 e
    by_cases hz : ds.length ≤ sizeLine
    · simp only [hz, if_true] at h1
      exact ⟨by rw [r.length]; exact hz, fun p hp => finT R1 h1 r hp⟩
    · simp only [hz, if_false] at h1
      exact False.elim h1
theorem mej_frz {J : L2.St → Hp → Prop} {e : Expr} {f : EF} (h : MEJ X Wx J e f) : MEJ X Wx J e (eFrz f) := let ⟨t, p, q⟩ := h; ⟨t, p, fun env m σ G Q S R j h => q env m σ G Q S R j (frzQ h)⟩
theorem msj_asg {J : L2.St → Hp → Prop} [JMono J] {tg e : Expr} {f : EF} {g : GF} {is : List Nat} {pos : Pos} (he : MEJ X Wx J e f) (hg : MG X tg g is) (hJ : ∀ σ σ' H, Off is σ σ' → J σ H → J σ' H) (hs : swapsWithSole [tg] e pos.line X.env = pure false := by rfl) (hw : swappedStores [tg] e X.env = pure none := by rfl)
    (h1 : (assignEach [tg] X.env).map (·.2) = [assign tg X.env] := by rfl) : MSJ X Wx J (.Assign [tg] e pos) (sAsg f g) := by
  obtain ⟨t, p, q⟩ := he
  obtain ⟨u, p2, q2⟩ := hg
  refine ⟨_, ps_asg p p2 hs hw h1, fun env m σ G E S R j h => q env m σ G _ S R j (SPost.ofE h S fun w m1 v G1 le R1 q1 h1 => ?_)⟩
  refine asgJ (G := G) q2 hJ (S.mono le) R1 (JMono.mono R le j) q1 h1
theorem jf_off {is : List Nat} (h : i ∉ is) : ∀ (σ σ' : L2.St) (H : Hp), Off is σ σ' → JF i f c q σ H → JF i f c q σ' H := fun σ σ' H o j => ⟨by rw [o.2 i h]; exact j.1, j.2⟩
end
/-! ### a lambda made -/
def TabsS (S : Addr → Prop) (H : Hp) : Prop := ∀ p ∈ HasW.tabs, S p.1 ∧ ∃ ps : Array Value, H p.1 = some (.tbl ps) ∧ TriplesOk ps.toList ∧ ∀ (pos : Pos) (cv : Value), codeAmong pos ps.toList = some cv → ∃ c, cv = .ref c ∧ S c ∧ H c = some (LamX.CodeO c (p.2 pos.line pos.col))
section
variable {X : Cx} {pins : List (Addr × Obj)} {σ : L2.St} {H : Hp} {s : Shared} {S : Addr → Prop}
theorem lam_make3 {nm : Nat → Nat → Str} {c P : Addr} {params : Arguments} {body : Expr} {scope : Scope} {pos : Pos} {E : Value → Shared → Prop} {Q : Value → Shared → Prop} (I : Inv X pins σ H s) (TB : LamX.TabB X.base X.mg c P) (hcode : X.env.code = .ref c)
    (hm : (P, nm) ∈ HasW.tabs) (hn : nm pos.line pos.col = X.env.qual ++ "<lambda>") (hu : ∀ p ∈ HasW.tabs, p.1 = P → p.2 = nm) (hT : TabsS S H) (hS : ∀ b, H b = none → S b) (hdef : defaultsOf params X.env = ([], [])) (hfree : ∀ y ∈ scope.names, y.2 = .free → ∃ c, X.env.cells.lookup y.1 = some c)
    (h : ∀ (f c' : Addr) (pm ctv : Value) (H1 : Hp) (s' : Shared), Inv X pins σ H1 s' → LamX.ExtN H H1 → (∀ b, H1 b = none → H b = none) → TabsS S H1 →
      s'.heap.get? f = some (PySem.W.kla_obj "<lambda>" (X.env.qual ++ "<lambda>") params body scope (cloFrom X.env.cells scope.names []) pm c' ctv) → H1 f = none → f ∉ frs X.stack → H1 c' = some (LamX.CodeO c' (X.env.qual ++ "<lambda>")) → Q (.ref f) s') :
    wpAny (model X.prog X.w) X.A (eval (.Lambda params body scope pos) X.env) Q E s := by
  obtain ⟨sP, ps, hP, ht, ha⟩ := hT _ hm
  refine PySem.W.kla_eval hdef ?_
  have bP : s.heap.BuiltinsAt X.mg P := TB.bm.keeps I.bk
  have hP' : s.heap.get? P = some { cls := .none, data := .fields ps } := I.hok P _ hP
  have nofr : ∀ f, s.heap.objs.size ≤ f → f ∉ frs X.stack := fun f hf z => by
    rcases List.mem_cons.mp (I.stkSub _ z) with e | e
    · have h1 := I.lt
      rw [← e] at h1
      exact Nat.lt_irrefl _ (Nat.lt_of_lt_of_le h1 hf)
    · exact I.nofs hf e
  cases hc : codeAmong pos ps.toList with
  | none =>
    refine PySem.W.kla_makeFunction (mg := X.mg) (c := c) (P := P) (ps := ps) (closure_ok hfree) I.ok.glob (I.mod.glob.keeps I.bk) hcode (TB.code.keeps I.bk) hP' ht hc TB.gP bP fun c' ctv h' tk hx hge hlt hrec htb => ?_
    obtain ⟨c2, oc, vs, t, e2, hoc, hd, hv⟩ := hrec
    cases e2
    have hsz : s.heap.objs.size ≤ h'.objs.size := Nat.le_trans hge (Nat.le_of_lt hlt)
    have nC : H c' = none := I.hok.fresh hge
    have I1 := LamX.inv_table (t' := tk) (more := #[rawInt pos.line, rawInt pos.col, .ref c']) (h' := h'.push (PySem.W.kla_obj "<lambda>" (X.env.qual ++ "<lambda>") params body scope (cloFrom X.env.cells scope.names []) ((X.mg "__name__").getD .none) c' ctv)) I hP
      (fun b o hb e => Heap.get?_push_of_some _ (hx b o hb e)) (Heap.get?_push_of_some _ htb) hge ⟨oc, vs, t, Heap.get?_push_of_some _ hoc, hd, hv⟩
    have hE : LamX.ExtN H (upd (upd H P (.tbl (ps ++ #[rawInt pos.line, rawInt pos.col, .ref c']))) c' (LamX.CodeO c' (X.env.qual ++ "<lambda>"))) := fun b o e n => by
      rw [upd_ne (ne_of_none e nC), upd_ne (fun z => n ps (Option.some.inj (e.symm.trans (by rw [z]; exact hP))))]
      exact e
    have eL : (ps ++ #[rawInt pos.line, rawInt pos.col, .ref c']).toList = ps.toList ++ [rawInt pos.line, rawInt pos.col, .ref c'] := by simp
    refine h h'.objs.size c' ((X.mg "__name__").getD .none) ctv _ _ I1 hE (fun b e => upd_none (upd_none e)) (fun p hp => ?_) (Heap.get?_push_size _ rfl) ?_ (nofr _ hsz) upd_same
    · by_cases hb : p.1 = P
      · rw [hu p hp hb, hb]
        refine ⟨sP, _, by rw [upd_ne (ne_of_none hP nC), upd_same], by rw [eL]; exact PySem.TriplesOk_snoc _ _ _ _ ht, fun p' cv hcv => ?_⟩
        rw [eL] at hcv
        rcases NdefX.among_app2 _ ht hcv with z | ⟨z, z1, z2⟩
        · obtain ⟨c0, e1, e2, e3⟩ := ha p' cv z
          exact ⟨c0, e1, e2, hE _ _ e3 LamX.codeO_ne⟩
        · refine ⟨c', z, hS _ nC, ?_⟩
          rw [← z1, ← z2, hn]
          exact upd_same
      · obtain ⟨sp, ps', a1, a2, a3⟩ := hT p hp
        refine ⟨sp, ps', by rw [upd_ne (ne_of_none a1 nC), upd_ne hb]; exact a1, a2, fun p' cv hcv => ?_⟩
        obtain ⟨c0, e1, e2, e3⟩ := a3 p' cv hcv
        exact ⟨c0, e1, e2, hE _ _ e3 LamX.codeO_ne⟩
    · have n1 : h'.objs.size ≠ c' := Nat.ne_of_gt hlt
      have n2 : h'.objs.size ≠ P := Nat.ne_of_gt (Nat.lt_of_lt_of_le (Heap.lt_size hP') hsz)
      rw [upd_ne n1, upd_ne n2]
      exact I.hok.fresh hsz
  | some cv =>
    obtain ⟨c', e, sC, hco⟩ := ha pos cv hc
    subst e
    have hco : H c' = some (LamX.CodeO c' (nm pos.line pos.col)) := hco
    rw [hn] at hco
    refine PySem.W.kla_makeFunctionHit (mg := X.mg) (c := c) (P := P) (ps := ps) (closure_ok hfree) I.ok.glob (I.mod.glob.keeps I.bk) hcode (TB.code.keeps I.bk) hP' ht hc bP fun ctv h' tk hx hsz => ?_
    have I1 : Inv X pins σ H { s with heap := h'.push (PySem.W.kla_obj "<lambda>" (X.env.qual ++ "<lambda>") params body scope (cloFrom X.env.cells scope.names []) ((X.mg "__name__").getD .none) c' ctv), toks := tk } := I.kept fun b o e => Heap.get?_push_of_some _ (hx b o e)
    exact h h'.objs.size c' ((X.mg "__name__").getD .none) ctv H _ I1 (LamX.ExtN.refl H) (fun _ e => e) hT (Heap.get?_push_size _ rfl) (I.hok.fresh hsz) (nofr _ hsz) hco
end
/-- what the making leaves, over the worlds -/
theorem world_made {K : PySem.W.Frag} {G : Wd} {m : Mem} {H2 : Hp} (R : RelM K G m) (e : LamX.ExtN G.H H2) (b : ∀ a, H2 a = none → G.H a = none) (t : TabsS (· ∉ G.lv) H2) : Le G ⟨G.io, G.lv, H2⟩ ∧ RelM K ⟨G.io, G.lv, H2⟩ m := by
  have le : Le G ⟨G.io, G.lv, H2⟩ := ⟨R.lt, ⟨[], by simp, fun _ h => nomatch h⟩, fun _ h => .inl h, fun _ h _ => h, fun a o h _ nt => e a o h nt, b⟩
  refine ⟨le, R.dw, R.len, R.nd, fun a h z => R.lt a h (b a z), fun a h z => R.it a h (b a z), fun i a o h1 h2 => ?_, t⟩
  have q := R.ob i a o h1 h2
  obtain ⟨u, u1, u2, _⟩ := obj_no q
  exact q.mono le (fun z => z) (fun z => z) ((e a u u1 u2).trans u1.symm)
/-! ### its calls -/
section
variable {P : Program} {w : World} {K : PySem.W.Frag} {mg : Str → Option Value} {base : Heap}
theorem lam_fv {k : Nat} {f c : Addr} {q : Str} {params : Arguments} {body : Expr} {scope : Scope} {N ps : List Str} {fe : EF} {pm ctv : Value} (S : NdefX.NScope N ps [] scope)
    (hb : ∀ us : List Value, us.length = ps.length → bindArgs (PySem.W.kla_fn "<lambda>" q params body scope [] pm (.ref c) ctv) ⟨us, []⟩ = pure (ps.zip us))
    (hbody : ∀ (A : Around) (outer : List PySem.Env) (s : Shared) (H : Hp) (E : XK), ME (NdefX.ncx (L2.CX P w) P w K mg base N ⟨"<lambda>", q, params, [], scope, [], c⟩ f A outer s H E) (fun c d _ H' => E c d H') body fe) :
    FvOk P w K mg base (k + 1) f (PySem.W.kla_obj "<lambda>" q params body scope [] pm c ctv) [] c q ps.length (runF N.length (sRet fe)) := by
  refine ⟨⟨none, _, #[], rfl⟩, fun A outer s H us vs Q E hr e0 fa hc r hsp => ?_⟩
  have ho := (fa.at_ _ List.mem_cons_self).1
  have lim : s.heap.NoLimit := e0.mod.nolimit.keeps fun b o e => (e0.bs b o e).1
  have hl := spM_len _ _ _ _ hsp
  refine PySem.W.kla_callFunE hr.depth ho rfl S.co S.gen rfl (NdefX.codeO_at e0.hok hc) ?_
  rw [hb us (by rw [← r.length]; exact hl)]
  refine wpAny_pure (wpAny_newFunctionEnv S.nocell (fun ⟨n, _⟩ hy => S.par n (List.of_mem_zip hy).1) (fun h₁ hns hsb => ⟨lim.fresh _ hsb, ?_⟩) S.kind)
  have kp : ∀ b o, s.heap.get? b = some o → h₁.get? b = some o := fun b o e => hsb.extBut b o (Nat.ne_of_lt (Heap.lt_size e)) (Heap.get?_push_of_some _ e)
  obtain ⟨G, ws, m, eH, R, hp, hwl, hq⟩ := hsp
  subst eH
  obtain ⟨t, p, qq⟩ := hbody A outer s G.H E
  have C : NdefX.CellsAt ([] : List (Str × Addr)) [] [] s.heap G.H := ⟨rfl, nofun, nofun, nofun⟩
  have I : Inv (NdefX.ncx (L2.CX P w) P w K mg base N ⟨"<lambda>", q, params, [], scope, [], c⟩ f A outer s G.H E) [] (NdefX.startF N vs []) G.H { s with heap := h₁, toks := s.toks + (ps.zip us).length } := NdefX.inv_startN S hr.hd e0 hl r C hns kp
  have es : NdefX.startF N vs [] = L2.start N vs := by unfold NdefX.startF L2.start; simp
  rw [es] at I
  show codeAny _ _ (.expr body (NdefX.envF ⟨"<lambda>", q, params, [], scope, [], c⟩ f s.heap.objs.size)) _ _
  refine PySem.W.kla_codeExpr (wpAny_mono (p.run [] _ _ G.H (fun v H' => Q v H') I (qq (env0 N.length ws) m _ G _ (RelS.start hp) R ?_)) (fun v s' hq => ?_) fun e s' hq => hq)
  · unfold runF sRet eS at hq
    cases e : fe (env0 N.length ws) m with
    | ok w' m' => rw [e] at hq; exact fun v G' le R' r => finM_ok R R' le r hq
    | err x m' =>
      rw [e] at hq
      intro c d G' le R' hx
      dsimp only at hq
      by_cases hc : clM m.length m' = true
      rotate_left
      · rw [if_neg hc] at hq
        exact False.elim hq
      rw [if_pos hc] at hq
      refine hq c d (G'.cut G none) le.cut (R.cut R' le hc) ⟨hx.1, ?_⟩
      rcases hx.2 with z | ⟨dd, fs, z0, z1, z2, z3, z4⟩
      · exact .inl z
      · refine .inr ⟨dd, fs, z0, z1, z2, fun z => z3 ?_, Paired.mono (fun _ _ z => ⟨z.1, Rep.mono Mo.cut z.2⟩) z4⟩
        obtain ⟨κ, ek, _⟩ := le.io
        rw [ek]
        exact List.mem_append_left _ z
    | bad => rw [e] at hq; exact False.elim hq
  · obtain ⟨w', H', J', rv, q⟩ := hq
    exact ⟨w', H', J'.os, J'.bare, J'.base, J'.hok, rv, q⟩
end
/-! ### x(e, lambda ..) -/
section
variable {X : Cx} {Wx : WX} {k : Nat} {g c P : Addr} {F : FF} {fd : FuncData} {ps : List Str}
theorem me_callL {nm : Nat → Nat → Str} {x : Str} {p lpos pos : Pos} {e : Expr} {fe : EF} {params : Arguments} {body : Expr} {scope : Scope} (tk : Takes X Wx)
    (hM : ∀ (f c' : Addr) (pm ctv : Value), MbOk X.prog X.w X.K X.mg X.base k g fd ps f (PySem.W.kla_obj "<lambda>" (X.env.qual ++ "<lambda>") params body scope [] pm c' ctv) [] c' (X.env.qual ++ "<lambda>") F)
    (hr : Room k X.A) (hg : Gl X x) (hm : X.mg x = some (.ref g)) (hk : PySem.W.keepIn X.K (.ref g) = true) (hb : Binds X.K fd ps []) (TB : LamX.TabB X.base X.mg c P) (hcode : X.env.code = .ref c) (hmT : (P, nm) ∈ HasW.tabs) (hn : nm lpos.line lpos.col = X.env.qual ++ "<lambda>") (hu : ∀ p ∈ HasW.tabs, p.1 = P → p.2 = nm)
    (he : ME X Wx e fe) (hdef : defaultsOf params X.env = ([], []) := by rfl) (hcl : cloFrom X.env.cells scope.names [] = [] := by rfl) (hfree : (scope.names.all fun y => !decide (y.2 = .free)) = true := by decide +kernel) (hdb : (x == ("__debug__" : Str)) = false := by decide)
    (h1 : starEach [e, .Lambda params body scope lpos] X.env = (false, eval e X.env) :: starEach [.Lambda params body scope lpos] X.env := by rfl) (hpl : (backTo pos (starEach [.Lambda params body scope lpos] X.env)).any (·.1) = false := by rfl)
    (h2 : starEach [.Lambda params body scope lpos] X.env = (false, eval (.Lambda params body scope lpos) X.env) :: starEach [] X.env := by rfl) :
    ME X Wx (.Call (.Name x p) [e, .Lambda params body scope lpos] [] pos) (eCallF F (aCons fe aNil)) := by
  have hfree : ∀ y ∈ scope.names, y.2 = .free → ∃ c, X.env.cells.lookup y.1 = some c := fun y hy q => by
    have := List.all_eq_true.mp hfree y hy
    rw [q] at this
    simp at this
  obtain ⟨te, pe, qe⟩ := he
  refine ⟨fun σ H Q => te σ H fun v H1 => ∃ S : Addr → Prop, TabsS S H1 ∧ (∀ b, H1 b = none → S b) ∧ ∀ (c' : Addr) (H2 : Hp), LamX.ExtN H1 H2 → (∀ b, H2 b = none → H1 b = none) → TabsS S H2 → SpM X.K X.mg 1 F [v] H2 Q (WE Wx σ), ⟨fun pins s σ H Q I h => ?_⟩, fun env m σ G Q S R h => ?_⟩
  · refine wpAny_Call_Name_kw (ld_glob I hg hm ?_ hdb)
    refine PySem.W.callWith_K (h₀ := X.base) I.ok.mod.kin hk (PyProof.Rows.args_cons (thn (pe.run pins s σ H _ I h) fun u s1 ⟨v, H1, I1, rv, S, hT, hS, hh⟩ => PyProof.Rows.args_cons (lam_make3 I1 TB hcode hmT hn hu hT hS hdef hfree fun f c' pm ctv H2 s2 I2 eN bk T2 hf hfn hfr hco => PyProof.Rows.args_nil ⟨I2.kIn, ?_⟩) h2) h1) h1 hpl
    rw [hcl] at hf
    exact run_mb tk (hM f c' pm ctv) hr hb I2 ⟨fun p hp => by rw [List.mem_singleton.mp hp]; exact ⟨hf, hfn, hfr⟩⟩ hco (.cons rv (.cons rfl .nil)) (hh c' H2 eN bk T2)
  · unfold eCallF aCons aNil at h
    cases ew : fe env m with
    | ok w m1 =>
      rw [ew] at h
      refine qe env m σ G _ S R ?_
      rw [ew]
      intro v G1 le1 R1 q1
      refine ⟨(· ∉ G1.lv), R1.tb, fun b hb => (R1.ne hb).2, fun c' H2 eN bk T2 => ?_⟩
      obtain ⟨le2, R2⟩ := world_made R1 eN bk T2
      exact callM_ok (vs := [v]) (ws := [w]) (H0 := G.H) R2 (.cons (q1.mono le2) .nil) rfl (GPost.later weakR h (le1.trans le2))
    | err x m1 => rw [ew] at h; refine qe env m σ G _ S R ?_; rw [ew]; exact h
    | bad => rw [ew] at h; exact False.elim h
end
/-! ### a def whose code object is told; the law's end -/
section
variable {P : Program} {w : World} {K : PySem.W.Frag} {mg : Str → Option Value} {base : Heap}
theorem okFC {x qual : Str} {st : Stmt} {f c : Addr} {fd : FuncData} {N ps : List Str} {k : Nat} {g : SF} (F : Fun K x qual st f fd) (hcode : fd.code = .ref c) (S : FnScope N ps (defScope st))
    (hbody : ∀ (A : Around) (outer : List PySem.Env) (s : Shared) (H : Hp) (E : XK), Room k (A.deeper (PyProof.Rows.envOfC qual (defScope st) s.heap.objs.size f (.ref c))) →
      MB (cxM P w K mg base N qual (defScope st) f (.ref c) A outer s H E) (fun c d _ H' => E c d H') (defBody st) g) : FnOk P w K mg base (L2.CX P w) (k + 1) f fd ps (SpM K mg ps.length (runF N.length g)) := by
  obtain ⟨oc, od, kV, doc, pm, an, cdv, ct, osl, rfl, lk, hcd⟩ := F.ex
  obtain rfl : cdv = .ref c := hcode
  exact fn_of lk hcd S spM_len fun A outer s H vs Q E hr hsp => mb_run rfl rfl (hbody A outer s H E hr) hsp
theorem tabs_mem {P : Addr} {nm : Nat → Nat → Str} (h : HasW.tabs = [(P, nm)]) : (P, nm) ∈ HasW.tabs := by rw [h]; exact List.mem_singleton.mpr rfl
theorem tabs_u {P : Addr} {nm : Nat → Nat → Str} (h : HasW.tabs = [(P, nm)]) : ∀ p ∈ HasW.tabs, p.1 = P → p.2 = nm := fun p hp _ => by rw [h] at hp; rw [List.mem_singleton.mp hp]
def spLawT (K : PySem.W.Frag) (T : Addr) : Sp := fun vs H Q _ => ∃ (a : Addr) (ns : List Int), vs = [.ref a] ∧ SqL K H a (ns.map V.int) ∧ ns.length ≤ 63 ∧ H T = some (.tbl #[]) ∧ ∀ H', Q (.bl true) H'
theorem law_impT {k : Nat} {f T : Addr} {fd : FuncData} {x : Str} {F : FF} {nm : Nat → Nat → Str} (h : FnOk P w K mg base (L2.CX P w) k f fd [x] (SpM K mg 1 F)) (hw : HasW.tabs = [(T, nm)])
    (ht : ∀ ns : List Int, ns.length ≤ 63 → ∃ m, F [.ro (ns.map .int)] [] = .ok (.d (.bool true)) m) : FnOk P w K mg base (L2.CX P w) k f fd [x] (spLawT K T) := by
  refine h.imp fun vs H Q E ⟨a, ns, e, hs, hl, hT, hq⟩ => ?_
  subst e
  obtain ⟨m, hm⟩ := ht ns hl
  refine ⟨⟨[], [], H⟩, [.ro (ns.map .int)], [], rfl, ⟨fun i o e => by simp at e, rfl, List.nodup_nil, fun _ z => (nomatch z), fun _ z => (nomatch z), fun i a o e1 e2 => by simp at e2, fun p hp => ?_⟩, .cons ⟨a, _, rfl, ?_, Reps.ints ns⟩ .nil, rfl, ?_⟩
  · rw [hw] at hp
    rw [List.mem_singleton.mp hp]
    exact ⟨nofun, #[], hT, True.intro, fun pos cv hc => by
      have z : codeAmong pos [] = some cv := hc
      simp [codeAmong] at z⟩
  · rcases hs with h | h
    · exact .inl ⟨fun z => (nomatch z), h⟩
    · exact .inr h
  · rw [hm]
    intro v G' le R r
    cases r
    exact hq _
end
/-! ### a, b = x, y -/
section
variable {X : Cx} {Wx : WX}
theorem ms_parT {i j : Nat} {x y : Str} {a b : Expr} {f : AF} {px py pt pos : Pos} {kt k2 pt2} (hc : X.calm = true) (hN : X.N.Nodup) (hi : X.N[i]? = some x) (hj : X.N[j]? = some y) (hij : i ≠ j)
    (hx : X.env.scope.names.lookup x = some .local) (hy : X.env.scope.names.lookup y = some .local) (ha : MA X Wx [a, b] f)
    (hw : swappedStores [.Tuple [.Name x px, .Name y py] kt pt] (.Tuple [a, b] k2 pt2) X.env = pure (some [x, y]) := by rfl)
    (hs : swapsWithSole [.Tuple [.Name x px, .Name y py] kt pt] (.Tuple [a, b] k2 pt2) pos.line X.env = pure false := by rfl) :
    MS X Wx (.Assign [.Tuple [.Name x px, .Name y py] kt pt] (.Tuple [a, b] k2 pt2) pos) (sAsg (eTup f) (gTupF 2 (gsCons (gSet i) (gsCons (gSet j) gsNil)))) := by
  obtain ⟨t, p, q⟩ := ha
  refine ⟨_, ps_par hc hN hi hj hij hx hy p hw hs, fun env m σ G E S R h => q env m σ G _ S R ?_⟩
  unfold sAsg eTup at h
  cases ef : f env m with
  | bad => rw [ef] at h; exact False.elim h
  | err e m1 => rw [ef] at h; exact fun c d G' le R' ex => h c d σ G' le R' (S.mono le) ex
  | ok ws m1 =>
    rw [ef] at h
    simp only [Res.bind_ok] at h
    intro vs G1 le R1 q1
    cases e : asDs ws with
    | none => rw [e] at h; exact False.elim h
    | some ds =>
      rw [e] at h
      have r := asDs_reps q1 e
      by_cases hz : ds.length ≤ sizeLine
      · simp only [hz, if_true] at h
        match ds, vs, r, h with
        | [d1, d2], [v1, v2], .cons r1 (.cons r2 .nil), h => exact ⟨v1, v2, rfl, h _ G1 le R1 (((S.mono le).set (w := .d d1) r1).set (w := .d d2) r2)⟩
        | [], _, _, h => exact False.elim h
        | [_], _, _, h => exact False.elim h
        | _ :: _ :: _ :: _, _, _, h => exact False.elim h
      · simp only [hz, if_false] at h
        exact False.elim h
end
end M
set_option Elab.async false
set_option linter.all false
set_option maxRecDepth 100000
set_option maxHeartbeats 4000000
namespace K60
open PySem L2 M
variable [HasW]
theorem lt0 : Str.ofString "basic" = S [98, 97, 115, 105, 99] := by decide +kernel
theorem lt1 : Str.ofString "fn" = S [102, 110] := by decide +kernel
theorem lt2 : Str.ofString "of" = S [111, 102] := by decide +kernel
theorem lt3 : Str.ofString "bound" = S [98, 111, 117, 110, 100] := by decide +kernel
theorem lt4 : Str.ofString ">" = S [62] := by decide +kernel
theorem lt5 : Str.ofString "/" = S [47] := by decide +kernel
theorem lt6 : Str.ofString "<" = S [60] := by decide +kernel
theorem lt7 : Str.ofString "\\" = S [92] := by decide +kernel
theorem lt8 : Str.ofString ">>" = S [62, 62] := by decide +kernel
theorem lt9 : Str.ofString "<<" = S [60, 60] := by decide +kernel
theorem lt10 : Str.ofString "leaf" = S [108, 101, 97, 102] := by decide +kernel
theorem lt11 : Str.ofString "word" = S [119, 111, 114, 100] := by decide +kernel
theorem lt12 : Str.ofString "cells" = S [99, 101, 108, 108, 115] := by decide +kernel
theorem lt13 : Str.ofString "left" = S [108, 101, 102, 116] := by decide +kernel
theorem lt14 : Str.ofString "at" = S [97, 116] := by decide +kernel
theorem lt15 : Str.ofString "seed" = S [115, 101, 101, 100] := by decide +kernel
theorem lt16 : Str.ofString "mixed" = S [109, 105, 120, 101, 100] := by decide +kernel
theorem lt17 : Str.ofString "" = S [] := by decide +kernel
theorem lt19 : Str.ofString "any" = S [97, 110, 121] := by decide +kernel
noncomputable def B_kind_of_form (r_kind_of_form : D → PR (D)) (form : D) : PR (D) :=
    (ixP form (.int 0)).bind fun z1 =>
    ((eqP false) z1 (.str (Str.ofString "basic"))).bind fun z2 =>
    ptb z2 fun t3 => if t3 = true then ((ixP form (.int 1)).bind fun z4 =>
    .ok z4)
    else ((ixP form (.int 2)).bind fun z5 =>
    (r_kind_of_form z5).bind fun z6 =>
    (ixP form (.int 1)).bind fun z7 =>
    (r_kind_of_form z7).bind fun z8 =>
    .ok (.tuple [z6, z8]))
noncomputable def P_kind_of_form : Nat → D → PR (D)
  | 0, _ => .bad
  | n + 1, a0 => B_kind_of_form (P_kind_of_form n) a0
noncomputable def P_handed_on (form : D) (taker : D) (taken : D) : PR (D) :=
    (ixP form (.int 2)).bind fun z1 =>
    (P_kind_of_form fuelR z1).bind fun z2 =>
    .ok (.tuple [(.str (Str.ofString "fn")), z2, (.tuple [(.str (Str.ofString "of")), taker, (.tuple [(.str (Str.ofString "of")), taken, (.tuple [(.str (Str.ofString "bound")), (.int 0)])])])])
noncomputable def P_RightTaken__sign : PR (D) :=
    .ok (.str (Str.ofString ">"))
noncomputable def PL_RightTaken__sign (ds : List D) : PR D := match ds with
  | [] => P_RightTaken__sign 
  | _ => .bad
noncomputable def P_RightTaken__joined (left : D) (right : D) : PR (D) :=
    (ixP left (.int 0)).bind fun z1 =>
    ((eqP false) z1 (.str (Str.ofString "/"))).bind fun z2 =>
    ptb z2 fun t3 => if t3 = true then ((ixP left (.int 2)).bind fun z4 =>
    ((eqP false) z4 right).bind fun z5 =>
    ptb z5 fun t6 => if t6 = true then ((ixP left (.int 1)).bind fun z7 =>
    .ok z7)
    else (.ok .none)) else if false = true then ((ixP left (.int 1)).bind fun z8 =>
    .ok z8)
    else (.ok .none)
noncomputable def PL_RightTaken__joined (ds : List D) : PR D := match ds with
  | [a1, a2] => P_RightTaken__joined a1 a2
  | _ => .bad
noncomputable def P_RightTaken__meant (left : D) (right : D) (first : D) (second : D) : PR (D) :=
    .ok (.tuple [(.str (Str.ofString "of")), first, second])
noncomputable def PL_RightTaken__meant (ds : List D) : PR D := match ds with
  | [a1, a2, a3, a4] => P_RightTaken__meant a1 a2 a3 a4
  | _ => .bad
noncomputable def P_LeftTaken__sign : PR (D) :=
    .ok (.str (Str.ofString "<"))
noncomputable def PL_LeftTaken__sign (ds : List D) : PR D := match ds with
  | [] => P_LeftTaken__sign 
  | _ => .bad
noncomputable def P_LeftTaken__joined (left : D) (right : D) : PR (D) :=
    (ixP right (.int 0)).bind fun z1 =>
    ((eqP false) z1 (.str (Str.ofString "\\"))).bind fun z2 =>
    ptb z2 fun t3 => if t3 = true then ((ixP right (.int 2)).bind fun z4 =>
    ((eqP false) z4 left).bind fun z5 =>
    ptb z5 fun t6 => if t6 = true then ((ixP right (.int 1)).bind fun z7 =>
    .ok z7)
    else (.ok .none)) else if false = true then ((ixP right (.int 1)).bind fun z8 =>
    .ok z8)
    else (.ok .none)
noncomputable def PL_LeftTaken__joined (ds : List D) : PR D := match ds with
  | [a1, a2] => P_LeftTaken__joined a1 a2
  | _ => .bad
noncomputable def P_LeftTaken__meant (left : D) (right : D) (first : D) (second : D) : PR (D) :=
    .ok (.tuple [(.str (Str.ofString "of")), second, first])
noncomputable def PL_LeftTaken__meant (ds : List D) : PR D := match ds with
  | [a1, a2, a3, a4] => P_LeftTaken__meant a1 a2 a3 a4
  | _ => .bad
noncomputable def P_RightHanded__sign : PR (D) :=
    .ok (.str (Str.ofString ">>"))
noncomputable def PL_RightHanded__sign (ds : List D) : PR D := match ds with
  | [] => P_RightHanded__sign 
  | _ => .bad
noncomputable def J1_RightHanded__joined (left_11 : D) (right_12 : D) (t13 : Bool) : PR (D) :=
    if t13 = true then ((ixP left_11 (.int 1)).bind fun z14 =>
    (ixP right_12 (.int 2)).bind fun z15 =>
    .ok (.tuple [(.str (Str.ofString "/")), z14, z15]))
    else (.ok .none)
noncomputable def P_RightHanded__joined (left : D) (right : D) : PR (D) :=
    (ixP left (.int 0)).bind fun z1 =>
    ((eqP false) z1 (.str (Str.ofString "/"))).bind fun z2 =>
    ptb z2 fun t3 => if t3 = true then ((ixP right (.int 0)).bind fun z4 =>
    ((eqP false) z4 (.str (Str.ofString "/"))).bind fun z5 =>
    ptb z5 fun t6 => if t6 = true then ((ixP left (.int 2)).bind fun z7 =>
    (ixP right (.int 1)).bind fun z8 =>
    ((eqP false) z7 z8).bind fun z9 =>
    ptb z9 fun t10 => (J1_RightHanded__joined left right t10)) else (J1_RightHanded__joined left right false)) else (J1_RightHanded__joined left right false)
noncomputable def PL_RightHanded__joined (ds : List D) : PR D := match ds with
  | [a1, a2] => P_RightHanded__joined a1 a2
  | _ => .bad
noncomputable def P_RightHanded__meant (left : D) (right : D) (first : D) (second : D) : PR (D) :=
    (P_handed_on right first second).bind fun z1 =>
    .ok z1
noncomputable def PL_RightHanded__meant (ds : List D) : PR D := match ds with
  | [a1, a2, a3, a4] => P_RightHanded__meant a1 a2 a3 a4
  | _ => .bad
noncomputable def P_LeftHanded__sign : PR (D) :=
    .ok (.str (Str.ofString "<<"))
noncomputable def PL_LeftHanded__sign (ds : List D) : PR D := match ds with
  | [] => P_LeftHanded__sign 
  | _ => .bad
noncomputable def J1_LeftHanded__joined (left_11 : D) (right_12 : D) (t13 : Bool) : PR (D) :=
    if t13 = true then ((ixP right_12 (.int 1)).bind fun z14 =>
    (ixP left_11 (.int 2)).bind fun z15 =>
    .ok (.tuple [(.str (Str.ofString "\\")), z14, z15]))
    else (.ok .none)
noncomputable def P_LeftHanded__joined (left : D) (right : D) : PR (D) :=
    (ixP left (.int 0)).bind fun z1 =>
    ((eqP false) z1 (.str (Str.ofString "\\"))).bind fun z2 =>
    ptb z2 fun t3 => if t3 = true then ((ixP right (.int 0)).bind fun z4 =>
    ((eqP false) z4 (.str (Str.ofString "\\"))).bind fun z5 =>
    ptb z5 fun t6 => if t6 = true then ((ixP right (.int 2)).bind fun z7 =>
    (ixP left (.int 1)).bind fun z8 =>
    ((eqP false) z7 z8).bind fun z9 =>
    ptb z9 fun t10 => (J1_LeftHanded__joined left right t10)) else (J1_LeftHanded__joined left right false)) else (J1_LeftHanded__joined left right false)
noncomputable def PL_LeftHanded__joined (ds : List D) : PR D := match ds with
  | [a1, a2] => P_LeftHanded__joined a1 a2
  | _ => .bad
noncomputable def P_LeftHanded__meant (left : D) (right : D) (first : D) (second : D) : PR (D) :=
    (P_handed_on left second first).bind fun z1 =>
    .ok z1
noncomputable def PL_LeftHanded__meant (ds : List D) : PR D := match ds with
  | [a1, a2, a3, a4] => P_LeftHanded__meant a1 a2 a3 a4
  | _ => .bad
noncomputable def PL_made (ds : List D) : PR D := match ds with
  | [l, r] => madeGo [(PL_RightTaken__joined [l, r], .str (Str.ofString ">")), (PL_LeftTaken__joined [l, r], .str (Str.ofString "<")), (PL_RightHanded__joined [l, r], .str (Str.ofString ">>")), (PL_LeftHanded__joined [l, r], .str (Str.ofString "<<"))]
  | _ => .bad
noncomputable def P_made (l r : D) : PR D := noE (PL_made [l, r])
noncomputable def PL_meant (ds : List D) : PR D := match ds with
  | [sg, l, r, f, s] => meantGo sg [(.str (Str.ofString ">"), PL_RightTaken__meant [l, r, f, s]), (.str (Str.ofString "<"), PL_LeftTaken__meant [l, r, f, s]), (.str (Str.ofString ">>"), PL_RightHanded__meant [l, r, f, s]), (.str (Str.ofString "<<"), PL_LeftHanded__meant [l, r, f, s])]
  | _ => .bad
noncomputable def P_meant (sg l r f s : D) : PR D := noE (PL_meant [sg, l, r, f, s])
noncomputable def P_unknown__word (place : D) (form : D) : PR (D) :=
    .ok (.tuple [(.str (Str.ofString "leaf")), place, form])
noncomputable def B_meant_by (r_meant_by : D → PR (D)) (reading : D) : PR (D) :=
    (ixP reading (.int 0)).bind fun z1 =>
    ((eqP false) z1 (.str (Str.ofString "word"))).bind fun z2 =>
    ptb z2 fun t3 => if t3 = true then ((ixP reading (.int 2)).bind fun z4 =>
    (ixP reading (.int 1)).bind fun z5 =>
    (ixP reading (.int 2)).bind fun z6 =>
    (P_unknown__word z5 z6).bind fun z7 =>
    .ok (.tuple [z4, z7]))
    else ((ixP reading (.int 1)).bind fun z8 =>
    (r_meant_by z8).bind fun z9 =>
    ptup z9 fun u10 => pcons u10 fun left_11 u12 => pcons u12 fun first_13 u14 => pnil u14 ((ixP reading (.int 2)).bind fun z15 =>
    (r_meant_by z15).bind fun z16 =>
    ptup z16 fun u17 => pcons u17 fun right_18 u19 => pcons u19 fun second_20 u21 => pnil u21 ((P_made left_11 right_18).bind fun z22 =>
    (ixP z22 (.int 1)).bind fun z23 =>
    (ixP reading (.int 0)).bind fun z24 =>
    (P_meant z24 left_11 right_18 first_13 second_20).bind fun z25 =>
    .ok (.tuple [z23, z25]))))
noncomputable def P_meant_by : Nat → D → PR (D)
  | 0, _ => .bad
  | n + 1, a0 => B_meant_by (P_meant_by n) a0
noncomputable def P_unknown (reading : D) : PR (D) :=
    (P_meant_by fuelR reading).bind fun z1 =>
    (ixP z1 (.int 1)).bind fun z2 =>
    .ok z2
noncomputable def S1__law_spelled (x3 : D) (s4 : D × D × Unit) (kn5 : (D × D × Unit) → PR (D)) (kb6 : (D × D × Unit) → PR (D)) : PR (D) :=
    (modP s4.1 (.int 26)).bind fun z7 =>
    (ixP (.str (Str.ofString "abcdefghijklmnopqrstuvwxyz")) z7).bind fun z8 =>
    (addP s4.2.1 z8).bind fun z9 =>
    (divP s4.1 (.int 26)).bind fun z10 =>
    kn5 (z10, z9, ())
noncomputable def P__law_spelled (number : D) (size : D) : PR (D) :=
    (rng1P [size]).bind fun xs1 =>
    foldK (S1__law_spelled) xs1 (number, (.str (Str.ofString "")), ()) fun s11 =>
    .ok s11.2.1
noncomputable def J3__law_word (kn16 : (D × D × D × Unit) → PR (D × Dk)) (kb17 : (D × D × D × Unit) → PR (D × Dk)) (number_21 : D) (size_22 : D) (word_here_23 : D) (t24 : Bool) : PR (D × Dk) :=
    if t24 = true then ((addSP number_21 (.int 1)).bind fun z25 =>
    (modP size_22 (.int 8)).bind fun z26 =>
    (addSP z26 (.int 1)).bind fun z27 =>
    (P__law_spelled z25 z27).bind fun z28 =>
    kn16 (z25, z27, z28, ()))
    else kb17 (number_21, size_22, word_here_23, ())
noncomputable def S2__law_word (words_here_13 : List D) (s15 : D × D × D × Unit) (kn16 : (D × D × D × Unit) → PR (D × Dk)) (kb17 : (D × D × D × Unit) → PR (D × Dk)) : PR (D × Dk) :=
    ((inP false) s15.2.2.1 (.list words_here_13)).bind fun z29 =>
    ptb z29 fun t30 => if t30 = true then (J3__law_word kn16 kb17 s15.1 s15.2.1 s15.2.2.1 true) else (((eqP false) s15.2.2.1 (.str (Str.ofString "any"))).bind fun z31 =>
    ptb z31 fun t32 => (J3__law_word kn16 kb17 s15.1 s15.2.1 s15.2.2.1 t32))
noncomputable def J1__law_word (fw : Nat) (deck_here_6 : Dk) (words_here_7 : List D) (number_9 : D) (size_10 : D) (word_here_11 : D) : PR (D × Dk) :=
    whileK (S2__law_word words_here_7) fw (number_9, size_10, word_here_11, ()) fun s33 =>
    .ok (s33.2.2.1, deck_here_6)
noncomputable def J4__law_word (fw : Nat) (deck_here_40 : Dk) (words_here_41 : List D) (way_42 : D) (number_43 : D) (size_44 : D) (word_here_45 : D) (t46 : Bool) : PR (D × Dk) :=
    if t46 = true then ((divP way_42 (.int 16)).bind fun z47 =>
    (ixP (.list words_here_41) (.int 0)).bind fun z48 =>
    (lenP [z48]).bind fun z49 =>
    (modP z47 z49).bind fun z50 =>
    (ixP (.list words_here_41) (.int 0)).bind fun z51 =>
    pti z50 fun i52 => (slP z51 none (some i52)).bind fun z53 =>
    (ixP word_here_45 (.int 0)).bind fun z54 =>
    (addP z53 z54).bind fun z55 =>
    (ixP (.list words_here_41) (.int 0)).bind fun z56 =>
    (addSP z50 (.int 1)).bind fun z57 =>
    pti z57 fun i58 => (slP z56 (some i58) none).bind fun z59 =>
    (addP z55 z59).bind fun z60 =>
    (J1__law_word fw deck_here_40 words_here_41 number_43 size_44 z60))
    else ((J1__law_word fw deck_here_40 words_here_41 number_43 size_44 word_here_45))
noncomputable def PF__law_word (fw : Nat) (deck_here : Dk) (words_here : List D) : PR (D × Dk) :=
    (P__law_next deck_here).bind fun z1 =>
    (P__law_next z1.2).bind fun z2 =>
    (modP z1.1 (.int 8)).bind fun z3 =>
    (addSP (.int 1) z3).bind fun z4 =>
    (P__law_spelled z2.1 z4).bind fun z5 =>
    ((eqP true) (.list words_here) (.list [])).bind fun z34 =>
    ptb z34 fun t35 => if t35 = true then ((divP z1.1 (.int 8)).bind fun z36 =>
    (modP z36 (.int 2)).bind fun z37 =>
    ((eqP false) z37 (.int 1)).bind fun z38 =>
    ptb z38 fun t39 => (J4__law_word fw z2.2 words_here z1.1 z2.1 z4 z5 t39)) else (J4__law_word fw z2.2 words_here z1.1 z2.1 z4 z5 false)
noncomputable def P__law_word : Dk → List D → PR (D × Dk) := PF__law_word fuelW
noncomputable def S1__law_words (x3 : D) (s4 : Dk × List D × Unit) (kn5 : (Dk × List D × Unit) → PR (D × Dk)) (kb6 : (Dk × List D × Unit) → PR (D × Dk)) : PR (D × Dk) :=
    (P__law_word s4.1 s4.2.1).bind fun z7 =>
    (appendP s4.2.1 [z7.1]).bind fun z8 =>
    kn5 (z7.2, z8.2, ())
noncomputable def P__law_words (deck_here : Dk) (many : D) : PR (D × Dk) :=
    (rng1P [many]).bind fun xs1 =>
    foldK (S1__law_words) xs1 (deck_here, [], ()) fun s9 =>
    .ok ((.list s9.2.1), s9.1)
noncomputable def B__law_wide (r__law_wide : D → PR (D)) (form : D) : PR (D) :=
    (ixP form (.int 0)).bind fun z1 =>
    ((eqP false) z1 (.str (Str.ofString "basic"))).bind fun z2 =>
    ptb z2 fun t3 => if t3 = true then (.ok (.int 1))
    else ((ixP form (.int 1)).bind fun z4 =>
    (r__law_wide z4).bind fun z5 =>
    (ixP form (.int 2)).bind fun z6 =>
    (r__law_wide z6).bind fun z7 =>
    (addP z5 z7).bind fun z8 =>
    .ok z8)
noncomputable def P__law_wide : Nat → D → PR (D)
  | 0, _ => .bad
  | n + 1, a0 => B__law_wide (P__law_wide n) a0
noncomputable def J1__law_other (deck_here_5 : Dk) (basics_6 : D) (way_8 : D) (one_9 : D) : PR (D × Dk) :=
    (divP way_8 (.int 12)).bind fun z10 =>
    (modP z10 (.int 2)).bind fun z11 =>
    (ixP (.list [(.str (Str.ofString "/")), (.str (Str.ofString "\\"))]) z11).bind fun z12 =>
    (divP way_8 (.int 24)).bind fun z13 =>
    (lenP [basics_6]).bind fun z14 =>
    (modP z13 z14).bind fun z15 =>
    (ixP basics_6 z15).bind fun z16 =>
    .ok ((.tuple [z12, one_9, (.tuple [(.str (Str.ofString "basic")), z16])]), deck_here_5)
noncomputable def J2__law_other (deck_here_21 : Dk) (basics_22 : D) (way_24 : D) (one_25 : D) (t26 : Bool) : PR (D × Dk) :=
    if t26 = true then (.ok (one_25, deck_here_21))
    else ((J1__law_other deck_here_21 basics_22 way_24 one_25))
noncomputable def P__law_other (deck_here : Dk) (basics : D) (form : D) : PR (D × Dk) :=
    (P__law_next deck_here).bind fun z1 =>
    (lenP [basics]).bind fun z2 =>
    (modP z1.1 z2).bind fun z3 =>
    (ixP basics z3).bind fun z4 =>
    (divP z1.1 (.int 3)).bind fun z17 =>
    (modP z17 (.int 4)).bind fun z18 =>
    (gtP z18 (.int 0)).bind fun z19 =>
    ptb z19 fun t20 => if t20 = true then (J2__law_other z1.2 basics z1.1 (.tuple [(.str (Str.ofString "basic")), z4]) true) else ((P__law_wide fuelR form).bind fun z27 =>
    (gtP z27 (.int 3)).bind fun z28 =>
    ptb z28 fun t29 => (J2__law_other z1.2 basics z1.1 (.tuple [(.str (Str.ofString "basic")), z4]) t29))
noncomputable def J3__law_tree (r__law_tree : Dk → D → D → D → D → PR (D × Dk)) (deck_here_29 : Dk) (basics_30 : D) (at__32 : D) (many_33 : D) (cut_34 : D) (sign_37 : D) (some__38 : D) : PR (D × Dk) :=
    (ixP some__38 (.int 0)).bind fun z39 =>
    (r__law_tree deck_here_29 basics_30 z39 at__32 cut_34).bind fun z40 =>
    (ixP some__38 (.int 1)).bind fun z41 =>
    (addP at__32 cut_34).bind fun z42 =>
    (subP many_33 cut_34).bind fun z43 =>
    (r__law_tree z40.2 basics_30 z41 z42 z43).bind fun z44 =>
    .ok ((.tuple [sign_37, z40.1, z44.1]), z44.2)
noncomputable def J4__law_tree (r__law_tree : Dk → D → D → D → D → PR (D × Dk)) (deck_here_51 : Dk) (basics_52 : D) (form_53 : D) (at__54 : D) (many_55 : D) (cut_56 : D) (other_here_58 : D) (sign_59 : D) (some__60 : D) (t61 : Bool) : PR (D × Dk) :=
    if t61 = true then ((ixP form_53 (.int 2)).bind fun z62 =>
    (ixP form_53 (.int 1)).bind fun z63 =>
    (J3__law_tree r__law_tree deck_here_51 basics_52 at__54 many_55 cut_56 (.str (Str.ofString "<<")) (.tuple [(.tuple [(.str (Str.ofString "\\")), other_here_58, z62]), (.tuple [(.str (Str.ofString "\\")), z63, other_here_58])])))
    else ((J3__law_tree r__law_tree deck_here_51 basics_52 at__54 many_55 cut_56 sign_59 some__60))
noncomputable def J2__law_tree (r__law_tree : Dk → D → D → D → D → PR (D × Dk)) (deck_here_19 : Dk) (basics_20 : D) (form_21 : D) (at__22 : D) (many_23 : D) (cut_24 : D) (way_25 : D) (other_here_26 : D) (sign_27 : D) (some__28 : D) : PR (D × Dk) :=
    (ixP form_21 (.int 0)).bind fun z45 =>
    ((eqP false) z45 (.str (Str.ofString "\\"))).bind fun z46 =>
    ptb z46 fun t47 => if t47 = true then ((modP way_25 (.int 8)).bind fun z48 =>
    (gtP z48 (.int 1)).bind fun z49 =>
    ptb z49 fun t50 => if t50 = true then (J4__law_tree r__law_tree deck_here_19 basics_20 form_21 at__22 many_23 cut_24 other_here_26 sign_27 some__28 true) else ((P__law_wide fuelR form_21).bind fun z64 =>
    (gtP z64 (.int 4)).bind fun z65 =>
    ptb z65 fun t66 => (J4__law_tree r__law_tree deck_here_19 basics_20 form_21 at__22 many_23 cut_24 other_here_26 sign_27 some__28 t66))) else (J4__law_tree r__law_tree deck_here_19 basics_20 form_21 at__22 many_23 cut_24 other_here_26 sign_27 some__28 false)
noncomputable def J5__law_tree (r__law_tree : Dk → D → D → D → D → PR (D × Dk)) (deck_here_73 : Dk) (basics_74 : D) (form_75 : D) (at__76 : D) (many_77 : D) (cut_78 : D) (way_79 : D) (other_here_80 : D) (sign_81 : D) (some__82 : D) (t83 : Bool) : PR (D × Dk) :=
    if t83 = true then ((ixP form_75 (.int 1)).bind fun z84 =>
    (ixP form_75 (.int 2)).bind fun z85 =>
    (J2__law_tree r__law_tree deck_here_73 basics_74 form_75 at__76 many_77 cut_78 way_79 other_here_80 (.str (Str.ofString ">>")) (.tuple [(.tuple [(.str (Str.ofString "/")), z84, other_here_80]), (.tuple [(.str (Str.ofString "/")), other_here_80, z85])])))
    else ((J2__law_tree r__law_tree deck_here_73 basics_74 form_75 at__76 many_77 cut_78 way_79 other_here_80 sign_81 some__82))
noncomputable def J1__law_tree (r__law_tree : Dk → D → D → D → D → PR (D × Dk)) (deck_here_9 : Dk) (basics_10 : D) (form_11 : D) (at__12 : D) (many_13 : D) (cut_14 : D) (way_15 : D) (other_here_16 : D) (sign_17 : D) (some__18 : D) : PR (D × Dk) :=
    (ixP form_11 (.int 0)).bind fun z67 =>
    ((eqP false) z67 (.str (Str.ofString "/"))).bind fun z68 =>
    ptb z68 fun t69 => if t69 = true then ((modP way_15 (.int 8)).bind fun z70 =>
    (gtP z70 (.int 1)).bind fun z71 =>
    ptb z71 fun t72 => if t72 = true then (J5__law_tree r__law_tree deck_here_9 basics_10 form_11 at__12 many_13 cut_14 way_15 other_here_16 sign_17 some__18 true) else ((P__law_wide fuelR form_11).bind fun z86 =>
    (gtP z86 (.int 4)).bind fun z87 =>
    ptb z87 fun t88 => (J5__law_tree r__law_tree deck_here_9 basics_10 form_11 at__12 many_13 cut_14 way_15 other_here_16 sign_17 some__18 t88))) else (J5__law_tree r__law_tree deck_here_9 basics_10 form_11 at__12 many_13 cut_14 way_15 other_here_16 sign_17 some__18 false)
noncomputable def B__law_tree (r__law_tree : Dk → D → D → D → D → PR (D × Dk)) (deck_here : Dk) (basics : D) (form : D) (at_ : D) (many : D) : PR (D × Dk) :=
    (ltP many (.int 2)).bind fun z1 =>
    ptb z1 fun t2 => if t2 = true then (.ok ((.tuple [(.str (Str.ofString "word")), at_, form]), deck_here))
    else ((P__law_next deck_here).bind fun z3 =>
    (subP many (.int 1)).bind fun z4 =>
    (modP z3.1 z4).bind fun z5 =>
    (addSP (.int 1) z5).bind fun z6 =>
    (P__law_next z3.2).bind fun z7 =>
    (P__law_other z7.2 basics form).bind fun z8 =>
    (modP z7.1 (.int 2)).bind fun z89 =>
    ((eqP false) z89 (.int 1)).bind fun z90 =>
    ptb z90 fun t91 => if t91 = true then ((J1__law_tree r__law_tree z8.2 basics form at_ many z6 z7.1 z8.1 (.str (Str.ofString "<")) (.tuple [z8.1, (.tuple [(.str (Str.ofString "\\")), form, z8.1])])))
    else ((J1__law_tree r__law_tree z8.2 basics form at_ many z6 z7.1 z8.1 (.str (Str.ofString ">")) (.tuple [(.tuple [(.str (Str.ofString "/")), form, z8.1]), z8.1]))))
noncomputable def P__law_tree : Nat → Dk → D → D → D → D → PR (D × Dk)
  | 0, _, _, _, _, _ => .bad
  | n + 1, a0, a1, a2, a3, a4 => B__law_tree (P__law_tree n) a0 a1 a2 a3 a4
noncomputable def P__law_drawn_form (deck_here : Dk) (basics : D) : PR (D × Dk) :=
    (P__law_next deck_here).bind fun z1 =>
    (lenP [basics]).bind fun z2 =>
    (modP z1.1 z2).bind fun z3 =>
    (ixP basics z3).bind fun z4 =>
    (P__law_other z1.2 basics (.tuple [(.str (Str.ofString "basic")), z4])).bind fun z5 =>
    (P__law_next z5.2).bind fun z6 =>
    (modP z6.1 (.int 6)).bind fun z7 =>
    (ltP z7 (.int 2)).bind fun z8 =>
    ptb z8 fun t9 => if t9 = true then (.ok ((.tuple [(.str (Str.ofString "basic")), z4]), z6.2))
    else ((modP z7 (.int 2)).bind fun z10 =>
    (ixP (.list [(.str (Str.ofString "/")), (.str (Str.ofString "\\"))]) z10).bind fun z11 =>
    .ok ((.tuple [z11, (.tuple [(.str (Str.ofString "basic")), z4]), z5.1]), z6.2))
noncomputable def B__law_kind_of_form (r__law_kind_of_form : D → PR (D)) (form : D) : PR (D) :=
    (ixP form (.int 0)).bind fun z1 =>
    ((eqP false) z1 (.str (Str.ofString "basic"))).bind fun z2 =>
    ptb z2 fun t3 => if t3 = true then ((ixP form (.int 1)).bind fun z4 =>
    .ok z4)
    else ((ixP form (.int 2)).bind fun z5 =>
    (r__law_kind_of_form z5).bind fun z6 =>
    (ixP form (.int 1)).bind fun z7 =>
    (r__law_kind_of_form z7).bind fun z8 =>
    .ok (.tuple [z6, z8]))
noncomputable def P__law_kind_of_form : Nat → D → PR (D)
  | 0, _ => .bad
  | n + 1, a0 => B__law_kind_of_form (P__law_kind_of_form n) a0
noncomputable def P__law_joined (sign : D) (left : D) (right : D) : PR (D) :=
    ((eqP false) sign (.str (Str.ofString ">"))).bind fun z1 =>
    ptb z1 fun t2 => if t2 = true then ((ixP left (.int 1)).bind fun z3 =>
    .ok z3)
    else (((eqP false) sign (.str (Str.ofString "<"))).bind fun z4 =>
    ptb z4 fun t5 => if t5 = true then ((ixP right (.int 1)).bind fun z6 =>
    .ok z6)
    else (((eqP false) sign (.str (Str.ofString ">>"))).bind fun z7 =>
    ptb z7 fun t8 => if t8 = true then ((ixP left (.int 1)).bind fun z9 =>
    (ixP right (.int 2)).bind fun z10 =>
    .ok (.tuple [(.str (Str.ofString "/")), z9, z10]))
    else ((ixP right (.int 1)).bind fun z11 =>
    (ixP left (.int 2)).bind fun z12 =>
    .ok (.tuple [(.str (Str.ofString "\\")), z11, z12]))))
noncomputable def J1__law_meant (reading_24 : D) (first_27 : D) (second_29 : D) (form_30 : D) : PR (D) :=
    (ixP reading_24 (.int 0)).bind fun z31 =>
    ((inP false) z31 (.tuple [(.str (Str.ofString ">")), (.str (Str.ofString "<"))])).bind fun z32 =>
    ptb z32 fun t33 => if t33 = true then (.ok (.tuple [form_30, (.tuple [(.str (Str.ofString "of")), first_27, second_29])]))
    else ((ixP form_30 (.int 2)).bind fun z34 =>
    (P__law_kind_of_form fuelR z34).bind fun z35 =>
    .ok (.tuple [form_30, (.tuple [(.str (Str.ofString "fn")), z35, (.tuple [(.str (Str.ofString "of")), first_27, (.tuple [(.str (Str.ofString "of")), second_29, (.tuple [(.str (Str.ofString "bound")), (.int 0)])])])])]))
noncomputable def B__law_meant (r__law_meant : D → List (D × D) → PR (D)) (reading : D) (means : List (D × D)) : PR (D) :=
    (ixP reading (.int 0)).bind fun z1 =>
    ((eqP false) z1 (.str (Str.ofString "word"))).bind fun z2 =>
    ptb z2 fun t3 => if t3 = true then ((ixP reading (.int 2)).bind fun z4 =>
    pti (.int 1) fun i6 => (slP reading (some i6) none).bind fun z7 =>
    ptd (means.map fun p => (p.1, TV.d p.2)) z7 fun z5 =>
    .ok (.tuple [z4, z5]))
    else ((ixP reading (.int 1)).bind fun z8 =>
    (r__law_meant z8 means).bind fun z9 =>
    ptup z9 fun u10 => pcons u10 fun left_11 u12 => pcons u12 fun first_13 u14 => pnil u14 ((ixP reading (.int 2)).bind fun z15 =>
    (r__law_meant z15 means).bind fun z16 =>
    ptup z16 fun u17 => pcons u17 fun right_18 u19 => pcons u19 fun second_20 u21 => pnil u21 ((ixP reading (.int 0)).bind fun z22 =>
    (P__law_joined z22 left_11 right_18).bind fun z23 =>
    (ixP reading (.int 0)).bind fun z36 =>
    ((inP false) z36 (.tuple [(.str (Str.ofString "<")), (.str (Str.ofString "<<"))])).bind fun z37 =>
    ptb z37 fun t38 => if t38 = true then (ptup (.tuple [second_20, first_13]) fun u39 => pcons u39 fun first_40 u41 => pcons u41 fun second_42 u43 => pnil u43 ((J1__law_meant reading first_40 second_42 z23)))
    else ((J1__law_meant reading first_13 second_20 z23)))))
noncomputable def P__law_meant : Nat → D → List (D × D) → PR (D)
  | 0, _, _ => .bad
  | n + 1, a0, a1 => B__law_meant (P__law_meant n) a0 a1
noncomputable def B__law_within (r__law_within : D → PR (D)) (reading : D) : PR (D) :=
    (ixP reading (.int 0)).bind fun z1 =>
    ((eqP false) z1 (.str (Str.ofString "word"))).bind fun z2 =>
    ptb z2 fun t3 => if t3 = true then (.ok (.list [reading]))
    else ((ixP reading (.int 1)).bind fun z4 =>
    (r__law_within z4).bind fun z5 =>
    (addP (.list [reading]) z5).bind fun z6 =>
    (ixP reading (.int 2)).bind fun z7 =>
    (r__law_within z7).bind fun z8 =>
    (addP z6 z8).bind fun z9 =>
    .ok z9)
noncomputable def P__law_within : Nat → D → PR (D)
  | 0, _ => .bad
  | n + 1, a0 => B__law_within (P__law_within n) a0
noncomputable def C1__law_words_of (x4 : D) (s5 : Unit) : PR (Option D × Unit) :=
    (ixP x4 (.int 0)).bind fun z6 =>
    ((eqP false) z6 (.str (Str.ofString "word"))).bind fun z7 =>
    ptb z7 fun t8 => if t8 = true then (pti (.int 1) fun i9 => (slP x4 (some i9) none).bind fun z10 =>
    .ok (some z10, ())) else .ok (none, ())
noncomputable def P__law_words_of (reading : D) : PR (D) :=
    (P__law_within fuelR reading).bind fun z1 =>
    (itemsP z1).bind fun xs2 =>
    lcK (C1__law_words_of) xs2 () [] fun acc11 s12 =>
    .ok (.list acc11)
noncomputable def C2__law_same (r__law_same : D → D → PR (D)) (x19 : D) (s20 : Unit) : PR (Option D × Unit) :=
    ptup x19 fun u21 => pcons u21 fun here_22 u23 => pcons u23 fun there_24 u25 => pnil u25 ((r__law_same here_22 there_24).bind fun z26 =>
    .ok (some z26, ()))
noncomputable def J1__law_same (r__law_same : D → D → PR (D)) (one_14 : D) (other_here_15 : D) : PR (D) :=
    (zipP [one_14, other_here_15]).bind fun xs16 =>
    lcK (C2__law_same r__law_same) xs16 () [] fun acc27 s28 =>
    (allP [(.list acc27)]).bind fun z29 =>
    .ok z29
noncomputable def B__law_same (r__law_same : D → D → PR (D)) (one : D) (other_here : D) : PR (D) :=
    pisi [.str] one fun z1 =>
    ptt z1 fun t2 => if t2 = true then (pisi [.str] other_here fun z3 =>
    ptb z3 fun t4 => if t4 = true then (((eqP false) one other_here).bind fun z5 =>
    .ok z5) else .ok (.bool false))
    else (pisi [.tup] one fun z6 =>
    ptt z6 fun t7 => if (!t7) = true then (pisi [.int] other_here fun z8 =>
    ptb z8 fun t9 => if t9 = true then (pisi [.bl] other_here fun z10 =>
    ptb z10 fun t11 => ptb (.bool (!t11)) fun t12 => if t12 = true then (((eqP false) one other_here).bind fun z13 =>
    .ok z13) else .ok (.bool false)) else .ok (.bool false))
    else (pisi [.tup] other_here fun z30 =>
    ptt z30 fun t31 => if (!t31) = true then if true = true then (.ok (.bool false))
    else ((J1__law_same r__law_same one other_here)) else ((lenP [one]).bind fun z32 =>
    (lenP [other_here]).bind fun z33 =>
    ((eqP true) z32 z33).bind fun z34 =>
    ptb z34 fun t35 => if t35 = true then (.ok (.bool false))
    else ((J1__law_same r__law_same one other_here)))))
noncomputable def P__law_same : Nat → D → D → PR (D)
  | 0, _, _ => .bad
  | n + 1, a0, a1 => B__law_same (P__law_same n) a0 a1
noncomputable def S1_law (x17 : D) (s18 : List (D × TV) × Unit) (kn19 : (List (D × TV) × Unit) → PR (D)) (kb20 : (List (D × TV) × Unit) → PR (D)) : PR (D) :=
    ptup x17 fun u21 => pcons u21 fun place_22 u23 => pcons u23 fun form_24 u25 => pnil u25 (ptput s18.1 (.tuple [place_22, form_24]) (.tuple [(.str (Str.ofString "leaf")), place_22, form_24]) fun kvs26 =>
    kn19 (kvs26, ()))
noncomputable def S2_law (means_35 : List (D × TV)) (x36 : D) (s37 : Unit) (kn38 : (Unit) → PR (D)) (kb39 : (Unit) → PR (D)) : PR (D) :=
    pflat means_35 fun ys40 => (P__law_meant fuelR x36 ys40).bind fun z41 =>
    (ixP z41 (.int 1)).bind fun z42 =>
    (P_unknown x36).bind fun z43 =>
    (P__law_same fuelR z42 z43).bind fun z44 =>
    ptt z44 fun t45 => if (!t45) = true then (.ok (.bool false))
    else (kn38 ())
noncomputable def P_law (script : List D) : PR (D) :=
    (mkDeck script).bind fun q1 =>
    (P__law_next q1).bind fun z2 =>
    (modP z2.1 (.int 2)).bind fun z3 =>
    (addSP (.int 2) z3).bind fun z4 =>
    (P__law_words z2.2 z4).bind fun z5 =>
    (P__law_drawn_form z5.2 z5.1).bind fun z6 =>
    (P__law_next z6.2).bind fun z7 =>
    (modP z7.1 (.int 7)).bind fun z8 =>
    (addSP (.int 1) z8).bind fun z9 =>
    (P__law_tree fuelR z7.2 z5.1 z6.1 (.int 0) z9).bind fun z10 =>
    (P__law_words_of z10.1).bind fun z11 =>
    (itemsP z11).bind fun xs12 =>
    foldK (S1_law) xs12 ([], ()) fun s27 =>
    (P__law_within fuelR z10.1).bind fun z28 =>
    (addP z28 (.list [z10.1])).bind fun z29 =>
    (itemsP z29).bind fun xs30 =>
    foldK (S2_law s27.1) xs30 () fun s46 =>
    .ok (.bool true)
end K60
set_option Elab.async false
set_option linter.all false
set_option maxRecDepth 100000
set_option maxHeartbeats 4000000
namespace K60
open PySem L2 M
variable [HasW]
noncomputable def F_made : FF := dataF PL_made
noncomputable def F_meant : FF := dataF PL_meant
noncomputable def m_kind_of_form (r_kind_of_form : FF) : SF :=
    (sSeq (sIf (tBool (eOp (eqW false) (eOp ixW (eVar 0) (eC (.int 0))) (eC (.str (Str.ofString "basic"))))) (sRet (eOp ixW (eVar 0) (eC (.int 1)))) sNx)
    (sRet (eTup (aCons (eFrz (eCallF r_kind_of_form (aCons (eOp ixW (eVar 0) (eC (.int 2))) aNil))) (aCons (eFrz (eCallF r_kind_of_form (aCons (eOp ixW (eVar 0) (eC (.int 1))) aNil))) aNil)))))
noncomputable def F_kind_of_form : Nat → FF
  | 0 => badF
  | n + 1 => runF 1 (m_kind_of_form (F_kind_of_form n))
noncomputable def m_handed_on : SF :=
    (sRet (eTup (aCons (eC (.str (Str.ofString "fn"))) (aCons (eFrz (eCallF (F_kind_of_form 40) (aCons (eOp ixW (eVar 0) (eC (.int 2))) aNil))) (aCons (eTup (aCons (eC (.str (Str.ofString "of"))) (aCons (eVar 1) (aCons (eTup (aCons (eC (.str (Str.ofString "of"))) (aCons (eVar 2) (aCons (eTup (aCons (eC (.str (Str.ofString "bound"))) (aCons (eC (.int 0)) aNil))) aNil)))) aNil)))) aNil)))))
noncomputable def F_handed_on : FF := runF 3 m_handed_on
noncomputable def m_RightTaken__sign : SF :=
    (sRet (eC (.str (Str.ofString ">"))))
noncomputable def m_RightTaken__joined : SF :=
    (sSeq (sIf (tAndF (tBool (eOp (eqW false) (eOp ixW (eVar 1) (eC (.int 0))) (eC (.str (Str.ofString "/"))))) (tBool (eOp (eqW false) (eOp ixW (eVar 1) (eC (.int 2))) (eVar 2)))) (sRet (eOp ixW (eVar 1) (eC (.int 1)))) sNx)
    (sRet (eC .none)))
noncomputable def m_RightTaken__meant : SF :=
    (sRet (eTup (aCons (eC (.str (Str.ofString "of"))) (aCons (eVar 3) (aCons (eVar 4) aNil)))))
noncomputable def m_LeftTaken__sign : SF :=
    (sRet (eC (.str (Str.ofString "<"))))
noncomputable def m_LeftTaken__joined : SF :=
    (sSeq (sIf (tAndF (tBool (eOp (eqW false) (eOp ixW (eVar 2) (eC (.int 0))) (eC (.str (Str.ofString "\\"))))) (tBool (eOp (eqW false) (eOp ixW (eVar 2) (eC (.int 2))) (eVar 1)))) (sRet (eOp ixW (eVar 2) (eC (.int 1)))) sNx)
    (sRet (eC .none)))
noncomputable def m_LeftTaken__meant : SF :=
    (sRet (eTup (aCons (eC (.str (Str.ofString "of"))) (aCons (eVar 4) (aCons (eVar 3) aNil)))))
noncomputable def m_RightHanded__sign : SF :=
    (sRet (eC (.str (Str.ofString ">>"))))
noncomputable def m_RightHanded__joined : SF :=
    (sSeq (sIf (tAndF (tBool (eOp (eqW false) (eOp ixW (eVar 1) (eC (.int 0))) (eC (.str (Str.ofString "/"))))) (tAndF (tBool (eOp (eqW false) (eOp ixW (eVar 2) (eC (.int 0))) (eC (.str (Str.ofString "/"))))) (tBool (eOp (eqW false) (eOp ixW (eVar 1) (eC (.int 2))) (eOp ixW (eVar 2) (eC (.int 1))))))) (sRet (eTup (aCons (eC (.str (Str.ofString "/"))) (aCons (eOp ixW (eVar 1) (eC (.int 1))) (aCons (eOp ixW (eVar 2) (eC (.int 2))) aNil))))) sNx)
    (sRet (eC .none)))
noncomputable def m_RightHanded__meant : SF :=
    (sRet (eCallF F_handed_on (aCons (eVar 2) (aCons (eVar 3) (aCons (eVar 4) aNil)))))
noncomputable def m_LeftHanded__sign : SF :=
    (sRet (eC (.str (Str.ofString "<<"))))
noncomputable def m_LeftHanded__joined : SF :=
    (sSeq (sIf (tAndF (tBool (eOp (eqW false) (eOp ixW (eVar 1) (eC (.int 0))) (eC (.str (Str.ofString "\\"))))) (tAndF (tBool (eOp (eqW false) (eOp ixW (eVar 2) (eC (.int 0))) (eC (.str (Str.ofString "\\"))))) (tBool (eOp (eqW false) (eOp ixW (eVar 2) (eC (.int 2))) (eOp ixW (eVar 1) (eC (.int 1))))))) (sRet (eTup (aCons (eC (.str (Str.ofString "\\"))) (aCons (eOp ixW (eVar 2) (eC (.int 1))) (aCons (eOp ixW (eVar 1) (eC (.int 2))) aNil))))) sNx)
    (sRet (eC .none)))
noncomputable def m_LeftHanded__meant : SF :=
    (sRet (eCallF F_handed_on (aCons (eVar 1) (aCons (eVar 4) (aCons (eVar 3) aNil)))))
noncomputable def m_unknown__word : SF :=
    (sRet (eTup (aCons (eC (.str (Str.ofString "leaf"))) (aCons (eVar 0) (aCons (eVar 1) aNil)))))
noncomputable def F_unknown__word : FF := runF 2 m_unknown__word
noncomputable def m_meant_by (r_meant_by : FF) : SF :=
    (sSeq (sIf (tBool (eOp (eqW false) (eOp ixW (eVar 0) (eC (.int 0))) (eC (.str (Str.ofString "word"))))) (sRet (eTup (aCons (eOp ixW (eVar 0) (eC (.int 2))) (aCons (eFrz (eCallF F_unknown__word (aCons (eOp ixW (eVar 0) (eC (.int 1))) (aCons (eOp ixW (eVar 0) (eC (.int 2))) aNil)))) aNil)))) sNx)
    (sSeq (sAsg (eFrz (eCallF r_meant_by (aCons (eOp ixW (eVar 0) (eC (.int 1))) aNil))) (gTupF 2 (gsCons (gSet 2) (gsCons (gSet 3) gsNil))))
    (sSeq (sAsg (eFrz (eCallF r_meant_by (aCons (eOp ixW (eVar 0) (eC (.int 2))) aNil))) (gTupF 2 (gsCons (gSet 4) (gsCons (gSet 5) gsNil))))
    (sRet (eTup (aCons (eOp ixW (eCallF F_made (aCons (eVar 2) (aCons (eVar 4) aNil))) (eC (.int 1))) (aCons (eFrz (eCallF F_meant (aCons (eOp ixW (eVar 0) (eC (.int 0))) (aCons (eVar 2) (aCons (eVar 4) (aCons (eVar 3) (aCons (eVar 5) aNil))))))) aNil)))))))
noncomputable def F_meant_by : Nat → FF
  | 0 => badF
  | n + 1 => runF 6 (m_meant_by (F_meant_by n))
noncomputable def m_unknown : SF :=
    (sRet (eOp ixW (eCallF (F_meant_by 40) (aCons (eVar 0) aNil)) (eC (.int 1))))
noncomputable def F_unknown : FF := runF 1 m_unknown
noncomputable def m__law_deck : SF :=
    (sSeq (sAsg (eObj (eOp addAW (eSl slW (eVar 0) oNone (oSome (eC (.int 63)))) (eLst (aCons (eC (.int 0)) aNil)))) (gSet 1))
    (sSeq (sAsg (eOp (eqW false) (eOp modW (eOp ixW (eVar 1) (eC (.int 0))) (eC (.int 2))) (eC (.int 1))) (gSet 2))
    (sSeq (sSetI (eVar 1) (eC (.int 0)) (eOp divW (eOp ixW (eVar 1) (eC (.int 0))) (eC (.int 2))))
    (sRet (eDict [Str.ofString "cells", Str.ofString "left", Str.ofString "at", Str.ofString "seed", Str.ofString "mixed"] (aCons (eObj (eVar 1)) (aCons (eObj (eC (.int 12))) (aCons (eObj (eC (.int 0))) (aCons (eObj (eOp addAW (eC (.int 1)) (eOp modW (eCall sumW (aCons (eVar 1) aNil)) (eC (.int 2147483646))))) (aCons (eObj (eVar 2)) aNil))))))))))
noncomputable def F__law_deck : FF := runA 3 m__law_deck
noncomputable def m__law_next : SF :=
    (sSeq (sAsg (eObj (eOp dgetW (eVar 0) (eC (.str (Str.ofString "cells"))))) (gSet 1))
    (sSeq (sIf (tTru (eOp dgetW (eVar 0) (eC (.str (Str.ofString "mixed"))))) (sSeq (sSetD (eVar 0) (eC (.str (Str.ofString "at"))) (eOp addAW (eOp dgetW (eVar 0) (eC (.str (Str.ofString "at")))) (eC (.int 1))))
    (sSeq (sAsg (eOp ixW (eVar 1) (eOp modW (eOp dgetW (eVar 0) (eC (.str (Str.ofString "at")))) (eCall lenW (aCons (eVar 1) aNil)))) (gSet 2))
    (sSeq (sSetD (eVar 0) (eC (.str (Str.ofString "seed"))) (eOp modW (eOp addAW (eOp addAW (eOp mulW (eOp dgetW (eVar 0) (eC (.str (Str.ofString "seed")))) (eC (.int 48271))) (eVar 2)) (eOp dgetW (eVar 0) (eC (.str (Str.ofString "at"))))) (eC (.int 2147483647))))
    (sSeq (sAsg (eOp modW (eOp addAW (eOp mulW (eOp dgetW (eVar 0) (eC (.str (Str.ofString "seed")))) (eOp dgetW (eVar 0) (eC (.str (Str.ofString "seed"))))) (eOp mulW (eC (.int 7919)) (eOp dgetW (eVar 0) (eC (.str (Str.ofString "at")))))) (eC (.int 2147483629))) (gSet 3))
    (sRet (eOp modW (eOp mulW (eVar 3) (eOp addAW (eVar 3) (eC (.int 69621)))) (eC (.int 999999999989)))))))) sNx)
    (sSeq (sAsg (eOp modW (eOp ixW (eVar 1) (eC (.int 0))) (eOp powW (eC (.int 10)) (eC (.int 12)))) (gSet 3))
    (sSeq (sSetI (eVar 1) (eC (.int 0)) (eOp divW (eOp ixW (eVar 1) (eC (.int 0))) (eOp powW (eC (.int 10)) (eC (.int 12)))))
    (sSeq (sSetD (eVar 0) (eC (.str (Str.ofString "left"))) (eOp subW (eOp dgetW (eVar 0) (eC (.str (Str.ofString "left")))) (eC (.int 1))))
    (sSeq (sIf (tAndF (tBool (eOp (eqW false) (eOp dgetW (eVar 0) (eC (.str (Str.ofString "left")))) (eC (.int 0)))) (tBool (eOp gtW (eCall lenW (aCons (eVar 1) aNil)) (eC (.int 1))))) (sSeq (sDrop (eMt "list" popAtW (eVar 1) (aCons (eC (.int 0)) aNil)))
    (sSetD (eVar 0) (eC (.str (Str.ofString "left"))) (eC (.int 12)))) sNx)
    (sRet (eVar 3))))))))
noncomputable def F__law_next : FF := runF 4 m__law_next
noncomputable def b1__law_spelled : SF :=
    (sSeq (sAsg (eFrz (eOp addAW (eVar 2) (eOp ixW (eC (.str (Str.ofString "abcdefghijklmnopqrstuvwxyz"))) (eOp modW (eVar 0) (eC (.int 26)))))) (gSet 2))
    (sAsg (eOp divW (eVar 0) (eC (.int 26))) (gSet 0)))
noncomputable def m__law_spelled : SF :=
    (sSeq (sAsg (eC (.str (Str.ofString ""))) (gSet 2))
    (sSeq (sFor (iRange1 (aCons (eVar 1) aNil)) (gSet 3) b1__law_spelled)
    (sRet (eVar 2))))
noncomputable def F__law_spelled : FF := runF 4 m__law_spelled
noncomputable def b1__law_word : SF :=
    (sSeq (sAsg (eOp addAW (eVar 3) (eC (.int 1))) (gSet 3))
    (sSeq (sAsg (eOp addAW (eOp modW (eVar 4) (eC (.int 8))) (eC (.int 1))) (gSet 4))
    (sAsg (eFrz (eCallF F__law_spelled (aCons (eVar 3) (aCons (eVar 4) aNil)))) (gSet 5))))
noncomputable def m__law_word : SF :=
    (sSeq (sAsg (eFrz (eCallF F__law_next (aCons (eObj (eVar 0)) aNil))) (gSet 2))
    (sSeq (sAsg (eFrz (eCallF F__law_next (aCons (eObj (eVar 0)) aNil))) (gSet 3))
    (sSeq (sAsg (eOp addAW (eC (.int 1)) (eOp modW (eVar 2) (eC (.int 8)))) (gSet 4))
    (sSeq (sAsg (eFrz (eCallF F__law_spelled (aCons (eVar 3) (aCons (eVar 4) aNil)))) (gSet 5))
    (sSeq (sIf (tAndF (tBool (eOp (eqW true) (eVar 1) (eLst aNil))) (tBool (eOp (eqW false) (eOp modW (eOp divW (eVar 2) (eC (.int 8))) (eC (.int 2))) (eC (.int 1))))) (sSeq (sAsg (eOp modW (eOp divW (eVar 2) (eC (.int 16))) (eCall lenW (aCons (eOp ixW (eVar 1) (eC (.int 0))) aNil))) (gSet 6))
    (sAsg (eFrz (eOp addAW (eOp addAW (eSl slW (eOp ixW (eVar 1) (eC (.int 0))) oNone (oSome (eVar 6))) (eOp ixW (eVar 5) (eC (.int 0)))) (eSl slW (eOp ixW (eVar 1) (eC (.int 0))) (oSome (eOp addAW (eVar 6) (eC (.int 1)))) oNone))) (gSet 5))) sNx)
    (sSeq (whileM (tOrF (tBool (eOp (inW false) (eVar 5) (eVar 1))) (tBool (eOp (eqW false) (eVar 5) (eC (.str (Str.ofString "any")))))) b1__law_word fuelW)
    (sRet (eVar 5))))))))
noncomputable def F__law_word : FF := runF 7 m__law_word
noncomputable def b1__law_words : SF :=
    (sDrop (eMt "list" appendW (eVar 2) (aCons (eFrz (eCallF F__law_word (aCons (eObj (eVar 0)) (aCons (eVar 2) aNil)))) aNil)))
noncomputable def m__law_words : SF :=
    (sSeq (sAsg (eObj (eLst aNil)) (gSet 2))
    (sSeq (sFor (iRange1 (aCons (eVar 1) aNil)) (gSet 3) b1__law_words)
    (sRet (eVar 2))))
noncomputable def F__law_words : FF := runF 4 m__law_words
noncomputable def m__law_wide (r__law_wide : FF) : SF :=
    (sSeq (sIf (tBool (eOp (eqW false) (eOp ixW (eVar 0) (eC (.int 0))) (eC (.str (Str.ofString "basic"))))) (sRet (eC (.int 1))) sNx)
    (sRet (eOp addAW (eCallF r__law_wide (aCons (eOp ixW (eVar 0) (eC (.int 1))) aNil)) (eCallF r__law_wide (aCons (eOp ixW (eVar 0) (eC (.int 2))) aNil)))))
noncomputable def F__law_wide : Nat → FF
  | 0 => badF
  | n + 1 => runF 1 (m__law_wide (F__law_wide n))
noncomputable def m__law_other : SF :=
    (sSeq (sAsg (eFrz (eCallF F__law_next (aCons (eObj (eVar 0)) aNil))) (gSet 3))
    (sSeq (sAsg (eTup (aCons (eC (.str (Str.ofString "basic"))) (aCons (eOp ixW (eVar 1) (eOp modW (eVar 3) (eCall lenW (aCons (eVar 1) aNil)))) aNil))) (gSet 4))
    (sSeq (sIf (tOrF (tBool (eOp gtW (eOp modW (eOp divW (eVar 3) (eC (.int 3))) (eC (.int 4))) (eC (.int 0)))) (tBool (eOp gtW (eCallF (F__law_wide 40) (aCons (eVar 2) aNil)) (eC (.int 3))))) (sRet (eVar 4)) sNx)
    (sRet (eTup (aCons (eOp ixW (eLst (aCons (eC (.str (Str.ofString "/"))) (aCons (eC (.str (Str.ofString "\\"))) aNil))) (eOp modW (eOp divW (eVar 3) (eC (.int 12))) (eC (.int 2)))) (aCons (eVar 4) (aCons (eTup (aCons (eC (.str (Str.ofString "basic"))) (aCons (eOp ixW (eVar 1) (eOp modW (eOp divW (eVar 3) (eC (.int 24))) (eCall lenW (aCons (eVar 1) aNil)))) aNil))) aNil))))))))
noncomputable def F__law_other : FF := runF 5 m__law_other
noncomputable def m__law_tree (r__law_tree : FF) : SF :=
    (sSeq (sIf (tBool (eOp ltW (eVar 4) (eC (.int 2)))) (sRet (eTup (aCons (eC (.str (Str.ofString "word"))) (aCons (eVar 3) (aCons (eVar 2) aNil))))) sNx)
    (sSeq (sAsg (eOp addAW (eC (.int 1)) (eOp modW (eCallF F__law_next (aCons (eObj (eVar 0)) aNil)) (eOp subW (eVar 4) (eC (.int 1))))) (gSet 5))
    (sSeq (sAsg (eFrz (eCallF F__law_next (aCons (eObj (eVar 0)) aNil))) (gSet 6))
    (sSeq (sAsg (eFrz (eCallF F__law_other (aCons (eObj (eVar 0)) (aCons (eVar 1) (aCons (eVar 2) aNil))))) (gSet 7))
    (sSeq (sAsg (eC (.str (Str.ofString ">"))) (gSet 8))
    (sSeq (sAsg (eTup (aCons (eTup (aCons (eC (.str (Str.ofString "/"))) (aCons (eVar 2) (aCons (eVar 7) aNil)))) (aCons (eVar 7) aNil))) (gSet 9))
    (sSeq (sIf (tBool (eOp (eqW false) (eOp modW (eVar 6) (eC (.int 2))) (eC (.int 1)))) (sSeq (sAsg (eC (.str (Str.ofString "<"))) (gSet 8))
    (sAsg (eTup (aCons (eVar 7) (aCons (eTup (aCons (eC (.str (Str.ofString "\\"))) (aCons (eVar 2) (aCons (eVar 7) aNil)))) aNil))) (gSet 9))) sNx)
    (sSeq (sIf (tAndF (tBool (eOp (eqW false) (eOp ixW (eVar 2) (eC (.int 0))) (eC (.str (Str.ofString "/"))))) (tOrF (tBool (eOp gtW (eOp modW (eVar 6) (eC (.int 8))) (eC (.int 1)))) (tBool (eOp gtW (eCallF (F__law_wide 40) (aCons (eVar 2) aNil)) (eC (.int 4)))))) (sSeq (sAsg (eC (.str (Str.ofString ">>"))) (gSet 8))
    (sAsg (eTup (aCons (eTup (aCons (eC (.str (Str.ofString "/"))) (aCons (eOp ixW (eVar 2) (eC (.int 1))) (aCons (eVar 7) aNil)))) (aCons (eTup (aCons (eC (.str (Str.ofString "/"))) (aCons (eVar 7) (aCons (eOp ixW (eVar 2) (eC (.int 2))) aNil)))) aNil))) (gSet 9))) sNx)
    (sSeq (sIf (tAndF (tBool (eOp (eqW false) (eOp ixW (eVar 2) (eC (.int 0))) (eC (.str (Str.ofString "\\"))))) (tOrF (tBool (eOp gtW (eOp modW (eVar 6) (eC (.int 8))) (eC (.int 1)))) (tBool (eOp gtW (eCallF (F__law_wide 40) (aCons (eVar 2) aNil)) (eC (.int 4)))))) (sSeq (sAsg (eC (.str (Str.ofString "<<"))) (gSet 8))
    (sAsg (eTup (aCons (eTup (aCons (eC (.str (Str.ofString "\\"))) (aCons (eVar 7) (aCons (eOp ixW (eVar 2) (eC (.int 2))) aNil)))) (aCons (eTup (aCons (eC (.str (Str.ofString "\\"))) (aCons (eOp ixW (eVar 2) (eC (.int 1))) (aCons (eVar 7) aNil)))) aNil))) (gSet 9))) sNx)
    (sSeq (sAsg (eFrz (eCallF r__law_tree (aCons (eObj (eVar 0)) (aCons (eVar 1) (aCons (eOp ixW (eVar 9) (eC (.int 0))) (aCons (eVar 3) (aCons (eVar 5) aNil))))))) (gSet 10))
    (sRet (eTup (aCons (eVar 8) (aCons (eVar 10) (aCons (eFrz (eCallF r__law_tree (aCons (eObj (eVar 0)) (aCons (eVar 1) (aCons (eOp ixW (eVar 9) (eC (.int 1))) (aCons (eFrz (eOp addAW (eVar 3) (eVar 5))) (aCons (eOp subW (eVar 4) (eVar 5)) aNil))))))) aNil)))))))))))))))
noncomputable def F__law_tree : Nat → FF
  | 0 => badF
  | n + 1 => runF 11 (m__law_tree (F__law_tree n))
noncomputable def m__law_drawn_form : SF :=
    (sSeq (sAsg (eTup (aCons (eC (.str (Str.ofString "basic"))) (aCons (eOp ixW (eVar 1) (eOp modW (eCallF F__law_next (aCons (eObj (eVar 0)) aNil)) (eCall lenW (aCons (eVar 1) aNil)))) aNil))) (gSet 2))
    (sSeq (sAsg (eFrz (eCallF F__law_other (aCons (eObj (eVar 0)) (aCons (eVar 1) (aCons (eVar 2) aNil))))) (gSet 3))
    (sSeq (sAsg (eOp modW (eCallF F__law_next (aCons (eObj (eVar 0)) aNil)) (eC (.int 6))) (gSet 4))
    (sSeq (sIf (tBool (eOp ltW (eVar 4) (eC (.int 2)))) (sRet (eVar 2)) sNx)
    (sRet (eTup (aCons (eOp ixW (eLst (aCons (eC (.str (Str.ofString "/"))) (aCons (eC (.str (Str.ofString "\\"))) aNil))) (eOp modW (eVar 4) (eC (.int 2)))) (aCons (eVar 2) (aCons (eVar 3) aNil)))))))))
noncomputable def F__law_drawn_form : FF := runF 5 m__law_drawn_form
noncomputable def m__law_kind_of_form (r__law_kind_of_form : FF) : SF :=
    (sSeq (sIf (tBool (eOp (eqW false) (eOp ixW (eVar 0) (eC (.int 0))) (eC (.str (Str.ofString "basic"))))) (sRet (eOp ixW (eVar 0) (eC (.int 1)))) sNx)
    (sRet (eTup (aCons (eFrz (eCallF r__law_kind_of_form (aCons (eOp ixW (eVar 0) (eC (.int 2))) aNil))) (aCons (eFrz (eCallF r__law_kind_of_form (aCons (eOp ixW (eVar 0) (eC (.int 1))) aNil))) aNil)))))
noncomputable def F__law_kind_of_form : Nat → FF
  | 0 => badF
  | n + 1 => runF 1 (m__law_kind_of_form (F__law_kind_of_form n))
noncomputable def m__law_joined : SF :=
    (sSeq (sIf (tBool (eOp (eqW false) (eVar 0) (eC (.str (Str.ofString ">"))))) (sRet (eOp ixW (eVar 1) (eC (.int 1)))) sNx)
    (sSeq (sIf (tBool (eOp (eqW false) (eVar 0) (eC (.str (Str.ofString "<"))))) (sRet (eOp ixW (eVar 2) (eC (.int 1)))) sNx)
    (sSeq (sIf (tBool (eOp (eqW false) (eVar 0) (eC (.str (Str.ofString ">>"))))) (sRet (eTup (aCons (eC (.str (Str.ofString "/"))) (aCons (eOp ixW (eVar 1) (eC (.int 1))) (aCons (eOp ixW (eVar 2) (eC (.int 2))) aNil))))) sNx)
    (sRet (eTup (aCons (eC (.str (Str.ofString "\\"))) (aCons (eOp ixW (eVar 2) (eC (.int 1))) (aCons (eOp ixW (eVar 1) (eC (.int 2))) aNil))))))))
noncomputable def F__law_joined : FF := runF 3 m__law_joined
noncomputable def m__law_meant (r__law_meant : FF) : SF :=
    (sSeq (sIf (tBool (eOp (eqW false) (eOp ixW (eVar 0) (eC (.int 0))) (eC (.str (Str.ofString "word"))))) (sRet (eTup (aCons (eOp ixW (eVar 0) (eC (.int 2))) (aCons (eOp ixA (eVar 1) (eFrz (eSl slW (eVar 0) (oSome (eC (.int 1))) oNone))) aNil)))) sNx)
    (sSeq (sAsg (eFrz (eCallF r__law_meant (aCons (eOp ixW (eVar 0) (eC (.int 1))) (aCons (eObj (eVar 1)) aNil)))) (gTupF 2 (gsCons (gSet 2) (gsCons (gSet 3) gsNil))))
    (sSeq (sAsg (eFrz (eCallF r__law_meant (aCons (eOp ixW (eVar 0) (eC (.int 2))) (aCons (eObj (eVar 1)) aNil)))) (gTupF 2 (gsCons (gSet 4) (gsCons (gSet 5) gsNil))))
    (sSeq (sAsg (eFrz (eCallF F__law_joined (aCons (eOp ixW (eVar 0) (eC (.int 0))) (aCons (eVar 2) (aCons (eVar 4) aNil))))) (gSet 6))
    (sSeq (sIf (tBool (eOp (inW false) (eOp ixW (eVar 0) (eC (.int 0))) (eTup (aCons (eC (.str (Str.ofString "<"))) (aCons (eC (.str (Str.ofString "<<"))) aNil))))) (sAsg (eTup (aCons (eVar 5) (aCons (eVar 3) aNil))) (gTupF 2 (gsCons (gSet 3) (gsCons (gSet 5) gsNil)))) sNx)
    (sSeq (sIf (tBool (eOp (inW false) (eOp ixW (eVar 0) (eC (.int 0))) (eTup (aCons (eC (.str (Str.ofString ">"))) (aCons (eC (.str (Str.ofString "<"))) aNil))))) (sRet (eTup (aCons (eVar 6) (aCons (eTup (aCons (eC (.str (Str.ofString "of"))) (aCons (eVar 3) (aCons (eVar 5) aNil)))) aNil)))) sNx)
    (sRet (eTup (aCons (eVar 6) (aCons (eTup (aCons (eC (.str (Str.ofString "fn"))) (aCons (eFrz (eCallF (F__law_kind_of_form 40) (aCons (eOp ixW (eVar 6) (eC (.int 2))) aNil))) (aCons (eTup (aCons (eC (.str (Str.ofString "of"))) (aCons (eVar 3) (aCons (eTup (aCons (eC (.str (Str.ofString "of"))) (aCons (eVar 5) (aCons (eTup (aCons (eC (.str (Str.ofString "bound"))) (aCons (eC (.int 0)) aNil))) aNil)))) aNil)))) aNil)))) aNil))))))))))
noncomputable def F__law_meant : Nat → FF
  | 0 => badF
  | n + 1 => runF 7 (m__law_meant (F__law_meant n))
noncomputable def m__law_within (r__law_within : FF) : SF :=
    (sSeq (sIf (tBool (eOp (eqW false) (eOp ixW (eVar 0) (eC (.int 0))) (eC (.str (Str.ofString "word"))))) (sRet (eLst (aCons (eVar 0) aNil))) sNx)
    (sRet (eOp addAW (eOp addAW (eLst (aCons (eVar 0) aNil)) (eCallF r__law_within (aCons (eOp ixW (eVar 0) (eC (.int 1))) aNil))) (eCallF r__law_within (aCons (eOp ixW (eVar 0) (eC (.int 2))) aNil)))))
noncomputable def F__law_within : Nat → FF
  | 0 => badF
  | n + 1 => runF 1 (m__law_within (F__law_within n))
noncomputable def m__law_words_of : SF :=
    (sRet (eLc (iSeq (eCallF (F__law_within 40) (aCons (eVar 0) aNil))) (gSet 1) (tBool (eOp (eqW false) (eOp ixW (eVar 1) (eC (.int 0))) (eC (.str (Str.ofString "word"))))) (eFrz (eSl slW (eVar 1) (oSome (eC (.int 1))) oNone)) [1]))
noncomputable def F__law_words_of : FF := runF 2 m__law_words_of
noncomputable def m__law_same (r__law_same : FF) : SF :=
    (sSeq (sIf (tTru (eIsi [.str] (eVar 0))) (sRet (eAnd (eIsi [.str] (eVar 1)) (eOp (eqW false) (eVar 0) (eVar 1)))) sNx)
    (sSeq (sIf (tNotF (tTru (eIsi [.tup] (eVar 0)))) (sRet (eAnd (eIsi [.int] (eVar 1)) (eAnd (eNot (eIsi [.bl] (eVar 1))) (eOp (eqW false) (eVar 0) (eVar 1))))) sNx)
    (sSeq (sIf (tOrF (tNotF (tTru (eIsi [.tup] (eVar 1)))) (tBool (eOp (eqW true) (eCall lenW (aCons (eVar 0) aNil)) (eCall lenW (aCons (eVar 1) aNil))))) (sRet (eC (.bool false))) sNx)
    (sRet (eCall allW (aCons (eLc (iZipA (aCons (eVar 0) (aCons (eVar 1) aNil))) (gTupF 2 (gsCons (gSet 2) (gsCons (gSet 3) gsNil))) tYesF (eFrz (eCallF r__law_same (aCons (eVar 2) (aCons (eVar 3) aNil)))) [2, 3]) aNil))))))
noncomputable def F__law_same : Nat → FF
  | 0 => badF
  | n + 1 => runF 4 (m__law_same (F__law_same n))
noncomputable def b1_law : SF :=
    (sSetK (eVar 4) (eTup (aCons (eVar 5) (aCons (eVar 6) aNil))) (eTup (aCons (eC (.str (Str.ofString "leaf"))) (aCons (eVar 5) (aCons (eVar 6) aNil)))))
noncomputable def b2_law : SF :=
    (sIf (tNotF (tTru (eCallF (F__law_same 40) (aCons (eOp ixW (eCallF (F__law_meant 40) (aCons (eVar 7) (aCons (eObj (eVar 4)) aNil))) (eC (.int 1))) (aCons (eFrz (eCallF F_unknown (aCons (eVar 7) aNil))) aNil))))) (sRet (eC (.bool false))) sNx)
noncomputable def m_law : SF :=
    (sSeq (sAsg (eObj (eCallF F__law_deck (aCons (eVar 0) aNil))) (gSet 1))
    (sSeq (sAsg (eFrz (eCallF F__law_words (aCons (eObj (eVar 1)) (aCons (eOp addAW (eC (.int 2)) (eOp modW (eCallF F__law_next (aCons (eObj (eVar 1)) aNil)) (eC (.int 2)))) aNil)))) (gSet 2))
    (sSeq (sAsg (eFrz (eCallF (F__law_tree 40) (aCons (eObj (eVar 1)) (aCons (eVar 2) (aCons (eFrz (eCallF F__law_drawn_form (aCons (eObj (eVar 1)) (aCons (eVar 2) aNil)))) (aCons (eC (.int 0)) (aCons (eOp addAW (eC (.int 1)) (eOp modW (eCallF F__law_next (aCons (eObj (eVar 1)) aNil)) (eC (.int 7)))) aNil))))))) (gSet 3))
    (sSeq (sAsg eNewK (gSet 4))
    (sSeq (sFor (iSeq (eCallF F__law_words_of (aCons (eVar 3) aNil))) (gTupF 2 (gsCons (gSet 5) (gsCons (gSet 6) gsNil))) b1_law)
    (sSeq (sFor (iSeq (eOp addAW (eCallF (F__law_within 40) (aCons (eVar 3) aNil)) (eLst (aCons (eVar 3) aNil)))) (gSet 7) b2_law)
    (sRet (eC (.bool true)))))))))
noncomputable def F_law : FF := runF 8 m_law
end K60
set_option Elab.async false
set_option linter.all false
set_option maxRecDepth 100000
set_option maxHeartbeats 1000000
namespace K60
open PySem L2 M
variable [HasW]
@[simp] theorem addAW_int (i j : Int) (m : Mem) : addAW (.d (.int i)) (.d (.int j)) m = .ok (.d (.int (i + j))) m := rfl
/-! ### the deck -/
theorem kne : kC ≠ kL ∧ kC ≠ kA ∧ kC ≠ kS ∧ kC ≠ kM ∧ kL ≠ kA ∧ kL ≠ kS ∧ kL ≠ kM ∧ kA ≠ kS ∧ kA ≠ kM ∧ kS ≠ kM := by
  refine ⟨?_, ?_, ?_, ?_, ?_, ?_, ?_, ?_, ?_, ?_⟩ <;> decide +kernel
section
variable {a b : Nat} {l t s : Int} {x : Bool} {m : Mem}
theorem lookC : dlook (dk a l t s x) kC = some (.obj a) := by simp [dlook, dk, List.find?_cons]
theorem lookL : dlook (dk a l t s x) kL = some (.d (.int l)) := by obtain ⟨h1, h2, h3, h4, h5, h6, h7, h8, h9, h10⟩ := kne; simp [dlook, dk, List.find?_cons, h1]
theorem lookA : dlook (dk a l t s x) kA = some (.d (.int t)) := by obtain ⟨h1, h2, h3, h4, h5, h6, h7, h8, h9, h10⟩ := kne; simp [dlook, dk, List.find?_cons, h2, h5]
theorem lookS : dlook (dk a l t s x) kS = some (.d (.int s)) := by obtain ⟨h1, h2, h3, h4, h5, h6, h7, h8, h9, h10⟩ := kne; simp [dlook, dk, List.find?_cons, h3, h6, h8]
theorem lookM : dlook (dk a l t s x) kM = some (.d (.bool x)) := by obtain ⟨h1, h2, h3, h4, h5, h6, h7, h8, h9, h10⟩ := kne; simp [dlook, dk, List.find?_cons, h4, h7, h9, h10]
theorem putL (l' : Int) : dput (dk a l t s x) kL (.d (.int l')) = dk a l' t s x := by
  obtain ⟨h1, h2, h3, h4, h5, h6, h7, h8, h9, h10⟩ := kne
  simp [dput, dk, h1, h5.symm, h6.symm, h7.symm]
theorem putA (l' : Int) : dput (dk a l t s x) kA (.d (.int l')) = dk a l l' s x := by
  obtain ⟨h1, h2, h3, h4, h5, h6, h7, h8, h9, h10⟩ := kne
  simp [dput, dk, h2, h5, h8.symm, h9.symm]
theorem putS (l' : Int) : dput (dk a l t s x) kS (.d (.int l')) = dk a l t l' x := by
  obtain ⟨h1, h2, h3, h4, h5, h6, h7, h8, h9, h10⟩ := kne
  simp [dput, dk, h3, h6, h8, h10.symm]
theorem dgetW_of {k : Str} {w : W} {kvs : List (Str × W)} (h : m[b]? = some (.dct kvs)) (e : dlook kvs k = some w) : dgetW (.obj b) (.d (.str k)) m = .ok w m := by
  simp only [dgetW, h, e]
theorem setD_of {env : En} {o : EF} {f : EF} {k : Str} {v : W} {kvs kvs' : List (Str × W)} (ho : o env m = .ok (.obj b) m) (hf : f env m = .ok v m) (h : m[b]? = some (.dct kvs)) (hl : kvs.length < 1000) (hv : okW m.length v = true) (e : dput kvs k v = kvs') : sSetD o (eC (.str k)) f env m = .nx env (m.set b (.dct kvs')) := by
  simp only [sSetD, hf, Res.bind_ok, ho, eC, h]
  rw [if_pos (by rw [Bool.and_eq_true]; exact ⟨decide_eq_true hl, hv⟩), e, eS_ok]
end
theorem eKC : Str.ofString "cells" = kC := rfl
theorem eKL : Str.ofString "left" = kL := rfl
theorem eKA : Str.ofString "at" = kA := rfl
theorem eKS : Str.ofString "seed" = kS := rfl
theorem eKM : Str.ofString "mixed" = kM := rfl
section
variable {a b : Nat} {m : Mem}
theorem set_b {o : O} (h : b < m.length) : (m.set b o)[b]? = some o := List.getElem?_set_self h
theorem set_ab {o p : O} (hab : a < b) (h : m[a]? = some p) : (m.set b o)[a]? = some p := by rw [List.getElem?_set_ne (by omega)]; exact h
theorem set_ba {o p : O} (hab : a < b) (h : m[b]? = some p) : (m.set a o)[b]? = some p := by rw [List.getElem?_set_ne (by omega)]; exact h
theorem ix_obj {ds : List D} {i : Int} {d : D} (h : m[a]? = some (.lst ds)) (e : L2.atI ds i = some d) : ixW (.obj a) (.d (.int i)) m = .ok (.d d) m := by
  simp only [ixW, asL, h, e]
theorem len_obj {ds : List D} (h : m[a]? = some (.lst ds)) : lenW [.obj a] m = .ok (.d (.int (ds.length : Int))) m := by
  simp only [lenW, asL, h]
theorem setI0 {env : En} {o f : EF} {d v : D} {ds : List D} (ho : o env m = .ok (.obj a) m) (hf : f env m = .ok (.d v) m) (h : m[a]? = some (.lst (d :: ds))) : sSetI o (eC (.int 0)) f env m = .nx env (m.set a (.lst (v :: ds))) := by
  have e : ixN (ds.length + 1) 0 = some 0 := by unfold ixN; simp
  simp only [sSetI, hf, Res.bind_ok, ho, eC, asO, h, List.length_cons, e, eS_ok, List.set_cons_zero]
end
theorem cl_set {a b n : Nat} {m : Mem} {xs : List D} {l t s : Int} {x : Bool} (hn : m.length = n) (hcl : ∀ (j : Nat) (o : O), m[j]? = some o → okO m.length o = true) (hab : a < b) (hb : b < n) : clM n ((m.set a (.lst xs)).set b (.dct (dk a l t s x))) = true := by
  unfold clM
  rw [List.all_eq_true]
  intro o ho
  have ho := List.mem_of_mem_take ho
  rcases List.mem_or_eq_of_mem_set ho with h | h
  · rcases List.mem_or_eq_of_mem_set h with h | h
    · obtain ⟨j, e⟩ := List.getElem?_of_mem h
      rw [← hn]
      exact hcl j o e
    · rw [h]; rfl
  · rw [h]
    exact okO.le (okO_dk hab) (by omega)
theorem set_same {a : Nat} {m : Mem} {o : O} (h : m[a]? = some o) : m.set a o = m := by
  apply List.ext_getElem?
  intro k
  by_cases hk : a = k
  · subst hk; rw [List.getElem?_set_self (List.getElem?_eq_some_iff.mp h).1]; exact h.symm
  · rw [List.getElem?_set_ne hk]
theorem next_mixed {a b : Nat} {m : Mem} {cs : List Int} {l t s : Int} (hcl : ∀ (j : Nat) (o : O), m[j]? = some o → okO m.length o = true) (hab : a < b) (hne : cs ≠ []) (ha : m[a]? = some (.lst (cs.map .int))) (hb : m[b]? = some (.dct (dk a l t s true))) :
    ∀ (n s' q : Int), s' = (s * 48271 + cs.getD ((t + 1) % (cs.length : Int)).toNat 0 + (t + 1)) % 2147483647 → q = (s' * s' + 7919 * (t + 1)) % 2147483629 → n = q * (q + 69621) % 999999999989 → F__law_next [.obj b] m = .ok (.d (.int n)) (m.set b (.dct (dk a l (t + 1) s' true))) := by
  intro n s' q hs' hq hn
  have hbl := (List.getElem?_eq_some_iff.mp hb).1
  have hlen : 0 < cs.length := List.length_pos_iff.mpr hne
  obtain ⟨j, hj⟩ : ∃ j : Nat, (t + 1) % (cs.length : Int) = (j : Int) := ⟨((t + 1) % (cs.length : Int)).toNat, by have := Int.emod_nonneg (t + 1) (show (cs.length : Int) ≠ 0 by omega); omega⟩
  have hjl : j < cs.length := by have := Int.emod_lt_of_pos (t + 1) (show 0 < (cs.length : Int) by omega); omega
  have hgd : cs.getD ((t + 1) % (cs.length : Int)).toNat 0 = cs[j] := by rw [hj]; simp [List.getD_eq_getElem?_getD, hjl]
  rw [hgd] at hs'
  have hs0 : 0 ≤ s' := by omega
  have hs1 : s' < 2147483647 := by omega
  have hq0 : 0 ≤ q := by omega
  have hq1 : q < 2147483629 := by omega
  obtain ⟨m1, hm1⟩ : ∃ m1, m1 = m.set b (.dct (dk a l (t + 1) s true)) := ⟨_, rfl⟩
  have hb1 : m1[b]? = some (.dct (dk a l (t + 1) s true)) := by rw [hm1]; exact set_b hbl
  have ha1 : m1[a]? = some (.lst (cs.map .int)) := by rw [hm1]; exact set_ab hab ha
  obtain ⟨m2, hm2⟩ : ∃ m2, m2 = m1.set b (.dct (dk a l (t + 1) s' true)) := ⟨_, rfl⟩
  have hbl1 : b < m1.length := (List.getElem?_eq_some_iff.mp hb1).1
  have hb2 : m2[b]? = some (.dct (dk a l (t + 1) s' true)) := by rw [hm2]; exact set_b hbl1
  have hend : m2 = m.set b (.dct (dk a l (t + 1) s' true)) := by rw [hm2, hm1, List.set_set]
  rw [← hend]
  have hml : m.length = m2.length := by rw [hend, List.length_set]
  have g1 := dgetW_of hb lookC
  have g2 := dgetW_of hb lookM
  have g3 := dgetW_of hb lookA
  have g4 := dgetW_of hb1 lookA
  have g5 := dgetW_of hb1 lookS
  have g6 := dgetW_of hb2 lookS
  have g7 := dgetW_of hb2 lookA
  have hmod := modW_pos (m := m1) (i := t + 1) (j := (cs.length : Int)) (by omega)
  have hl1 := len_obj ha1
  rw [List.length_map] at hl1
  have hix := ix_obj (i := (j : Int)) (d := .int cs[j]) ha1 (by rw [atI_cast, List.getElem?_map, List.getElem?_eq_getElem hjl]; rfl)
  have hss := mulW_r (m := m2) (i := s') (j := s') (by omega) (by omega)
  have hqq := mulW_r (m := m2) (i := q) (j := q + 69621) (by omega) (by omega)
  have h79 := mulW_l (m := m2) (i := 7919) (j := t + 1) (by decide) (by decide)
  refine run_wp (Q := fun r => r = .ok (.d (.int n)) m2) ?_
  unfold m__law_next
  rw [eKC, eKL, eKA, eKS, eKM]
  refine wp_go (by simp only [runF, env0, finM, sSeq, sNx, sIf, sRet, sAsg, asgK, gSet, sDrop, sAug, eS_ok, tBool, tTru, truW, eOp, eChain, eVar, eC, eFrz, eObj, aNil, aCons, eTup, eLst, asDs, eCall, eCallF, callM, noFl, tAndF, tOrF, tNotF, eAnd, eOr, eNot, eIsi, tyW, Tk.sub, eSl, oNone, oSome, eMt, eMt0, isTyW, eNeg, negW, Res.bind_ok, List.length_cons, List.length_nil, List.map_cons, List.map_nil, List.cons_append, List.nil_append, List.replicate, List.getElem?_cons_zero, List.getElem?_cons_succ, List.set_cons_zero, List.set_cons_succ, if_true, if_false, Nat.sub_self, Nat.reduceSub, Nat.reduceAdd, sizeLine_eq, g1]; rfl) ?_
  refine wp_sIfT (by simp only [runF, env0, finM, sSeq, sNx, sIf, sRet, sAsg, asgK, gSet, sDrop, sAug, eS_ok, tBool, tTru, truW, eOp, eChain, eVar, eC, eFrz, eObj, aNil, aCons, eTup, eLst, asDs, eCall, eCallF, callM, noFl, tAndF, tOrF, tNotF, eAnd, eOr, eNot, eIsi, tyW, Tk.sub, eSl, oNone, oSome, eMt, eMt0, isTyW, eNeg, negW, Res.bind_ok, List.length_cons, List.length_nil, List.map_cons, List.map_nil, List.cons_append, List.nil_append, List.replicate, List.getElem?_cons_zero, List.getElem?_cons_succ, List.set_cons_zero, List.set_cons_succ, if_true, if_false, Nat.sub_self, Nat.reduceSub, Nat.reduceAdd, sizeLine_eq, g2]; rfl) ?_
  refine wp_go (e := [some (.obj b), some (.obj a), none, none]) (m1 := m1) (by rw [hm1]; exact setD_of (by simp only [runF, env0, finM, sSeq, sNx, sIf, sRet, sAsg, asgK, gSet, sDrop, sAug, eS_ok, tBool, tTru, truW, eOp, eChain, eVar, eC, eFrz, eObj, aNil, aCons, eTup, eLst, asDs, eCall, eCallF, callM, noFl, tAndF, tOrF, tNotF, eAnd, eOr, eNot, eIsi, tyW, Tk.sub, eSl, oNone, oSome, eMt, eMt0, isTyW, eNeg, negW, Res.bind_ok, List.length_cons, List.length_nil, List.map_cons, List.map_nil, List.cons_append, List.nil_append, List.replicate, List.getElem?_cons_zero, List.getElem?_cons_succ, List.set_cons_zero, List.set_cons_succ, if_true, if_false, Nat.sub_self, Nat.reduceSub, Nat.reduceAdd, sizeLine_eq]) (v := .d (.int (t + 1))) (by simp only [runF, env0, finM, sSeq, sNx, sIf, sRet, sAsg, asgK, gSet, sDrop, sAug, eS_ok, tBool, tTru, truW, eOp, eChain, eVar, eC, eFrz, eObj, aNil, aCons, eTup, eLst, asDs, eCall, eCallF, callM, noFl, tAndF, tOrF, tNotF, eAnd, eOr, eNot, eIsi, tyW, Tk.sub, eSl, oNone, oSome, eMt, eMt0, isTyW, eNeg, negW, Res.bind_ok, List.length_cons, List.length_nil, List.map_cons, List.map_nil, List.cons_append, List.nil_append, List.replicate, List.getElem?_cons_zero, List.getElem?_cons_succ, List.set_cons_zero, List.set_cons_succ, if_true, if_false, Nat.sub_self, Nat.reduceSub, Nat.reduceAdd, sizeLine_eq, g3, addAW_int]) hb (by simp [dk]) rfl (putA (t + 1))) ?_
  refine wp_go (by simp only [runF, env0, finM, sSeq, sNx, sIf, sRet, sAsg, asgK, gSet, sDrop, sAug, eS_ok, tBool, tTru, truW, eOp, eChain, eVar, eC, eFrz, eObj, aNil, aCons, eTup, eLst, asDs, eCall, eCallF, callM, noFl, tAndF, tOrF, tNotF, eAnd, eOr, eNot, eIsi, tyW, Tk.sub, eSl, oNone, oSome, eMt, eMt0, isTyW, eNeg, negW, Res.bind_ok, List.length_cons, List.length_nil, List.map_cons, List.map_nil, List.cons_append, List.nil_append, List.replicate, List.getElem?_cons_zero, List.getElem?_cons_succ, List.set_cons_zero, List.set_cons_succ, if_true, if_false, Nat.sub_self, Nat.reduceSub, Nat.reduceAdd, sizeLine_eq, g4, hl1, hmod, hj, hix]; rfl) ?_
  refine wp_go (e := [some (.obj b), some (.obj a), some (.d (.int cs[j])), none]) (m1 := m2) (by rw [hm2]; exact setD_of (by simp only [runF, env0, finM, sSeq, sNx, sIf, sRet, sAsg, asgK, gSet, sDrop, sAug, eS_ok, tBool, tTru, truW, eOp, eChain, eVar, eC, eFrz, eObj, aNil, aCons, eTup, eLst, asDs, eCall, eCallF, callM, noFl, tAndF, tOrF, tNotF, eAnd, eOr, eNot, eIsi, tyW, Tk.sub, eSl, oNone, oSome, eMt, eMt0, isTyW, eNeg, negW, Res.bind_ok, List.length_cons, List.length_nil, List.map_cons, List.map_nil, List.cons_append, List.nil_append, List.replicate, List.getElem?_cons_zero, List.getElem?_cons_succ, List.set_cons_zero, List.set_cons_succ, if_true, if_false, Nat.sub_self, Nat.reduceSub, Nat.reduceAdd, sizeLine_eq]) (v := .d (.int s')) (by simp only [runF, env0, finM, sSeq, sNx, sIf, sRet, sAsg, asgK, gSet, sDrop, sAug, eS_ok, tBool, tTru, truW, eOp, eChain, eVar, eC, eFrz, eObj, aNil, aCons, eTup, eLst, asDs, eCall, eCallF, callM, noFl, tAndF, tOrF, tNotF, eAnd, eOr, eNot, eIsi, tyW, Tk.sub, eSl, oNone, oSome, eMt, eMt0, isTyW, eNeg, negW, Res.bind_ok, List.length_cons, List.length_nil, List.map_cons, List.map_nil, List.cons_append, List.nil_append, List.replicate, List.getElem?_cons_zero, List.getElem?_cons_succ, List.set_cons_zero, List.set_cons_succ, if_true, if_false, Nat.sub_self, Nat.reduceSub, Nat.reduceAdd, sizeLine_eq, g5, g4, addAW_int, mulW_s (show -18446744073709551616 < (48271 : Int) by decide) (by decide), modW_s (show (0 : Int) < 2147483647 by decide), ← hs']) hb1 (by simp [dk]) rfl (putS s')) ?_
  refine wp_go (by simp only [runF, env0, finM, sSeq, sNx, sIf, sRet, sAsg, asgK, gSet, sDrop, sAug, eS_ok, tBool, tTru, truW, eOp, eChain, eVar, eC, eFrz, eObj, aNil, aCons, eTup, eLst, asDs, eCall, eCallF, callM, noFl, tAndF, tOrF, tNotF, eAnd, eOr, eNot, eIsi, tyW, Tk.sub, eSl, oNone, oSome, eMt, eMt0, isTyW, eNeg, negW, Res.bind_ok, List.length_cons, List.length_nil, List.map_cons, List.map_nil, List.cons_append, List.nil_append, List.replicate, List.getElem?_cons_zero, List.getElem?_cons_succ, List.set_cons_zero, List.set_cons_succ, if_true, if_false, Nat.sub_self, Nat.reduceSub, Nat.reduceAdd, sizeLine_eq, g6, g7, hss, h79, addAW_int, modW_s (show (0 : Int) < 2147483629 by decide), ← hq]; rfl) ?_
  refine wp_ret (w := .d (.int n)) (m1 := m2) (by simp only [runF, env0, finM, sSeq, sNx, sIf, sRet, sAsg, asgK, gSet, sDrop, sAug, eS_ok, tBool, tTru, truW, eOp, eChain, eVar, eC, eFrz, eObj, aNil, aCons, eTup, eLst, asDs, eCall, eCallF, callM, noFl, tAndF, tOrF, tNotF, eAnd, eOr, eNot, eIsi, tyW, Tk.sub, eSl, oNone, oSome, eMt, eMt0, isTyW, eNeg, negW, Res.bind_ok, List.length_cons, List.length_nil, List.map_cons, List.map_nil, List.cons_append, List.nil_append, List.replicate, List.getElem?_cons_zero, List.getElem?_cons_succ, List.set_cons_zero, List.set_cons_succ, if_true, if_false, Nat.sub_self, Nat.reduceSub, Nat.reduceAdd, sizeLine_eq, addAW_int, hqq, modW_s (show (0 : Int) < 999999999989 by decide), ← hn]) ?_
  show outF m.length _ = _
  have hc2 : clM m.length m2 = true := by
    have := cl_set (xs := cs.map .int) (l := l) (t := t + 1) (s := s') (x := true) rfl hcl hab hbl
    rw [set_same ha] at this
    rw [hend]
    exact this
  simp only [outF, finM]
  rw [if_pos hc2, hml, List.take_length]
theorem next_plain {a b : Nat} {m : Mem} {c : Int} {cs : List Int} {l t s : Int} (hcl : ∀ (j : Nat) (o : O), m[j]? = some o → okO m.length o = true) (hab : a < b) (ha : m[a]? = some (.lst ((c :: cs).map .int))) (hb : m[b]? = some (.dct (dk a l t s false))) :
    F__law_next [.obj b] m = .ok (.d (.int (c % 1000000000000))) ((m.set a (.lst ((if l - 1 = 0 ∧ 1 < cs.length + 1 then cs else c / 1000000000000 :: cs).map .int))).set b (.dct (dk a (if l - 1 = 0 ∧ 1 < cs.length + 1 then 12 else l - 1) t s false))) := by
  have hbl := (List.getElem?_eq_some_iff.mp hb).1
  have hal := (List.getElem?_eq_some_iff.mp ha).1
  obtain ⟨n, hn⟩ : ∃ n, n = c % 1000000000000 := ⟨_, rfl⟩
  obtain ⟨d, hd⟩ : ∃ d, d = c / 1000000000000 := ⟨_, rfl⟩
  rw [← hn, ← hd]
  obtain ⟨m1, hm1⟩ : ∃ m1, m1 = m.set a (.lst ((d :: cs).map .int)) := ⟨_, rfl⟩
  have ha1 : m1[a]? = some (.lst ((d :: cs).map .int)) := by rw [hm1]; exact set_b hal
  have hb1 : m1[b]? = some (.dct (dk a l t s false)) := by rw [hm1]; exact set_ba hab hb
  obtain ⟨m2, hm2⟩ : ∃ m2, m2 = m1.set b (.dct (dk a (l - 1) t s false)) := ⟨_, rfl⟩
  have hbl1 : b < m1.length := (List.getElem?_eq_some_iff.mp hb1).1
  have hb2 : m2[b]? = some (.dct (dk a (l - 1) t s false)) := by rw [hm2]; exact set_b hbl1
  have ha2 : m2[a]? = some (.lst ((d :: cs).map .int)) := by rw [hm2]; exact set_ab hab ha1
  have hml : m2.length = m.length := by rw [hm2, hm1, List.length_set, List.length_set]
  have g1 := dgetW_of hb lookC
  have g2 := dgetW_of hb lookM
  have g3 := dgetW_of hb1 lookL
  have g4 := dgetW_of hb2 lookL
  have hix := ix_obj (i := 0) (d := .int c) ha (by simp)
  have hp : powW (.d (.int 10)) (.d (.int 12)) m = .ok (.d (.int 1000000000000)) m := by rw [powW_s (by decide) (by decide) (by decide)]; rfl
  have hl2 := len_obj ha2
  rw [List.length_map, List.length_cons] at hl2
  have step : ∀ (Q : Res W → Prop), WP (fun r => Q (outF m.length r)) ((sSeq (sIf (tAndF (tBool (eOp (eqW false) (eOp dgetW (eVar 0) (eC (.str kL))) (eC (.int 0)))) (tBool (eOp gtW (eCall lenW (aCons (eVar 1) aNil)) (eC (.int 1))))) (sSeq (sDrop (eMt "list" popAtW (eVar 1) (aCons (eC (.int 0)) aNil)))
      (sSetD (eVar 0) (eC (.str kL)) (eC (.int 12)))) sNx) (sRet (eVar 3))) [some (.obj b), some (.obj a), none, some (.d (.int n))] m2) → Q (F__law_next [.obj b] m) := by
    intro Q h
    refine run_wp ?_
    unfold m__law_next
    rw [eKC, eKL, eKA, eKS, eKM]
    refine wp_go (by simp only [runF, env0, finM, sSeq, sNx, sIf, sRet, sAsg, asgK, gSet, sDrop, sAug, eS_ok, tBool, tTru, truW, eOp, eChain, eVar, eC, eFrz, eObj, aNil, aCons, eTup, eLst, asDs, eCall, eCallF, callM, noFl, tAndF, tOrF, tNotF, eAnd, eOr, eNot, eIsi, tyW, Tk.sub, eSl, oNone, oSome, eMt, eMt0, isTyW, eNeg, negW, Res.bind_ok, List.length_cons, List.length_nil, List.map_cons, List.map_nil, List.cons_append, List.nil_append, List.replicate, List.getElem?_cons_zero, List.getElem?_cons_succ, List.set_cons_zero, List.set_cons_succ, if_true, if_false, Nat.sub_self, Nat.reduceSub, Nat.reduceAdd, sizeLine_eq, g1]; rfl) ?_
    refine wp_sIfN (by simp only [runF, env0, finM, sSeq, sNx, sIf, sRet, sAsg, asgK, gSet, sDrop, sAug, eS_ok, tBool, tTru, truW, eOp, eChain, eVar, eC, eFrz, eObj, aNil, aCons, eTup, eLst, asDs, eCall, eCallF, callM, noFl, tAndF, tOrF, tNotF, eAnd, eOr, eNot, eIsi, tyW, Tk.sub, eSl, oNone, oSome, eMt, eMt0, isTyW, eNeg, negW, Res.bind_ok, List.length_cons, List.length_nil, List.map_cons, List.map_nil, List.cons_append, List.nil_append, List.replicate, List.getElem?_cons_zero, List.getElem?_cons_succ, List.set_cons_zero, List.set_cons_succ, if_true, if_false, Nat.sub_self, Nat.reduceSub, Nat.reduceAdd, sizeLine_eq, g2]; rfl) ?_
    refine wp_go (e := [some (.obj b), some (.obj a), none, some (.d (.int n))]) (m1 := m) (by simp only [runF, env0, finM, sSeq, sNx, sIf, sRet, sAsg, asgK, gSet, sDrop, sAug, eS_ok, tBool, tTru, truW, eOp, eChain, eVar, eC, eFrz, eObj, aNil, aCons, eTup, eLst, asDs, eCall, eCallF, callM, noFl, tAndF, tOrF, tNotF, eAnd, eOr, eNot, eIsi, tyW, Tk.sub, eSl, oNone, oSome, eMt, eMt0, isTyW, eNeg, negW, Res.bind_ok, List.length_cons, List.length_nil, List.map_cons, List.map_nil, List.cons_append, List.nil_append, List.replicate, List.getElem?_cons_zero, List.getElem?_cons_succ, List.set_cons_zero, List.set_cons_succ, if_true, if_false, Nat.sub_self, Nat.reduceSub, Nat.reduceAdd, sizeLine_eq, hix, hp, modW_s (show (0 : Int) < 1000000000000 by decide), ← hn]) ?_
    refine wp_go (e := [some (.obj b), some (.obj a), none, some (.d (.int n))]) (m1 := m1) (by rw [hm1]; exact setI0 (by simp only [runF, env0, finM, sSeq, sNx, sIf, sRet, sAsg, asgK, gSet, sDrop, sAug, eS_ok, tBool, tTru, truW, eOp, eChain, eVar, eC, eFrz, eObj, aNil, aCons, eTup, eLst, asDs, eCall, eCallF, callM, noFl, tAndF, tOrF, tNotF, eAnd, eOr, eNot, eIsi, tyW, Tk.sub, eSl, oNone, oSome, eMt, eMt0, isTyW, eNeg, negW, Res.bind_ok, List.length_cons, List.length_nil, List.map_cons, List.map_nil, List.cons_append, List.nil_append, List.replicate, List.getElem?_cons_zero, List.getElem?_cons_succ, List.set_cons_zero, List.set_cons_succ, if_true, if_false, Nat.sub_self, Nat.reduceSub, Nat.reduceAdd, sizeLine_eq]) (v := .int d) (by simp only [runF, env0, finM, sSeq, sNx, sIf, sRet, sAsg, asgK, gSet, sDrop, sAug, eS_ok, tBool, tTru, truW, eOp, eChain, eVar, eC, eFrz, eObj, aNil, aCons, eTup, eLst, asDs, eCall, eCallF, callM, noFl, tAndF, tOrF, tNotF, eAnd, eOr, eNot, eIsi, tyW, Tk.sub, eSl, oNone, oSome, eMt, eMt0, isTyW, eNeg, negW, Res.bind_ok, List.length_cons, List.length_nil, List.map_cons, List.map_nil, List.cons_append, List.nil_append, List.replicate, List.getElem?_cons_zero, List.getElem?_cons_succ, List.set_cons_zero, List.set_cons_succ, if_true, if_false, Nat.sub_self, Nat.reduceSub, Nat.reduceAdd, sizeLine_eq, hix, hp, divW_s (show (0 : Int) < 1000000000000 by decide) (by decide), ← hd]) ha) ?_
    refine wp_go (e := [some (.obj b), some (.obj a), none, some (.d (.int n))]) (m1 := m2) (by rw [hm2]; exact setD_of (by simp only [runF, env0, finM, sSeq, sNx, sIf, sRet, sAsg, asgK, gSet, sDrop, sAug, eS_ok, tBool, tTru, truW, eOp, eChain, eVar, eC, eFrz, eObj, aNil, aCons, eTup, eLst, asDs, eCall, eCallF, callM, noFl, tAndF, tOrF, tNotF, eAnd, eOr, eNot, eIsi, tyW, Tk.sub, eSl, oNone, oSome, eMt, eMt0, isTyW, eNeg, negW, Res.bind_ok, List.length_cons, List.length_nil, List.map_cons, List.map_nil, List.cons_append, List.nil_append, List.replicate, List.getElem?_cons_zero, List.getElem?_cons_succ, List.set_cons_zero, List.set_cons_succ, if_true, if_false, Nat.sub_self, Nat.reduceSub, Nat.reduceAdd, sizeLine_eq]) (v := .d (.int (l - 1))) (by simp only [runF, env0, finM, sSeq, sNx, sIf, sRet, sAsg, asgK, gSet, sDrop, sAug, eS_ok, tBool, tTru, truW, eOp, eChain, eVar, eC, eFrz, eObj, aNil, aCons, eTup, eLst, asDs, eCall, eCallF, callM, noFl, tAndF, tOrF, tNotF, eAnd, eOr, eNot, eIsi, tyW, Tk.sub, eSl, oNone, oSome, eMt, eMt0, isTyW, eNeg, negW, Res.bind_ok, List.length_cons, List.length_nil, List.map_cons, List.map_nil, List.cons_append, List.nil_append, List.replicate, List.getElem?_cons_zero, List.getElem?_cons_succ, List.set_cons_zero, List.set_cons_succ, if_true, if_false, Nat.sub_self, Nat.reduceSub, Nat.reduceAdd, sizeLine_eq, g3, subW_int]) hb1 (by simp [dk]) rfl (putL (l - 1))) ?_
    exact h
  by_cases hc : l - 1 = 0 ∧ (1 : Int) < ((cs.length + 1 : Nat) : Int)
  · have hcs : cs ≠ [] := fun z => by rw [z] at hc; simp at hc
    obtain ⟨e, r, rfl⟩ := List.exists_cons_of_ne_nil hcs
    obtain ⟨m3, hm3⟩ : ∃ m3, m3 = m2.set a (.lst ((e :: r).map .int)) := ⟨_, rfl⟩
    have hal2 : a < m2.length := by omega
    have hb3 : m3[b]? = some (.dct (dk a (l - 1) t s false)) := by rw [hm3]; exact set_ba hab hb2
    have hpop := popAt0 (m := m2) (i := a) (d := .int d) (ds := (e :: r).map .int) ha2
    rw [← hm3] at hpop
    have hc' : l - 1 = 0 ∧ 1 < (e :: r).length + 1 := ⟨hc.1, by simp⟩
    rw [if_pos hc', if_pos hc']
    refine step (fun res => res = .ok (.d (.int n)) ((m.set a (.lst ((e :: r).map .int))).set b (.dct (dk a 12 t s false)))) ?_
    have hm2e : m2 = m1.set b (.dct (dk a (l - 1) t s false)) := hm2
    have h2 : (1 : Int) < ((r.length + 1 + 1 : Nat) : Int) := by omega
    refine wp_sIfT (by simp only [runF, env0, finM, sSeq, sNx, sIf, sRet, sAsg, asgK, gSet, sDrop, sAug, eS_ok, tBool, tTru, truW, eOp, eChain, eVar, eC, eFrz, eObj, aNil, aCons, eTup, eLst, asDs, eCall, eCallF, callM, noFl, tAndF, tOrF, tNotF, eAnd, eOr, eNot, eIsi, tyW, Tk.sub, eSl, oNone, oSome, eMt, eMt0, isTyW, eNeg, negW, Res.bind_ok, List.length_cons, List.length_nil, List.map_cons, List.map_nil, List.cons_append, List.nil_append, List.replicate, List.getElem?_cons_zero, List.getElem?_cons_succ, List.set_cons_zero, List.set_cons_succ, if_true, if_false, Nat.sub_self, Nat.reduceSub, Nat.reduceAdd, sizeLine_eq, g4, eqW_int, ngB, hc.1, decide_true, hl2, gtW_int, h2]; rfl) ?_
    refine wp_go (e := [some (.obj b), some (.obj a), none, some (.d (.int n))]) (m1 := m3) (by
      simp only [runF, env0, finM, sSeq, sNx, sIf, sRet, sAsg, asgK, gSet, sDrop, sAug, eS_ok, tBool, tTru, truW, eOp, eChain, eVar, eC, eFrz, eObj, aNil, aCons, eTup, eLst, asDs, eCall, eCallF, callM, noFl, tAndF, tOrF, tNotF, eAnd, eOr, eNot, eIsi, tyW, Tk.sub, eSl, oNone, oSome, eMt, eMt0, isTyW, eNeg, negW, Res.bind_ok, List.length_cons, List.length_nil, List.map_cons, List.map_nil, List.cons_append, List.nil_append, List.replicate, List.getElem?_cons_zero, List.getElem?_cons_succ, List.set_cons_zero, List.set_cons_succ, if_true, if_false, Nat.sub_self, Nat.reduceSub, Nat.reduceAdd, sizeLine_eq, isTyW, ha2, hpop]
      rfl) ?_
    refine wp_then (e := [some (.obj b), some (.obj a), none, some (.d (.int n))]) (m1 := m3.set b (.dct (dk a 12 t s false))) (setD_of (by simp only [runF, env0, finM, sSeq, sNx, sIf, sRet, sAsg, asgK, gSet, sDrop, sAug, eS_ok, tBool, tTru, truW, eOp, eChain, eVar, eC, eFrz, eObj, aNil, aCons, eTup, eLst, asDs, eCall, eCallF, callM, noFl, tAndF, tOrF, tNotF, eAnd, eOr, eNot, eIsi, tyW, Tk.sub, eSl, oNone, oSome, eMt, eMt0, isTyW, eNeg, negW, Res.bind_ok, List.length_cons, List.length_nil, List.map_cons, List.map_nil, List.cons_append, List.nil_append, List.replicate, List.getElem?_cons_zero, List.getElem?_cons_succ, List.set_cons_zero, List.set_cons_succ, if_true, if_false, Nat.sub_self, Nat.reduceSub, Nat.reduceAdd, sizeLine_eq]) (v := .d (.int 12)) (by simp only [runF, env0, finM, sSeq, sNx, sIf, sRet, sAsg, asgK, gSet, sDrop, sAug, eS_ok, tBool, tTru, truW, eOp, eChain, eVar, eC, eFrz, eObj, aNil, aCons, eTup, eLst, asDs, eCall, eCallF, callM, noFl, tAndF, tOrF, tNotF, eAnd, eOr, eNot, eIsi, tyW, Tk.sub, eSl, oNone, oSome, eMt, eMt0, isTyW, eNeg, negW, Res.bind_ok, List.length_cons, List.length_nil, List.map_cons, List.map_nil, List.cons_append, List.nil_append, List.replicate, List.getElem?_cons_zero, List.getElem?_cons_succ, List.set_cons_zero, List.set_cons_succ, if_true, if_false, Nat.sub_self, Nat.reduceSub, Nat.reduceAdd, sizeLine_eq]) hb3 (by simp [dk]) rfl (putL 12)) ?_
    refine wp_ret (by simp only [runF, env0, finM, sSeq, sNx, sIf, sRet, sAsg, asgK, gSet, sDrop, sAug, eS_ok, tBool, tTru, truW, eOp, eChain, eVar, eC, eFrz, eObj, aNil, aCons, eTup, eLst, asDs, eCall, eCallF, callM, noFl, tAndF, tOrF, tNotF, eAnd, eOr, eNot, eIsi, tyW, Tk.sub, eSl, oNone, oSome, eMt, eMt0, isTyW, eNeg, negW, Res.bind_ok, List.length_cons, List.length_nil, List.map_cons, List.map_nil, List.cons_append, List.nil_append, List.replicate, List.getElem?_cons_zero, List.getElem?_cons_succ, List.set_cons_zero, List.set_cons_succ, if_true, if_false, Nat.sub_self, Nat.reduceSub, Nat.reduceAdd, sizeLine_eq]; rfl) ?_
    have e5 : m3.set b (.dct (dk a 12 t s false)) = (m.set a (.lst ((e :: r).map .int))).set b (.dct (dk a 12 t s false)) := by
      rw [hm3, hm2, hm1]
      rw [List.set_comm _ _ (show b ≠ a by omega), List.set_set, List.set_set]
    rw [e5]
    simp [outF, finM, List.take_of_length_le, cl_set rfl hcl hab hbl]
  · have hc' : ¬ (l - 1 = 0 ∧ 1 < cs.length + 1) := fun z => hc ⟨z.1, by omega⟩
    rw [if_neg hc', if_neg hc']
    refine step (fun res => res = .ok (.d (.int n)) ((m.set a (.lst ((d :: cs).map .int))).set b (.dct (dk a (l - 1) t s false)))) ?_
    refine wp_sIfN (by
      by_cases h1 : l - 1 = 0
      · have h2 : ¬ (1 : Int) < ((cs.length + 1 : Nat) : Int) := fun z => hc ⟨h1, z⟩
        simp only [runF, env0, finM, sSeq, sNx, sIf, sRet, sAsg, asgK, gSet, sDrop, sAug, eS_ok, tBool, tTru, truW, eOp, eChain, eVar, eC, eFrz, eObj, aNil, aCons, eTup, eLst, asDs, eCall, eCallF, callM, noFl, tAndF, tOrF, tNotF, eAnd, eOr, eNot, eIsi, tyW, Tk.sub, eSl, oNone, oSome, eMt, eMt0, isTyW, eNeg, negW, Res.bind_ok, List.length_cons, List.length_nil, List.map_cons, List.map_nil, List.cons_append, List.nil_append, List.replicate, List.getElem?_cons_zero, List.getElem?_cons_succ, List.set_cons_zero, List.set_cons_succ, if_true, if_false, Nat.sub_self, Nat.reduceSub, Nat.reduceAdd, sizeLine_eq, g4, eqW_int, ngB, h1, decide_true, hl2, gtW_int, h2, decide_false]
        rfl
      · simp only [runF, env0, finM, sSeq, sNx, sIf, sRet, sAsg, asgK, gSet, sDrop, sAug, eS_ok, tBool, tTru, truW, eOp, eChain, eVar, eC, eFrz, eObj, aNil, aCons, eTup, eLst, asDs, eCall, eCallF, callM, noFl, tAndF, tOrF, tNotF, eAnd, eOr, eNot, eIsi, tyW, Tk.sub, eSl, oNone, oSome, eMt, eMt0, isTyW, eNeg, negW, Res.bind_ok, List.length_cons, List.length_nil, List.map_cons, List.map_nil, List.cons_append, List.nil_append, List.replicate, List.getElem?_cons_zero, List.getElem?_cons_succ, List.set_cons_zero, List.set_cons_succ, if_true, if_false, Nat.sub_self, Nat.reduceSub, Nat.reduceAdd, sizeLine_eq, g4, eqW_int, ngB, h1, decide_false]
        rfl) ?_
    refine wp_ret (by simp only [runF, env0, finM, sSeq, sNx, sIf, sRet, sAsg, asgK, gSet, sDrop, sAug, eS_ok, tBool, tTru, truW, eOp, eChain, eVar, eC, eFrz, eObj, aNil, aCons, eTup, eLst, asDs, eCall, eCallF, callM, noFl, tAndF, tOrF, tNotF, eAnd, eOr, eNot, eIsi, tyW, Tk.sub, eSl, oNone, oSome, eMt, eMt0, isTyW, eNeg, negW, Res.bind_ok, List.length_cons, List.length_nil, List.map_cons, List.map_nil, List.cons_append, List.nil_append, List.replicate, List.getElem?_cons_zero, List.getElem?_cons_succ, List.set_cons_zero, List.set_cons_succ, if_true, if_false, Nat.sub_self, Nat.reduceSub, Nat.reduceAdd, sizeLine_eq]; rfl) ?_
    rw [hm2, hm1]
    simp [outF, finM, List.take_of_length_le, cl_set rfl hcl hab hbl]
noncomputable def W__law_next : GFn := fun γ avs K => match avs with
  | [.k i q] => (P__law_next q).bind fun r => K r.1 [(i, .k r.2)]
  | _ => .bad
theorem sp__law_next : SpG F__law_next 2 W__law_next := by
  intro γ m ws avs J K hcl hA hn hd nb
  unfold W__law_next at nb ⊢
  split at nb
  · rename_i i q
    cases hA with
    | cons h t =>
      cases t
      obtain ⟨b, a, rfl, hJ, hq⟩ := h
      have hbl := (List.getElem?_eq_some_iff.mp hq.cb).1
      have hab := hq.ab
      have hkeep : ∀ (ys : List D) (l t s : Int) (x : Bool), Keep m ((m.set a (.lst ys)).set b (.dct (dk a l t s x))) J (mrefs [AV.k i q]) := fun ys l t s x => ⟨by simp, fun j hj => by
        have := hj i (by simp [mrefs])
        rw [hJ] at this
        rw [List.getElem?_set_ne (by rintro rfl; exact this (by simp)), List.getElem?_set_ne (by rintro rfl; exact this (by simp))], fun i' hi' j hj o e => by
        rw [List.mem_singleton.mp (show i' ∈ [i] from hi'), hJ] at hj
        rcases List.mem_cons.mp hj with rfl | hj
        · rw [List.getElem?_set_self (by simpa using hbl)] at e
          cases e
          rw [List.mem_singleton.mp (show i' ∈ [i] from hi'), hJ]; simp [okJ, okJW, dk]
        · rw [List.mem_singleton.mp hj] at e
          rw [List.getElem?_set_ne (by omega), List.getElem?_set_self (by omega)] at e
          cases e
          rfl⟩
      cases hx : q.x with
      | true =>
        have hF := next_mixed hcl hab q.ne hq.ca (by have := hq.cb; rw [hx] at this; exact this) (mixN q) (mixS q) (mixQ q) rfl rfl rfl
        have eN : nextN q = mixN q := by simp [nextN, hx]
        refine .inl ⟨.d (.int (mixN q)), _, .int (mixN q), [(i, .k (nextQ q))], hF, fun fr => .inl rfl, by rw [next_eq, PR.bind_ok, eN], rfl, fun u hu => ?_, ?_⟩
        · have := List.mem_singleton.mp hu
          subst this
          refine ⟨b, a, hJ, hab, ?_, ?_⟩
          · show (m.set b _)[a]? = some (.lst ((nextQ q).cs.map .int))
            have : (nextQ q).cs = q.cs := by simp [nextQ, hx]
            rw [this]
            exact set_ab hab hq.ca
          · show (m.set b _)[b]? = some (.dct (dk a (nextQ q).l (nextQ q).t (nextQ q).s (nextQ q).x))
            have e1 : (nextQ q).l = q.l := by simp [nextQ, hx]
            have e2 : (nextQ q).t = q.t + 1 := by simp [nextQ, hx]
            have e3 : (nextQ q).s = mixS q := by simp [nextQ, hx]
            have e4 : (nextQ q).x = true := by simp [nextQ, hx]
            rw [e1, e2, e3, e4]
            exact set_b hbl
        · have := hkeep (q.cs.map .int) q.l (q.t + 1) (mixS q) true
          rw [set_same hq.ca] at this
          exact this
      | false =>
        obtain ⟨c, r, hcr⟩ := List.exists_cons_of_ne_nil q.ne
        have hF := next_plain (c := c) (cs := r) hcl hab (by rw [← hcr]; exact hq.ca) (by have := hq.cb; rw [hx] at this; exact this)
        have eN : nextN q = c % 1000000000000 := by simp [nextN, hx, hcr]
        have e1 : (nextQ q).l = if q.l - 1 = 0 ∧ 1 < r.length + 1 then 12 else q.l - 1 := by simp [nextQ, hx, plnL, hcr]
        have e2 : (nextQ q).t = q.t := by simp [nextQ, hx]
        have e3 : (nextQ q).s = q.s := by simp [nextQ, hx]
        have e4 : (nextQ q).x = false := by simp [nextQ, hx]
        have e5 : (nextQ q).cs = if q.l - 1 = 0 ∧ 1 < r.length + 1 then r else c / 1000000000000 :: r := by simp [nextQ, hx, plnC, hcr]
        refine .inl ⟨.d (.int (c % 1000000000000)), _, .int (c % 1000000000000), [(i, .k (nextQ q))], hF, fun fr => .inl rfl, by rw [next_eq, PR.bind_ok, eN], rfl, fun u hu => ?_, hkeep _ _ _ _ _⟩
        have := List.mem_singleton.mp hu
        subst this
        refine ⟨b, a, hJ, hab, ?_, ?_⟩
        · rw [e5]
          exact set_ab hab (set_b (by omega))
        · rw [e1, e2, e3, e4]
          exact set_b (by simpa using hbl)
  · exact absurd rfl nb
theorem dInts_ints : ∀ ns : List Int, dInts (ns.map PyData.int) = some ns
  | [] => rfl
  | n :: ns => by rw [List.map_cons, dInts, dInts_ints ns]; rfl
theorem deck_ok : DeckOk F__law_deck := by
  intro m w xs q0 hw hmk
  unfold mkDeck at hmk
  split at hmk
  · rename_i ns hns
    have hxs := dInts_map hns
    subst hxs
    obtain ⟨cs, hcs⟩ : ∃ cs, cs = deckC ns := ⟨_, rfl⟩
    have hlen : cs.length ≤ 64 := by rw [hcs]; exact deckC_len ns
    obtain ⟨c, r, hcr⟩ := List.exists_cons_of_ne_nil (show cs ≠ [] by rw [hcs]; simp [deckC])
    obtain ⟨A, hA⟩ : ∃ A : List D, A = (ns.take 63).map .int := ⟨_, rfl⟩
    have hsl : slW w none (some 63) m = .ok (.fl A) m := by
      have := slP_ok m w _ none (some 63) hw
      simp only [slP] at this
      obtain ⟨w', e1, e2⟩ := this
      have e2 : w' = _ := e2 ⟨[], fun _ => []⟩
      rw [e1, e2, cutD_take (by decide), hA, List.map_take]
      rfl
    have hadd : addAW (.fl A) (.fl [.int 0]) m = .ok (.fl (cs.map .int)) m := by
      simp only [addAW, asL, hA, List.length_map, List.length_singleton]
      rw [if_pos (by rw [sizeLine_eq, List.length_take]; omega), hcs]
      simp [deckC]
    obtain ⟨x, hx⟩ : ∃ x, x = decide (c % 2 = 1) := ⟨_, rfl⟩
    obtain ⟨d, hd⟩ : ∃ d, d = c / 2 := ⟨_, rfl⟩
    obtain ⟨q, hq⟩ : ∃ q, q = 1 + (d :: r).sum % 2147483646 := ⟨_, rfl⟩
    have ix0 := ix_obj (m := m ++ [O.lst (cs.map .int)]) (a := m.length) (ds := cs.map .int) (i := 0) (d := .int c) (by simp) (by rw [hcr]; simp)
    have hset : ∀ {env : En} {o f : EF} {v : D}, o env (m ++ [O.lst (cs.map .int)]) = .ok (.obj m.length) (m ++ [O.lst (cs.map .int)]) → f env (m ++ [O.lst (cs.map .int)]) = .ok (.d v) (m ++ [O.lst (cs.map .int)]) → sSetI o (eC (.int 0)) f env (m ++ [O.lst (cs.map .int)]) = .nx env (m ++ [O.lst (v :: r.map .int)]) := fun ho hf => by
      have := setI0 (a := m.length) (d := .int c) (ds := r.map .int) ho hf (by rw [hcr]; simp)
      rw [this, mem_set_last]
    have hset' := fun env o f => @hset env o f (.int d)
    have hsum : sumW [.obj m.length] (m ++ [O.lst ((d :: r).map .int)]) = .ok (.d (.int (d :: r).sum)) (m ++ [O.lst ((d :: r).map .int)]) := by
      have e := dInts_ints (d :: r)
      have e2 : asL (.obj m.length) (m ++ [O.lst ((d :: r).map .int)]) = some ((d :: r).map .int) := by simp [asL]
      simp only [sumW, lst1, e2, Option.bind_some, e]
    have hrl : r.length + 1 = cs.length := by rw [hcr]; rfl
    have eh : (deckC ns).headD 0 = c := by rw [← hcs, hcr]; rfl
    have et : (deckC ns).tail = r := by rw [← hcs, hcr]; rfl
    cases hmk
    refine ⟨[.lst ((d :: r).map .int), .dct (dk m.length 12 0 q x)], m.length, m.length + 1, ?_, Nat.le_refl _, ⟨by omega, ?_, ?_⟩, ?_⟩
    rotate_left
    · show _ = some (O.lst (((deckC ns).headD 0 / 2 :: (deckC ns).tail).map .int))
      rw [eh, et, ← hd]
      simp
    · show _ = some (O.dct (dk m.length 12 0 (1 + ((deckC ns).headD 0 / 2 :: (deckC ns).tail).sum % 2147483646) (decide ((deckC ns).headD 0 % 2 = 1))))
      rw [eh, et, ← hd, ← hq, ← hx]
      simp
    · intro o ho
      simp only [List.mem_cons, List.not_mem_nil, or_false] at ho
      rcases ho with rfl | rfl
      · rfl
      · exact okO.le (okO_dk (b := m.length + 1) (by omega)) (by simp)
    have hB1 : PyData.int d :: r.map .int = (d :: r).map .int := rfl
    rw [hB1] at hset'
    obtain ⟨B, hB⟩ : ∃ B : List D, B = (d :: r).map .int := ⟨_, rfl⟩
    rw [← hB] at hsum hset' ⊢
    have key : WP (fun res => res = .rt (.obj (m.length + 1)) (m ++ [.lst B, .dct (dk m.length 12 0 q x)])) (m__law_deck (env0 3 [w]) m) := by
      unfold m__law_deck
      refine wp_go (e := [some w, some (.obj m.length), none]) (m1 := m ++ [O.lst (cs.map .int)]) (by simp [runF, env0, finM, sSeq, sNx, sIf, sRet, sAsg, asgK, gSet, sDrop, sAug, eS_ok, tBool, tTru, truW, eOp, eChain, eVar, eC, eFrz, eObj, aNil, aCons, eTup, eLst, asDs, eCall, eCallF, callM, noFl, tAndF, tOrF, tNotF, eAnd, eOr, eNot, eIsi, tyW, Tk.sub, eSl, oNone, oSome, eMt, eMt0, isTyW, eNeg, negW, Res.bind_ok, List.length_cons, List.length_nil, List.map_cons, List.map_nil, List.cons_append, List.nil_append, List.replicate, List.getElem?_cons_zero, List.getElem?_cons_succ, List.set_cons_zero, List.set_cons_succ, if_true, if_false, Nat.sub_self, Nat.reduceSub, Nat.reduceAdd, sizeLine_eq, hsl, hadd]) ?_
      refine wp_go (e := [some w, some (.obj m.length), some (.d (.bool x))]) (m1 := m ++ [O.lst (cs.map .int)]) (by simp only [runF, env0, finM, sSeq, sNx, sIf, sRet, sAsg, asgK, gSet, sDrop, sAug, eS_ok, tBool, tTru, truW, eOp, eChain, eVar, eC, eFrz, eObj, aNil, aCons, eTup, eLst, asDs, eCall, eCallF, callM, noFl, tAndF, tOrF, tNotF, eAnd, eOr, eNot, eIsi, tyW, Tk.sub, eSl, oNone, oSome, eMt, eMt0, isTyW, eNeg, negW, Res.bind_ok, List.length_cons, List.length_nil, List.map_cons, List.map_nil, List.cons_append, List.nil_append, List.replicate, List.getElem?_cons_zero, List.getElem?_cons_succ, List.set_cons_zero, List.set_cons_succ, if_true, if_false, Nat.sub_self, Nat.reduceSub, Nat.reduceAdd, sizeLine_eq, ix0, modW_s (show (0 : Int) < 2 by decide), eqW_int, ngB, hx, Bool.false_eq_true]) ?_
      refine wp_go (e := [some w, some (.obj m.length), some (.d (.bool x))]) (m1 := m ++ [O.lst B]) (hset' _ _ _ (by simp only [runF, env0, finM, sSeq, sNx, sIf, sRet, sAsg, asgK, gSet, sDrop, sAug, eS_ok, tBool, tTru, truW, eOp, eChain, eVar, eC, eFrz, eObj, aNil, aCons, eTup, eLst, asDs, eCall, eCallF, callM, noFl, tAndF, tOrF, tNotF, eAnd, eOr, eNot, eIsi, tyW, Tk.sub, eSl, oNone, oSome, eMt, eMt0, isTyW, eNeg, negW, Res.bind_ok, List.length_cons, List.length_nil, List.map_cons, List.map_nil, List.cons_append, List.nil_append, List.replicate, List.getElem?_cons_zero, List.getElem?_cons_succ, List.set_cons_zero, List.set_cons_succ, if_true, if_false, Nat.sub_self, Nat.reduceSub, Nat.reduceAdd, sizeLine_eq]) (by simp only [runF, env0, finM, sSeq, sNx, sIf, sRet, sAsg, asgK, gSet, sDrop, sAug, eS_ok, tBool, tTru, truW, eOp, eChain, eVar, eC, eFrz, eObj, aNil, aCons, eTup, eLst, asDs, eCall, eCallF, callM, noFl, tAndF, tOrF, tNotF, eAnd, eOr, eNot, eIsi, tyW, Tk.sub, eSl, oNone, oSome, eMt, eMt0, isTyW, eNeg, negW, Res.bind_ok, List.length_cons, List.length_nil, List.map_cons, List.map_nil, List.cons_append, List.nil_append, List.replicate, List.getElem?_cons_zero, List.getElem?_cons_succ, List.set_cons_zero, List.set_cons_succ, if_true, if_false, Nat.sub_self, Nat.reduceSub, Nat.reduceAdd, sizeLine_eq, ix0, divW_s (show (0 : Int) < 2 by decide) (by decide), ← hd])) ?_
      refine wp_ret (w := .obj (m.length + 1)) (m1 := m ++ [.lst B, .dct (dk m.length 12 0 q x)]) (by
        simp only [runF, env0, finM, sSeq, sNx, sIf, sRet, sAsg, asgK, gSet, sDrop, sAug, eS_ok, tBool, tTru, truW, eOp, eChain, eVar, eC, eFrz, eObj, aNil, aCons, eTup, eLst, asDs, eCall, eCallF, callM, noFl, tAndF, tOrF, tNotF, eAnd, eOr, eNot, eIsi, tyW, Tk.sub, eSl, oNone, oSome, eMt, eMt0, isTyW, eNeg, negW, Res.bind_ok, List.length_cons, List.length_nil, List.map_cons, List.map_nil, List.cons_append, List.nil_append, List.replicate, List.getElem?_cons_zero, List.getElem?_cons_succ, List.set_cons_zero, List.set_cons_succ, if_true, if_false, Nat.sub_self, Nat.reduceSub, Nat.reduceAdd, sizeLine_eq, eDict, hsum, modW_s (show (0 : Int) < 2147483646 by decide), addAW_int, ← hq, List.all_cons, List.all_nil, okW, List.length_append, Bool.and_true]
        simp [dk, kC, kL, kA, kS, kM]) ?_
      rfl
    have key : m__law_deck (env0 3 [w]) m = _ := key
    unfold F__law_deck runA
    rw [key]
  · cases hmk
end K60
set_option Elab.async false
set_option linter.all false
set_option maxRecDepth 100000
set_option maxHeartbeats 4000000
namespace K60
open PySem L2 M
variable [HasW]
noncomputable def g_kind_of_form (w_kind_of_form : GFn) : GSx :=
    (gsSeq (gsIf (gBool (gOp (eqP false) (gOp ixP (gVarD 0) (gC (.int 0))) (gC (.str (Str.ofString "basic"))))) (gsRet (gOp ixP (gVarD 0) (gC (.int 1)))) gsNx)
    (gsRet (gTup (gaCons (gCall [false] [.d] w_kind_of_form (gaCons (gOp ixP (gVarD 0) (gC (.int 2))) gaNil)) (gaCons (gCall [false] [.d] w_kind_of_form (gaCons (gOp ixP (gVarD 0) (gC (.int 1))) gaNil)) gaNil)))))
noncomputable def W_kind_of_form (n : Nat) : GFn := fun γ avs K => match avs with
  | [.d a0] => (P_kind_of_form n a0).bind fun r => K r []
  | _ => .bad
theorem e_kind_of_form (n : Nat) (a0 : D) : runG (g_kind_of_form (W_kind_of_form n)) (init0 1 [.d a0]) out0 = B_kind_of_form (P_kind_of_form n) a0 := by kernel_rfl
theorem rs_kind_of_form {n : Nat} (ih_kind_of_form : SpG (F_kind_of_form n) 2 (W_kind_of_form n)) : RS 7 [false] (m_kind_of_form (F_kind_of_form n)) (g_kind_of_form (W_kind_of_form n)) :=
    (rs_seq (rs_if (rt_bool (RE.up (s' := 3) (re_op eqP_ok (RE.up (s' := 3) (re_op ixP_ok (RE.up (s' := 3) (re_varD 0) rfl) (RE.up (s' := 3) (re_c (.int 0)) rfl)) rfl) (RE.up (s' := 3) (re_c (.str (Str.ofString "basic"))) rfl)) rfl)) (rs_ret (RE.up (s' := 7) (re_op ixP_ok (RE.up (s' := 3) (re_varD 0) rfl) (RE.up (s' := 3) (re_c (.int 1)) rfl)) rfl)) rs_nx)
    (rs_ret (RE.up (s' := 7) (re_tup (ra_cons (re_frz (re_call (ks := [.d]) ih_kind_of_form (ra_cons (re_op ixP_ok (RE.up (s' := 3) (re_varD 0) rfl) (RE.up (s' := 3) (re_c (.int 2)) rfl)) ra_nil))) (ra_cons (re_frz (re_call (ks := [.d]) ih_kind_of_form (ra_cons (re_op ixP_ok (RE.up (s' := 3) (re_varD 0) rfl) (RE.up (s' := 3) (re_c (.int 1)) rfl)) ra_nil))) ra_nil))) rfl)))
theorem ss_kind_of_form {n : Nat} (ih_kind_of_form : SpG (F_kind_of_form n) 2 (W_kind_of_form n)) : SpG (F_kind_of_form (n + 1)) 2 (W_kind_of_form (n + 1)) := by
  intro γ m ws avs J K hcl hA hn hd nb
  unfold W_kind_of_form at nb ⊢
  split at nb
  · rename_i a0
    exact sp_fin (s := 2) (N := 1) (res := id) (us := fun _ => []) (rs_kind_of_form ih_kind_of_form) rfl hcl hA hn hd (e_kind_of_form n a0) (out0_ok rfl) nb
  · exact absurd rfl nb
theorem sp_kind_of_form : ∀ n : Nat, SpG (F_kind_of_form n) 2 (W_kind_of_form n)
  | 0 => by
    intro γ m ws avs J K hcl hA hn hd nb
    exfalso
    unfold W_kind_of_form at nb
    split at nb
    · exact nb rfl
    · exact nb rfl
  | n + 1 => ss_kind_of_form (sp_kind_of_form n)
noncomputable def g_handed_on : GSx :=
    (gsRet (gTup (gaCons (gC (.str (Str.ofString "fn"))) (gaCons (gCall [false, false, false] [.d] (W_kind_of_form 40) (gaCons (gOp ixP (gVarD 0) (gC (.int 2))) gaNil)) (gaCons (gTup (gaCons (gC (.str (Str.ofString "of"))) (gaCons (gVarD 1) (gaCons (gTup (gaCons (gC (.str (Str.ofString "of"))) (gaCons (gVarD 2) (gaCons (gTup (gaCons (gC (.str (Str.ofString "bound"))) (gaCons (gC (.int 0)) gaNil))) gaNil)))) gaNil)))) gaNil)))))
noncomputable def W_handed_on : GFn := fun γ avs K => match avs with
  | [.d a0, .d a1, .d a2] => (P_handed_on a0 a1 a2).bind fun r => K r []
  | _ => .bad
theorem e_handed_on (a0 : D) (a1 : D) (a2 : D) : runG (g_handed_on) (init0 3 [.d a0, .d a1, .d a2]) out0 = P_handed_on a0 a1 a2 := by kernel_rfl
theorem rs_handed_on : RS 7 [false, false, false] m_handed_on (g_handed_on) :=
    (rs_ret (RE.up (s' := 7) (re_tup (ra_cons (re_c (.str (Str.ofString "fn"))) (ra_cons (re_frz (re_call (ks := [.d]) (sp_kind_of_form 40) (ra_cons (re_op ixP_ok (RE.up (s' := 3) (re_varD 0) rfl) (RE.up (s' := 3) (re_c (.int 2)) rfl)) ra_nil))) (ra_cons (re_tup (ra_cons (re_c (.str (Str.ofString "of"))) (ra_cons (re_varD 1) (ra_cons (re_tup (ra_cons (re_c (.str (Str.ofString "of"))) (ra_cons (re_varD 2) (ra_cons (re_tup (ra_cons (re_c (.str (Str.ofString "bound"))) (ra_cons (re_c (.int 0)) ra_nil))) ra_nil)))) ra_nil)))) ra_nil)))) rfl))
theorem sp_handed_on : SpG F_handed_on 2 W_handed_on := by
  intro γ m ws avs J K hcl hA hn hd nb
  unfold W_handed_on at nb ⊢
  split at nb
  · rename_i a0 a1 a2
    exact sp_fin (s := 2) (N := 3) (res := id) (us := fun _ => []) rs_handed_on rfl hcl hA hn hd (e_handed_on a0 a1 a2) (out0_ok rfl) nb
  · exact absurd rfl nb
noncomputable def g_RightTaken__sign : GSx :=
    (gsRet (gC (.str (Str.ofString ">"))))
theorem e_RightTaken__sign : runG (g_RightTaken__sign) (ro0 0 []) out0 = PL_RightTaken__sign [] := by kernel_rfl
theorem rs_RightTaken__sign : RS 7 [false] m_RightTaken__sign (g_RightTaken__sign) :=
    (rs_ret (RE.up (s' := 7) (re_c (.str (Str.ofString ">"))) rfl))
noncomputable def g_RightTaken__joined : GSx :=
    (gsSeq (gsIf (gtAnd (gBool (gOp (eqP false) (gOp ixP (gVarD 1) (gC (.int 0))) (gC (.str (Str.ofString "/"))))) (gBool (gOp (eqP false) (gOp ixP (gVarD 1) (gC (.int 2))) (gVarD 2)))) (gsRet (gOp ixP (gVarD 1) (gC (.int 1)))) gsNx)
    (gsRet (gC .none)))
theorem e_RightTaken__joined (a1 : D) (a2 : D) : runG (g_RightTaken__joined) (ro0 2 [a1, a2]) out0 = PL_RightTaken__joined [a1, a2] := by kernel_rfl
theorem rs_RightTaken__joined : RS 7 [false, false, false] m_RightTaken__joined (g_RightTaken__joined) :=
    (rs_seq (rs_if (rt_and (rt_bool (RE.up (s' := 3) (re_op eqP_ok (RE.up (s' := 3) (re_op ixP_ok (RE.up (s' := 3) (re_varD 1) rfl) (RE.up (s' := 3) (re_c (.int 0)) rfl)) rfl) (RE.up (s' := 3) (re_c (.str (Str.ofString "/"))) rfl)) rfl)) (rt_bool (RE.up (s' := 3) (re_op eqP_ok (RE.up (s' := 3) (re_op ixP_ok (RE.up (s' := 3) (re_varD 1) rfl) (RE.up (s' := 3) (re_c (.int 2)) rfl)) rfl) (RE.up (s' := 3) (re_varD 2) rfl)) rfl))) (rs_ret (RE.up (s' := 7) (re_op ixP_ok (RE.up (s' := 3) (re_varD 1) rfl) (RE.up (s' := 3) (re_c (.int 1)) rfl)) rfl)) rs_nx)
    (rs_ret (RE.up (s' := 7) (re_c .none) rfl)))
noncomputable def g_RightTaken__meant : GSx :=
    (gsRet (gTup (gaCons (gC (.str (Str.ofString "of"))) (gaCons (gVarD 3) (gaCons (gVarD 4) gaNil)))))
theorem e_RightTaken__meant (a1 : D) (a2 : D) (a3 : D) (a4 : D) : runG (g_RightTaken__meant) (ro0 4 [a1, a2, a3, a4]) out0 = PL_RightTaken__meant [a1, a2, a3, a4] := by kernel_rfl
theorem rs_RightTaken__meant : RS 7 [false, false, false, false, false] m_RightTaken__meant (g_RightTaken__meant) :=
    (rs_ret (RE.up (s' := 7) (re_tup (ra_cons (re_c (.str (Str.ofString "of"))) (ra_cons (re_varD 3) (ra_cons (re_varD 4) ra_nil)))) rfl))
noncomputable def g_LeftTaken__sign : GSx :=
    (gsRet (gC (.str (Str.ofString "<"))))
theorem e_LeftTaken__sign : runG (g_LeftTaken__sign) (ro0 0 []) out0 = PL_LeftTaken__sign [] := by kernel_rfl
theorem rs_LeftTaken__sign : RS 7 [false] m_LeftTaken__sign (g_LeftTaken__sign) :=
    (rs_ret (RE.up (s' := 7) (re_c (.str (Str.ofString "<"))) rfl))
noncomputable def g_LeftTaken__joined : GSx :=
    (gsSeq (gsIf (gtAnd (gBool (gOp (eqP false) (gOp ixP (gVarD 2) (gC (.int 0))) (gC (.str (Str.ofString "\\"))))) (gBool (gOp (eqP false) (gOp ixP (gVarD 2) (gC (.int 2))) (gVarD 1)))) (gsRet (gOp ixP (gVarD 2) (gC (.int 1)))) gsNx)
    (gsRet (gC .none)))
theorem e_LeftTaken__joined (a1 : D) (a2 : D) : runG (g_LeftTaken__joined) (ro0 2 [a1, a2]) out0 = PL_LeftTaken__joined [a1, a2] := by kernel_rfl
theorem rs_LeftTaken__joined : RS 7 [false, false, false] m_LeftTaken__joined (g_LeftTaken__joined) :=
    (rs_seq (rs_if (rt_and (rt_bool (RE.up (s' := 3) (re_op eqP_ok (RE.up (s' := 3) (re_op ixP_ok (RE.up (s' := 3) (re_varD 2) rfl) (RE.up (s' := 3) (re_c (.int 0)) rfl)) rfl) (RE.up (s' := 3) (re_c (.str (Str.ofString "\\"))) rfl)) rfl)) (rt_bool (RE.up (s' := 3) (re_op eqP_ok (RE.up (s' := 3) (re_op ixP_ok (RE.up (s' := 3) (re_varD 2) rfl) (RE.up (s' := 3) (re_c (.int 2)) rfl)) rfl) (RE.up (s' := 3) (re_varD 1) rfl)) rfl))) (rs_ret (RE.up (s' := 7) (re_op ixP_ok (RE.up (s' := 3) (re_varD 2) rfl) (RE.up (s' := 3) (re_c (.int 1)) rfl)) rfl)) rs_nx)
    (rs_ret (RE.up (s' := 7) (re_c .none) rfl)))
noncomputable def g_LeftTaken__meant : GSx :=
    (gsRet (gTup (gaCons (gC (.str (Str.ofString "of"))) (gaCons (gVarD 4) (gaCons (gVarD 3) gaNil)))))
theorem e_LeftTaken__meant (a1 : D) (a2 : D) (a3 : D) (a4 : D) : runG (g_LeftTaken__meant) (ro0 4 [a1, a2, a3, a4]) out0 = PL_LeftTaken__meant [a1, a2, a3, a4] := by kernel_rfl
theorem rs_LeftTaken__meant : RS 7 [false, false, false, false, false] m_LeftTaken__meant (g_LeftTaken__meant) :=
    (rs_ret (RE.up (s' := 7) (re_tup (ra_cons (re_c (.str (Str.ofString "of"))) (ra_cons (re_varD 4) (ra_cons (re_varD 3) ra_nil)))) rfl))
noncomputable def g_RightHanded__sign : GSx :=
    (gsRet (gC (.str (Str.ofString ">>"))))
theorem e_RightHanded__sign : runG (g_RightHanded__sign) (ro0 0 []) out0 = PL_RightHanded__sign [] := by kernel_rfl
theorem rs_RightHanded__sign : RS 7 [false] m_RightHanded__sign (g_RightHanded__sign) :=
    (rs_ret (RE.up (s' := 7) (re_c (.str (Str.ofString ">>"))) rfl))
noncomputable def g_RightHanded__joined : GSx :=
    (gsSeq (gsIf (gtAnd (gBool (gOp (eqP false) (gOp ixP (gVarD 1) (gC (.int 0))) (gC (.str (Str.ofString "/"))))) (gtAnd (gBool (gOp (eqP false) (gOp ixP (gVarD 2) (gC (.int 0))) (gC (.str (Str.ofString "/"))))) (gBool (gOp (eqP false) (gOp ixP (gVarD 1) (gC (.int 2))) (gOp ixP (gVarD 2) (gC (.int 1))))))) (gsRet (gTup (gaCons (gC (.str (Str.ofString "/"))) (gaCons (gOp ixP (gVarD 1) (gC (.int 1))) (gaCons (gOp ixP (gVarD 2) (gC (.int 2))) gaNil))))) gsNx)
    (gsRet (gC .none)))
theorem e_RightHanded__joined (a1 : D) (a2 : D) : runG (g_RightHanded__joined) (ro0 2 [a1, a2]) out0 = PL_RightHanded__joined [a1, a2] := by kernel_rfl
theorem rs_RightHanded__joined : RS 7 [false, false, false] m_RightHanded__joined (g_RightHanded__joined) :=
    (rs_seq (rs_if (rt_and (rt_bool (RE.up (s' := 3) (re_op eqP_ok (RE.up (s' := 3) (re_op ixP_ok (RE.up (s' := 3) (re_varD 1) rfl) (RE.up (s' := 3) (re_c (.int 0)) rfl)) rfl) (RE.up (s' := 3) (re_c (.str (Str.ofString "/"))) rfl)) rfl)) (rt_and (rt_bool (RE.up (s' := 3) (re_op eqP_ok (RE.up (s' := 3) (re_op ixP_ok (RE.up (s' := 3) (re_varD 2) rfl) (RE.up (s' := 3) (re_c (.int 0)) rfl)) rfl) (RE.up (s' := 3) (re_c (.str (Str.ofString "/"))) rfl)) rfl)) (rt_bool (RE.up (s' := 3) (re_op eqP_ok (RE.up (s' := 3) (re_op ixP_ok (RE.up (s' := 3) (re_varD 1) rfl) (RE.up (s' := 3) (re_c (.int 2)) rfl)) rfl) (RE.up (s' := 3) (re_op ixP_ok (RE.up (s' := 3) (re_varD 2) rfl) (RE.up (s' := 3) (re_c (.int 1)) rfl)) rfl)) rfl)))) (rs_ret (RE.up (s' := 7) (re_tup (ra_cons (re_c (.str (Str.ofString "/"))) (ra_cons (re_op ixP_ok (RE.up (s' := 3) (re_varD 1) rfl) (RE.up (s' := 3) (re_c (.int 1)) rfl)) (ra_cons (re_op ixP_ok (RE.up (s' := 3) (re_varD 2) rfl) (RE.up (s' := 3) (re_c (.int 2)) rfl)) ra_nil)))) rfl)) rs_nx)
    (rs_ret (RE.up (s' := 7) (re_c .none) rfl)))
noncomputable def g_RightHanded__meant : GSx :=
    (gsRet (gCall [false, false, false, false, false] [.d, .d, .d] W_handed_on (gaCons (gVarD 2) (gaCons (gVarD 3) (gaCons (gVarD 4) gaNil)))))
theorem e_RightHanded__meant (a1 : D) (a2 : D) (a3 : D) (a4 : D) : runG (g_RightHanded__meant) (ro0 4 [a1, a2, a3, a4]) out0 = PL_RightHanded__meant [a1, a2, a3, a4] := by kernel_rfl
theorem rs_RightHanded__meant : RS 7 [false, false, false, false, false] m_RightHanded__meant (g_RightHanded__meant) :=
    (rs_ret (RE.up (s' := 7) (re_call (ks := [.d, .d, .d]) sp_handed_on (ra_cons (re_varD 2) (ra_cons (re_varD 3) (ra_cons (re_varD 4) ra_nil)))) rfl))
noncomputable def g_LeftHanded__sign : GSx :=
    (gsRet (gC (.str (Str.ofString "<<"))))
theorem e_LeftHanded__sign : runG (g_LeftHanded__sign) (ro0 0 []) out0 = PL_LeftHanded__sign [] := by kernel_rfl
theorem rs_LeftHanded__sign : RS 7 [false] m_LeftHanded__sign (g_LeftHanded__sign) :=
    (rs_ret (RE.up (s' := 7) (re_c (.str (Str.ofString "<<"))) rfl))
noncomputable def g_LeftHanded__joined : GSx :=
    (gsSeq (gsIf (gtAnd (gBool (gOp (eqP false) (gOp ixP (gVarD 1) (gC (.int 0))) (gC (.str (Str.ofString "\\"))))) (gtAnd (gBool (gOp (eqP false) (gOp ixP (gVarD 2) (gC (.int 0))) (gC (.str (Str.ofString "\\"))))) (gBool (gOp (eqP false) (gOp ixP (gVarD 2) (gC (.int 2))) (gOp ixP (gVarD 1) (gC (.int 1))))))) (gsRet (gTup (gaCons (gC (.str (Str.ofString "\\"))) (gaCons (gOp ixP (gVarD 2) (gC (.int 1))) (gaCons (gOp ixP (gVarD 1) (gC (.int 2))) gaNil))))) gsNx)
    (gsRet (gC .none)))
theorem e_LeftHanded__joined (a1 : D) (a2 : D) : runG (g_LeftHanded__joined) (ro0 2 [a1, a2]) out0 = PL_LeftHanded__joined [a1, a2] := by kernel_rfl
theorem rs_LeftHanded__joined : RS 7 [false, false, false] m_LeftHanded__joined (g_LeftHanded__joined) :=
    (rs_seq (rs_if (rt_and (rt_bool (RE.up (s' := 3) (re_op eqP_ok (RE.up (s' := 3) (re_op ixP_ok (RE.up (s' := 3) (re_varD 1) rfl) (RE.up (s' := 3) (re_c (.int 0)) rfl)) rfl) (RE.up (s' := 3) (re_c (.str (Str.ofString "\\"))) rfl)) rfl)) (rt_and (rt_bool (RE.up (s' := 3) (re_op eqP_ok (RE.up (s' := 3) (re_op ixP_ok (RE.up (s' := 3) (re_varD 2) rfl) (RE.up (s' := 3) (re_c (.int 0)) rfl)) rfl) (RE.up (s' := 3) (re_c (.str (Str.ofString "\\"))) rfl)) rfl)) (rt_bool (RE.up (s' := 3) (re_op eqP_ok (RE.up (s' := 3) (re_op ixP_ok (RE.up (s' := 3) (re_varD 2) rfl) (RE.up (s' := 3) (re_c (.int 2)) rfl)) rfl) (RE.up (s' := 3) (re_op ixP_ok (RE.up (s' := 3) (re_varD 1) rfl) (RE.up (s' := 3) (re_c (.int 1)) rfl)) rfl)) rfl)))) (rs_ret (RE.up (s' := 7) (re_tup (ra_cons (re_c (.str (Str.ofString "\\"))) (ra_cons (re_op ixP_ok (RE.up (s' := 3) (re_varD 2) rfl) (RE.up (s' := 3) (re_c (.int 1)) rfl)) (ra_cons (re_op ixP_ok (RE.up (s' := 3) (re_varD 1) rfl) (RE.up (s' := 3) (re_c (.int 2)) rfl)) ra_nil)))) rfl)) rs_nx)
    (rs_ret (RE.up (s' := 7) (re_c .none) rfl)))
noncomputable def g_LeftHanded__meant : GSx :=
    (gsRet (gCall [false, false, false, false, false] [.d, .d, .d] W_handed_on (gaCons (gVarD 1) (gaCons (gVarD 4) (gaCons (gVarD 3) gaNil)))))
theorem e_LeftHanded__meant (a1 : D) (a2 : D) (a3 : D) (a4 : D) : runG (g_LeftHanded__meant) (ro0 4 [a1, a2, a3, a4]) out0 = PL_LeftHanded__meant [a1, a2, a3, a4] := by kernel_rfl
theorem rs_LeftHanded__meant : RS 7 [false, false, false, false, false] m_LeftHanded__meant (g_LeftHanded__meant) :=
    (rs_ret (RE.up (s' := 7) (re_call (ks := [.d, .d, .d]) sp_handed_on (ra_cons (re_varD 1) (ra_cons (re_varD 4) (ra_cons (re_varD 3) ra_nil)))) rfl))
noncomputable def W_made : GFn := dataW 2 PL_made
theorem sp_made : SpG F_made 2 W_made := sp_data 2 PL_made
noncomputable def W_meant : GFn := dataW 5 PL_meant
theorem sp_meant : SpG F_meant 2 W_meant := sp_data 5 PL_meant
noncomputable def g_unknown__word : GSx :=
    (gsRet (gTup (gaCons (gC (.str (Str.ofString "leaf"))) (gaCons (gVarD 0) (gaCons (gVarD 1) gaNil)))))
noncomputable def W_unknown__word : GFn := fun γ avs K => match avs with
  | [.d a0, .d a1] => (P_unknown__word a0 a1).bind fun r => K r []
  | _ => .bad
theorem e_unknown__word (a0 : D) (a1 : D) : runG (g_unknown__word) (init0 2 [.d a0, .d a1]) out0 = P_unknown__word a0 a1 := by kernel_rfl
theorem rs_unknown__word : RS 7 [false, false] m_unknown__word (g_unknown__word) :=
    (rs_ret (RE.up (s' := 7) (re_tup (ra_cons (re_c (.str (Str.ofString "leaf"))) (ra_cons (re_varD 0) (ra_cons (re_varD 1) ra_nil)))) rfl))
theorem sp_unknown__word : SpG F_unknown__word 2 W_unknown__word := by
  intro γ m ws avs J K hcl hA hn hd nb
  unfold W_unknown__word at nb ⊢
  split at nb
  · rename_i a0 a1
    exact sp_fin (s := 2) (N := 2) (res := id) (us := fun _ => []) rs_unknown__word rfl hcl hA hn hd (e_unknown__word a0 a1) (out0_ok rfl) nb
  · exact absurd rfl nb
noncomputable def g_meant_by (w_meant_by : GFn) : GSx :=
    (gsSeq (gsIf (gBool (gOp (eqP false) (gOp ixP (gVarD 0) (gC (.int 0))) (gC (.str (Str.ofString "word"))))) (gsRet (gTup (gaCons (gOp ixP (gVarD 0) (gC (.int 2))) (gaCons (gCall [false, false, true, true, true, true] [.d, .d] W_unknown__word (gaCons (gOp ixP (gVarD 0) (gC (.int 1))) (gaCons (gOp ixP (gVarD 0) (gC (.int 2))) gaNil))) gaNil)))) gsNx)
    (gsSeq (gsAsg (gCall [false, false, true, true, true, true] [.d] w_meant_by (gaCons (gOp ixP (gVarD 0) (gC (.int 1))) gaNil)) (gtTup (gtsCons (gtSet 2) (gtsCons (gtSet 3) gtsNil))))
    (gsSeq (gsAsg (gCall [false, false, true, true, true, true] [.d] w_meant_by (gaCons (gOp ixP (gVarD 0) (gC (.int 2))) gaNil)) (gtTup (gtsCons (gtSet 4) (gtsCons (gtSet 5) gtsNil))))
    (gsRet (gTup (gaCons (gOp ixP (gCall [false, false, true, true, true, true] [.d, .d] W_made (gaCons (gVarD 2) (gaCons (gVarD 4) gaNil))) (gC (.int 1))) (gaCons (gCall [false, false, true, true, true, true] [.d, .d, .d, .d, .d] W_meant (gaCons (gOp ixP (gVarD 0) (gC (.int 0))) (gaCons (gVarD 2) (gaCons (gVarD 4) (gaCons (gVarD 3) (gaCons (gVarD 5) gaNil)))))) gaNil)))))))
noncomputable def W_meant_by (n : Nat) : GFn := fun γ avs K => match avs with
  | [.d a0] => (P_meant_by n a0).bind fun r => K r []
  | _ => .bad
theorem e_meant_by (n : Nat) (a0 : D) : runG (g_meant_by (W_meant_by n)) (init0 6 [.d a0]) out0 = B_meant_by (P_meant_by n) a0 := by kernel_rfl
theorem rs_meant_by {n : Nat} (ih_meant_by : SpG (F_meant_by n) 2 (W_meant_by n)) : RS 7 [false, false, true, true, true, true] (m_meant_by (F_meant_by n)) (g_meant_by (W_meant_by n)) :=
    (rs_seq (rs_if (rt_bool (RE.up (s' := 3) (re_op eqP_ok (RE.up (s' := 3) (re_op ixP_ok (RE.up (s' := 3) (re_varD 0) rfl) (RE.up (s' := 3) (re_c (.int 0)) rfl)) rfl) (RE.up (s' := 3) (re_c (.str (Str.ofString "word"))) rfl)) rfl)) (rs_ret (RE.up (s' := 7) (re_tup (ra_cons (re_op ixP_ok (RE.up (s' := 3) (re_varD 0) rfl) (RE.up (s' := 3) (re_c (.int 2)) rfl)) (ra_cons (re_frz (re_call (ks := [.d, .d]) sp_unknown__word (ra_cons (re_op ixP_ok (RE.up (s' := 3) (re_varD 0) rfl) (RE.up (s' := 3) (re_c (.int 1)) rfl)) (ra_cons (re_op ixP_ok (RE.up (s' := 3) (re_varD 0) rfl) (RE.up (s' := 3) (re_c (.int 2)) rfl)) ra_nil)))) ra_nil))) rfl)) rs_nx)
    (rs_seq (rs_asg (re_frz (re_call (ks := [.d]) ih_meant_by (ra_cons (re_op ixP_ok (RE.up (s' := 3) (re_varD 0) rfl) (RE.up (s' := 3) (re_c (.int 1)) rfl)) ra_nil))) (rg_tup (rgs_cons (rg_set 2) (rgs_cons (rg_set 3) rgs_nil))))
    (rs_seq (rs_asg (re_frz (re_call (ks := [.d]) ih_meant_by (ra_cons (re_op ixP_ok (RE.up (s' := 3) (re_varD 0) rfl) (RE.up (s' := 3) (re_c (.int 2)) rfl)) ra_nil))) (rg_tup (rgs_cons (rg_set 4) (rgs_cons (rg_set 5) rgs_nil))))
    (rs_ret (RE.up (s' := 7) (re_tup (ra_cons (re_op ixP_ok (RE.up (s' := 3) (re_call (ks := [.d, .d]) sp_made (ra_cons (re_varD 2) (ra_cons (re_varD 4) ra_nil))) rfl) (RE.up (s' := 3) (re_c (.int 1)) rfl)) (ra_cons (re_frz (re_call (ks := [.d, .d, .d, .d, .d]) sp_meant (ra_cons (re_op ixP_ok (RE.up (s' := 3) (re_varD 0) rfl) (RE.up (s' := 3) (re_c (.int 0)) rfl)) (ra_cons (re_varD 2) (ra_cons (re_varD 4) (ra_cons (re_varD 3) (ra_cons (re_varD 5) ra_nil))))))) ra_nil))) rfl)))))
theorem ss_meant_by {n : Nat} (ih_meant_by : SpG (F_meant_by n) 2 (W_meant_by n)) : SpG (F_meant_by (n + 1)) 2 (W_meant_by (n + 1)) := by
  intro γ m ws avs J K hcl hA hn hd nb
  unfold W_meant_by at nb ⊢
  split at nb
  · rename_i a0
    exact sp_fin (s := 2) (N := 6) (res := id) (us := fun _ => []) (rs_meant_by ih_meant_by) rfl hcl hA hn hd (e_meant_by n a0) (out0_ok rfl) nb
  · exact absurd rfl nb
theorem sp_meant_by : ∀ n : Nat, SpG (F_meant_by n) 2 (W_meant_by n)
  | 0 => by
    intro γ m ws avs J K hcl hA hn hd nb
    exfalso
    unfold W_meant_by at nb
    split at nb
    · exact nb rfl
    · exact nb rfl
  | n + 1 => ss_meant_by (sp_meant_by n)
noncomputable def g_unknown : GSx :=
    (gsRet (gOp ixP (gCall [false] [.d] (W_meant_by 40) (gaCons (gVarD 0) gaNil)) (gC (.int 1))))
noncomputable def W_unknown : GFn := fun γ avs K => match avs with
  | [.d a0] => (P_unknown a0).bind fun r => K r []
  | _ => .bad
theorem e_unknown (a0 : D) : runG (g_unknown) (init0 1 [.d a0]) out0 = P_unknown a0 := by kernel_rfl
theorem rs_unknown : RS 7 [false] m_unknown (g_unknown) :=
    (rs_ret (RE.up (s' := 7) (re_op ixP_ok (RE.up (s' := 3) (re_call (ks := [.d]) (sp_meant_by 40) (ra_cons (re_varD 0) ra_nil)) rfl) (RE.up (s' := 3) (re_c (.int 1)) rfl)) rfl))
theorem sp_unknown : SpG F_unknown 2 W_unknown := by
  intro γ m ws avs J K hcl hA hn hd nb
  unfold W_unknown at nb ⊢
  split at nb
  · rename_i a0
    exact sp_fin (s := 2) (N := 1) (res := id) (us := fun _ => []) rs_unknown rfl hcl hA hn hd (e_unknown a0) (out0_ok rfl) nb
  · exact absurd rfl nb
noncomputable def g__law_spelled : GSx :=
    (gsSeq (gsAsg (gC (.str (Str.ofString ""))) (gtSet 2))
    (gsSeq (gsFor [(0, .d), (2, .d)] [true, false, true, true] (giCa rng1P (gaCons (gVarD 1) gaNil)) (gtSet 3) (gsSeq (gsAsg (gOp addP (gVarD 2) (gOp ixP (gC (.str (Str.ofString "abcdefghijklmnopqrstuvwxyz"))) (gOp modP (gVarD 0) (gC (.int 26))))) (gtSet 2))
    (gsAsg (gOp divP (gVarD 0) (gC (.int 26))) (gtSet 0))))
    (gsRet (gVarD 2))))
noncomputable def W__law_spelled : GFn := fun γ avs K => match avs with
  | [.d a0, .d a1] => (P__law_spelled a0 a1).bind fun r => K r []
  | _ => .bad
theorem e__law_spelled (a0 : D) (a1 : D) : runG (g__law_spelled) (init0 4 [.d a0, .d a1]) out0 = P__law_spelled a0 a1 := by kernel_rfl
theorem rs__law_spelled : RS 7 [true, false, true, true] m__law_spelled (g__law_spelled) :=
    (rs_seq (rs_asg (re_c (.str (Str.ofString ""))) (rg_set 2))
    (rs_seq (rs_for (ds := [(0, .d), (2, .d)]) (mb := [true, false, true, true]) (ri_range1 (ra_cons (RE.up (s' := 3) (re_varD 1) rfl) ra_nil)) (rg_set 3) (rs_seq (rs_asg (re_frz (RE.up (s' := 2) (re_op addAP_ok (RE.up (s' := 3) (re_varD 2) rfl) (RE.up (s' := 3) (re_op ixP_ok (RE.up (s' := 3) (re_c (.str (Str.ofString "abcdefghijklmnopqrstuvwxyz"))) rfl) (RE.up (s' := 3) (re_op modP_ok (RE.up (s' := 3) (re_varD 0) rfl) (RE.up (s' := 3) (re_c (.int 26)) rfl)) rfl)) rfl)) rfl)) (rg_set 2))
    (rs_asg (re_op divP_ok (RE.up (s' := 3) (re_varD 0) rfl) (RE.up (s' := 3) (re_c (.int 26)) rfl)) (rg_set 0))))
    (rs_ret (RE.up (s' := 7) (re_varD 2) rfl))))
theorem sp__law_spelled : SpG F__law_spelled 2 W__law_spelled := by
  intro γ m ws avs J K hcl hA hn hd nb
  unfold W__law_spelled at nb ⊢
  split at nb
  · rename_i a0 a1
    exact sp_fin (s := 2) (N := 4) (res := id) (us := fun _ => []) rs__law_spelled rfl hcl hA hn hd (e__law_spelled a0 a1) (out0_ok rfl) nb
  · exact absurd rfl nb
noncomputable def g__law_word (fw : Nat) : GSx :=
    (gsSeq (gsAsg (gCall [true, false, true, true, true, true, true] [.k] W__law_next (gaCons (gVarO 0) gaNil)) (gtSet 2))
    (gsSeq (gsAsg (gCall [true, false, true, true, true, true, true] [.k] W__law_next (gaCons (gVarO 0) gaNil)) (gtSet 3))
    (gsSeq (gsAsg (gOp addSP (gC (.int 1)) (gOp modP (gVarD 2) (gC (.int 8)))) (gtSet 4))
    (gsSeq (gsAsg (gCall [true, false, true, true, true, true, true] [.d, .d] W__law_spelled (gaCons (gVarD 3) (gaCons (gVarD 4) gaNil))) (gtSet 5))
    (gsSeq (gsIf (gtAnd (gBool (gOp (eqP true) (gVarB 1) (gLst gaNil))) (gBool (gOp (eqP false) (gOp modP (gOp divP (gVarD 2) (gC (.int 8))) (gC (.int 2))) (gC (.int 1))))) (gsSeq (gsAsg (gOp modP (gOp divP (gVarD 2) (gC (.int 16))) (gCa lenP (gaCons (gOp ixP (gVarB 1) (gC (.int 0))) gaNil))) (gtSet 6))
    (gsAsg (gOp addP (gOp addP (gSl (gOp ixP (gVarB 1) (gC (.int 0))) goNone (goSome (gVarD 6))) (gOp ixP (gVarD 5) (gC (.int 0)))) (gSl (gOp ixP (gVarB 1) (gC (.int 0))) (goSome (gOp addSP (gVarD 6) (gC (.int 1)))) goNone)) (gtSet 5))) gsNx)
    (gsSeq (gsWhile [(3, .d), (4, .d), (5, .d)] [false, false, false, true, true, true, false] (gtOr (gBool (gOp (inP false) (gVarD 5) (gVarB 1))) (gBool (gOp (eqP false) (gVarD 5) (gC (.str (Str.ofString "any")))))) (gsSeq (gsAsg (gOp addSP (gVarD 3) (gC (.int 1))) (gtSet 3))
    (gsSeq (gsAsg (gOp addSP (gOp modP (gVarD 4) (gC (.int 8))) (gC (.int 1))) (gtSet 4))
    (gsAsg (gCall [false, false, false, true, true, true, false] [.d, .d] W__law_spelled (gaCons (gVarD 3) (gaCons (gVarD 4) gaNil))) (gtSet 5)))) fw)
    (gsRet (gVarD 5))))))))
noncomputable def W__law_word : GFn := fun γ avs K => match avs with
  | [.k i0 a0, .b a1] => (P__law_word a0 a1).bind fun r => K r.1 [(i0, .k r.2)]
  | _ => .bad
theorem e__law_word (fw : Nat) (a0 : Dk) (i0 : Nat) (a1 : List D) : runG (g__law_word fw) (init0 7 [.k i0 a0, .b a1]) (outK 0) = PF__law_word fw a0 a1 := by kernel_rfl
theorem rs__law_word : RS 7 [true, false, true, true, true, true, true] m__law_word (g__law_word fuelW) :=
    (rs_seq (rs_asg (re_frz (re_call (ks := [.k]) sp__law_next (ra_cons (re_objV (s := 4) 0) ra_nil))) (rg_set 2))
    (rs_seq (rs_asg (re_frz (re_call (ks := [.k]) sp__law_next (ra_cons (re_objV (s := 4) 0) ra_nil))) (rg_set 3))
    (rs_seq (rs_asg (re_op addASP_ok (RE.up (s' := 3) (re_c (.int 1)) rfl) (RE.up (s' := 3) (re_op modP_ok (RE.up (s' := 3) (re_varD 2) rfl) (RE.up (s' := 3) (re_c (.int 8)) rfl)) rfl)) (rg_set 4))
    (rs_seq (rs_asg (re_frz (re_call (ks := [.d, .d]) sp__law_spelled (ra_cons (re_varD 3) (ra_cons (re_varD 4) ra_nil)))) (rg_set 5))
    (rs_seq (rs_if (rt_and (rt_bool (RE.up (s' := 3) (re_op eqP_ok (RE.up (s' := 3) (re_varB 1) rfl) (RE.up (s' := 3) (re_lst ra_nil) rfl)) rfl)) (rt_bool (RE.up (s' := 3) (re_op eqP_ok (RE.up (s' := 3) (re_op modP_ok (RE.up (s' := 3) (re_op divP_ok (RE.up (s' := 3) (re_varD 2) rfl) (RE.up (s' := 3) (re_c (.int 8)) rfl)) rfl) (RE.up (s' := 3) (re_c (.int 2)) rfl)) rfl) (RE.up (s' := 3) (re_c (.int 1)) rfl)) rfl))) (rs_seq (rs_asg (re_op modP_ok (RE.up (s' := 3) (re_op divP_ok (RE.up (s' := 3) (re_varD 2) rfl) (RE.up (s' := 3) (re_c (.int 16)) rfl)) rfl) (RE.up (s' := 3) (re_ca lenP_ok (ra_cons (RE.up (s' := 3) (re_op ixP_ok (RE.up (s' := 3) (re_varB 1) rfl) (RE.up (s' := 3) (re_c (.int 0)) rfl)) rfl) ra_nil)) rfl)) (rg_set 6))
    (rs_asg (re_frz (RE.up (s' := 2) (re_op addAP_ok (RE.up (s' := 3) (re_op addAP_ok (RE.up (s' := 3) (re_sl (RE.up (s' := 3) (re_op ixP_ok (RE.up (s' := 3) (re_varB 1) rfl) (RE.up (s' := 3) (re_c (.int 0)) rfl)) rfl) ro_none (ro_some (RE.up (s' := 3) (re_varD 6) rfl))) rfl) (RE.up (s' := 3) (re_op ixP_ok (RE.up (s' := 3) (re_varD 5) rfl) (RE.up (s' := 3) (re_c (.int 0)) rfl)) rfl)) rfl) (RE.up (s' := 3) (re_sl (RE.up (s' := 3) (re_op ixP_ok (RE.up (s' := 3) (re_varB 1) rfl) (RE.up (s' := 3) (re_c (.int 0)) rfl)) rfl) (ro_some (RE.up (s' := 3) (re_op addASP_ok (RE.up (s' := 3) (re_varD 6) rfl) (RE.up (s' := 3) (re_c (.int 1)) rfl)) rfl)) ro_none) rfl)) rfl)) (rg_set 5))) rs_nx)
    (rs_seq (rs_while (ds := [(3, .d), (4, .d), (5, .d)]) (mb := [false, false, false, true, true, true, false]) fuelW (rt_or (rt_bool (RE.up (s' := 3) (re_op inP_ok (RE.up (s' := 3) (re_varD 5) rfl) (RE.up (s' := 3) (re_varB 1) rfl)) rfl)) (rt_bool (RE.up (s' := 3) (re_op eqP_ok (RE.up (s' := 3) (re_varD 5) rfl) (RE.up (s' := 3) (re_c (.str (Str.ofString "any"))) rfl)) rfl))) (rs_seq (rs_asg (re_op addASP_ok (RE.up (s' := 3) (re_varD 3) rfl) (RE.up (s' := 3) (re_c (.int 1)) rfl)) (rg_set 3))
    (rs_seq (rs_asg (re_op addASP_ok (RE.up (s' := 3) (re_op modP_ok (RE.up (s' := 3) (re_varD 4) rfl) (RE.up (s' := 3) (re_c (.int 8)) rfl)) rfl) (RE.up (s' := 3) (re_c (.int 1)) rfl)) (rg_set 4))
    (rs_asg (re_frz (re_call (ks := [.d, .d]) sp__law_spelled (ra_cons (re_varD 3) (ra_cons (re_varD 4) ra_nil)))) (rg_set 5)))))
    (rs_ret (RE.up (s' := 7) (re_varD 5) rfl))))))))
theorem sp__law_word : SpG F__law_word 2 W__law_word := by
  intro γ m ws avs J K hcl hA hn hd nb
  unfold W__law_word at nb ⊢
  split at nb
  · rename_i i0 a0 a1
    exact sp_fin (s := 2) (N := 7) (res := Prod.fst) (us := fun r => [(i0, .k r.2)]) rs__law_word rfl hcl hA hn hd (e__law_word fuelW a0 i0 a1) (outK_ok (a := 0) rfl rfl) nb
  · exact absurd rfl nb
noncomputable def g__law_words : GSx :=
    (gsSeq (gsAsgL (gLst gaNil) 2)
    (gsSeq (gsFor [(0, .k true), (2, .l false)] [true, false, true, true] (giCa rng1P (gaCons (gVarD 1) gaNil)) (gtSet 3) (gsDrop (gMu appendP 2 (gaCons (gCall [true, false, true, true] [.k, .b] W__law_word (gaCons (gVarO 0) (gaCons (gVarO 2) gaNil))) gaNil))))
    (gsRet (gVarO 2))))
noncomputable def W__law_words : GFn := fun γ avs K => match avs with
  | [.k i0 a0, .d a1] => (P__law_words a0 a1).bind fun r => K r.1 [(i0, .k r.2)]
  | _ => .bad
theorem e__law_words (a0 : Dk) (i0 : Nat) (a1 : D) : runG (g__law_words) (init0 4 [.k i0 a0, .d a1]) (outK 0) = P__law_words a0 a1 := by kernel_rfl
theorem rs__law_words : RS 7 [true, false, true, true] m__law_words (g__law_words) :=
    (rs_seq (rs_asgL 2 (re_lst ra_nil))
    (rs_seq (rs_for (ds := [(0, .k true), (2, .l false)]) (mb := [true, false, true, true]) (ri_range1 (ra_cons (RE.up (s' := 3) (re_varD 1) rfl) ra_nil)) (rg_set 3) (rs_drop (RE.up (s' := 3) (re_mu appendP_ok 2 (ra_cons (re_frz (re_call (ks := [.k, .b]) sp__law_word (ra_cons (re_objV (s := 4) 0) (ra_cons (re_varO (s := 4) 2 rfl) ra_nil)))) ra_nil)) rfl)))
    (rs_ret (re_varO (s := 7) 2 rfl))))
theorem sp__law_words : SpG F__law_words 2 W__law_words := by
  intro γ m ws avs J K hcl hA hn hd nb
  unfold W__law_words at nb ⊢
  split at nb
  · rename_i i0 a0 a1
    exact sp_fin (s := 2) (N := 4) (res := Prod.fst) (us := fun r => [(i0, .k r.2)]) rs__law_words rfl hcl hA hn hd (e__law_words a0 i0 a1) (outK_ok (a := 0) rfl rfl) nb
  · exact absurd rfl nb
noncomputable def g__law_wide (w__law_wide : GFn) : GSx :=
    (gsSeq (gsIf (gBool (gOp (eqP false) (gOp ixP (gVarD 0) (gC (.int 0))) (gC (.str (Str.ofString "basic"))))) (gsRet (gC (.int 1))) gsNx)
    (gsRet (gOp addP (gCall [false] [.d] w__law_wide (gaCons (gOp ixP (gVarD 0) (gC (.int 1))) gaNil)) (gCall [false] [.d] w__law_wide (gaCons (gOp ixP (gVarD 0) (gC (.int 2))) gaNil)))))
noncomputable def W__law_wide (n : Nat) : GFn := fun γ avs K => match avs with
  | [.d a0] => (P__law_wide n a0).bind fun r => K r []
  | _ => .bad
theorem e__law_wide (n : Nat) (a0 : D) : runG (g__law_wide (W__law_wide n)) (init0 1 [.d a0]) out0 = B__law_wide (P__law_wide n) a0 := by kernel_rfl
theorem rs__law_wide {n : Nat} (ih__law_wide : SpG (F__law_wide n) 2 (W__law_wide n)) : RS 7 [false] (m__law_wide (F__law_wide n)) (g__law_wide (W__law_wide n)) :=
    (rs_seq (rs_if (rt_bool (RE.up (s' := 3) (re_op eqP_ok (RE.up (s' := 3) (re_op ixP_ok (RE.up (s' := 3) (re_varD 0) rfl) (RE.up (s' := 3) (re_c (.int 0)) rfl)) rfl) (RE.up (s' := 3) (re_c (.str (Str.ofString "basic"))) rfl)) rfl)) (rs_ret (RE.up (s' := 7) (re_c (.int 1)) rfl)) rs_nx)
    (rs_ret (RE.up (s' := 7) (re_op addAP_ok (RE.up (s' := 3) (re_call (ks := [.d]) ih__law_wide (ra_cons (re_op ixP_ok (RE.up (s' := 3) (re_varD 0) rfl) (RE.up (s' := 3) (re_c (.int 1)) rfl)) ra_nil)) rfl) (RE.up (s' := 3) (re_call (ks := [.d]) ih__law_wide (ra_cons (re_op ixP_ok (RE.up (s' := 3) (re_varD 0) rfl) (RE.up (s' := 3) (re_c (.int 2)) rfl)) ra_nil)) rfl)) rfl)))
theorem ss__law_wide {n : Nat} (ih__law_wide : SpG (F__law_wide n) 2 (W__law_wide n)) : SpG (F__law_wide (n + 1)) 2 (W__law_wide (n + 1)) := by
  intro γ m ws avs J K hcl hA hn hd nb
  unfold W__law_wide at nb ⊢
  split at nb
  · rename_i a0
    exact sp_fin (s := 2) (N := 1) (res := id) (us := fun _ => []) (rs__law_wide ih__law_wide) rfl hcl hA hn hd (e__law_wide n a0) (out0_ok rfl) nb
  · exact absurd rfl nb
theorem sp__law_wide : ∀ n : Nat, SpG (F__law_wide n) 2 (W__law_wide n)
  | 0 => by
    intro γ m ws avs J K hcl hA hn hd nb
    exfalso
    unfold W__law_wide at nb
    split at nb
    · exact nb rfl
    · exact nb rfl
  | n + 1 => ss__law_wide (sp__law_wide n)
noncomputable def g__law_other : GSx :=
    (gsSeq (gsAsg (gCall [true, false, false, true, true] [.k] W__law_next (gaCons (gVarO 0) gaNil)) (gtSet 3))
    (gsSeq (gsAsg (gTup (gaCons (gC (.str (Str.ofString "basic"))) (gaCons (gOp ixP (gVarD 1) (gOp modP (gVarD 3) (gCa lenP (gaCons (gVarD 1) gaNil)))) gaNil))) (gtSet 4))
    (gsSeq (gsIf (gtOr (gBool (gOp gtP (gOp modP (gOp divP (gVarD 3) (gC (.int 3))) (gC (.int 4))) (gC (.int 0)))) (gBool (gOp gtP (gCall [true, false, false, true, true] [.d] (W__law_wide 40) (gaCons (gVarD 2) gaNil)) (gC (.int 3))))) (gsRet (gVarD 4)) gsNx)
    (gsRet (gTup (gaCons (gOp ixP (gLst (gaCons (gC (.str (Str.ofString "/"))) (gaCons (gC (.str (Str.ofString "\\"))) gaNil))) (gOp modP (gOp divP (gVarD 3) (gC (.int 12))) (gC (.int 2)))) (gaCons (gVarD 4) (gaCons (gTup (gaCons (gC (.str (Str.ofString "basic"))) (gaCons (gOp ixP (gVarD 1) (gOp modP (gOp divP (gVarD 3) (gC (.int 24))) (gCa lenP (gaCons (gVarD 1) gaNil)))) gaNil))) gaNil))))))))
noncomputable def W__law_other : GFn := fun γ avs K => match avs with
  | [.k i0 a0, .d a1, .d a2] => (P__law_other a0 a1 a2).bind fun r => K r.1 [(i0, .k r.2)]
  | _ => .bad
theorem e__law_other (a0 : Dk) (i0 : Nat) (a1 : D) (a2 : D) : runG (g__law_other) (init0 5 [.k i0 a0, .d a1, .d a2]) (outK 0) = P__law_other a0 a1 a2 := by kernel_rfl
theorem rs__law_other : RS 7 [true, false, false, true, true] m__law_other (g__law_other) :=
    (rs_seq (rs_asg (re_frz (re_call (ks := [.k]) sp__law_next (ra_cons (re_objV (s := 4) 0) ra_nil))) (rg_set 3))
    (rs_seq (rs_asg (re_tup (ra_cons (re_c (.str (Str.ofString "basic"))) (ra_cons (re_op ixP_ok (RE.up (s' := 3) (re_varD 1) rfl) (RE.up (s' := 3) (re_op modP_ok (RE.up (s' := 3) (re_varD 3) rfl) (RE.up (s' := 3) (re_ca lenP_ok (ra_cons (RE.up (s' := 3) (re_varD 1) rfl) ra_nil)) rfl)) rfl)) ra_nil))) (rg_set 4))
    (rs_seq (rs_if (rt_or (rt_bool (RE.up (s' := 3) (re_op gtP_ok (RE.up (s' := 3) (re_op modP_ok (RE.up (s' := 3) (re_op divP_ok (RE.up (s' := 3) (re_varD 3) rfl) (RE.up (s' := 3) (re_c (.int 3)) rfl)) rfl) (RE.up (s' := 3) (re_c (.int 4)) rfl)) rfl) (RE.up (s' := 3) (re_c (.int 0)) rfl)) rfl)) (rt_bool (RE.up (s' := 3) (re_op gtP_ok (RE.up (s' := 3) (re_call (ks := [.d]) (sp__law_wide 40) (ra_cons (re_varD 2) ra_nil)) rfl) (RE.up (s' := 3) (re_c (.int 3)) rfl)) rfl))) (rs_ret (RE.up (s' := 7) (re_varD 4) rfl)) rs_nx)
    (rs_ret (RE.up (s' := 7) (re_tup (ra_cons (re_op ixP_ok (RE.up (s' := 3) (re_lst (ra_cons (re_c (.str (Str.ofString "/"))) (ra_cons (re_c (.str (Str.ofString "\\"))) ra_nil))) rfl) (RE.up (s' := 3) (re_op modP_ok (RE.up (s' := 3) (re_op divP_ok (RE.up (s' := 3) (re_varD 3) rfl) (RE.up (s' := 3) (re_c (.int 12)) rfl)) rfl) (RE.up (s' := 3) (re_c (.int 2)) rfl)) rfl)) (ra_cons (re_varD 4) (ra_cons (re_tup (ra_cons (re_c (.str (Str.ofString "basic"))) (ra_cons (re_op ixP_ok (RE.up (s' := 3) (re_varD 1) rfl) (RE.up (s' := 3) (re_op modP_ok (RE.up (s' := 3) (re_op divP_ok (RE.up (s' := 3) (re_varD 3) rfl) (RE.up (s' := 3) (re_c (.int 24)) rfl)) rfl) (RE.up (s' := 3) (re_ca lenP_ok (ra_cons (RE.up (s' := 3) (re_varD 1) rfl) ra_nil)) rfl)) rfl)) ra_nil))) ra_nil)))) rfl)))))
theorem sp__law_other : SpG F__law_other 2 W__law_other := by
  intro γ m ws avs J K hcl hA hn hd nb
  unfold W__law_other at nb ⊢
  split at nb
  · rename_i i0 a0 a1 a2
    exact sp_fin (s := 2) (N := 5) (res := Prod.fst) (us := fun r => [(i0, .k r.2)]) rs__law_other rfl hcl hA hn hd (e__law_other a0 i0 a1 a2) (outK_ok (a := 0) rfl rfl) nb
  · exact absurd rfl nb
noncomputable def g__law_tree (w__law_tree : GFn) : GSx :=
    (gsSeq (gsIf (gBool (gOp ltP (gVarD 4) (gC (.int 2)))) (gsRet (gTup (gaCons (gC (.str (Str.ofString "word"))) (gaCons (gVarD 3) (gaCons (gVarD 2) gaNil))))) gsNx)
    (gsSeq (gsAsg (gOp addSP (gC (.int 1)) (gOp modP (gCall [true, false, false, false, false, true, true, true, true, true, true] [.k] W__law_next (gaCons (gVarO 0) gaNil)) (gOp subP (gVarD 4) (gC (.int 1))))) (gtSet 5))
    (gsSeq (gsAsg (gCall [true, false, false, false, false, true, true, true, true, true, true] [.k] W__law_next (gaCons (gVarO 0) gaNil)) (gtSet 6))
    (gsSeq (gsAsg (gCall [true, false, false, false, false, true, true, true, true, true, true] [.k, .d, .d] W__law_other (gaCons (gVarO 0) (gaCons (gVarD 1) (gaCons (gVarD 2) gaNil)))) (gtSet 7))
    (gsSeq (gsAsg (gC (.str (Str.ofString ">"))) (gtSet 8))
    (gsSeq (gsAsg (gTup (gaCons (gTup (gaCons (gC (.str (Str.ofString "/"))) (gaCons (gVarD 2) (gaCons (gVarD 7) gaNil)))) (gaCons (gVarD 7) gaNil))) (gtSet 9))
    (gsSeq (gsIf (gBool (gOp (eqP false) (gOp modP (gVarD 6) (gC (.int 2))) (gC (.int 1)))) (gsSeq (gsAsg (gC (.str (Str.ofString "<"))) (gtSet 8))
    (gsAsg (gTup (gaCons (gVarD 7) (gaCons (gTup (gaCons (gC (.str (Str.ofString "\\"))) (gaCons (gVarD 2) (gaCons (gVarD 7) gaNil)))) gaNil))) (gtSet 9))) gsNx)
    (gsSeq (gsIf (gtAnd (gBool (gOp (eqP false) (gOp ixP (gVarD 2) (gC (.int 0))) (gC (.str (Str.ofString "/"))))) (gtOr (gBool (gOp gtP (gOp modP (gVarD 6) (gC (.int 8))) (gC (.int 1)))) (gBool (gOp gtP (gCall [true, false, false, false, false, true, true, true, true, true, true] [.d] (W__law_wide 40) (gaCons (gVarD 2) gaNil)) (gC (.int 4)))))) (gsSeq (gsAsg (gC (.str (Str.ofString ">>"))) (gtSet 8))
    (gsAsg (gTup (gaCons (gTup (gaCons (gC (.str (Str.ofString "/"))) (gaCons (gOp ixP (gVarD 2) (gC (.int 1))) (gaCons (gVarD 7) gaNil)))) (gaCons (gTup (gaCons (gC (.str (Str.ofString "/"))) (gaCons (gVarD 7) (gaCons (gOp ixP (gVarD 2) (gC (.int 2))) gaNil)))) gaNil))) (gtSet 9))) gsNx)
    (gsSeq (gsIf (gtAnd (gBool (gOp (eqP false) (gOp ixP (gVarD 2) (gC (.int 0))) (gC (.str (Str.ofString "\\"))))) (gtOr (gBool (gOp gtP (gOp modP (gVarD 6) (gC (.int 8))) (gC (.int 1)))) (gBool (gOp gtP (gCall [true, false, false, false, false, true, true, true, true, true, true] [.d] (W__law_wide 40) (gaCons (gVarD 2) gaNil)) (gC (.int 4)))))) (gsSeq (gsAsg (gC (.str (Str.ofString "<<"))) (gtSet 8))
    (gsAsg (gTup (gaCons (gTup (gaCons (gC (.str (Str.ofString "\\"))) (gaCons (gVarD 7) (gaCons (gOp ixP (gVarD 2) (gC (.int 2))) gaNil)))) (gaCons (gTup (gaCons (gC (.str (Str.ofString "\\"))) (gaCons (gOp ixP (gVarD 2) (gC (.int 1))) (gaCons (gVarD 7) gaNil)))) gaNil))) (gtSet 9))) gsNx)
    (gsSeq (gsAsg (gCall [true, false, false, false, false, true, true, true, true, true, true] [.k, .d, .d, .d, .d] w__law_tree (gaCons (gVarO 0) (gaCons (gVarD 1) (gaCons (gOp ixP (gVarD 9) (gC (.int 0))) (gaCons (gVarD 3) (gaCons (gVarD 5) gaNil)))))) (gtSet 10))
    (gsRet (gTup (gaCons (gVarD 8) (gaCons (gVarD 10) (gaCons (gCall [true, false, false, false, false, true, true, true, true, true, true] [.k, .d, .d, .d, .d] w__law_tree (gaCons (gVarO 0) (gaCons (gVarD 1) (gaCons (gOp ixP (gVarD 9) (gC (.int 1))) (gaCons (gOp addP (gVarD 3) (gVarD 5)) (gaCons (gOp subP (gVarD 4) (gVarD 5)) gaNil)))))) gaNil)))))))))))))))
noncomputable def W__law_tree (n : Nat) : GFn := fun γ avs K => match avs with
  | [.k i0 a0, .d a1, .d a2, .d a3, .d a4] => (P__law_tree n a0 a1 a2 a3 a4).bind fun r => K r.1 [(i0, .k r.2)]
  | _ => .bad
theorem e__law_tree (n : Nat) (a0 : Dk) (i0 : Nat) (a1 : D) (a2 : D) (a3 : D) (a4 : D) : runG (g__law_tree (W__law_tree n)) (init0 11 [.k i0 a0, .d a1, .d a2, .d a3, .d a4]) (outK 0) = B__law_tree (P__law_tree n) a0 a1 a2 a3 a4 := by kernel_rfl
theorem rs__law_tree {n : Nat} (ih__law_tree : SpG (F__law_tree n) 2 (W__law_tree n)) : RS 7 [true, false, false, false, false, true, true, true, true, true, true] (m__law_tree (F__law_tree n)) (g__law_tree (W__law_tree n)) :=
    (rs_seq (rs_if (rt_bool (RE.up (s' := 3) (re_op ltP_ok (RE.up (s' := 3) (re_varD 4) rfl) (RE.up (s' := 3) (re_c (.int 2)) rfl)) rfl)) (rs_ret (RE.up (s' := 7) (re_tup (ra_cons (re_c (.str (Str.ofString "word"))) (ra_cons (re_varD 3) (ra_cons (re_varD 2) ra_nil)))) rfl)) rs_nx)
    (rs_seq (rs_asg (re_op addASP_ok (RE.up (s' := 3) (re_c (.int 1)) rfl) (RE.up (s' := 3) (re_op modP_ok (RE.up (s' := 3) (re_call (ks := [.k]) sp__law_next (ra_cons (re_objV (s := 4) 0) ra_nil)) rfl) (RE.up (s' := 3) (re_op subP_ok (RE.up (s' := 3) (re_varD 4) rfl) (RE.up (s' := 3) (re_c (.int 1)) rfl)) rfl)) rfl)) (rg_set 5))
    (rs_seq (rs_asg (re_frz (re_call (ks := [.k]) sp__law_next (ra_cons (re_objV (s := 4) 0) ra_nil))) (rg_set 6))
    (rs_seq (rs_asg (re_frz (re_call (ks := [.k, .d, .d]) sp__law_other (ra_cons (re_objV (s := 4) 0) (ra_cons (re_varD 1) (ra_cons (re_varD 2) ra_nil))))) (rg_set 7))
    (rs_seq (rs_asg (re_c (.str (Str.ofString ">"))) (rg_set 8))
    (rs_seq (rs_asg (re_tup (ra_cons (re_tup (ra_cons (re_c (.str (Str.ofString "/"))) (ra_cons (re_varD 2) (ra_cons (re_varD 7) ra_nil)))) (ra_cons (re_varD 7) ra_nil))) (rg_set 9))
    (rs_seq (rs_if (rt_bool (RE.up (s' := 3) (re_op eqP_ok (RE.up (s' := 3) (re_op modP_ok (RE.up (s' := 3) (re_varD 6) rfl) (RE.up (s' := 3) (re_c (.int 2)) rfl)) rfl) (RE.up (s' := 3) (re_c (.int 1)) rfl)) rfl)) (rs_seq (rs_asg (re_c (.str (Str.ofString "<"))) (rg_set 8))
    (rs_asg (re_tup (ra_cons (re_varD 7) (ra_cons (re_tup (ra_cons (re_c (.str (Str.ofString "\\"))) (ra_cons (re_varD 2) (ra_cons (re_varD 7) ra_nil)))) ra_nil))) (rg_set 9))) rs_nx)
    (rs_seq (rs_if (rt_and (rt_bool (RE.up (s' := 3) (re_op eqP_ok (RE.up (s' := 3) (re_op ixP_ok (RE.up (s' := 3) (re_varD 2) rfl) (RE.up (s' := 3) (re_c (.int 0)) rfl)) rfl) (RE.up (s' := 3) (re_c (.str (Str.ofString "/"))) rfl)) rfl)) (rt_or (rt_bool (RE.up (s' := 3) (re_op gtP_ok (RE.up (s' := 3) (re_op modP_ok (RE.up (s' := 3) (re_varD 6) rfl) (RE.up (s' := 3) (re_c (.int 8)) rfl)) rfl) (RE.up (s' := 3) (re_c (.int 1)) rfl)) rfl)) (rt_bool (RE.up (s' := 3) (re_op gtP_ok (RE.up (s' := 3) (re_call (ks := [.d]) (sp__law_wide 40) (ra_cons (re_varD 2) ra_nil)) rfl) (RE.up (s' := 3) (re_c (.int 4)) rfl)) rfl)))) (rs_seq (rs_asg (re_c (.str (Str.ofString ">>"))) (rg_set 8))
    (rs_asg (re_tup (ra_cons (re_tup (ra_cons (re_c (.str (Str.ofString "/"))) (ra_cons (re_op ixP_ok (RE.up (s' := 3) (re_varD 2) rfl) (RE.up (s' := 3) (re_c (.int 1)) rfl)) (ra_cons (re_varD 7) ra_nil)))) (ra_cons (re_tup (ra_cons (re_c (.str (Str.ofString "/"))) (ra_cons (re_varD 7) (ra_cons (re_op ixP_ok (RE.up (s' := 3) (re_varD 2) rfl) (RE.up (s' := 3) (re_c (.int 2)) rfl)) ra_nil)))) ra_nil))) (rg_set 9))) rs_nx)
    (rs_seq (rs_if (rt_and (rt_bool (RE.up (s' := 3) (re_op eqP_ok (RE.up (s' := 3) (re_op ixP_ok (RE.up (s' := 3) (re_varD 2) rfl) (RE.up (s' := 3) (re_c (.int 0)) rfl)) rfl) (RE.up (s' := 3) (re_c (.str (Str.ofString "\\"))) rfl)) rfl)) (rt_or (rt_bool (RE.up (s' := 3) (re_op gtP_ok (RE.up (s' := 3) (re_op modP_ok (RE.up (s' := 3) (re_varD 6) rfl) (RE.up (s' := 3) (re_c (.int 8)) rfl)) rfl) (RE.up (s' := 3) (re_c (.int 1)) rfl)) rfl)) (rt_bool (RE.up (s' := 3) (re_op gtP_ok (RE.up (s' := 3) (re_call (ks := [.d]) (sp__law_wide 40) (ra_cons (re_varD 2) ra_nil)) rfl) (RE.up (s' := 3) (re_c (.int 4)) rfl)) rfl)))) (rs_seq (rs_asg (re_c (.str (Str.ofString "<<"))) (rg_set 8))
    (rs_asg (re_tup (ra_cons (re_tup (ra_cons (re_c (.str (Str.ofString "\\"))) (ra_cons (re_varD 7) (ra_cons (re_op ixP_ok (RE.up (s' := 3) (re_varD 2) rfl) (RE.up (s' := 3) (re_c (.int 2)) rfl)) ra_nil)))) (ra_cons (re_tup (ra_cons (re_c (.str (Str.ofString "\\"))) (ra_cons (re_op ixP_ok (RE.up (s' := 3) (re_varD 2) rfl) (RE.up (s' := 3) (re_c (.int 1)) rfl)) (ra_cons (re_varD 7) ra_nil)))) ra_nil))) (rg_set 9))) rs_nx)
    (rs_seq (rs_asg (re_frz (re_call (ks := [.k, .d, .d, .d, .d]) ih__law_tree (ra_cons (re_objV (s := 4) 0) (ra_cons (re_varD 1) (ra_cons (re_op ixP_ok (RE.up (s' := 3) (re_varD 9) rfl) (RE.up (s' := 3) (re_c (.int 0)) rfl)) (ra_cons (re_varD 3) (ra_cons (re_varD 5) ra_nil))))))) (rg_set 10))
    (rs_ret (RE.up (s' := 7) (re_tup (ra_cons (re_varD 8) (ra_cons (re_varD 10) (ra_cons (re_frz (re_call (ks := [.k, .d, .d, .d, .d]) ih__law_tree (ra_cons (re_objV (s := 4) 0) (ra_cons (re_varD 1) (ra_cons (re_op ixP_ok (RE.up (s' := 3) (re_varD 9) rfl) (RE.up (s' := 3) (re_c (.int 1)) rfl)) (ra_cons (re_frz (RE.up (s' := 2) (re_op addAP_ok (RE.up (s' := 3) (re_varD 3) rfl) (RE.up (s' := 3) (re_varD 5) rfl)) rfl)) (ra_cons (re_op subP_ok (RE.up (s' := 3) (re_varD 4) rfl) (RE.up (s' := 3) (re_varD 5) rfl)) ra_nil))))))) ra_nil)))) rfl))))))))))))
theorem ss__law_tree {n : Nat} (ih__law_tree : SpG (F__law_tree n) 2 (W__law_tree n)) : SpG (F__law_tree (n + 1)) 2 (W__law_tree (n + 1)) := by
  intro γ m ws avs J K hcl hA hn hd nb
  unfold W__law_tree at nb ⊢
  split at nb
  · rename_i i0 a0 a1 a2 a3 a4
    exact sp_fin (s := 2) (N := 11) (res := Prod.fst) (us := fun r => [(i0, .k r.2)]) (rs__law_tree ih__law_tree) rfl hcl hA hn hd (e__law_tree n a0 i0 a1 a2 a3 a4) (outK_ok (a := 0) rfl rfl) nb
  · exact absurd rfl nb
theorem sp__law_tree : ∀ n : Nat, SpG (F__law_tree n) 2 (W__law_tree n)
  | 0 => by
    intro γ m ws avs J K hcl hA hn hd nb
    exfalso
    unfold W__law_tree at nb
    split at nb
    · exact nb rfl
    · exact nb rfl
  | n + 1 => ss__law_tree (sp__law_tree n)
noncomputable def g__law_drawn_form : GSx :=
    (gsSeq (gsAsg (gTup (gaCons (gC (.str (Str.ofString "basic"))) (gaCons (gOp ixP (gVarD 1) (gOp modP (gCall [true, false, true, true, true] [.k] W__law_next (gaCons (gVarO 0) gaNil)) (gCa lenP (gaCons (gVarD 1) gaNil)))) gaNil))) (gtSet 2))
    (gsSeq (gsAsg (gCall [true, false, true, true, true] [.k, .d, .d] W__law_other (gaCons (gVarO 0) (gaCons (gVarD 1) (gaCons (gVarD 2) gaNil)))) (gtSet 3))
    (gsSeq (gsAsg (gOp modP (gCall [true, false, true, true, true] [.k] W__law_next (gaCons (gVarO 0) gaNil)) (gC (.int 6))) (gtSet 4))
    (gsSeq (gsIf (gBool (gOp ltP (gVarD 4) (gC (.int 2)))) (gsRet (gVarD 2)) gsNx)
    (gsRet (gTup (gaCons (gOp ixP (gLst (gaCons (gC (.str (Str.ofString "/"))) (gaCons (gC (.str (Str.ofString "\\"))) gaNil))) (gOp modP (gVarD 4) (gC (.int 2)))) (gaCons (gVarD 2) (gaCons (gVarD 3) gaNil)))))))))
noncomputable def W__law_drawn_form : GFn := fun γ avs K => match avs with
  | [.k i0 a0, .d a1] => (P__law_drawn_form a0 a1).bind fun r => K r.1 [(i0, .k r.2)]
  | _ => .bad
theorem e__law_drawn_form (a0 : Dk) (i0 : Nat) (a1 : D) : runG (g__law_drawn_form) (init0 5 [.k i0 a0, .d a1]) (outK 0) = P__law_drawn_form a0 a1 := by kernel_rfl
theorem rs__law_drawn_form : RS 7 [true, false, true, true, true] m__law_drawn_form (g__law_drawn_form) :=
    (rs_seq (rs_asg (re_tup (ra_cons (re_c (.str (Str.ofString "basic"))) (ra_cons (re_op ixP_ok (RE.up (s' := 3) (re_varD 1) rfl) (RE.up (s' := 3) (re_op modP_ok (RE.up (s' := 3) (re_call (ks := [.k]) sp__law_next (ra_cons (re_objV (s := 4) 0) ra_nil)) rfl) (RE.up (s' := 3) (re_ca lenP_ok (ra_cons (RE.up (s' := 3) (re_varD 1) rfl) ra_nil)) rfl)) rfl)) ra_nil))) (rg_set 2))
    (rs_seq (rs_asg (re_frz (re_call (ks := [.k, .d, .d]) sp__law_other (ra_cons (re_objV (s := 4) 0) (ra_cons (re_varD 1) (ra_cons (re_varD 2) ra_nil))))) (rg_set 3))
    (rs_seq (rs_asg (re_op modP_ok (RE.up (s' := 3) (re_call (ks := [.k]) sp__law_next (ra_cons (re_objV (s := 4) 0) ra_nil)) rfl) (RE.up (s' := 3) (re_c (.int 6)) rfl)) (rg_set 4))
    (rs_seq (rs_if (rt_bool (RE.up (s' := 3) (re_op ltP_ok (RE.up (s' := 3) (re_varD 4) rfl) (RE.up (s' := 3) (re_c (.int 2)) rfl)) rfl)) (rs_ret (RE.up (s' := 7) (re_varD 2) rfl)) rs_nx)
    (rs_ret (RE.up (s' := 7) (re_tup (ra_cons (re_op ixP_ok (RE.up (s' := 3) (re_lst (ra_cons (re_c (.str (Str.ofString "/"))) (ra_cons (re_c (.str (Str.ofString "\\"))) ra_nil))) rfl) (RE.up (s' := 3) (re_op modP_ok (RE.up (s' := 3) (re_varD 4) rfl) (RE.up (s' := 3) (re_c (.int 2)) rfl)) rfl)) (ra_cons (re_varD 2) (ra_cons (re_varD 3) ra_nil)))) rfl))))))
theorem sp__law_drawn_form : SpG F__law_drawn_form 2 W__law_drawn_form := by
  intro γ m ws avs J K hcl hA hn hd nb
  unfold W__law_drawn_form at nb ⊢
  split at nb
  · rename_i i0 a0 a1
    exact sp_fin (s := 2) (N := 5) (res := Prod.fst) (us := fun r => [(i0, .k r.2)]) rs__law_drawn_form rfl hcl hA hn hd (e__law_drawn_form a0 i0 a1) (outK_ok (a := 0) rfl rfl) nb
  · exact absurd rfl nb
noncomputable def g__law_kind_of_form (w__law_kind_of_form : GFn) : GSx :=
    (gsSeq (gsIf (gBool (gOp (eqP false) (gOp ixP (gVarD 0) (gC (.int 0))) (gC (.str (Str.ofString "basic"))))) (gsRet (gOp ixP (gVarD 0) (gC (.int 1)))) gsNx)
    (gsRet (gTup (gaCons (gCall [false] [.d] w__law_kind_of_form (gaCons (gOp ixP (gVarD 0) (gC (.int 2))) gaNil)) (gaCons (gCall [false] [.d] w__law_kind_of_form (gaCons (gOp ixP (gVarD 0) (gC (.int 1))) gaNil)) gaNil)))))
noncomputable def W__law_kind_of_form (n : Nat) : GFn := fun γ avs K => match avs with
  | [.d a0] => (P__law_kind_of_form n a0).bind fun r => K r []
  | _ => .bad
theorem e__law_kind_of_form (n : Nat) (a0 : D) : runG (g__law_kind_of_form (W__law_kind_of_form n)) (init0 1 [.d a0]) out0 = B__law_kind_of_form (P__law_kind_of_form n) a0 := by kernel_rfl
theorem rs__law_kind_of_form {n : Nat} (ih__law_kind_of_form : SpG (F__law_kind_of_form n) 2 (W__law_kind_of_form n)) : RS 7 [false] (m__law_kind_of_form (F__law_kind_of_form n)) (g__law_kind_of_form (W__law_kind_of_form n)) :=
    (rs_seq (rs_if (rt_bool (RE.up (s' := 3) (re_op eqP_ok (RE.up (s' := 3) (re_op ixP_ok (RE.up (s' := 3) (re_varD 0) rfl) (RE.up (s' := 3) (re_c (.int 0)) rfl)) rfl) (RE.up (s' := 3) (re_c (.str (Str.ofString "basic"))) rfl)) rfl)) (rs_ret (RE.up (s' := 7) (re_op ixP_ok (RE.up (s' := 3) (re_varD 0) rfl) (RE.up (s' := 3) (re_c (.int 1)) rfl)) rfl)) rs_nx)
    (rs_ret (RE.up (s' := 7) (re_tup (ra_cons (re_frz (re_call (ks := [.d]) ih__law_kind_of_form (ra_cons (re_op ixP_ok (RE.up (s' := 3) (re_varD 0) rfl) (RE.up (s' := 3) (re_c (.int 2)) rfl)) ra_nil))) (ra_cons (re_frz (re_call (ks := [.d]) ih__law_kind_of_form (ra_cons (re_op ixP_ok (RE.up (s' := 3) (re_varD 0) rfl) (RE.up (s' := 3) (re_c (.int 1)) rfl)) ra_nil))) ra_nil))) rfl)))
theorem ss__law_kind_of_form {n : Nat} (ih__law_kind_of_form : SpG (F__law_kind_of_form n) 2 (W__law_kind_of_form n)) : SpG (F__law_kind_of_form (n + 1)) 2 (W__law_kind_of_form (n + 1)) := by
  intro γ m ws avs J K hcl hA hn hd nb
  unfold W__law_kind_of_form at nb ⊢
  split at nb
  · rename_i a0
    exact sp_fin (s := 2) (N := 1) (res := id) (us := fun _ => []) (rs__law_kind_of_form ih__law_kind_of_form) rfl hcl hA hn hd (e__law_kind_of_form n a0) (out0_ok rfl) nb
  · exact absurd rfl nb
theorem sp__law_kind_of_form : ∀ n : Nat, SpG (F__law_kind_of_form n) 2 (W__law_kind_of_form n)
  | 0 => by
    intro γ m ws avs J K hcl hA hn hd nb
    exfalso
    unfold W__law_kind_of_form at nb
    split at nb
    · exact nb rfl
    · exact nb rfl
  | n + 1 => ss__law_kind_of_form (sp__law_kind_of_form n)
noncomputable def g__law_joined : GSx :=
    (gsSeq (gsIf (gBool (gOp (eqP false) (gVarD 0) (gC (.str (Str.ofString ">"))))) (gsRet (gOp ixP (gVarD 1) (gC (.int 1)))) gsNx)
    (gsSeq (gsIf (gBool (gOp (eqP false) (gVarD 0) (gC (.str (Str.ofString "<"))))) (gsRet (gOp ixP (gVarD 2) (gC (.int 1)))) gsNx)
    (gsSeq (gsIf (gBool (gOp (eqP false) (gVarD 0) (gC (.str (Str.ofString ">>"))))) (gsRet (gTup (gaCons (gC (.str (Str.ofString "/"))) (gaCons (gOp ixP (gVarD 1) (gC (.int 1))) (gaCons (gOp ixP (gVarD 2) (gC (.int 2))) gaNil))))) gsNx)
    (gsRet (gTup (gaCons (gC (.str (Str.ofString "\\"))) (gaCons (gOp ixP (gVarD 2) (gC (.int 1))) (gaCons (gOp ixP (gVarD 1) (gC (.int 2))) gaNil))))))))
noncomputable def W__law_joined : GFn := fun γ avs K => match avs with
  | [.d a0, .d a1, .d a2] => (P__law_joined a0 a1 a2).bind fun r => K r []
  | _ => .bad
theorem e__law_joined (a0 : D) (a1 : D) (a2 : D) : runG (g__law_joined) (init0 3 [.d a0, .d a1, .d a2]) out0 = P__law_joined a0 a1 a2 := by kernel_rfl
theorem rs__law_joined : RS 7 [false, false, false] m__law_joined (g__law_joined) :=
    (rs_seq (rs_if (rt_bool (RE.up (s' := 3) (re_op eqP_ok (RE.up (s' := 3) (re_varD 0) rfl) (RE.up (s' := 3) (re_c (.str (Str.ofString ">"))) rfl)) rfl)) (rs_ret (RE.up (s' := 7) (re_op ixP_ok (RE.up (s' := 3) (re_varD 1) rfl) (RE.up (s' := 3) (re_c (.int 1)) rfl)) rfl)) rs_nx)
    (rs_seq (rs_if (rt_bool (RE.up (s' := 3) (re_op eqP_ok (RE.up (s' := 3) (re_varD 0) rfl) (RE.up (s' := 3) (re_c (.str (Str.ofString "<"))) rfl)) rfl)) (rs_ret (RE.up (s' := 7) (re_op ixP_ok (RE.up (s' := 3) (re_varD 2) rfl) (RE.up (s' := 3) (re_c (.int 1)) rfl)) rfl)) rs_nx)
    (rs_seq (rs_if (rt_bool (RE.up (s' := 3) (re_op eqP_ok (RE.up (s' := 3) (re_varD 0) rfl) (RE.up (s' := 3) (re_c (.str (Str.ofString ">>"))) rfl)) rfl)) (rs_ret (RE.up (s' := 7) (re_tup (ra_cons (re_c (.str (Str.ofString "/"))) (ra_cons (re_op ixP_ok (RE.up (s' := 3) (re_varD 1) rfl) (RE.up (s' := 3) (re_c (.int 1)) rfl)) (ra_cons (re_op ixP_ok (RE.up (s' := 3) (re_varD 2) rfl) (RE.up (s' := 3) (re_c (.int 2)) rfl)) ra_nil)))) rfl)) rs_nx)
    (rs_ret (RE.up (s' := 7) (re_tup (ra_cons (re_c (.str (Str.ofString "\\"))) (ra_cons (re_op ixP_ok (RE.up (s' := 3) (re_varD 2) rfl) (RE.up (s' := 3) (re_c (.int 1)) rfl)) (ra_cons (re_op ixP_ok (RE.up (s' := 3) (re_varD 1) rfl) (RE.up (s' := 3) (re_c (.int 2)) rfl)) ra_nil)))) rfl)))))
theorem sp__law_joined : SpG F__law_joined 2 W__law_joined := by
  intro γ m ws avs J K hcl hA hn hd nb
  unfold W__law_joined at nb ⊢
  split at nb
  · rename_i a0 a1 a2
    exact sp_fin (s := 2) (N := 3) (res := id) (us := fun _ => []) rs__law_joined rfl hcl hA hn hd (e__law_joined a0 a1 a2) (out0_ok rfl) nb
  · exact absurd rfl nb
noncomputable def g__law_meant (w__law_meant : GFn) : GSx :=
    (gsSeq (gsIf (gBool (gOp (eqP false) (gOp ixP (gVarD 0) (gC (.int 0))) (gC (.str (Str.ofString "word"))))) (gsRet (gTup (gaCons (gOp ixP (gVarD 0) (gC (.int 2))) (gaCons (gTget 1 (gSl (gVarD 0) (goSome (gC (.int 1))) goNone)) gaNil)))) gsNx)
    (gsSeq (gsAsg (gCall [false, false, true, true, true, true, true] [.d, .u] w__law_meant (gaCons (gOp ixP (gVarD 0) (gC (.int 1))) (gaCons (gVarK 1) gaNil))) (gtTup (gtsCons (gtSet 2) (gtsCons (gtSet 3) gtsNil))))
    (gsSeq (gsAsg (gCall [false, false, true, true, true, true, true] [.d, .u] w__law_meant (gaCons (gOp ixP (gVarD 0) (gC (.int 2))) (gaCons (gVarK 1) gaNil))) (gtTup (gtsCons (gtSet 4) (gtsCons (gtSet 5) gtsNil))))
    (gsSeq (gsAsg (gCall [false, false, true, true, true, true, true] [.d, .d, .d] W__law_joined (gaCons (gOp ixP (gVarD 0) (gC (.int 0))) (gaCons (gVarD 2) (gaCons (gVarD 4) gaNil)))) (gtSet 6))
    (gsSeq (gsIf (gBool (gOp (inP false) (gOp ixP (gVarD 0) (gC (.int 0))) (gTup (gaCons (gC (.str (Str.ofString "<"))) (gaCons (gC (.str (Str.ofString "<<"))) gaNil))))) (gsAsg (gTup (gaCons (gVarD 5) (gaCons (gVarD 3) gaNil))) (gtTup (gtsCons (gtSet 3) (gtsCons (gtSet 5) gtsNil)))) gsNx)
    (gsSeq (gsIf (gBool (gOp (inP false) (gOp ixP (gVarD 0) (gC (.int 0))) (gTup (gaCons (gC (.str (Str.ofString ">"))) (gaCons (gC (.str (Str.ofString "<"))) gaNil))))) (gsRet (gTup (gaCons (gVarD 6) (gaCons (gTup (gaCons (gC (.str (Str.ofString "of"))) (gaCons (gVarD 3) (gaCons (gVarD 5) gaNil)))) gaNil)))) gsNx)
    (gsRet (gTup (gaCons (gVarD 6) (gaCons (gTup (gaCons (gC (.str (Str.ofString "fn"))) (gaCons (gCall [false, false, true, true, true, true, true] [.d] (W__law_kind_of_form 40) (gaCons (gOp ixP (gVarD 6) (gC (.int 2))) gaNil)) (gaCons (gTup (gaCons (gC (.str (Str.ofString "of"))) (gaCons (gVarD 3) (gaCons (gTup (gaCons (gC (.str (Str.ofString "of"))) (gaCons (gVarD 5) (gaCons (gTup (gaCons (gC (.str (Str.ofString "bound"))) (gaCons (gC (.int 0)) gaNil))) gaNil)))) gaNil)))) gaNil)))) gaNil))))))))))
noncomputable def W__law_meant (n : Nat) : GFn := fun γ avs K => match avs with
  | [.d a0, .u a1] => (P__law_meant n a0 a1).bind fun r => K r []
  | _ => .bad
theorem e__law_meant (n : Nat) (a0 : D) (a1 : List (D × D)) : runG (g__law_meant (W__law_meant n)) (init0 7 [.d a0, .u a1]) out0 = B__law_meant (P__law_meant n) a0 a1 := by kernel_rfl
theorem rs__law_meant {n : Nat} (ih__law_meant : SpG (F__law_meant n) 2 (W__law_meant n)) : RS 7 [false, false, true, true, true, true, true] (m__law_meant (F__law_meant n)) (g__law_meant (W__law_meant n)) :=
    (rs_seq (rs_if (rt_bool (RE.up (s' := 3) (re_op eqP_ok (RE.up (s' := 3) (re_op ixP_ok (RE.up (s' := 3) (re_varD 0) rfl) (RE.up (s' := 3) (re_c (.int 0)) rfl)) rfl) (RE.up (s' := 3) (re_c (.str (Str.ofString "word"))) rfl)) rfl)) (rs_ret (RE.up (s' := 7) (re_tup (ra_cons (re_op ixP_ok (RE.up (s' := 3) (re_varD 0) rfl) (RE.up (s' := 3) (re_c (.int 2)) rfl)) (ra_cons (re_tget 1 (re_frz (RE.up (s' := 2) (re_sl (RE.up (s' := 3) (re_varD 0) rfl) (ro_some (RE.up (s' := 3) (re_c (.int 1)) rfl)) ro_none) rfl))) ra_nil))) rfl)) rs_nx)
    (rs_seq (rs_asg (re_frz (re_call (ks := [.d, .u]) ih__law_meant (ra_cons (re_op ixP_ok (RE.up (s' := 3) (re_varD 0) rfl) (RE.up (s' := 3) (re_c (.int 1)) rfl)) (ra_cons (re_objK (s := 4) 1) ra_nil)))) (rg_tup (rgs_cons (rg_set 2) (rgs_cons (rg_set 3) rgs_nil))))
    (rs_seq (rs_asg (re_frz (re_call (ks := [.d, .u]) ih__law_meant (ra_cons (re_op ixP_ok (RE.up (s' := 3) (re_varD 0) rfl) (RE.up (s' := 3) (re_c (.int 2)) rfl)) (ra_cons (re_objK (s := 4) 1) ra_nil)))) (rg_tup (rgs_cons (rg_set 4) (rgs_cons (rg_set 5) rgs_nil))))
    (rs_seq (rs_asg (re_frz (re_call (ks := [.d, .d, .d]) sp__law_joined (ra_cons (re_op ixP_ok (RE.up (s' := 3) (re_varD 0) rfl) (RE.up (s' := 3) (re_c (.int 0)) rfl)) (ra_cons (re_varD 2) (ra_cons (re_varD 4) ra_nil))))) (rg_set 6))
    (rs_seq (rs_if (rt_bool (RE.up (s' := 3) (re_op inP_ok (RE.up (s' := 3) (re_op ixP_ok (RE.up (s' := 3) (re_varD 0) rfl) (RE.up (s' := 3) (re_c (.int 0)) rfl)) rfl) (RE.up (s' := 3) (re_tup (ra_cons (re_c (.str (Str.ofString "<"))) (ra_cons (re_c (.str (Str.ofString "<<"))) ra_nil))) rfl)) rfl)) (rs_asg (re_tup (ra_cons (re_varD 5) (ra_cons (re_varD 3) ra_nil))) (rg_tup (rgs_cons (rg_set 3) (rgs_cons (rg_set 5) rgs_nil)))) rs_nx)
    (rs_seq (rs_if (rt_bool (RE.up (s' := 3) (re_op inP_ok (RE.up (s' := 3) (re_op ixP_ok (RE.up (s' := 3) (re_varD 0) rfl) (RE.up (s' := 3) (re_c (.int 0)) rfl)) rfl) (RE.up (s' := 3) (re_tup (ra_cons (re_c (.str (Str.ofString ">"))) (ra_cons (re_c (.str (Str.ofString "<"))) ra_nil))) rfl)) rfl)) (rs_ret (RE.up (s' := 7) (re_tup (ra_cons (re_varD 6) (ra_cons (re_tup (ra_cons (re_c (.str (Str.ofString "of"))) (ra_cons (re_varD 3) (ra_cons (re_varD 5) ra_nil)))) ra_nil))) rfl)) rs_nx)
    (rs_ret (RE.up (s' := 7) (re_tup (ra_cons (re_varD 6) (ra_cons (re_tup (ra_cons (re_c (.str (Str.ofString "fn"))) (ra_cons (re_frz (re_call (ks := [.d]) (sp__law_kind_of_form 40) (ra_cons (re_op ixP_ok (RE.up (s' := 3) (re_varD 6) rfl) (RE.up (s' := 3) (re_c (.int 2)) rfl)) ra_nil))) (ra_cons (re_tup (ra_cons (re_c (.str (Str.ofString "of"))) (ra_cons (re_varD 3) (ra_cons (re_tup (ra_cons (re_c (.str (Str.ofString "of"))) (ra_cons (re_varD 5) (ra_cons (re_tup (ra_cons (re_c (.str (Str.ofString "bound"))) (ra_cons (re_c (.int 0)) ra_nil))) ra_nil)))) ra_nil)))) ra_nil)))) ra_nil))) rfl))))))))
theorem ss__law_meant {n : Nat} (ih__law_meant : SpG (F__law_meant n) 2 (W__law_meant n)) : SpG (F__law_meant (n + 1)) 2 (W__law_meant (n + 1)) := by
  intro γ m ws avs J K hcl hA hn hd nb
  unfold W__law_meant at nb ⊢
  split at nb
  · rename_i a0 a1
    exact sp_fin (s := 2) (N := 7) (res := id) (us := fun _ => []) (rs__law_meant ih__law_meant) rfl hcl hA hn hd (e__law_meant n a0 a1) (out0_ok rfl) nb
  · exact absurd rfl nb
theorem sp__law_meant : ∀ n : Nat, SpG (F__law_meant n) 2 (W__law_meant n)
  | 0 => by
    intro γ m ws avs J K hcl hA hn hd nb
    exfalso
    unfold W__law_meant at nb
    split at nb
    · exact nb rfl
    · exact nb rfl
  | n + 1 => ss__law_meant (sp__law_meant n)
noncomputable def g__law_within (w__law_within : GFn) : GSx :=
    (gsSeq (gsIf (gBool (gOp (eqP false) (gOp ixP (gVarD 0) (gC (.int 0))) (gC (.str (Str.ofString "word"))))) (gsRet (gLst (gaCons (gVarD 0) gaNil))) gsNx)
    (gsRet (gOp addP (gOp addP (gLst (gaCons (gVarD 0) gaNil)) (gCall [false] [.d] w__law_within (gaCons (gOp ixP (gVarD 0) (gC (.int 1))) gaNil))) (gCall [false] [.d] w__law_within (gaCons (gOp ixP (gVarD 0) (gC (.int 2))) gaNil)))))
noncomputable def W__law_within (n : Nat) : GFn := fun γ avs K => match avs with
  | [.d a0] => (P__law_within n a0).bind fun r => K r []
  | _ => .bad
theorem e__law_within (n : Nat) (a0 : D) : runG (g__law_within (W__law_within n)) (init0 1 [.d a0]) out0 = B__law_within (P__law_within n) a0 := by kernel_rfl
theorem rs__law_within {n : Nat} (ih__law_within : SpG (F__law_within n) 2 (W__law_within n)) : RS 7 [false] (m__law_within (F__law_within n)) (g__law_within (W__law_within n)) :=
    (rs_seq (rs_if (rt_bool (RE.up (s' := 3) (re_op eqP_ok (RE.up (s' := 3) (re_op ixP_ok (RE.up (s' := 3) (re_varD 0) rfl) (RE.up (s' := 3) (re_c (.int 0)) rfl)) rfl) (RE.up (s' := 3) (re_c (.str (Str.ofString "word"))) rfl)) rfl)) (rs_ret (RE.up (s' := 7) (re_lst (ra_cons (re_varD 0) ra_nil)) rfl)) rs_nx)
    (rs_ret (RE.up (s' := 7) (re_op addAP_ok (RE.up (s' := 3) (re_op addAP_ok (RE.up (s' := 3) (re_lst (ra_cons (re_varD 0) ra_nil)) rfl) (RE.up (s' := 3) (re_call (ks := [.d]) ih__law_within (ra_cons (re_op ixP_ok (RE.up (s' := 3) (re_varD 0) rfl) (RE.up (s' := 3) (re_c (.int 1)) rfl)) ra_nil)) rfl)) rfl) (RE.up (s' := 3) (re_call (ks := [.d]) ih__law_within (ra_cons (re_op ixP_ok (RE.up (s' := 3) (re_varD 0) rfl) (RE.up (s' := 3) (re_c (.int 2)) rfl)) ra_nil)) rfl)) rfl)))
theorem ss__law_within {n : Nat} (ih__law_within : SpG (F__law_within n) 2 (W__law_within n)) : SpG (F__law_within (n + 1)) 2 (W__law_within (n + 1)) := by
  intro γ m ws avs J K hcl hA hn hd nb
  unfold W__law_within at nb ⊢
  split at nb
  · rename_i a0
    exact sp_fin (s := 2) (N := 1) (res := id) (us := fun _ => []) (rs__law_within ih__law_within) rfl hcl hA hn hd (e__law_within n a0) (out0_ok rfl) nb
  · exact absurd rfl nb
theorem sp__law_within : ∀ n : Nat, SpG (F__law_within n) 2 (W__law_within n)
  | 0 => by
    intro γ m ws avs J K hcl hA hn hd nb
    exfalso
    unfold W__law_within at nb
    split at nb
    · exact nb rfl
    · exact nb rfl
  | n + 1 => ss__law_within (sp__law_within n)
noncomputable def g__law_words_of : GSx :=
    (gsRet (gLc [] [false, true] (giSeq (gCall [false, true] [.d] (W__law_within 40) (gaCons (gVarD 0) gaNil))) (gtSet 1) (gBool (gOp (eqP false) (gOp ixP (gVarD 1) (gC (.int 0))) (gC (.str (Str.ofString "word"))))) (gSl (gVarD 1) (goSome (gC (.int 1))) goNone)))
noncomputable def W__law_words_of : GFn := fun γ avs K => match avs with
  | [.d a0] => (P__law_words_of a0).bind fun r => K r []
  | _ => .bad
theorem e__law_words_of (a0 : D) : runG (g__law_words_of) (init0 2 [.d a0]) out0 = P__law_words_of a0 := by kernel_rfl
theorem rs__law_words_of : RS 7 [false, true] m__law_words_of (g__law_words_of) :=
    (rs_ret (RE.up (s' := 7) (re_lc (ds := []) (mb := [false, true]) (mt := [false, true]) (ri_seq (RE.up (s' := 3) (re_call (ks := [.d]) (sp__law_within 40) (ra_cons (re_varD 0) ra_nil)) rfl)) (rg_set 1) (rt_bool (RE.up (s' := 3) (re_op eqP_ok (RE.up (s' := 3) (re_op ixP_ok (RE.up (s' := 3) (re_varD 1) rfl) (RE.up (s' := 3) (re_c (.int 0)) rfl)) rfl) (RE.up (s' := 3) (re_c (.str (Str.ofString "word"))) rfl)) rfl)) (re_frz (RE.up (s' := 2) (re_sl (RE.up (s' := 3) (re_varD 1) rfl) (ro_some (RE.up (s' := 3) (re_c (.int 1)) rfl)) ro_none) rfl))) rfl))
theorem sp__law_words_of : SpG F__law_words_of 2 W__law_words_of := by
  intro γ m ws avs J K hcl hA hn hd nb
  unfold W__law_words_of at nb ⊢
  split at nb
  · rename_i a0
    exact sp_fin (s := 2) (N := 2) (res := id) (us := fun _ => []) rs__law_words_of rfl hcl hA hn hd (e__law_words_of a0) (out0_ok rfl) nb
  · exact absurd rfl nb
noncomputable def g__law_same (w__law_same : GFn) : GSx :=
    (gsSeq (gsIf (gTru (gIsi [.str] (gVarD 0))) (gsRet (gAnd (gIsi [.str] (gVarD 1)) (gOp (eqP false) (gVarD 0) (gVarD 1)))) gsNx)
    (gsSeq (gsIf (gtNot (gTru (gIsi [.tup] (gVarD 0)))) (gsRet (gAnd (gIsi [.int] (gVarD 1)) (gAnd (gNot (gIsi [.bl] (gVarD 1))) (gOp (eqP false) (gVarD 0) (gVarD 1))))) gsNx)
    (gsSeq (gsIf (gtOr (gtNot (gTru (gIsi [.tup] (gVarD 1)))) (gBool (gOp (eqP true) (gCa lenP (gaCons (gVarD 0) gaNil)) (gCa lenP (gaCons (gVarD 1) gaNil))))) (gsRet (gC (.bool false))) gsNx)
    (gsRet (gCa allP (gaCons (gLc [] [false, false, true, true] (giCa zipP (gaCons (gVarD 0) (gaCons (gVarD 1) gaNil))) (gtTup (gtsCons (gtSet 2) (gtsCons (gtSet 3) gtsNil))) gtYes (gCall [false, false, true, true] [.d, .d] w__law_same (gaCons (gVarD 2) (gaCons (gVarD 3) gaNil)))) gaNil))))))
noncomputable def W__law_same (n : Nat) : GFn := fun γ avs K => match avs with
  | [.d a0, .d a1] => (P__law_same n a0 a1).bind fun r => K r []
  | _ => .bad
theorem e__law_same (n : Nat) (a0 : D) (a1 : D) : runG (g__law_same (W__law_same n)) (init0 4 [.d a0, .d a1]) out0 = B__law_same (P__law_same n) a0 a1 := by kernel_rfl
theorem rs__law_same {n : Nat} (ih__law_same : SpG (F__law_same n) 2 (W__law_same n)) : RS 7 [false, false, true, true] (m__law_same (F__law_same n)) (g__law_same (W__law_same n)) :=
    (rs_seq (rs_if (rt_tru (RE.up (s' := 3) (re_isi (RE.up (s' := 3) (re_varD 0) rfl)) rfl)) (rs_ret (RE.up (s' := 7) (re_and (RE.up (s' := 3) (re_isi (RE.up (s' := 3) (re_varD 1) rfl)) rfl) (re_op eqP_ok (RE.up (s' := 3) (re_varD 0) rfl) (RE.up (s' := 3) (re_varD 1) rfl))) rfl)) rs_nx)
    (rs_seq (rs_if (rt_not (rt_tru (RE.up (s' := 3) (re_isi (RE.up (s' := 3) (re_varD 0) rfl)) rfl))) (rs_ret (RE.up (s' := 7) (re_and (RE.up (s' := 3) (re_isi (RE.up (s' := 3) (re_varD 1) rfl)) rfl) (re_and (RE.up (s' := 3) (re_not (RE.up (s' := 3) (re_isi (RE.up (s' := 3) (re_varD 1) rfl)) rfl)) rfl) (re_op eqP_ok (RE.up (s' := 3) (re_varD 0) rfl) (RE.up (s' := 3) (re_varD 1) rfl)))) rfl)) rs_nx)
    (rs_seq (rs_if (rt_or (rt_not (rt_tru (RE.up (s' := 3) (re_isi (RE.up (s' := 3) (re_varD 1) rfl)) rfl))) (rt_bool (RE.up (s' := 3) (re_op eqP_ok (RE.up (s' := 3) (re_ca lenP_ok (ra_cons (RE.up (s' := 3) (re_varD 0) rfl) ra_nil)) rfl) (RE.up (s' := 3) (re_ca lenP_ok (ra_cons (RE.up (s' := 3) (re_varD 1) rfl) ra_nil)) rfl)) rfl))) (rs_ret (RE.up (s' := 7) (re_c (.bool false)) rfl)) rs_nx)
    (rs_ret (RE.up (s' := 7) (re_ca allP_ok (ra_cons (RE.up (s' := 3) (re_lc (ds := []) (mb := [false, false, true, true]) (mt := [false, false, true, true]) (ri_zip (ra_cons (re_varD 0) (ra_cons (re_varD 1) ra_nil))) (rg_tup (rgs_cons (rg_set 2) (rgs_cons (rg_set 3) rgs_nil))) rt_yes (re_frz (re_call (ks := [.d, .d]) ih__law_same (ra_cons (re_varD 2) (ra_cons (re_varD 3) ra_nil))))) rfl) ra_nil)) rfl)))))
theorem ss__law_same {n : Nat} (ih__law_same : SpG (F__law_same n) 2 (W__law_same n)) : SpG (F__law_same (n + 1)) 2 (W__law_same (n + 1)) := by
  intro γ m ws avs J K hcl hA hn hd nb
  unfold W__law_same at nb ⊢
  split at nb
  · rename_i a0 a1
    exact sp_fin (s := 2) (N := 4) (res := id) (us := fun _ => []) (rs__law_same ih__law_same) rfl hcl hA hn hd (e__law_same n a0 a1) (out0_ok rfl) nb
  · exact absurd rfl nb
theorem sp__law_same : ∀ n : Nat, SpG (F__law_same n) 2 (W__law_same n)
  | 0 => by
    intro γ m ws avs J K hcl hA hn hd nb
    exfalso
    unfold W__law_same at nb
    split at nb
    · exact nb rfl
    · exact nb rfl
  | n + 1 => ss__law_same (sp__law_same n)
noncomputable def g_law : GSx :=
    (gsSeq (gsDeck (gVarB 0) 1)
    (gsSeq (gsAsg (gCall [false, true, true, true, true, true, true, true] [.k, .d] W__law_words (gaCons (gVarO 1) (gaCons (gOp addSP (gC (.int 2)) (gOp modP (gCall [false, true, true, true, true, true, true, true] [.k] W__law_next (gaCons (gVarO 1) gaNil)) (gC (.int 2)))) gaNil))) (gtSet 2))
    (gsSeq (gsAsg (gCall [false, true, true, true, true, true, true, true] [.k, .d, .d, .d, .d] (W__law_tree 40) (gaCons (gVarO 1) (gaCons (gVarD 2) (gaCons (gCall [false, true, true, true, true, true, true, true] [.k, .d] W__law_drawn_form (gaCons (gVarO 1) (gaCons (gVarD 2) gaNil))) (gaCons (gC (.int 0)) (gaCons (gOp addSP (gC (.int 1)) (gOp modP (gCall [false, true, true, true, true, true, true, true] [.k] W__law_next (gaCons (gVarO 1) gaNil)) (gC (.int 7)))) gaNil)))))) (gtSet 3))
    (gsSeq (gsNewT 4)
    (gsSeq (gsFor [(4, .t false)] [false, false, false, false, true, true, true, false] (giSeq (gCall [false, true, true, true, true, true, true, true] [.d] W__law_words_of (gaCons (gVarD 3) gaNil))) (gtTup (gtsCons (gtSet 5) (gtsCons (gtSet 6) gtsNil))) (gsPutT 4 (gTup (gaCons (gVarD 5) (gaCons (gVarD 6) gaNil))) (gTup (gaCons (gC (.str (Str.ofString "leaf"))) (gaCons (gVarD 5) (gaCons (gVarD 6) gaNil))))))
    (gsSeq (gsFor [] [false, false, false, false, false, false, false, true] (giSeq (gOp addP (gCall [false, true, true, true, true, true, true, true] [.d] (W__law_within 40) (gaCons (gVarD 3) gaNil)) (gLst (gaCons (gVarD 3) gaNil)))) (gtSet 7) (gsIf (gtNot (gTru (gCall [false, false, false, false, false, false, false, true] [.d, .d] (W__law_same 40) (gaCons (gOp ixP (gCall [false, false, false, false, false, false, false, true] [.d, .u] (W__law_meant 40) (gaCons (gVarD 7) (gaCons (gVarK 4) gaNil))) (gC (.int 1))) (gaCons (gCall [false, false, false, false, false, false, false, true] [.d] W_unknown (gaCons (gVarD 7) gaNil)) gaNil))))) (gsRet (gC (.bool false))) gsNx))
    (gsRet (gC (.bool true)))))))))
noncomputable def W_law : GFn := fun γ avs K => match avs with
  | [.b a0] => (P_law a0).bind fun r => K r []
  | _ => .bad
theorem e_law (a0 : List D) : runG (g_law) (init0 8 [.b a0]) out0 = P_law a0 := by kernel_rfl
theorem rs_law : RS 7 [false, true, true, true, true, true, true, true] m_law (g_law) :=
    (rs_seq (rs_deck 1 deck_ok (re_varB 0))
    (rs_seq (rs_asg (re_frz (re_call (ks := [.k, .d]) sp__law_words (ra_cons (re_objV (s := 4) 1) (ra_cons (re_op addASP_ok (RE.up (s' := 3) (re_c (.int 2)) rfl) (RE.up (s' := 3) (re_op modP_ok (RE.up (s' := 3) (re_call (ks := [.k]) sp__law_next (ra_cons (re_objV (s := 4) 1) ra_nil)) rfl) (RE.up (s' := 3) (re_c (.int 2)) rfl)) rfl)) ra_nil)))) (rg_set 2))
    (rs_seq (rs_asg (re_frz (re_call (ks := [.k, .d, .d, .d, .d]) (sp__law_tree 40) (ra_cons (re_objV (s := 4) 1) (ra_cons (re_varD 2) (ra_cons (re_frz (re_call (ks := [.k, .d]) sp__law_drawn_form (ra_cons (re_objV (s := 4) 1) (ra_cons (re_varD 2) ra_nil)))) (ra_cons (re_c (.int 0)) (ra_cons (re_op addASP_ok (RE.up (s' := 3) (re_c (.int 1)) rfl) (RE.up (s' := 3) (re_op modP_ok (RE.up (s' := 3) (re_call (ks := [.k]) sp__law_next (ra_cons (re_objV (s := 4) 1) ra_nil)) rfl) (RE.up (s' := 3) (re_c (.int 7)) rfl)) rfl)) ra_nil))))))) (rg_set 3))
    (rs_seq (rs_newT 4)
    (rs_seq (rs_for (ds := [(4, .t false)]) (mb := [false, false, false, false, true, true, true, false]) (ri_seq (RE.up (s' := 3) (re_call (ks := [.d]) sp__law_words_of (ra_cons (re_varD 3) ra_nil)) rfl)) (rg_tup (rgs_cons (rg_set 5) (rgs_cons (rg_set 6) rgs_nil))) (rs_putT 4 (re_tup (ra_cons (re_varD 5) (ra_cons (re_varD 6) ra_nil))) (re_tup (ra_cons (re_c (.str (Str.ofString "leaf"))) (ra_cons (re_varD 5) (ra_cons (re_varD 6) ra_nil))))))
    (rs_seq (rs_for (ds := []) (mb := [false, false, false, false, false, false, false, true]) (ri_seq (RE.up (s' := 3) (re_op addAP_ok (RE.up (s' := 3) (re_call (ks := [.d]) (sp__law_within 40) (ra_cons (re_varD 3) ra_nil)) rfl) (RE.up (s' := 3) (re_lst (ra_cons (re_varD 3) ra_nil)) rfl)) rfl)) (rg_set 7) (rs_if (rt_not (rt_tru (RE.up (s' := 3) (re_call (ks := [.d, .d]) (sp__law_same 40) (ra_cons (re_op ixP_ok (RE.up (s' := 3) (re_call (ks := [.d, .u]) (sp__law_meant 40) (ra_cons (re_varD 7) (ra_cons (re_objK (s := 4) 4) ra_nil))) rfl) (RE.up (s' := 3) (re_c (.int 1)) rfl)) (ra_cons (re_frz (re_call (ks := [.d]) sp_unknown (ra_cons (re_varD 7) ra_nil))) ra_nil))) rfl))) (rs_ret (RE.up (s' := 7) (re_c (.bool false)) rfl)) rs_nx))
    (rs_ret (RE.up (s' := 7) (re_c (.bool true)) rfl))))))))
theorem sp_law : SpG F_law 2 W_law := by
  intro γ m ws avs J K hcl hA hn hd nb
  unfold W_law at nb ⊢
  split at nb
  · rename_i a0
    exact sp_fin (s := 2) (N := 8) (res := id) (us := fun _ => []) rs_law rfl hcl hA hn hd (e_law a0) (out0_ok rfl) nb
  · exact absurd rfl nb
theorem law_true (hP : ∀ ns : List Int, ns.length ≤ 63 → P_law (ns.map .int) = .ok (.bool true)) : ∀ ns : List Int, ns.length ≤ 63 → ∃ m, F_law [.ro (ns.map .int)] [] = .ok (.d (.bool true)) m :=
  law_of sp_law (fun _ => rfl) hP
end K60
set_option Elab.async false
set_option linter.all false
set_option maxRecDepth 100000
set_option maxHeartbeats 1000000
namespace K60
open PySem L2 M
variable [HasW]
structure isW (w : List Nat) : Prop where
  lo : 1 ≤ w.length
  hi : w.length ≤ 8
  ab : ∀ c ∈ w, 97 ≤ c ∧ c ≤ 122
def abc : List Nat := (List.range 26).map (· + 97)
theorem abc_eq : Str.ofString "abcdefghijklmnopqrstuvwxyz" = S abc := by decide +kernel
theorem abc_len : abc.length = 26 := rfl
theorem abc_get {k : Nat} (h : k < 26) : abc[k]? = some (k + 97) := by
  unfold abc
  rw [List.getElem?_map, List.getElem?_range h]
  rfl
theorem ab_at {i : Int} (h0 : 0 ≤ i) (h1 : i < 26) : L2.atI abc i = some (i.toNat + 97) := by
  rw [atI_of h0]
  exact abc_get (by omega)
theorem okC_ab {w : List Nat} (h : ∀ c ∈ w, 97 ≤ c ∧ c ≤ 122) : okC w = true := by
  unfold okC
  rw [List.all_eq_true]
  intro c hc
  have := h c hc
  exact decide_eq_true (by omega)
theorem nil_eq : Str.ofString "" = S [] := by decide +kernel
def sts (ws : List (List Nat)) : List D := ws.map fun w => .str (S w)
theorem pigeon {α : Type} [DecidableEq α] (f : Nat → α) : ∀ (l : List α) (s : List Nat), s.Nodup → (∀ i ∈ s, ∀ j ∈ s, f i = f j → i = j) → l.length < s.length → ∃ j ∈ s, f j ∉ l
  | [], s, _, _, h => by
    cases s with
    | nil => simp at h
    | cons a r => exact ⟨a, List.mem_cons_self, by simp⟩
  | a :: t, s, nd, inj, h => by
    by_cases ha : ∃ j ∈ s, f j = a
    · obtain ⟨j, hj, e⟩ := ha
      obtain ⟨k, hk, hn⟩ := pigeon f t (s.erase j) (nd.erase j) (fun x hx y hy => inj x (List.mem_of_mem_erase hx) y (List.mem_of_mem_erase hy)) (by
        rw [List.length_erase_of_mem hj]
        simp at h
        omega)
      have hks := List.mem_of_mem_erase hk
      refine ⟨k, hks, fun z => ?_⟩
      rcases List.mem_cons.mp z with z | z
      · have : k = j := inj k hks j hj (z.trans e.symm)
        subst this
        exact (List.Nodup.not_mem_erase nd) hk
      · exact hn z
    · obtain ⟨k, hk, hn⟩ := pigeon f t s nd inj (by simp at h; omega)
      refine ⟨k, hk, fun z => ?_⟩
      rcases List.mem_cons.mp z with z | z
      · exact ha ⟨k, hk, z⟩
      · exact hn z
theorem canLayAll0_sts : ∀ {ws : List (List Nat)}, (∀ w ∈ ws, okC w = true) → PyData.canLayAll0 (sts ws) = true
  | [], _ => by simp [sts, PyData.canLayAll0]
  | w :: ws, h => by
    have := canLayAll0_sts (ws := ws) fun u hu => h u (List.mem_cons_of_mem _ hu)
    unfold sts at this
    simp [sts, PyData.canLayAll0, PyData.canLay0, strOk_S, h w List.mem_cons_self, this]
theorem depthAll_sts : ∀ ws : List (List Nat), PyData.depthAll (sts ws) = 0
  | [] => by simp [sts, PyData.depthAll]
  | w :: ws => by
    have := depthAll_sts ws
    unfold sts at this
    simp [sts, PyData.depthAll, PyData.depth, this]
theorem shaped_sts {ws : List (List Nat)} (h : ∀ w ∈ ws, okC w = true) : SeqAt.shaped (.list (sts ws)) = true := by
  show ((PyData.list (sts ws)).canLay0 && decide ((PyData.list (sts ws)).depth ≤ 64)) = _
  simp [PyData.canLay0, PyData.depth, canLayAll0_sts h, depthAll_sts]
theorem isW.okC {w : List Nat} (h : isW w) : okC w = true := okC_ab h.ab
/-! ### words from the deck -/
def spell : Nat → Nat → List Nat
  | 0, _ => []
  | k + 1, n => (97 + n % 26) :: spell k (n / 26)
theorem spell_len : ∀ k n, (spell k n).length = k
  | 0, _ => rfl
  | k + 1, n => by rw [spell, List.length_cons, spell_len k]
theorem spell_ab : ∀ k n, ∀ c ∈ spell k n, 97 ≤ c ∧ c ≤ 122
  | 0, _, c, h => nomatch h
  | k + 1, n, c, h => by
    rcases List.mem_cons.mp h with rfl | h
    · omega
    · exact spell_ab k _ c h
theorem spell_inj : ∀ k n n', spell k n = spell k n' → n % 26 ^ k = n' % 26 ^ k
  | 0, n, n', _ => by rw [Nat.pow_zero, Nat.mod_one, Nat.mod_one]
  | k + 1, n, n', h => by
    have h1 := (List.cons.inj h).1
    have h2 := spell_inj k _ _ (List.cons.inj h).2
    have e : ∀ n : Nat, n % 26 ^ (k + 1) = n % 26 + 26 * (n / 26 % 26 ^ k) := fun n => by
      rw [Nat.pow_succ, Nat.mul_comm, Nat.mod_mul]
    rw [e, e, h2]
    omega
theorem isW_spell {k n : Nat} (h : 1 ≤ k) (h' : k ≤ 8) : isW (spell k n) := ⟨by rw [spell_len]; exact h, by rw [spell_len]; exact h', spell_ab k n⟩
def anyL : List Nat := [97, 110, 121]
theorem okC_any : okC anyL = true := by decide
/-- a word that is free comes -/
theorem word_free (n s : Nat) (h1 : 1 ≤ s) (h8 : s ≤ 8) (ws : List (List Nat)) (hl : ws.length ≤ 100) : ∃ J, 1 ≤ J ∧ J ≤ 900 ∧ spell ((s - 1 + J) % 8 + 1) (n + J) ∉ ws ∧ spell ((s - 1 + J) % 8 + 1) (n + J) ≠ anyL := by
  obtain ⟨i8, hi1, hi2, hi3⟩ : ∃ i8, 1 ≤ i8 ∧ i8 ≤ 8 ∧ (s - 1 + i8) % 8 = 7 := by
    by_cases h : s = 8
    · exact ⟨8, by omega, by omega, by omega⟩
    · exact ⟨8 - s, by omega, by omega, by omega⟩
  have e : ∀ j, (s - 1 + (i8 + 8 * j)) % 8 + 1 = 8 := fun j => by omega
  obtain ⟨j, hj, hn⟩ := pigeon (fun j => spell 8 (n + (i8 + 8 * j))) ws (List.range (ws.length + 1)) List.nodup_range (fun i hi j hj h => by
    have h := spell_inj 8 _ _ h
    have hi := List.mem_range.mp hi
    have hj := List.mem_range.mp hj
    have : (26 : Nat) ^ 8 = 208827064576 := by decide
    rw [this] at h
    omega) (by simp)
  have hj := List.mem_range.mp hj
  refine ⟨i8 + 8 * j, by omega, by omega, by rw [e]; exact hn, fun z => ?_⟩
  have := congrArg List.length z
  rw [e, spell_len] at this
  cases this
/-! ### words of the deck -/
theorem ix_abc (n : Nat) : ixP (.str (Str.ofString "abcdefghijklmnopqrstuvwxyz")) (.int ((n : Int) % 26)) = .ok (.str (S [97 + n % 26])) := by
  rw [abc_eq]
  have h1 : 0 ≤ (n : Int) % 26 := by omega
  have h2 : (n : Int) % 26 < 26 := by omega
  have := ixP_str (l := abc) (i := (n : Int) % 26) (by rw [abc_len, sizeLine_eq]; decide) (ab_at h1 h2)
  rw [this]
  congr 4
  omega
theorem spelled_go : ∀ (xs : List D) (w : List Nat) (n : Nat) (k : D × D × Unit → PR D), w.length + xs.length ≤ 1000 → foldK S1__law_spelled xs (.int (n : Int), .str (S w), ()) k = k (.int ((n / 26 ^ xs.length : Nat) : Int), .str (S (w ++ spell xs.length n)), ())
  | [], w, n, k, _ => by simp [spell]
  | x :: xs, w, n, k, h => by
    rw [List.length_cons] at h
    rw [foldK_cons]
    have e1 : ((n : Int) / 26) = ((n / 26 : Nat) : Int) := by omega
    simp only [S1__law_spelled, modP_s (show (0 : Int) < 26 by decide), PR.bind_ok, ix_abc, addP_str (a := w) (b := [97 + n % 26]) (by rw [sizeLine_eq]; simp; omega), divP_s (show (0 : Int) < 26 by decide) (by decide)]
    rw [e1, spelled_go xs (w ++ [97 + n % 26]) (n / 26) k (by simp; omega)]
    rw [List.length_cons, spell, Nat.pow_succ, Nat.mul_comm, Nat.div_div_eq_div_mul]
    simp
theorem P_spelled (n k : Nat) (hk : k ≤ 1000) : P__law_spelled (.int (n : Int)) (.int (k : Int)) = .ok (.str (S (spell k n))) := by
  unfold P__law_spelled
  rw [rng1P_s (by omega) (by omega), PR.bind_ok, nil_eq, spelled_go _ [] n _ (by simp; omega)]
  simp
theorem inP_sts {w : List Nat} {ws : List (List Nat)} (h : okC w = true) (hw : ∀ w ∈ ws, okC w = true) : inP false (.str (S w)) (.list (sts ws)) = .ok (.bool (decide (w ∈ ws))) := by
  rw [inP_list (by rw [shaped_str, h, shaped_sts hw]; rfl)]
  congr 2
  rw [ngB_f]
  induction ws with
  | nil => rfl
  | cons u ws ih =>
    have := ih fun x hx => hw x (List.mem_cons_of_mem _ hx)
    simp only [sts, List.map_cons, List.any_cons, eqv_str, S_beq] at this ⊢
    rw [this]
    by_cases e : w = u
    · simp [e]
    · simp [e, Ne.symm e]
theorem eqP_stsnil {n : Bool} {ws : List (List Nat)} (hw : ∀ w ∈ ws, okC w = true) : eqP n (.list (sts ws)) (.list []) = .ok (.bool (ngB n (decide (ws = [])))) := by
  unfold eqP
  rw [shaped_sts hw, shaped_nil]
  cases ws with
  | nil => cases n <;> simp [sts, PyData.eqv, PyData.eqvAll, ngB]
  | cons w ws => cases n <;> simp [sts, PyData.eqv, PyData.eqvAll, ngB]
def okWord (ws : List (List Nat)) (w : List Nat) : Prop := isW w ∧ w ∉ ws ∧ w ≠ anyL
theorem word_loop {q : Dk} {n s : Nat} {w : List Nat} {ws : List (List Nat)} (hs : 1 ≤ s) (hs8 : s ≤ 8) (hw : isW w) (hws : ∀ w ∈ ws, isW w) (hl : ws.length ≤ 100) {k : D × D × D × Unit → PR (D × Dk)} : ∃ (x y : D) (w' : List Nat), okWord ws w' ∧ whileK (S2__law_word (sts ws)) fuelW (.int (n : Int), .int (s : Int), .str (S w), ()) k = k (x, y, .str (S w'), ()) := by
  obtain ⟨J, hJ1, hJ9, hJa, hJb⟩ := word_free n s hs hs8 ws hl
  have okw : ∀ w ∈ ws, okC w = true := fun w hw => okC_ab (hws w hw).ab
  obtain ⟨s', ⟨x, y, w', h1, rfl⟩, h2⟩ := whileK_inv (step := S2__law_word (sts ws)) (n := fuelW) (m := J) (s := (.int (n : Int), .int (s : Int), .str (S w), ())) (k := k)
    (fun m t => ∃ (j : Nat) (w : List Nat), j + m = J ∧ isW w ∧ (1 ≤ j → w = spell ((s - 1 + j) % 8 + 1) (n + j)) ∧ t = (.int ((n + j : Nat) : Int), .int (((s - 1 + j) % 8 + 1 : Nat) : Int), .str (S w), ()))
    (fun t => ∃ (x y : D) (w' : List Nat), okWord ws w' ∧ t = (x, y, .str (S w'), ()))
    (fun m t ht => by
      obtain ⟨j, w, hj, hw, hjw, rfl⟩ := ht
      have hc := okC_ab hw.ab
      have e1 := inP_sts hc okw
      have e2 := eqP_str (n := false) hc okC_any
      by_cases hg : w ∈ ws ∨ w = anyL
      · have hm : 1 ≤ m := by
          rcases Nat.eq_zero_or_pos m with rfl | h
          · have ej : j = J := by omega
            subst ej
            have ew := hjw hJ1
            rw [ew] at hg
            rcases hg with z | z
            · exact absurd z hJa
            · exact absurd z hJb
          · exact h
        have em : (((s - 1 + j) % 8 + 1 : Nat) : Int) % 8 + 1 = ((((s - 1 + (j + 1)) % 8 + 1 : Nat)) : Int) := by omega
        have en : ((n + j : Nat) : Int) + 1 = ((n + (j + 1) : Nat) : Int) := by omega
        have e3 := P_spelled (n + (j + 1)) ((s - 1 + (j + 1)) % 8 + 1) (by omega)
        refine .inr ⟨m - 1, (.int ((n + (j + 1) : Nat) : Int), .int (((s - 1 + (j + 1)) % 8 + 1 : Nat) : Int), .str (S (spell ((s - 1 + (j + 1)) % 8 + 1) (n + (j + 1)))), ()), by omega, ⟨j + 1, _, by omega, isW_spell (by omega) (by omega), fun _ => rfl, rfl⟩, fun kn kb => ?_⟩
        have yes : J3__law_word kn kb (.int ((n + j : Nat) : Int)) (.int (((s - 1 + j) % 8 + 1 : Nat) : Int)) (.str (S w)) true = kn (.int ((n + (j + 1) : Nat) : Int), .int (((s - 1 + (j + 1)) % 8 + 1 : Nat) : Int), .str (S (spell ((s - 1 + (j + 1)) % 8 + 1) (n + (j + 1)))), ()) := by
          simp only [J3__law_word, if_true, addSP_int, PR.bind_ok, modP_s (show (0 : Int) < 8 by decide), em, en, e3]
        simp only [S2__law_word, e1, PR.bind_ok, ptb_bool]
        by_cases z : w ∈ ws
        · simp only [z, decide_true, if_true, yes]
        · have z2 : w = anyL := hg.resolve_left z
          simp only [z, decide_false, Bool.false_eq_true, if_false, lt0, lt1, lt2, lt3, lt4, lt5, lt6, lt7, lt8, lt9, lt10, lt11, lt12, lt13, lt14, lt15, lt16, lt17, lt19]
          rw [show S [97, 110, 121] = S anyL from rfl, e2]
          simp only [PR.bind_ok, ptb_bool, ngB_f, z2, decide_true]
          rw [z2] at yes
          exact yes
      · refine .inl ⟨(.int ((n + j : Nat) : Int), .int (((s - 1 + j) % 8 + 1 : Nat) : Int), .str (S w), ()), ⟨_, _, w, ⟨hw, fun z => hg (.inl z), fun z => hg (.inr z)⟩, rfl⟩, fun kn kb => ?_⟩
        have z : w ∉ ws := fun z => hg (.inl z)
        have z2 : ¬ w = anyL := fun z => hg (.inr z)
        simp only [S2__law_word, e1, PR.bind_ok, ptb_bool, z, decide_false, Bool.false_eq_true, if_false, lt0, lt1, lt2, lt3, lt4, lt5, lt6, lt7, lt8, lt9, lt10, lt11, lt12, lt13, lt14, lt15, lt16, lt17, lt19]
        rw [show S [97, 110, 121] = S anyL from rfl, e2]
        simp only [PR.bind_ok, ptb_bool, ngB_f, z2, decide_false, J3__law_word, Bool.false_eq_true, if_false])
    ⟨0, w, by omega, hw, fun h => absurd h (by omega), by simp; omega⟩ (by rw [fuelW_eq]; omega)
  exact ⟨x, y, w', h1, h2⟩
theorem P_word (q : Dk) {ws : List (List Nat)} (hws : ∀ w ∈ ws, isW w) (hl : ws.length ≤ 100) : ∃ (w : List Nat) (q' : Dk), okWord ws w ∧ P__law_word q (sts ws) = .ok (.str (S w), q') := by
  have okw : ∀ w ∈ ws, okC w = true := fun w hw => okC_ab (hws w hw).ab
  have b0 := nextN_ge q
  have c0 := nextN_ge (nextQ q)
  obtain ⟨a, ha⟩ : ∃ a : Nat, nextN q = (a : Int) := ⟨(nextN q).toNat, by omega⟩
  obtain ⟨b, hb⟩ : ∃ b : Nat, nextN (nextQ q) = (b : Int) := ⟨(nextN (nextQ q)).toNat, by omega⟩
  have e0 : (1 : Int) + (a : Int) % 8 = ((1 + a % 8 : Nat) : Int) := by omega
  have e1 := P_spelled b (1 + a % 8) (by omega)
  have w1 : isW (spell (1 + a % 8) b) := isW_spell (by omega) (by omega)
  show ∃ (w : List Nat) (q' : Dk), okWord ws w ∧ PF__law_word fuelW q (sts ws) = .ok (.str (S w), q')
  unfold PF__law_word
  simp only [next_eq, PR.bind_ok, ha, hb, modP_s (show (0 : Int) < 8 by decide), addSP_int, e0, e1, eqP_stsnil okw, ptb_bool, ngB_t, divP_s (show (0 : Int) < 8 by decide) (by decide), modP_s (show (0 : Int) < 2 by decide), eqP_int, ngB_f]
  have fin : ∀ w : List Nat, isW w → ∃ (w' : List Nat) (q' : Dk), okWord ws w' ∧ J1__law_word fuelW (nextQ (nextQ q)) (sts ws) (.int (b : Int)) (.int ((1 + a % 8 : Nat) : Int)) (.str (S w)) = .ok (.str (S w'), q') := by
    intro w hw
    unfold J1__law_word
    obtain ⟨x, y, w', h1, h2⟩ := word_loop (q := q) (n := b) (s := 1 + a % 8) (by omega) (by omega) hw hws hl (k := fun s33 => .ok (s33.2.2.1, nextQ (nextQ q)))
    exact ⟨w', _, h1, h2⟩
  have no : ∃ (w' : List Nat) (q' : Dk), okWord ws w' ∧ J4__law_word fuelW (nextQ (nextQ q)) (sts ws) (.int (a : Int)) (.int (b : Int)) (.int ((1 + a % 8 : Nat) : Int)) (.str (S (spell (1 + a % 8) b))) false = .ok (.str (S w'), q') := by
    simp only [J4__law_word, Bool.false_eq_true, if_false]
    exact fin _ w1
  cases ws with
  | nil => simpa using no
  | cons u ws =>
    have hu := hws u List.mem_cons_self
    simp only [reduceCtorEq, decide_false, Bool.not_false, if_true]
    by_cases hw : (a : Int) / 8 % 2 = 1
    · simp only [hw, decide_true, J4__law_word, if_true]
      have hlo := hu.lo
      have hhi := hu.hi
      have l1 : ixP (.list (sts (u :: ws))) (.int 0) = .ok (.str (S u)) := ixP_list (by simp [sts])
      have l2 : lenP [.str (S u)] = .ok (.int (u.length : Int)) := lenP_str (by rw [sizeLine_eq]; omega)
      obtain ⟨t, ht⟩ : ∃ t : Nat, (a : Int) / 16 % (u.length : Int) = (t : Int) := ⟨((a : Int) / 16 % (u.length : Int)).toNat, by have := Int.emod_nonneg ((a : Int) / 16) (show (u.length : Int) ≠ 0 by omega); omega⟩
      have htl : t < u.length := by have := Int.emod_lt_of_pos ((a : Int) / 16) (show 0 < (u.length : Int) by omega); omega
      obtain ⟨c, r, hcr⟩ := List.exists_cons_of_ne_nil (show spell (1 + a % 8) b ≠ [] from fun z => by have := congrArg List.length z; rw [spell_len] at this; simp at this)
      have l3 : ixP (.str (S (spell (1 + a % 8) b))) (.int 0) = .ok (.str (S [c])) := ixP_str (by rw [spell_len, sizeLine_eq]; omega) (by rw [hcr]; simp)
      have l4 : slP (.str (S u)) none (some (t : Int)) = .ok (.str (S (u.take t))) := by
        show (if (S u).length ≤ sizeLine then _ else _) = _
        rw [if_pos (show (S u).length ≤ sizeLine by rw [S_len, sizeLine_eq]; omega), cutS_take (by omega)]
        simp
      have l5 : slP (.str (S u)) (some ((t : Int) + 1)) none = .ok (.str (S (u.drop (t + 1)))) := by
        show (if (S u).length ≤ sizeLine then _ else _) = _
        rw [if_pos (show (S u).length ≤ sizeLine by rw [S_len, sizeLine_eq]; omega), cutS_drop (by omega)]
        rw [show ((t : Int) + 1).toNat = t + 1 by omega]
      have l6 : addP (.str (S (u.take t))) (.str (S [c])) = .ok (.str (S (u.take t ++ [c]))) := addP_str (by rw [sizeLine_eq]; simp; omega)
      have l7 : addP (.str (S (u.take t ++ [c]))) (.str (S (u.drop (t + 1)))) = .ok (.str (S (u.take t ++ [c] ++ u.drop (t + 1)))) := addP_str (by rw [sizeLine_eq]; simp; omega)
      have hc := (spell_ab (1 + a % 8) b c (by rw [hcr]; exact List.mem_cons_self))
      have w2 : isW (u.take t ++ [c] ++ u.drop (t + 1)) := ⟨by simp; omega, by simp; omega, fun x hx => by
        rcases List.mem_append.mp hx with hx | hx
        · rcases List.mem_append.mp hx with hx | hx
          · exact hu.ab x (List.mem_of_mem_take hx)
          · rw [List.mem_singleton.mp hx]; exact hc
        · exact hu.ab x (List.mem_of_mem_drop hx)⟩
      simp only [divP_s (show (0 : Int) < 16 by decide) (by decide), PR.bind_ok, l1, l2, modP_s (show 0 < (u.length : Int) by omega), ht, pti_int, l3, l4, l6, addSP_int, l5, l7]
      exact fin _ w2
    · simp only [hw, decide_false]
      exact no
theorem P_words (q : Dk) (n : Nat) (hn : n ≤ 100) : ∃ (ws : List (List Nat)) (q' : Dk), ws.length = n ∧ (∀ w ∈ ws, isW w ∧ w ≠ anyL) ∧ ws.Nodup ∧ P__law_words q (.int (n : Int)) = .ok (.list (sts ws), q') := by
  unfold P__law_words
  rw [rng1P_s (by omega) (by omega), PR.bind_ok]
  obtain ⟨s', ⟨ws, q', rfl, h1, h2, h3⟩, h4⟩ := foldK_inv (step := S1__law_words) (xs := (List.range ((n : Int).toNat)).map fun (k : Nat) => PyData.int (k : Int)) (i := 0) (s := (q, [], ())) (k := fun s9 => .ok ((.list s9.2.1), s9.1))
    (fun i t => ∃ (ws : List (List Nat)) (q' : Dk), t = (q', sts ws, ()) ∧ ws.length = i ∧ (∀ w ∈ ws, isW w ∧ w ≠ anyL) ∧ ws.Nodup)
    (fun m x t hm ht => by
      obtain ⟨ws, q', rfl, h1, h2, h3⟩ := ht
      have hm' : m < n := by
        have := (List.getElem?_eq_some_iff.mp hm).1
        simpa using this
      obtain ⟨w, q2, hw, e⟩ := P_word q' (ws := ws) (fun w hw => (h2 w hw).1) (by omega)
      refine ⟨(q2, sts (ws ++ [w]), ()), ⟨ws ++ [w], q2, rfl, by simp [h1], fun u hu => ?_, ?_⟩, fun kn kb => ?_⟩
      · rcases List.mem_append.mp hu with hu | hu
        · exact h2 u hu
        · rw [List.mem_singleton.mp hu]; exact ⟨hw.1, hw.2.2⟩
      · rw [List.nodup_append]
        exact ⟨h3, by simp, fun a ha b hb e => by rw [List.mem_singleton.mp hb] at e; subst e; exact hw.2.1 ha⟩
      · simp only [S1__law_words, e, PR.bind_ok]
        rw [appendP_s _ (by rw [sizeLine_eq]; simp [sts]; omega)]
        simp [sts])
    ⟨[], q, rfl, rfl, by simp, List.nodup_nil⟩
  refine ⟨ws, q', by simpa using h1, h2, h3, h4⟩
end K60
set_option Elab.async false
set_option linter.all false
set_option maxRecDepth 100000
set_option maxHeartbeats 1000000
namespace K60
open PySem L2 M
variable [HasW]
/-! ### forms -/
inductive Fm where
  | b (w : List Nat)
  | n (s : Bool) (x y : Fm)
def slash (s : Bool) : List Nat := if s then [92] else [47]
def enc : Fm → D
  | .b w => .tuple [.str (S [98, 97, 115, 105, 99]), .str (S w)]
  | .n s x y => .tuple [.str (S (slash s)), enc x, enc y]
def Fm.size : Fm → Nat
  | .b _ => 1
  | .n _ x y => x.size + y.size
def Fm.wf : Fm → Prop
  | .b w => isW w
  | .n _ x y => x.wf ∧ y.wf
theorem Fm.size_pos : ∀ f : Fm, 1 ≤ f.size
  | .b _ => Nat.le_refl _
  | .n _ x y => by have := x.size_pos; show 1 ≤ x.size + y.size; omega
/-- the first thing of a form -/
def hdF : Fm → List Nat
  | .b _ => [98, 97, 115, 105, 99]
  | .n s _ _ => slash s
@[simp] theorem ixF0 (f : Fm) : ixP (enc f) (.int 0) = .ok (.str (S (hdF f))) := by cases f <;> simp [enc, hdF]
@[simp] theorem ixF1 (s : Bool) (x y : Fm) : ixP (enc (.n s x y)) (.int 1) = .ok (enc x) := by simp [enc]
@[simp] theorem ixF2 (s : Bool) (x y : Fm) : ixP (enc (.n s x y)) (.int 2) = .ok (enc y) := by simp [enc]
@[simp] theorem ixFb (w : List Nat) : ixP (enc (.b w)) (.int 1) = .ok (.str (S w)) := by simp [enc]
theorem okC_hdF (f : Fm) : okC (hdF f) = true := by
  cases f with
  | b w => exact (by decide : okC [98, 97, 115, 105, 99] = true)
  | n s x y => exact (by cases s <;> decide : okC (slash s) = true)
@[simp] theorem hdF_b (w : List Nat) : hdF (.b w) = [98, 97, 115, 105, 99] := rfl
@[simp] theorem hdF_n (s : Bool) (x y : Fm) : hdF (.n s x y) = slash s := rfl
@[simp] theorem slash_t : slash true = [92] := rfl
@[simp] theorem slash_f : slash false = [47] := rfl
theorem slash_ne (s : Bool) : ¬ slash s = [98, 97, 115, 105, 99] := by cases s <;> decide
theorem okC_slash (s : Bool) : okC (slash s) = true := by cases s <;> decide
def Fm.isB : Fm → Bool
  | .b _ => true
  | .n .. => false
@[simp] theorem isB_b (w : List Nat) : (Fm.b w).isB = true := rfl
@[simp] theorem isB_n (s : Bool) (x y : Fm) : (Fm.n s x y).isB = false := rfl
theorem eq_hd (n : Bool) (f : Fm) : eqP n (.str (S (hdF f))) (.str (S [98, 97, 115, 105, 99])) = .ok (.bool (ngB n f.isB)) := by
  rw [eqP_str (okC_hdF f) (by decide)]
  cases f with
  | b w => simp [Fm.isB]
  | n s x y => simp [Fm.isB, slash_ne]
/-! ### forms as data: alike, laid -/
def Fm.beq : Fm → Fm → Bool
  | .b w, .b v => decide (w = v)
  | .n s x y, .n t u v => decide (s = t) && Fm.beq x u && Fm.beq y v
  | _, _ => false
theorem Fm.beq_iff : ∀ f g : Fm, Fm.beq f g = true ↔ f = g
  | .b w, .b v => by simp [Fm.beq]
  | .b w, .n t x y => by simp [Fm.beq]
  | .n t x y, .b w => by simp [Fm.beq]
  | .n s x y, .n t u v => by
    have h1 := Fm.beq_iff x u
    have h2 := Fm.beq_iff y v
    simp [Fm.beq, h1, h2, and_assoc]
instance : DecidableEq Fm := fun f g => decidable_of_iff (Fm.beq f g = true) (Fm.beq_iff f g)
theorem shaped_iff {d : D} : SeqAt.shaped d = true ↔ d.canLay0 = true ∧ d.depth ≤ 64 := by
  show (d.canLay0 && decide (d.depth ≤ 64)) = true ↔ _
  simp
theorem eqv_tup (xs ys : List D) : PyData.eqv (.tuple xs) (.tuple ys) = PyData.eqvAll xs ys := by rw [PyData.eqv]
theorem eqvAll_cc (x y : D) (xs ys : List D) : PyData.eqvAll (x :: xs) (y :: ys) = (PyData.eqv x y && PyData.eqvAll xs ys) := by rw [PyData.eqvAll]
theorem eqvAll_nn : PyData.eqvAll [] [] = true := by rw [PyData.eqvAll]
theorem basic_sl (s : Bool) : decide ([98, 97, 115, 105, 99] = slash s) = false := by cases s <;> rfl
theorem sl_basic (s : Bool) : decide (slash s = [98, 97, 115, 105, 99]) = false := by cases s <;> rfl
theorem sl_sl (s t : Bool) : decide (slash s = slash t) = decide (s = t) := by cases s <;> cases t <;> rfl
theorem eqv_enc : ∀ f g : Fm, PyData.eqv (enc f) (enc g) = decide (f = g)
  | .b w, .b v => by simp only [enc, eqv_tup, eqvAll_cc, eqvAll_nn, eqv_str, S_beq, Bool.and_true, decide_true, Bool.true_and, Fm.b.injEq]
  | .b w, .n t x y => by simp only [enc, eqv_tup, eqvAll_cc, eqv_str, S_beq, basic_sl, Bool.false_and, reduceCtorEq, decide_false]
  | .n t x y, .b w => by simp only [enc, eqv_tup, eqvAll_cc, eqv_str, S_beq, sl_basic, Bool.false_and, reduceCtorEq, decide_false]
  | .n t x y, .n t' x' y' => by
    simp only [enc, eqv_tup, eqvAll_cc, eqvAll_nn, eqv_str, S_beq, sl_sl, eqv_enc x x', eqv_enc y y', Bool.and_true, Fm.n.injEq, Bool.decide_and]
theorem lay_enc : ∀ f : Fm, f.wf → (enc f).canLay0 = true
  | .b w, h => by
    have := isW.okC h
    simp [enc, PyData.canLay0, PyData.canLayAll0, strOk_S, this]
  | .n s x y, h => by
    have h1 := lay_enc x h.1
    have h2 := lay_enc y h.2
    have := okC_slash s
    simp [enc, PyData.canLay0, PyData.canLayAll0, strOk_S, this, h1, h2]
theorem depth_enc : ∀ f : Fm, (enc f).depth ≤ f.size
  | .b w => by simp [enc, PyData.depth, PyData.depthAll, Fm.size]
  | .n s x y => by
    have h1 := depth_enc x
    have h2 := depth_enc y
    have p1 := x.size_pos
    have p2 := y.size_pos
    simp only [enc, PyData.depth, PyData.depthAll, Fm.size]
    omega
theorem shaped_enc {f : Fm} (h : f.wf) (hs : f.size ≤ 64) : SeqAt.shaped (enc f) = true := shaped_iff.mpr ⟨lay_enc f h, by have := depth_enc f; omega⟩
theorem eqP_enc {n : Bool} {f g : Fm} (hf : f.wf) (hg : g.wf) (h1 : f.size ≤ 64) (h2 : g.size ≤ 64) : eqP n (enc f) (enc g) = .ok (.bool (ngB n (decide (f = g)))) := by
  unfold eqP
  rw [shaped_enc hf h1, shaped_enc hg h2, eqv_enc]
  cases n <;> rfl
/-! ### the rules over forms -/
def j1 (f g : Fm) : Option Fm := match f with
  | .n false x y => if y = g then some x else none
  | _ => none
def j2 (f g : Fm) : Option Fm := match g with
  | .n true x y => if y = f then some x else none
  | _ => none
def j3 (f g : Fm) : Option Fm := match f, g with
  | .n false a b, .n false c d => if b = c then some (.n false a d) else none
  | _, _ => none
def j4 (f g : Fm) : Option Fm := match f, g with
  | .n true a b, .n true c d => if d = a then some (.n true c b) else none
  | _, _ => none
def optE : Option Fm → D
  | none => .none
  | some f => enc f
def encM : Option (List Nat × Fm) → D
  | none => .none
  | some (s, f) => .tuple [.str (S s), enc f]
/-- what the rules make of two forms -/
def mk (f g : Fm) : Option (List Nat × Fm) := match j1 f g with
  | some x => some ([62], x)
  | none => match j2 f g with
    | some x => some ([60], x)
    | none => match j3 f g with
      | some x => some ([62, 62], x)
      | none => match j4 f g with
        | some x => some ([60, 60], x)
        | none => none
theorem sg_gt : Str.ofString ">" = S [62] := by decide +kernel
theorem sg_lt : Str.ofString "<" = S [60] := by decide +kernel
theorem sg_gg : Str.ofString ">>" = S [62, 62] := by decide +kernel
theorem sg_ll : Str.ofString "<<" = S [60, 60] := by decide +kernel
theorem sl_f : Str.ofString "/" = S [47] := by decide +kernel
theorem sl_b : Str.ofString "\\" = S [92] := by decide +kernel
theorem eq_f (f : Fm) : eqP false (.str (S (hdF f))) (.str (S [47])) = .ok (.bool (match f with | .n false _ _ => true | _ => false)) := by
  rw [eqP_str (okC_hdF f) (by decide)]
  cases f with
  | b w => simp
  | n s x y => cases s <;> rfl
theorem eq_b (f : Fm) : eqP false (.str (S (hdF f))) (.str (S [92])) = .ok (.bool (match f with | .n true _ _ => true | _ => false)) := by
  rw [eqP_str (okC_hdF f) (by decide)]
  cases f with
  | b w => simp
  | n s x y => cases s <;> rfl
section
variable {f g : Fm}
theorem P_j1 (hf : f.wf) (hg : g.wf) (h1 : f.size ≤ 64) (h2 : g.size ≤ 64) : PL_RightTaken__joined [enc f, enc g] = .ok (optE (j1 f g)) := by
  show P_RightTaken__joined (enc f) (enc g) = _
  unfold P_RightTaken__joined
  simp only [ixF0, PR.bind_ok, sl_f, eq_f, ptb_bool]
  cases f with
  | b w => simp [j1, optE]
  | n s x y =>
    have h1 : x.size + y.size ≤ 64 := h1
    cases s with
    | true => simp [j1, optE]
    | false =>
      simp only [if_true, ixF2, PR.bind_ok, eqP_enc hf.2 hg (by omega) h2, ngB_f, ptb_bool, ixF1, j1]
      by_cases h : y = g
      · simp only [h, decide_true, if_true, optE]
      · simp only [h, decide_false, Bool.false_eq_true, if_false, optE]
theorem P_j2 (hf : f.wf) (hg : g.wf) (h1 : f.size ≤ 64) (h2 : g.size ≤ 64) : PL_LeftTaken__joined [enc f, enc g] = .ok (optE (j2 f g)) := by
  show P_LeftTaken__joined (enc f) (enc g) = _
  unfold P_LeftTaken__joined
  simp only [ixF0, PR.bind_ok, sl_b, eq_b, ptb_bool]
  cases g with
  | b w => simp [j2, optE]
  | n s x y =>
    have h2 : x.size + y.size ≤ 64 := h2
    cases s with
    | false => simp [j2, optE]
    | true =>
      simp only [if_true, ixF2, PR.bind_ok, eqP_enc hg.2 hf (by omega) h1, ngB_f, ptb_bool, ixF1, j2]
      by_cases h : y = f
      · simp only [h, decide_true, if_true, optE]
      · simp only [h, decide_false, Bool.false_eq_true, if_false, optE]
theorem P_j3 (hf : f.wf) (hg : g.wf) (h1 : f.size ≤ 64) (h2 : g.size ≤ 64) : PL_RightHanded__joined [enc f, enc g] = .ok (optE (j3 f g)) := by
  show P_RightHanded__joined (enc f) (enc g) = _
  unfold P_RightHanded__joined
  simp only [ixF0, PR.bind_ok, sl_f, eq_f, ptb_bool]
  cases f with
  | b w => simp [j3, optE, J1_RightHanded__joined]
  | n s x y =>
    have h1 : x.size + y.size ≤ 64 := h1
    cases s with
    | true => simp [j3, optE, J1_RightHanded__joined]
    | false =>
      simp only [if_true]
      cases g with
      | b w => simp [j3, optE, J1_RightHanded__joined]
      | n t u v =>
        have h2 : u.size + v.size ≤ 64 := h2
        cases t with
        | true => simp [j3, optE, J1_RightHanded__joined]
        | false =>
          simp only [if_true, ixF1, ixF2, PR.bind_ok, eqP_enc hf.2 hg.1 (by omega) (by omega), ngB_f, ptb_bool, J1_RightHanded__joined, j3]
          by_cases h : y = u
          · simp only [h, decide_true, if_true, optE, sl_f]
            rfl
          · simp only [h, decide_false, Bool.false_eq_true, if_false, optE]
theorem P_j4 (hf : f.wf) (hg : g.wf) (h1 : f.size ≤ 64) (h2 : g.size ≤ 64) : PL_LeftHanded__joined [enc f, enc g] = .ok (optE (j4 f g)) := by
  show P_LeftHanded__joined (enc f) (enc g) = _
  unfold P_LeftHanded__joined
  simp only [ixF0, PR.bind_ok, sl_b, eq_b, ptb_bool]
  cases f with
  | b w => simp [j4, optE, J1_LeftHanded__joined]
  | n s x y =>
    have h1 : x.size + y.size ≤ 64 := h1
    cases s with
    | false => simp [j4, optE, J1_LeftHanded__joined]
    | true =>
      simp only [if_true]
      cases g with
      | b w => simp [j4, optE, J1_LeftHanded__joined]
      | n t u v =>
        have h2 : u.size + v.size ≤ 64 := h2
        cases t with
        | false => simp [j4, optE, J1_LeftHanded__joined]
        | true =>
          simp only [if_true, ixF1, ixF2, PR.bind_ok, eqP_enc hg.2 hf.1 (by omega) (by omega), ngB_f, ptb_bool, J1_LeftHanded__joined, j4]
          by_cases h : v = x
          · simp only [h, decide_true, if_true, optE, sl_b]
            rfl
          · simp only [h, decide_false, Bool.false_eq_true, if_false, optE]
theorem madeGo_opt (o : Option Fm) (s : D) (r : List (PR D × D)) : madeGo ((.ok (optE o), s) :: r) = match o with
    | some f => .ok (.tuple [s, enc f])
    | none => madeGo r := by
  cases o with
  | none => rfl
  | some f =>
    show (match enc f with | .none => madeGo r | z => .ok (.tuple [s, z])) = _
    cases f <;> rfl
theorem P_mk (hf : f.wf) (hg : g.wf) (h1 : f.size ≤ 64) (h2 : g.size ≤ 64) : P_made (enc f) (enc g) = .ok (encM (mk f g)) := by
  unfold P_made PL_made
  dsimp only
  rw [P_j1 hf hg h1 h2, P_j2 hf hg h1 h2, P_j3 hf hg h1 h2, P_j4 hf hg h1 h2]
  refine noE_of ?_
  simp only [madeGo_opt, sg_gt, sg_lt, sg_gg, sg_ll]
  unfold mk
  cases j1 f g with
  | some x => rfl
  | none =>
    cases j2 f g with
    | some x => rfl
    | none =>
      cases j3 f g with
      | some x => rfl
      | none => cases j4 f g <;> rfl
end
theorem lt_n (s : Bool) (x y : Fm) : x.size < (Fm.n s x y).size ∧ y.size < (Fm.n s x y).size := by
  have h1 := x.size_pos
  have h2 := y.size_pos
  show x.size < x.size + y.size ∧ y.size < x.size + y.size
  omega
/-- at most one rule takes two forms -/
theorem j12 {f g : Fm} (h : (j1 f g).isSome = true) : j2 f g = none ∧ j3 f g = none ∧ j4 f g = none := by
  cases f with
  | b w => simp [j1] at h
  | n s x y =>
    cases s with
    | true => simp [j1] at h
    | false =>
      have hy : y = g := by
        by_cases q : y = g
        · exact q
        · simp [j1, q] at h
      subst hy
      have hlt := lt_n false x y
      refine ⟨?_, ?_, rfl⟩
      · cases y with
        | b w => rfl
        | n t u v =>
          cases t with
          | false => rfl
          | true =>
            have := lt_n true u v
            have : v ≠ .n false x (.n true u v) := fun z => by rw [← z] at hlt; omega
            simp [j2, this]
      · cases y with
        | b w => rfl
        | n t u v =>
          cases t with
          | true => rfl
          | false =>
            have := lt_n false u v
            have : Fm.n false u v ≠ u := fun z => by rw [z] at this; omega
            simp [j3, this]
theorem j23 {f g : Fm} (h : (j2 f g).isSome = true) : j3 f g = none ∧ j4 f g = none := by
  cases g with
  | b w => simp [j2] at h
  | n s x y =>
    cases s with
    | false => simp [j2] at h
    | true =>
      have hy : y = f := by
        by_cases q : y = f
        · exact q
        · simp [j2, q] at h
      subst hy
      refine ⟨?_, ?_⟩
      · cases y with
        | b w => rfl
        | n t u v => cases t <;> rfl
      · cases y with
        | b w => rfl
        | n t u v =>
          cases t with
          | false => rfl
          | true =>
            have := lt_n true u v
            have : Fm.n true u v ≠ u := fun z => by rw [z] at this; omega
            simp [j4, this]
/-! ### kinds of forms -/
def kdD : Fm → D
  | .b w => .str (S w)
  | .n _ x y => .tuple [kdD y, kdD x]
theorem P_kindOf : ∀ (n : Nat) (f : Fm), f.size ≤ n → P_kind_of_form n (enc f) = .ok (kdD f)
  | 0, f, h => by have := f.size_pos; omega
  | n + 1, .b w, h => by
    show B_kind_of_form (P_kind_of_form n) (enc (.b w)) = _
    unfold B_kind_of_form
    simp only [ixF0, PR.bind_ok, lt0, lt1, lt2, lt3, lt4, lt5, lt6, lt7, lt8, lt9, lt10, lt11, lt12, lt13, lt14, lt15, lt16, lt17, lt19, eq_hd, ptb_bool, ngB_f, isB_b, if_true, ixFb, kdD]
  | n + 1, .n s x y, h => by
    have px := x.size_pos
    have py := y.size_pos
    have h : x.size + y.size ≤ n + 1 := h
    show B_kind_of_form (P_kind_of_form n) (enc (.n s x y)) = _
    unfold B_kind_of_form
    simp only [ixF0, PR.bind_ok, lt0, lt1, lt2, lt3, lt4, lt5, lt6, lt7, lt8, lt9, lt10, lt11, lt12, lt13, lt14, lt15, lt16, lt17, lt19, eq_hd, ptb_bool, ngB_f, isB_n, Bool.false_eq_true, if_false, ixF1, ixF2, P_kindOf n x (by omega), P_kindOf n y (by omega), kdD]
/-! ### meanings by the rules, over any data -/
def tOf (f a : D) : D := .tuple [.str (Str.ofString "of"), f, a]
def tFn (k b : D) : D := .tuple [.str (Str.ofString "fn"), k, b]
def tB0 : D := .tuple [.str (Str.ofString "bound"), .int 0]
theorem meant_gt (l r f g : D) : P_meant (.str (S [62])) l r f g = .ok (tOf f g) := by
  unfold P_meant PL_meant
  simp only [meantGo, sg_gt, eqP_str (show okC [62] = true from rfl) (show okC [62] = true from rfl), decide_true, ngB_f, PR.bind_ok, ptb_bool, if_true]
  rfl
theorem meant_lt (l r f g : D) : P_meant (.str (S [60])) l r f g = .ok (tOf g f) := by
  unfold P_meant PL_meant
  simp only [meantGo, sg_gt, sg_lt, eqP_str (show okC [62] = true from rfl) (show okC [60] = true from rfl), eqP_str (show okC [60] = true from rfl) (show okC [60] = true from rfl), show ¬ ([62] : List Nat) = [60] by decide, decide_true, decide_false, ngB_f, PR.bind_ok, ptb_bool, if_true, Bool.false_eq_true, if_false]
  rfl
theorem meant_gg (l f g : D) {s : Bool} {x y : Fm} (h : y.size ≤ 40) : P_meant (.str (S [62, 62])) l (enc (.n s x y)) f g = .ok (tFn (kdD y) (tOf f (tOf g tB0))) := by
  have e : PL_RightHanded__meant [l, enc (.n s x y), f, g] = .ok (tFn (kdD y) (tOf f (tOf g tB0))) := by
    show P_RightHanded__meant l (enc (.n s x y)) f g = _
    unfold P_RightHanded__meant P_handed_on
    simp only [ixF2, PR.bind_ok, P_kindOf fuelR y (by rw [fuelR_eq]; omega)]
    rfl
  unfold P_meant PL_meant
  simp only [meantGo, sg_gt, sg_lt, sg_gg, eqP_str (show okC [62] = true from rfl) (show okC [62, 62] = true from rfl), eqP_str (show okC [60] = true from rfl) (show okC [62, 62] = true from rfl), eqP_str (show okC [62, 62] = true from rfl) (show okC [62, 62] = true from rfl), show ¬ ([62] : List Nat) = [62, 62] by decide, show ¬ ([60] : List Nat) = [62, 62] by decide, decide_true, decide_false, ngB_f, PR.bind_ok, ptb_bool, if_true, Bool.false_eq_true, if_false, e]
  rfl
theorem meant_ll (r f g : D) {s : Bool} {x y : Fm} (h : y.size ≤ 40) : P_meant (.str (S [60, 60])) (enc (.n s x y)) r f g = .ok (tFn (kdD y) (tOf g (tOf f tB0))) := by
  have e : PL_LeftHanded__meant [enc (.n s x y), r, f, g] = .ok (tFn (kdD y) (tOf g (tOf f tB0))) := by
    show P_LeftHanded__meant (enc (.n s x y)) r f g = _
    unfold P_LeftHanded__meant P_handed_on
    simp only [ixF2, PR.bind_ok, P_kindOf fuelR y (by rw [fuelR_eq]; omega)]
    rfl
  unfold P_meant PL_meant
  simp only [meantGo, sg_gt, sg_lt, sg_gg, sg_ll, eqP_str (show okC [62] = true from rfl) (show okC [60, 60] = true from rfl), eqP_str (show okC [60] = true from rfl) (show okC [60, 60] = true from rfl), eqP_str (show okC [62, 62] = true from rfl) (show okC [60, 60] = true from rfl), eqP_str (show okC [60, 60] = true from rfl) (show okC [60, 60] = true from rfl), show ¬ ([62] : List Nat) = [60, 60] by decide, show ¬ ([60] : List Nat) = [60, 60] by decide, show ¬ ([62, 62] : List Nat) = [60, 60] by decide, decide_true, decide_false, ngB_f, PR.bind_ok, ptb_bool, if_true, Bool.false_eq_true, if_false, e]
  rfl
/-! ### what each rule makes -/
theorem mk_gt (x y : Fm) : mk (.n false x y) y = some ([62], x) := by simp [mk, j1]
theorem mk_lt (x y : Fm) : mk y (.n true x y) = some ([60], x) := by
  have h2 : j2 y (.n true x y) = some x := by simp [j2]
  have h1 : j1 y (.n true x y) = none := by
    cases h : j1 y (.n true x y) with
    | none => rfl
    | some z =>
      have := (j12 (f := y) (g := .n true x y) (by rw [h]; rfl)).1
      rw [h2] at this
      cases this
  simp [mk, h1, h2]
theorem mk_gg (x y z : Fm) : mk (.n false x y) (.n false y z) = some ([62, 62], .n false x z) := by
  have h3 : j3 (.n false x y) (.n false y z) = some (.n false x z) := by simp [j3]
  have h1 : j1 (.n false x y) (.n false y z) = none := by
    cases h : j1 (.n false x y) (.n false y z) with
    | none => rfl
    | some q =>
      have := (j12 (f := .n false x y) (g := .n false y z) (by rw [h]; rfl)).2.1
      rw [h3] at this
      cases this
  have h2 : j2 (.n false x y) (.n false y z) = none := rfl
  simp [mk, h1, h2, h3]
theorem mk_ll (x y z : Fm) : mk (.n true y z) (.n true x y) = some ([60, 60], .n true x z) := by
  have h4 : j4 (.n true y z) (.n true x y) = some (.n true x z) := by simp [j4]
  have h1 : j1 (.n true y z) (.n true x y) = none := rfl
  have h2 : j2 (.n true y z) (.n true x y) = none := by
    cases h : j2 (.n true y z) (.n true x y) with
    | none => rfl
    | some q =>
      have := (j23 (f := .n true y z) (g := .n true x y) (by rw [h]; rfl)).2
      rw [h4] at this
      cases this
  have h3 : j3 (.n true y z) (.n true x y) = none := rfl
  simp [mk, h1, h2, h3, h4]
end K60
set_option Elab.async false
set_option linter.all false
set_option maxRecDepth 100000
set_option maxHeartbeats 1000000
namespace K60
open PySem L2 M
variable [HasW]
/-! ### readings of the deck -/
inductive Sg where
  | r | l | rr | ll
def Sg.cs : Sg → List Nat
  | .r => [62]
  | .l => [60]
  | .rr => [62, 62]
  | .ll => [60, 60]
inductive Rd where
  | w (p : Int) (f : Fm)
  | n (s : Sg) (x y : Rd)
def encR : Rd → D
  | .w p f => .tuple [.str (S [119, 111, 114, 100]), .int p, enc f]
  | .n s x y => .tuple [.str (S s.cs), encR x, encR y]
def Rd.lvs : Rd → Nat
  | .w _ _ => 1
  | .n _ x y => x.lvs + y.lvs
def Rd.wf (b : Nat) : Rd → Prop
  | .w _ f => f.wf ∧ f.size ≤ b
  | .n _ x y => x.wf b ∧ y.wf b
theorem Rd.lvs_pos : ∀ r : Rd, 1 ≤ r.lvs
  | .w _ _ => Nat.le_refl _
  | .n _ x y => by have := x.lvs_pos; show 1 ≤ x.lvs + y.lvs; omega
def hdR : Rd → List Nat
  | .w _ _ => [119, 111, 114, 100]
  | .n s _ _ => s.cs
@[simp] theorem ixR0 (r : Rd) : ixP (encR r) (.int 0) = .ok (.str (S (hdR r))) := by cases r <;> simp [encR, hdR]
@[simp] theorem ixR1 (s : Sg) (x y : Rd) : ixP (encR (.n s x y)) (.int 1) = .ok (encR x) := by simp [encR]
@[simp] theorem ixR2 (s : Sg) (x y : Rd) : ixP (encR (.n s x y)) (.int 2) = .ok (encR y) := by simp [encR]
theorem okC_cs (s : Sg) : okC s.cs = true := by cases s <;> decide
theorem okC_hdR (r : Rd) : okC (hdR r) = true := by
  cases r with
  | w p f => exact (by decide : okC [119, 111, 114, 100] = true)
  | n s x y => exact okC_cs s
theorem cs_word (s : Sg) : ¬ s.cs = [119, 111, 114, 100] := by cases s <;> decide
theorem P_wide : ∀ (n : Nat) (f : Fm), f.size ≤ n → P__law_wide n (enc f) = .ok (.int (f.size : Int))
  | 0, f, h => by have := f.size_pos; omega
  | n + 1, .b w, h => by
    show B__law_wide (P__law_wide n) _ = _
    simp [B__law_wide, lt0, lt1, lt2, lt3, lt4, lt5, lt6, lt7, lt8, lt9, lt10, lt11, lt12, lt13, lt14, lt15, lt16, lt17, lt19, Fm.size]
  | n + 1, .n s x y, h => by
    have h : x.size + y.size ≤ n + 1 := h
    have px := x.size_pos
    have py := y.size_pos
    have e : eqP false (.str (S (slash s))) (.str (S [98, 97, 115, 105, 99])) = .ok (.bool false) := by rw [eqP_str (okC_slash s) (by decide)]; simp [slash_ne]
    show B__law_wide (P__law_wide n) _ = _
    simp [B__law_wide, lt0, lt1, lt2, lt3, lt4, lt5, lt6, lt7, lt8, lt9, lt10, lt11, lt12, lt13, lt14, lt15, lt16, lt17, lt19, e, P_wide n x (by omega), P_wide n y (by omega), Fm.size]
theorem ix_sts {ws : List (List Nat)} (hl : 0 < ws.length) (a : Nat) : ∃ w ∈ ws, modP (.int (a : Int)) (.int ((sts ws).length : Int)) = .ok (.int ((a % ws.length : Nat) : Int)) ∧ ixP (.list (sts ws)) (.int ((a % ws.length : Nat) : Int)) = .ok (.str (S w)) := by
  have hm := Nat.mod_lt a hl
  have e : (sts ws).length = ws.length := by simp [sts]
  refine ⟨ws[a % ws.length], List.getElem_mem hm, ?_, ixP_list ?_⟩
  · rw [e, modP_s (by omega)]; congr 2
  · rw [atI_cast]; simp [sts, hm]
theorem ix_slash (a : Nat) : ∃ s : Bool, ixP (.list [.str (S [47]), .str (S [92])]) (.int ((a % 2 : Nat) : Int)) = .ok (.str (S (slash s))) := by
  rcases Nat.mod_two_eq_zero_or_one a with h | h
  · exact ⟨false, by rw [h]; simp⟩
  · exact ⟨true, by rw [h]; simp⟩
theorem P_other {ws : List (List Nat)} (hl : 0 < ws.length) (hw : ∀ w ∈ ws, isW w) (q : Dk) {f : Fm} (hf : f.size ≤ 40) : ∃ (g : Fm) (q' : Dk), g.wf ∧ g.size ≤ 2 ∧ P__law_other q (.list (sts ws)) (enc f) = .ok (enc g, q') := by
  obtain ⟨a, q1, ha, e1⟩ := nxt q
  obtain ⟨w, hw1, e2, e3⟩ := ix_sts hl a
  have ww := hw w hw1
  unfold P__law_other
  have ew := P_wide fuelR f (by rw [fuelR_eq]; exact hf)
  simp only [e1, PR.bind_ok, lenP_list, e2, e3, divP_s (show (0 : Int) < 3 by decide) (by decide), modP_s (show (0 : Int) < 4 by decide), gtP_int, ptb_bool, ew, lt0, lt1, lt2, lt3, lt4, lt5, lt6, lt7, lt8, lt9, lt10, lt11, lt12, lt13, lt14, lt15, lt16, lt17, lt19]
  have yes : J2__law_other q1 (.list (sts ws)) (.int (a : Int)) (.tuple [.str (S [98, 97, 115, 105, 99]), .str (S w)]) true = .ok (enc (.b w), q1) := by
    simp [J2__law_other, enc]
  have no : ∃ (g : Fm) (q' : Dk), g.wf ∧ g.size ≤ 2 ∧ J2__law_other q1 (.list (sts ws)) (.int (a : Int)) (.tuple [.str (S [98, 97, 115, 105, 99]), .str (S w)]) false = .ok (enc g, q') := by
    obtain ⟨u, hu1, e4, e5⟩ := ix_sts hl (a / 24)
    obtain ⟨s, e6⟩ := ix_slash (a / 12)
    have c1 : (a : Int) / 12 % 2 = ((a / 12 % 2 : Nat) : Int) := by omega
    have c2 : (a : Int) / 24 = ((a / 24 : Nat) : Int) := by omega
    refine ⟨.n s (.b w) (.b u), q1, ⟨ww, hw u hu1⟩, by simp [Fm.size], ?_⟩
    simp only [J2__law_other, Bool.false_eq_true, if_false, J1__law_other, divP_s (show (0 : Int) < 12 by decide) (by decide), divP_s (show (0 : Int) < 24 by decide) (by decide), modP_s (show (0 : Int) < 2 by decide), PR.bind_ok, c1, c2, lt0, lt1, lt2, lt3, lt4, lt5, lt6, lt7, lt8, lt9, lt10, lt11, lt12, lt13, lt14, lt15, lt16, lt17, lt19, e6, lenP_list, e4, e5, enc]
  by_cases h1 : 0 < (a : Int) / 3 % 4
  · simp only [h1, decide_true, if_true, yes]
    exact ⟨.b w, q1, ww, by simp [Fm.size], rfl⟩
  · simp only [h1, decide_false, Bool.false_eq_true, if_false]
    by_cases h2 : (3 : Int) < (f.size : Int)
    · simp only [h2, decide_true, yes]
      exact ⟨.b w, q1, ww, by simp [Fm.size], rfl⟩
    · simp only [h2, decide_false]
      exact no
/-! ### the drawn reading, with its forms and places -/
theorem wordHd (r : Rd) : eqP false (.str (S (hdR r))) (.str (S [119, 111, 114, 100])) = .ok (.bool (match r with | .w _ _ => true | _ => false)) := by
  rw [eqP_str (okC_hdR r) (by decide)]
  cases r with
  | w p f => simp [hdR]
  | n s x y => simp [hdR, cs_word]
/-- two forms of which a rule makes one, by its sign -/
def sr : Sg → Fm → Fm → Fm → Prop
  | .r, a, b, f => a = .n false f b
  | .l, a, b, f => b = .n true f a
  | .rr, a, b, f => ∃ x g y, a = .n false x g ∧ b = .n false g y ∧ f = .n false x y
  | .ll, a, b, f => ∃ x g y, a = .n true g y ∧ b = .n true x g ∧ f = .n true x y
/-- from a place on, so many words, of a form -/
def Rd.at : Rd → Nat → Nat → Fm → Prop
  | .w k g, p, m, f => k = (p : Int) ∧ m = 1 ∧ g = f
  | .n s x y, p, m, f => ∃ n1 n2 a b, m = n1 + n2 ∧ x.at p n1 a ∧ y.at (p + n1) n2 b ∧ sr s a b f
theorem at_lvs : ∀ (r : Rd) (p m : Nat) (f : Fm), r.at p m f → r.lvs = m
  | .w k g, p, m, f, h => h.2.1.symm
  | .n s x y, p, m, f, ⟨n1, n2, a, b, e, h1, h2, _⟩ => by
    have := at_lvs x _ _ _ h1
    have := at_lvs y _ _ _ h2
    simp only [Rd.lvs]
    omega
theorem P_other2 {ws : List (List Nat)} (hl : 0 < ws.length) (hw : ∀ w ∈ ws, isW w) (q : Dk) {f : Fm} (hf : f.size ≤ 40) : ∃ (g : Fm) (q' : Dk), g.wf ∧ g.size ≤ 2 ∧ (3 < f.size → g.size = 1) ∧ P__law_other q (.list (sts ws)) (enc f) = .ok (enc g, q') := by
  obtain ⟨a, q1, ha, e1⟩ := nxt q
  obtain ⟨w, hw1, e2, e3⟩ := ix_sts hl a
  have ww := hw w hw1
  unfold P__law_other
  have ew := P_wide fuelR f (by rw [fuelR_eq]; exact hf)
  simp only [e1, PR.bind_ok, lenP_list, e2, e3, divP_s (show (0 : Int) < 3 by decide) (by decide), modP_s (show (0 : Int) < 4 by decide), gtP_int, ptb_bool, ew, lt0, lt1, lt2, lt3, lt4, lt5, lt6, lt7, lt8, lt9, lt10, lt11, lt12, lt13, lt14, lt15, lt16, lt17, lt19]
  have yes : J2__law_other q1 (.list (sts ws)) (.int (a : Int)) (.tuple [.str (S [98, 97, 115, 105, 99]), .str (S w)]) true = .ok (enc (.b w), q1) := by
    simp [J2__law_other, enc]
  have no : ∃ (g : Fm) (q' : Dk), g.wf ∧ g.size ≤ 2 ∧ J2__law_other q1 (.list (sts ws)) (.int (a : Int)) (.tuple [.str (S [98, 97, 115, 105, 99]), .str (S w)]) false = .ok (enc g, q') := by
    obtain ⟨u, hu1, e4, e5⟩ := ix_sts hl (a / 24)
    obtain ⟨s, e6⟩ := ix_slash (a / 12)
    have c1 : (a : Int) / 12 % 2 = ((a / 12 % 2 : Nat) : Int) := by omega
    have c2 : (a : Int) / 24 = ((a / 24 : Nat) : Int) := by omega
    refine ⟨.n s (.b w) (.b u), q1, ⟨ww, hw u hu1⟩, by simp [Fm.size], ?_⟩
    simp only [J2__law_other, Bool.false_eq_true, if_false, J1__law_other, divP_s (show (0 : Int) < 12 by decide) (by decide), divP_s (show (0 : Int) < 24 by decide) (by decide), modP_s (show (0 : Int) < 2 by decide), PR.bind_ok, c1, c2, lt0, lt1, lt2, lt3, lt4, lt5, lt6, lt7, lt8, lt9, lt10, lt11, lt12, lt13, lt14, lt15, lt16, lt17, lt19, e6, lenP_list, e4, e5, enc]
  by_cases h1 : 0 < (a : Int) / 3 % 4
  · simp only [h1, decide_true, if_true, yes]
    exact ⟨.b w, q1, ww, by simp [Fm.size], fun _ => rfl, rfl⟩
  · simp only [h1, decide_false, Bool.false_eq_true, if_false]
    by_cases h2 : (3 : Int) < (f.size : Int)
    · simp only [h2, decide_true, yes]
      exact ⟨.b w, q1, ww, by simp [Fm.size], fun _ => rfl, rfl⟩
    · simp only [h2, decide_false]
      obtain ⟨g, q', a1, a2, a3⟩ := no
      exact ⟨g, q', a1, a2, fun h => absurd (by omega) h2, a3⟩
theorem P_treeT {ws : List (List Nat)} (hl : 0 < ws.length) (hw : ∀ w ∈ ws, isW w) : ∀ (n many : Nat) (f : Fm) (p : Nat) (q : Dk), f.wf → f.size ≤ 5 → 1 ≤ many → many ≤ n → ∃ (r : Rd) (q' : Dk), r.wf 5 ∧ r.at p many f ∧ P__law_tree n q (.list (sts ws)) (enc f) (.int (p : Int)) (.int (many : Int)) = .ok (encR r, q')
  | 0, many, f, p, q, hf, h5, h1, h2 => by omega
  | n + 1, many, f, p, q, hf, h5, h1, h2 => by
    show ∃ (r : Rd) (q' : Dk), r.wf 5 ∧ r.at p many f ∧ B__law_tree (P__law_tree n) _ _ _ _ _ = _
    by_cases hm : many < 2
    · have : many = 1 := by omega
      subst this
      exact ⟨.w (p : Int) f, q, ⟨hf, by omega⟩, ⟨rfl, rfl, rfl⟩, by simp [B__law_tree, encR, lt0, lt1, lt2, lt3, lt4, lt5, lt6, lt7, lt8, lt9, lt10, lt11, lt12, lt13, lt14, lt15, lt16, lt17, lt19]⟩
    · obtain ⟨a, q1, ha, e1⟩ := nxt q
      obtain ⟨b, q2, hb, e2⟩ := nxt q1
      obtain ⟨g, q3, hg, hg2, hg3, e3⟩ := P_other2 hl hw q2 (f := f) (by omega)
      obtain ⟨c, hc⟩ : ∃ c : Nat, c = 1 + a % (many - 1) := ⟨_, rfl⟩
      have hcm : a % (many - 1) < many - 1 := Nat.mod_lt _ (by omega)
      have ec : (1 : Int) + (a : Int) % ((many : Int) - 1) = (c : Int) := by
        rw [hc]
        have : ((many : Int) - 1) = ((many - 1 : Nat) : Int) := by omega
        rw [this]
        omega
      have hgp := g.size_pos
      have hfp := f.size_pos
      -- the end, for two forms
      have fin : ∀ (s : Sg) (f1 f2 : Fm), f1.wf → f2.wf → f1.size ≤ 5 ∧ f2.size ≤ 5 → sr s f1 f2 f → ∃ (r : Rd) (q' : Dk), r.wf 5 ∧ r.at p many f ∧ J3__law_tree (P__law_tree n) q3 (.list (sts ws)) (.int (p : Int)) (.int (many : Int)) (.int (c : Int)) (.str (S s.cs)) (.tuple [enc f1, enc f2]) = .ok (encR r, q') := by
        intro s f1 f2 w1 w2 z hs
        obtain ⟨r1, q4, a1, a2, a3⟩ := P_treeT hl hw n c f1 p q3 w1 z.1 (by omega) (by omega)
        obtain ⟨r2, q5, b1, b2, b3⟩ := P_treeT hl hw n (many - c) f2 (p + c) q4 w2 z.2 (by omega) (by omega)
        have em : (many : Int) - (c : Int) = ((many - c : Nat) : Int) := by omega
        rw [Int.natCast_add] at b3
        refine ⟨.n s r1 r2, q5, ⟨a1, b1⟩, ⟨c, many - c, f1, f2, by omega, a2, b2, hs⟩, ?_⟩
        simp [J3__law_tree, a3, em, b3, encR]
      have e4 := P_wide fuelR f (by rw [fuelR_eq]; omega)
      have step2 : ∀ (s : Sg) (f1 f2 : Fm), f1.wf → f2.wf → ((∀ x y, f = .n true x y → f.size ≤ 4) → f1.size ≤ 5 ∧ f2.size ≤ 5) → sr s f1 f2 f → ∃ (r : Rd) (q' : Dk), r.wf 5 ∧ r.at p many f ∧ J2__law_tree (P__law_tree n) q3 (.list (sts ws)) (enc f) (.int (p : Int)) (.int (many : Int)) (.int (c : Int)) (.int (b : Int)) (enc g) (.str (S s.cs)) (.tuple [enc f1, enc f2]) = .ok (encR r, q') := by
        intro s f1 f2 w1 w2 hz hs
        have no : f1.size ≤ 5 ∧ f2.size ≤ 5 → ∃ (r : Rd) (q' : Dk), r.wf 5 ∧ r.at p many f ∧ J4__law_tree (P__law_tree n) q3 (.list (sts ws)) (enc f) (.int (p : Int)) (.int (many : Int)) (.int (c : Int)) (enc g) (.str (S s.cs)) (.tuple [enc f1, enc f2]) false = .ok (encR r, q') := by
          intro z
          simp only [J4__law_tree, Bool.false_eq_true, if_false]
          exact fin s f1 f2 w1 w2 z hs
        simp only [J2__law_tree, ixF0, PR.bind_ok, lt0, lt1, lt2, lt3, lt4, lt5, lt6, lt7, lt8, lt9, lt10, lt11, lt12, lt13, lt14, lt15, lt16, lt17, lt19, eqP_str (okC_hdF f) (show okC [92] = true by decide), ptb_bool, ngB_f, modP_s (show (0 : Int) < 8 by decide), gtP_int, e4]
        cases f with
        | b w => simpa using no (hz fun x y e => nomatch e)
        | n sl x y =>
          cases sl with
          | false => simpa using no (hz fun x y e => nomatch e)
          | true =>
            have yes : ∃ (r : Rd) (q' : Dk), r.wf 5 ∧ r.at p many (.n true x y) ∧ J4__law_tree (P__law_tree n) q3 (.list (sts ws)) (enc (.n true x y)) (.int (p : Int)) (.int (many : Int)) (.int (c : Int)) (enc g) (.str (S s.cs)) (.tuple [enc f1, enc f2]) true = .ok (encR r, q') := by
              have hx := x.size_pos
              have hy := y.size_pos
              have h5 : x.size + y.size ≤ 5 := h5
              have hg3 : 3 < x.size + y.size → g.size = 1 := hg3
              have z : (Fm.n true g y).size ≤ 5 ∧ (Fm.n true x g).size ≤ 5 := by
                simp only [Fm.size]
                by_cases h : 3 < x.size + y.size
                · have := hg3 h; omega
                · omega
              obtain ⟨r, q', r1, r2, r3⟩ := fin .ll (.n true g y) (.n true x g) ⟨hg, hf.2⟩ ⟨hf.1, hg⟩ z ⟨x, g, y, rfl, rfl, rfl⟩
              refine ⟨r, q', r1, r2, ?_⟩
              simpa [J4__law_tree, lt0, lt1, lt2, lt3, lt4, lt5, lt6, lt7, lt8, lt9, lt10, lt11, lt12, lt13, lt14, lt15, lt16, lt17, lt19, enc, Sg.cs] using r3
            simp only [hdF_n, slash_t, decide_true, if_true]
            split
            · exact yes
            · by_cases h4 : (4 : Int) < (((Fm.n true x y).size : Nat) : Int)
              · rw [decide_eq_true h4]
                exact yes
              · rw [decide_eq_false h4]
                exact no (hz fun _ _ _ => by omega)
      have step1 : ∀ (s : Sg) (f1 f2 : Fm), f1.wf → f2.wf → (f.size ≤ 4 → f1.size ≤ 5 ∧ f2.size ≤ 5) → sr s f1 f2 f → ∃ (r : Rd) (q' : Dk), r.wf 5 ∧ r.at p many f ∧ J1__law_tree (P__law_tree n) q3 (.list (sts ws)) (enc f) (.int (p : Int)) (.int (many : Int)) (.int (c : Int)) (.int (b : Int)) (enc g) (.str (S s.cs)) (.tuple [enc f1, enc f2]) = .ok (encR r, q') := by
        intro s f1 f2 w1 w2 hz hs
        have no : ((∀ x y, f = .n true x y → f.size ≤ 4) → f1.size ≤ 5 ∧ f2.size ≤ 5) → ∃ (r : Rd) (q' : Dk), r.wf 5 ∧ r.at p many f ∧ J5__law_tree (P__law_tree n) q3 (.list (sts ws)) (enc f) (.int (p : Int)) (.int (many : Int)) (.int (c : Int)) (.int (b : Int)) (enc g) (.str (S s.cs)) (.tuple [enc f1, enc f2]) false = .ok (encR r, q') := by
          intro z
          simp only [J5__law_tree, Bool.false_eq_true, if_false]
          exact step2 s f1 f2 w1 w2 z hs
        simp only [J1__law_tree, ixF0, PR.bind_ok, lt0, lt1, lt2, lt3, lt4, lt5, lt6, lt7, lt8, lt9, lt10, lt11, lt12, lt13, lt14, lt15, lt16, lt17, lt19, eqP_str (okC_hdF f) (show okC [47] = true by decide), ptb_bool, ngB_f, modP_s (show (0 : Int) < 8 by decide), gtP_int, e4]
        cases f with
        | b w => simpa using no fun _ => hz (by simp [Fm.size])
        | n sl x y =>
          cases sl with
          | true => simpa using no fun h => hz (h x y rfl)
          | false =>
            have yes : ∃ (r : Rd) (q' : Dk), r.wf 5 ∧ r.at p many (.n false x y) ∧ J5__law_tree (P__law_tree n) q3 (.list (sts ws)) (enc (.n false x y)) (.int (p : Int)) (.int (many : Int)) (.int (c : Int)) (.int (b : Int)) (enc g) (.str (S s.cs)) (.tuple [enc f1, enc f2]) true = .ok (encR r, q') := by
              have hx := x.size_pos
              have hy := y.size_pos
              have h5 : x.size + y.size ≤ 5 := h5
              have hg3 : 3 < x.size + y.size → g.size = 1 := hg3
              have z : (Fm.n false x g).size ≤ 5 ∧ (Fm.n false g y).size ≤ 5 := by
                simp only [Fm.size]
                by_cases h : 3 < x.size + y.size
                · have := hg3 h; omega
                · omega
              obtain ⟨r, q', r1, r2, r3⟩ := step2 .rr (.n false x g) (.n false g y) ⟨hf.1, hg⟩ ⟨hg, hf.2⟩ (fun _ => z) ⟨x, g, y, rfl, rfl, rfl⟩
              refine ⟨r, q', r1, r2, ?_⟩
              simpa [J5__law_tree, lt0, lt1, lt2, lt3, lt4, lt5, lt6, lt7, lt8, lt9, lt10, lt11, lt12, lt13, lt14, lt15, lt16, lt17, lt19, enc, Sg.cs] using r3
            simp only [hdF_n, slash_f, decide_true, if_true]
            split
            · exact yes
            · by_cases h4 : (4 : Int) < (((Fm.n false x y).size : Nat) : Int)
              · rw [decide_eq_true h4]
                exact yes
              · rw [decide_eq_false h4]
                exact no fun _ => hz (by omega)
      have hm2 : ¬ (many : Int) < 2 := by omega
      have zz : f.size ≤ 4 → g.size ≤ 5 ∧ f.size + g.size ≤ 5 := fun h => by
        by_cases h3 : 3 < f.size
        · have := hg3 h3; omega
        · omega
      simp only [B__law_tree, ltP_int, PR.bind_ok, ptb_bool, hm2, decide_false, Bool.false_eq_true, if_false, e1, subP_int, modP_s (show 0 < (many : Int) - 1 by omega), addSP_int, ec, e2, e3, modP_s (show (0 : Int) < 2 by decide), eqP_int, ngB_f]
      split
      · obtain ⟨r, q', r1, r2, r3⟩ := step1 .l g (.n true f g) hg ⟨hf, hg⟩ zz rfl
        exact ⟨r, q', r1, r2, by simpa [lt0, lt1, lt2, lt3, lt4, lt5, lt6, lt7, lt8, lt9, lt10, lt11, lt12, lt13, lt14, lt15, lt16, lt17, lt19, enc, Sg.cs] using r3⟩
      · obtain ⟨r, q', r1, r2, r3⟩ := step1 .r (.n false f g) g ⟨hf, hg⟩ hg (fun h => ⟨(zz h).2, (zz h).1⟩) rfl
        exact ⟨r, q', r1, r2, by simpa [lt0, lt1, lt2, lt3, lt4, lt5, lt6, lt7, lt8, lt9, lt10, lt11, lt12, lt13, lt14, lt15, lt16, lt17, lt19, enc, Sg.cs] using r3⟩
/-! ### lists of readings as data -/
def encs (rs : List Rd) : List D := rs.map encR
def withinR : Rd → List Rd
  | .w p f => [.w p f]
  | .n s x y => .n s x y :: (withinR x ++ withinR y)
theorem within_len : ∀ r, (withinR r).length + 1 = 2 * r.lvs
  | .w _ _ => rfl
  | .n _ x y => by
    have := within_len x
    have := within_len y
    simp only [withinR, List.length_cons, List.length_append, Rd.lvs]
    omega
theorem P_within : ∀ (n : Nat) (r : Rd), r.lvs ≤ n → n ≤ 40 → P__law_within n (encR r) = .ok (.list (encs (withinR r)))
  | 0, r, h, _ => by have := r.lvs_pos; omega
  | n + 1, .w p f, h, _ => by
    show B__law_within (P__law_within n) _ = _
    simp [B__law_within, lt0, lt1, lt2, lt3, lt4, lt5, lt6, lt7, lt8, lt9, lt10, lt11, lt12, lt13, lt14, lt15, lt16, lt17, lt19, wordHd, withinR, encs]
  | n + 1, .n s x y, h, hn => by
    have px := x.lvs_pos
    have py := y.lvs_pos
    have h : x.lvs + y.lvs ≤ n + 1 := h
    have lx := within_len x
    have ly := within_len y
    show B__law_within (P__law_within n) _ = _
    simp only [B__law_within, lt0, lt1, lt2, lt3, lt4, lt5, lt6, lt7, lt8, lt9, lt10, lt11, lt12, lt13, lt14, lt15, lt16, lt17, lt19, ixR0, wordHd, PR.bind_ok, ptb_bool, Bool.false_eq_true, if_false, ixR1, ixR2, P_within n x (by omega) (by omega), P_within n y (by omega) (by omega)]
    rw [addP_list (by rw [sizeLine_eq]; simp [encs]; omega), PR.bind_ok, addP_list (by rw [sizeLine_eq]; simp [encs]; omega), PR.bind_ok]
    simp [withinR, encs]
theorem wf_within {b : Nat} : ∀ r : Rd, r.wf b → ∀ z ∈ withinR r, z.wf b
  | .w p f, w, z, h => by rw [List.mem_singleton.mp h]; exact w
  | .n s x y, w, z, h => by
    rcases List.mem_cons.mp h with rfl | h
    · exact w
    · rcases List.mem_append.mp h with h | h
      · exact wf_within x w.1 z h
      · exact wf_within y w.2 z h
end K60
set_option Elab.async false
set_option linter.all false
set_option maxRecDepth 100000
set_option maxHeartbeats 1000000
namespace K60
open PySem L2 M
variable [HasW]
/-! ### data that the law tells to be the same -/
def SD : Nat → D → Prop
  | 0, _ => False
  | _ + 1, .str s => ∃ w, s = S w ∧ okC w = true
  | _ + 1, .int _ => True
  | n + 1, .tuple ds => ds.length ≤ 3 ∧ ∀ d ∈ ds, SD n d
  | _ + 1, _ => False
theorem SD.mono : ∀ {n m : Nat} {d : D}, SD n d → n ≤ m → SD m d
  | 0, m, d, h, _ => by cases d <;> exact False.elim h
  | n + 1, 0, d, h, hm => by omega
  | n + 1, m + 1, .str s, h, hm => h
  | n + 1, m + 1, .int i, h, hm => trivial
  | n + 1, m + 1, .tuple ds, h, hm => ⟨h.1, fun d hd => SD.mono (h.2 d hd) (by omega)⟩
  | n + 1, m + 1, .none, h, hm => False.elim h
  | n + 1, m + 1, .bool _, h, hm => False.elim h
  | n + 1, m + 1, .list _, h, hm => False.elim h
  | n + 1, m + 1, .dict _, h, hm => False.elim h
theorem SD.t2 {n : Nat} {a b : D} (ha : SD n a) (hb : SD n b) : SD (n + 1) (.tuple [a, b]) := ⟨by simp, fun d hd => by
  simp only [List.mem_cons, List.not_mem_nil, or_false] at hd
  rcases hd with rfl | rfl
  · exact ha
  · exact hb⟩
theorem SD.t3 {n : Nat} {a b c : D} (ha : SD n a) (hb : SD n b) (hc : SD n c) : SD (n + 1) (.tuple [a, b, c]) := ⟨by simp, fun d hd => by
  simp only [List.mem_cons, List.not_mem_nil, or_false] at hd
  rcases hd with rfl | rfl | rfl
  · exact ha
  · exact hb
  · exact hc⟩
theorem SD.s {n : Nat} {w : List Nat} (h : okC w = true) : SD (n + 1) (.str (S w)) := ⟨w, rfl, h⟩
theorem SD.lit {n : Nat} {s : String} {w : List Nat} (e : Str.ofString s = S w) (h : okC w = true) : SD (n + 1) (.str (Str.ofString s)) := ⟨w, e, h⟩
theorem SD.i {n : Nat} (i : Int) : SD (n + 1) (.int i) := trivial
theorem zip_self : ∀ ds : List D, zipD ds ds = ds.map fun d => .tuple [d, d]
  | [] => rfl
  | d :: ds => by
    have ih := zip_self ds
    unfold zipD at ih ⊢
    rw [List.zip_cons_cons, List.map_cons, ih]
    rfl
theorem bools_t : ∀ ds : List D, dBools (ds.map fun _ => PyData.bool true) = some (ds.map fun _ => true)
  | [] => rfl
  | d :: ds => by rw [List.map_cons, dBools, bools_t ds]; rfl
theorem all_t (ds : List D) : allP [.list (ds.map fun _ => PyData.bool true)] = .ok (.bool true) := by
  unfold allP lst1P
  dsimp only
  rw [bools_t]
  simp
theorem same_D : ∀ (n : Nat) (d : D), SD n d → P__law_same n d d = .ok (.bool true)
  | 0, d, h => by cases d <;> exact False.elim h
  | n + 1, .str s, h => by
    obtain ⟨w, rfl, hw⟩ := h
    have p1 : ∀ K : D → PR D, pisi [.str] (.str (S w)) K = K (.bool true) := fun K => rfl
    show B__law_same (P__law_same n) _ _ = _
    unfold B__law_same
    rw [p1, ptt_b, if_pos rfl, p1, ptb_bool, if_pos rfl, eqP_str hw hw, PR.bind_ok]
    simp
  | n + 1, .int i, h => by
    have p1 : ∀ K : D → PR D, pisi [.str] (.int i) K = K (.bool false) := fun K => rfl
    have p2 : ∀ K : D → PR D, pisi [.tup] (.int i) K = K (.bool false) := fun K => rfl
    have p3 : ∀ K : D → PR D, pisi [.int] (.int i) K = K (.bool true) := fun K => rfl
    have p4 : ∀ K : D → PR D, pisi [.bl] (.int i) K = K (.bool false) := fun K => rfl
    show B__law_same (P__law_same n) _ _ = _
    unfold B__law_same
    rw [p1, ptt_b, if_neg (by decide), p2, ptt_b, if_pos (by rfl), p3, ptb_bool, if_pos rfl, p4, ptb_bool, ptb_bool, if_pos (by rfl), eqP_int, PR.bind_ok]
    simp
  | n + 1, .tuple ds, h => by
    obtain ⟨h1, h2⟩ := h
    have p1 : ∀ K : D → PR D, pisi [.str] (.tuple ds) K = K (.bool false) := fun K => rfl
    have p2 : ∀ K : D → PR D, pisi [.tup] (.tuple ds) K = K (.bool true) := fun K => rfl
    have l : lenP [.tuple ds] = .ok (.int (ds.length : Int)) := rfl
    have z : zipP [.tuple ds, .tuple ds] = .ok (ds.map fun d => .tuple [d, d]) := by
      unfold zipP
      dsimp only
      rw [zip_self]
    have j1 : J1__law_same (P__law_same n) (.tuple ds) (.tuple ds) = .ok (.bool true) := by
      unfold J1__law_same
      rw [z, PR.bind_ok, lcK_mapE (e := fun d => PyData.tuple [d, d]) (f := fun _ => PyData.bool true) (fun d hd => by
        unfold C2__law_same
        rw [ptup_tuple, pcons_cons, pcons_cons, pnil_nil, same_D n d (h2 d hd), PR.bind_ok]) (by rw [sizeLine_eq]; simp only [List.length_nil]; omega), List.nil_append, all_t, PR.bind_ok]
    show B__law_same (P__law_same n) _ _ = _
    unfold B__law_same
    rw [p1, ptt_b, if_neg (by decide), p2, ptt_b, if_neg (by decide), p2, ptt_b, if_neg (by decide), l, PR.bind_ok, PR.bind_ok, eqP_int, PR.bind_ok, ptb_bool, if_neg (by simp), j1]
  | n + 1, .none, h => False.elim h
  | n + 1, .bool _, h => False.elim h
  | n + 1, .list _, h => False.elim h
  | n + 1, .dict _, h => False.elim h
theorem SD_enc : ∀ f : Fm, f.wf → SD (f.size + 1) (enc f)
  | .b w, h => SD.t2 (SD.s (by decide)) (SD.s (isW.okC h))
  | .n s x y, h => by
    have px := x.size_pos
    have py := y.size_pos
    exact SD.t3 (n := x.size + y.size) ((SD.s (n := 0) (okC_slash s)).mono (by omega)) ((SD_enc x h.1).mono (by omega)) ((SD_enc y h.2).mono (by omega))
theorem SD_kd : ∀ f : Fm, f.wf → SD f.size (kdD f)
  | .b w, h => SD.s (isW.okC h)
  | .n s x y, h => by
    have px := x.size_pos
    have py := y.size_pos
    have := SD.t2 (n := x.size + y.size - 1) ((SD_kd y h.2).mono (by omega)) ((SD_kd x h.1).mono (by omega))
    rw [Nat.sub_add_cancel (by omega)] at this
    exact this
end K60
set_option Elab.async false
set_option linter.all false
set_option maxRecDepth 100000
set_option maxHeartbeats 1000000
namespace K60
open PySem L2 M
variable [HasW]
/-! ### what a drawn reading means -/
theorem P_lkf : ∀ (n : Nat) (f : Fm), f.size ≤ n → P__law_kind_of_form n (enc f) = .ok (kdD f)
  | 0, f, h => by have := f.size_pos; omega
  | n + 1, .b w, h => by
    show B__law_kind_of_form (P__law_kind_of_form n) (enc (.b w)) = _
    unfold B__law_kind_of_form
    simp only [ixF0, PR.bind_ok, lt0, lt1, lt2, lt3, lt4, lt5, lt6, lt7, lt8, lt9, lt10, lt11, lt12, lt13, lt14, lt15, lt16, lt17, lt19, eq_hd, ptb_bool, ngB_f, isB_b, if_true, ixFb, kdD]
  | n + 1, .n s x y, h => by
    have px := x.size_pos
    have py := y.size_pos
    have h : x.size + y.size ≤ n + 1 := h
    show B__law_kind_of_form (P__law_kind_of_form n) (enc (.n s x y)) = _
    unfold B__law_kind_of_form
    simp only [ixF0, PR.bind_ok, lt0, lt1, lt2, lt3, lt4, lt5, lt6, lt7, lt8, lt9, lt10, lt11, lt12, lt13, lt14, lt15, lt16, lt17, lt19, eq_hd, ptb_bool, ngB_f, isB_n, Bool.false_eq_true, if_false, ixF1, ixF2, P_lkf n x (by omega), P_lkf n y (by omega), kdD]
def lfs : Rd → List (Int × Fm)
  | .w k g => [(k, g)]
  | .n _ x y => lfs x ++ lfs y
def lfD (q : Int × Fm) : D := .tuple [.int q.1, enc q.2]
def leafD (q : Int × Fm) : D := .tuple [.str (Str.ofString "leaf"), .int q.1, enc q.2]
theorem at_ok : ∀ (r : Rd) (p m : Nat) (f : Fm), r.at p m f → r.wf 5 → f.wf ∧ f.size ≤ 5 * m
  | .w k g, p, m, f, ⟨_, e, e2⟩, h => by
    subst e e2
    exact ⟨h.1, by have := h.2; omega⟩
  | .n s x y, p, m, f, ⟨n1, n2, a, b, e, h1, h2, hs⟩, h => by
    obtain ⟨a1, a2⟩ := at_ok x _ _ _ h1 h.1
    obtain ⟨b1, b2⟩ := at_ok y _ _ _ h2 h.2
    cases s with
    | r =>
      have hs : a = .n false f b := hs
      subst hs
      exact ⟨a1.1, by simp only [Fm.size] at a2; omega⟩
    | l =>
      have hs : b = .n true f a := hs
      subst hs
      exact ⟨b1.1, by simp only [Fm.size] at b2; omega⟩
    | rr =>
      obtain ⟨x', g, y', rfl, rfl, rfl⟩ := hs
      exact ⟨⟨a1.1, b1.2⟩, by simp only [Fm.size] at a2 b2 ⊢; omega⟩
    | ll =>
      obtain ⟨x', g, y', rfl, rfl, rfl⟩ := hs
      exact ⟨⟨b1.1, a1.2⟩, by simp only [Fm.size] at a2 b2 ⊢; omega⟩
theorem sr_mk {s : Sg} {a b f : Fm} (h : sr s a b f) : mk a b = some (s.cs, f) := by
  cases s with
  | r => have h : a = .n false f b := h; subst h; exact mk_gt _ _
  | l => have h : b = .n true f a := h; subst h; exact mk_lt _ _
  | rr => obtain ⟨x, g, y, rfl, rfl, rfl⟩ := h; exact mk_gg _ _ _
  | ll => obtain ⟨x, g, y, rfl, rfl, rfl⟩ := h; exact mk_ll _ _ _
theorem lw_eq : Str.ofString "word" = S [119, 111, 114, 100] := by decide +kernel
theorem in_lit {s a b : List Nat} (hs : okC s = true) (ha : okC a = true) (hb : okC b = true) : inP false (.str (S s)) (.tuple [.str (S a), .str (S b)]) = .ok (.bool (decide (a = s) || decide (b = s))) := by
  rw [inP_tup (by rfl), ngB_f]
  congr 2
  have e : ∀ x y : List Nat, PyData.eqv (.str (S x)) (.str (S y)) = decide (x = y) := fun x y => by
    have : (S x = S y) ↔ x = y := ⟨fun h => by simpa [S] using h, fun h => by rw [h]⟩
    simp [PyData.eqv, this]
  simp only [List.any_cons, List.any_nil, Bool.or_false, e]
def nT : Sg → Fm → D → D → D
  | .r, _, u, v => tOf u v
  | .l, _, u, v => tOf u v
  | .rr, .n _ _ k, u, v => tFn (kdD k) (tOf u (tOf v tB0))
  | .ll, .n _ _ k, u, v => tFn (kdD k) (tOf u (tOf v tB0))
  | _, _, _, _ => .none
def mT : Sg → Fm → D → D → D
  | .r, f, u, v => nT .r f u v
  | .l, f, u, v => nT .l f v u
  | .rr, f, u, v => nT .rr f u v
  | .ll, f, u, v => nT .ll f v u
section
variable {L : List (D × D)}
/-- the law's own, at a node -/
theorem law_node {s : Sg} {x y : Rd} {a b f : Fm} {z1 z2 : D} (hs : sr s a b f) (hb : f.size ≤ 40) {rec : D → List (D × D) → PR D} (e1 : rec (encR x) L = .ok (.tuple [enc a, z1])) (e2 : rec (encR y) L = .ok (.tuple [enc b, z2])) :
    B__law_meant rec (encR (.n s x y)) L = .ok (.tuple [enc f, mT s f z1 z2]) := by
  have hd := wordHd (.n s x y)
  have hd : eqP false (.str (S (hdR (.n s x y)))) (.str (S [119, 111, 114, 100])) = .ok (.bool false) := hd
  have c0 : hdR (.n s x y) = s.cs := rfl
  have jn : P__law_joined (.str (S s.cs)) (enc a) (enc b) = .ok (enc f) := by
    unfold P__law_joined
    simp only [lt0, lt1, lt2, lt3, lt4, lt5, lt6, lt7, lt8, lt9, lt10, lt11, lt12, lt13, lt14, lt15, lt16, lt17, lt19]
    cases s with
    | r =>
      have hs : a = .n false f b := hs
      subst hs
      simp [Sg.cs, eqP_str (n := false) (show okC [62] = true by decide) (show okC [62] = true by decide)]
    | l =>
      have hs : b = .n true f a := hs
      subst hs
      simp [Sg.cs, eqP_str (n := false) (show okC [60] = true by decide) (show okC [62] = true by decide), eqP_str (n := false) (show okC [60] = true by decide) (show okC [60] = true by decide)]
    | rr =>
      obtain ⟨x', g, y', rfl, rfl, rfl⟩ := hs
      simp [Sg.cs, enc, eqP_str (n := false) (show okC [62, 62] = true by decide) (show okC [62] = true by decide), eqP_str (n := false) (show okC [62, 62] = true by decide) (show okC [60] = true by decide), eqP_str (n := false) (show okC [62, 62] = true by decide) (show okC [62, 62] = true by decide)]
    | ll =>
      obtain ⟨x', g, y', rfl, rfl, rfl⟩ := hs
      simp [Sg.cs, enc, eqP_str (n := false) (show okC [60, 60] = true by decide) (show okC [62] = true by decide), eqP_str (n := false) (show okC [60, 60] = true by decide) (show okC [60] = true by decide), eqP_str (n := false) (show okC [60, 60] = true by decide) (show okC [62, 62] = true by decide)]
  have j1 : ∀ u v : D, J1__law_meant (encR (.n s x y)) u v (enc f) = .ok (.tuple [enc f, nT s f u v]) := fun u v => by
    unfold J1__law_meant
    rw [ixR0, PR.bind_ok, sg_gt, sg_lt, c0, in_lit (okC_cs s) (by decide) (by decide), PR.bind_ok, ptb_bool]
    cases s with
    | r => rw [if_pos (by decide)]; rfl
    | l => rw [if_pos (by decide)]; rfl
    | rr =>
      obtain ⟨x', g, y', rfl, rfl, rfl⟩ := hs
      simp only [Fm.size] at hb
      rw [if_neg (by decide), ixF2, PR.bind_ok, P_lkf fuelR y' (by rw [fuelR_eq]; omega), PR.bind_ok]
      rfl
    | ll =>
      obtain ⟨x', g, y', rfl, rfl, rfl⟩ := hs
      simp only [Fm.size] at hb
      rw [if_neg (by decide), ixF2, PR.bind_ok, P_lkf fuelR y' (by rw [fuelR_eq]; omega), PR.bind_ok]
      rfl
  unfold B__law_meant
  rw [ixR0, PR.bind_ok, lw_eq, hd, PR.bind_ok, ptb_bool, if_neg (by decide), ixR1, PR.bind_ok, e1, PR.bind_ok, ptup_tuple, pcons_cons, pcons_cons, pnil_nil, ixR2, PR.bind_ok, e2, PR.bind_ok, ptup_tuple, pcons_cons, pcons_cons, pnil_nil, PR.bind_ok, c0, jn, PR.bind_ok, PR.bind_ok, sg_lt, sg_ll, in_lit (okC_cs s) (by decide) (by decide), PR.bind_ok, ptb_bool]
  cases s with
  | r => rw [if_neg (by decide), j1]; rfl
  | l => rw [if_pos (by decide), ptup_tuple, pcons_cons, pcons_cons, pnil_nil, j1]; rfl
  | rr => rw [if_neg (by decide), j1]; rfl
  | ll => rw [if_pos (by decide), ptup_tuple, pcons_cons, pcons_cons, pnil_nil, j1]; rfl
/-- the program's, at a node -/
theorem prog_node {s : Sg} {x y : Rd} {a b f : Fm} {z1 z2 : D} (hs : sr s a b f) (ha : a.wf ∧ a.size ≤ 40) (hb : b.wf ∧ b.size ≤ 40) {rec : D → PR D} (e1 : rec (encR x) = .ok (.tuple [enc a, z1])) (e2 : rec (encR y) = .ok (.tuple [enc b, z2])) :
    B_meant_by rec (encR (.n s x y)) = .ok (.tuple [enc f, mT s f z1 z2]) := by
  have hd := wordHd (.n s x y)
  have hd : eqP false (.str (S (hdR (.n s x y)))) (.str (S [119, 111, 114, 100])) = .ok (.bool false) := hd
  have c0 : hdR (.n s x y) = s.cs := rfl
  have m1 : ixP (encM (some (s.cs, f))) (.int 1) = .ok (enc f) := ixP_t1 _ _
  unfold B_meant_by
  rw [ixR0, PR.bind_ok, lw_eq, hd, PR.bind_ok, ptb_bool, if_neg (by decide), ixR1, PR.bind_ok, e1, PR.bind_ok, ptup_tuple, pcons_cons, pcons_cons, pnil_nil, ixR2, PR.bind_ok, e2, PR.bind_ok, ptup_tuple, pcons_cons, pcons_cons, pnil_nil, P_mk ha.1 hb.1 (by omega) (by omega), sr_mk hs, PR.bind_ok, m1, PR.bind_ok, PR.bind_ok, c0]
  cases s with
  | r => rw [show Sg.r.cs = [62] from rfl, meant_gt, PR.bind_ok]; rfl
  | l => rw [show Sg.l.cs = [60] from rfl, meant_lt, PR.bind_ok]; rfl
  | rr =>
    obtain ⟨x', g, y', rfl, rfl, rfl⟩ := hs
    have := hb.2
    simp only [Fm.size] at this
    rw [show Sg.rr.cs = [62, 62] from rfl, meant_gg _ _ _ (by omega), PR.bind_ok]; rfl
  | ll =>
    obtain ⟨x', g, y', rfl, rfl, rfl⟩ := hs
    have := ha.2
    simp only [Fm.size] at this
    rw [show Sg.ll.cs = [60, 60] from rfl, meant_ll _ _ _ (by omega), PR.bind_ok]; rfl
theorem SD_of {n : Nat} {a b : D} (ha : SD n a) (hb : SD n b) : SD (n + 1) (tOf a b) := SD.t3 (by cases n with
  | zero => cases a <;> exact False.elim ha
  | succ n => exact SD.lit (w := [111, 102]) (by decide +kernel) (by decide)) ha hb
theorem means_T : ∀ (r : Rd) (p m : Nat) (f : Fm), r.at p m f → r.wf 5 → m ≤ 7 → (∀ q ∈ lfs r, ∀ K : D → PR D, ptd (L.map fun p => (p.1, TV.d p.2)) (lfD q) K = K (leafD q)) →
    ∃ z : D, SD (4 + 5 * m) z ∧ (∀ N, m ≤ N → P_meant_by N (encR r) = .ok (.tuple [enc f, z])) ∧ (∀ N, m ≤ N → P__law_meant N (encR r) L = .ok (.tuple [enc f, z]))
  | .w k g, p, m, f, ⟨hk, hm, hg⟩, h, _, hL => by
    subst hm hg
    have hd := wordHd (.w k g)
    have hd : eqP false (.str (S (hdR (.w k g)))) (.str (S [119, 111, 114, 100])) = .ok (.bool true) := hd
    have z1 : ixP (encR (.w k g)) (.int 1) = .ok (.int k) := ixP_t1 _ _
    have z2 : ixP (encR (.w k g)) (.int 2) = .ok (enc g) := ixP_t2 _ _ _
    have sl : slP (encR (.w k g)) (some 1) none = .ok (lfD (k, g)) := rfl
    have hl := hL (k, g) (by simp [lfs])
    have h2 := h.2
    refine ⟨leafD (k, g), SD.t3 (n := 8) (SD.lit (w := [108, 101, 97, 102]) (by decide +kernel) (by decide)) (SD.i k) ((SD_enc g h.1).mono (by omega)), fun N hN => ?_, fun N hN => ?_⟩
    · obtain ⟨N, rfl⟩ : ∃ M, N = M + 1 := ⟨N - 1, by omega⟩
      show B_meant_by (P_meant_by N) _ = _
      unfold B_meant_by
      rw [ixR0, PR.bind_ok, lw_eq, hd, PR.bind_ok, ptb_bool, if_pos rfl, z2, PR.bind_ok, z1, PR.bind_ok, PR.bind_ok]
      rfl
    · obtain ⟨N, rfl⟩ : ∃ M, N = M + 1 := ⟨N - 1, by omega⟩
      show B__law_meant (P__law_meant N) _ _ = _
      unfold B__law_meant
      rw [ixR0, PR.bind_ok, lw_eq, hd, PR.bind_ok, ptb_bool, if_pos rfl, z2, PR.bind_ok, pti_int, sl, PR.bind_ok, hl]
  | .n s x y, p, m, f, hat, h, h7, hL => by
    obtain ⟨n1, n2, a, b, e, h1, h2, hs⟩ := id hat
    have o := at_ok _ _ _ _ hat h
    have oa := at_ok _ _ _ _ h1 h.1
    have ob := at_ok _ _ _ _ h2 h.2
    have l1 := at_lvs _ _ _ _ h1
    have l2 := at_lvs _ _ _ _ h2
    have p1 := x.lvs_pos
    have p2 := y.lvs_pos
    obtain ⟨z1, s1, a1, b1⟩ := means_T x _ _ _ h1 h.1 (by omega) fun q hq => hL q (by simp [lfs, hq])
    obtain ⟨z2, s2, a2, b2⟩ := means_T y _ _ _ h2 h.2 (by omega) fun q hq => hL q (by simp [lfs, hq])
    have s1 : SD (4 + 5 * m - 4) z1 := s1.mono (by omega)
    have s2 : SD (4 + 5 * m - 4) z2 := s2.mono (by omega)
    refine ⟨mT s f z1 z2, ?_, fun N hN => ?_, fun N hN => ?_⟩
    · have tb : SD (4 + 5 * m - 4) tB0 := (SD.t2 (n := 1) (SD.lit (w := [98, 111, 117, 110, 100]) (by decide +kernel) (by decide)) (SD.i 0)).mono (by omega)
      have fn : ∀ {k u v : D}, SD (4 + 5 * m - 2) k → SD (4 + 5 * m - 4) u → SD (4 + 5 * m - 4) v → SD (4 + 5 * m) (tFn k (tOf u (tOf v tB0))) := fun {k u v} hk hu hv => by
        have := SD.t3 (n := 4 + 5 * m - 2) ((SD.lit (n := 0) (w := [102, 110]) (show Str.ofString "fn" = S [102, 110] by decide +kernel) (by decide)).mono (by omega)) hk ((SD_of (hu.mono (by omega)) (SD_of hv tb)).mono (by omega))
        exact this.mono (by omega)
      cases s with
      | r => exact (SD_of s1 s2).mono (by omega)
      | l => exact (SD_of s2 s1).mono (by omega)
      | rr =>
        obtain ⟨x', g, y', rfl, rfl, rfl⟩ := hs
        have := ob.2
        simp only [Fm.size] at this
        exact fn ((SD_kd y' ob.1.2).mono (by omega)) s1 s2
      | ll =>
        obtain ⟨x', g, y', rfl, rfl, rfl⟩ := hs
        have := oa.2
        simp only [Fm.size] at this
        exact fn ((SD_kd y' oa.1.2).mono (by omega)) s2 s1
    · obtain ⟨N, rfl⟩ : ∃ M, N = M + 1 := ⟨N - 1, by omega⟩
      exact prog_node (rec := P_meant_by N) hs ⟨oa.1, by omega⟩ ⟨ob.1, by omega⟩ (a1 N (by omega)) (a2 N (by omega))
    · obtain ⟨N, rfl⟩ : ∃ M, N = M + 1 := ⟨N - 1, by omega⟩
      exact law_node (rec := P__law_meant N) hs (by omega) (b1 N (by omega)) (b2 N (by omega))
end
end K60
set_option Elab.async false
set_option linter.all false
set_option maxRecDepth 100000
set_option maxHeartbeats 1000000
namespace K60
open PySem L2 M
variable [HasW]
theorem P_drawn {ws : List (List Nat)} (hl : 0 < ws.length) (hw : ∀ w ∈ ws, isW w) (q : Dk) : ∃ (f : Fm) (q' : Dk), f.wf ∧ f.size ≤ 3 ∧ P__law_drawn_form q (.list (sts ws)) = .ok (enc f, q') := by
  obtain ⟨a, q1, ha, e1⟩ := nxt q
  obtain ⟨w, hw1, e2, e3⟩ := ix_sts hl a
  have ww := hw w hw1
  obtain ⟨g, q2, hg, hg2, e4⟩ := P_other hl hw q1 (f := .b w) (by simp [Fm.size])
  obtain ⟨b, q3, hb, e5⟩ := nxt q2
  have e4' : P__law_other q1 (.list (sts ws)) (.tuple [.str (S [98, 97, 115, 105, 99]), .str (S w)]) = .ok (enc g, q2) := e4
  simp only [P__law_drawn_form, e1, PR.bind_ok, lenP_list, e2, e3, lt0, lt1, lt2, lt3, lt4, lt5, lt6, lt7, lt8, lt9, lt10, lt11, lt12, lt13, lt14, lt15, lt16, lt17, lt19, e4', e5, modP_s (show (0 : Int) < 6 by decide), modP_s (show (0 : Int) < 2 by decide), ltP_int, ptb_bool]
  split
  · exact ⟨.b w, q3, ww, by simp [Fm.size], rfl⟩
  · obtain ⟨s, e6⟩ := ix_slash (b % 6)
    have c1 : (b : Int) % 6 % 2 = ((b % 6 % 2 : Nat) : Int) := by omega
    refine ⟨.n s (.b w) g, q3, ⟨ww, hg⟩, by simp only [Fm.size]; omega, ?_⟩
    simp only [c1, e6, PR.bind_ok, enc]
/-! ### dicts whose keys are told by a function -/
section
variable {α β : Type} [DecidableEq α]
def lkA : List (α × β) → α → Option β
  | [], _ => none
  | p :: r, a => if p.1 = a then some p.2 else lkA r a
def kvF {γ : Type} (key : α → D) (val : β → γ) (l : List (α × β)) : List (D × γ) := l.map fun p => (key p.1, val p.2)
theorem lkA_none : ∀ {l : List (α × β)} {a : α}, lkA l a = none ↔ a ∉ l.map (·.1)
  | [], a => by simp [lkA]
  | p :: r, a => by
    rw [lkA, List.map_cons, List.mem_cons, not_or, ← lkA_none (l := r)]
    by_cases e : p.1 = a
    · rw [if_pos e]; simp [e]
    · rw [if_neg e]
      exact ⟨fun h => ⟨fun z => e z.symm, h⟩, fun h => h.2⟩
/-- a table of a function -/
theorem lkA_fn (f : α → β) : ∀ (P : List α) (a : α), lkA (P.map fun p => (p, f p)) a = if a ∈ P then some (f a) else none
  | [], a => by simp [lkA]
  | p :: P, a => by
    rw [List.map_cons, lkA, lkA_fn f P a]
    by_cases e : p = a
    · subst e; simp
    · rw [if_neg e]
      have : (a ∈ p :: P) ↔ a ∈ P := by
        rw [List.mem_cons]
        exact ⟨fun h => h.resolve_left fun z => e z.symm, .inr⟩
      simp only [this]
variable {γ : Type} {key : α → D} (inj : ∀ a b, key a = key b → a = b)
include inj in
theorem klook_kvF (val : β → γ) : ∀ (l : List (α × β)) (a : α), klook (kvF key val l) (key a) = (lkA l a).map val
  | [], a => rfl
  | p :: r, a => by
    have ih := klook_kvF val r a
    have e : kvF key val (p :: r) = (key p.1, val p.2) :: kvF key val r := rfl
    rw [e, klook_cons, lkA]
    by_cases h : p.1 = a
    · rw [if_pos h, if_pos (by rw [h])]; rfl
    · rw [if_neg h, if_neg (fun z => h (inj _ _ z)), ih]
theorem uniK_kvF (nT : ∀ a, isT (key a) = false) (val : β → γ) (l : List (α × β)) {a : α} (h : isN (key a) = true) : uniK (kvF key val l) (key a) = true := by
  unfold uniK
  rw [if_neg (by rw [nT]; simp), h, Bool.true_and, List.all_eq_true]
  intro p hp
  obtain ⟨q, _, rfl⟩ := List.mem_map.mp hp
  simp [nT]
include inj in
theorem kput_new (val : β → γ) {l : List (α × β)} {a : α} (b : β) (h : lkA l a = none) : kput (kvF key val l) (key a) (val b) = kvF key val (l ++ [(a, b)]) := by
  unfold kput
  rw [klook_kvF inj, h]
  simp [kvF]
theorem kvF_len (val : β → γ) (l : List (α × β)) : (kvF key val l).length = l.length := by simp [kvF]
theorem unflat (val : β → D) (l : List (α × β)) : ((kvF key val l).map fun p => (p.1, TV.d p.2)) = kvF key (fun b => TV.d (val b)) l := by simp [kvF]
theorem dataAt_d (val : β → D) (l : List (α × β)) (k : D) : dataAt (kvF key (fun b => TV.d (val b)) l) k = true := by
  unfold dataAt
  rw [List.all_eq_true]
  intro p hp
  obtain ⟨q, _, rfl⟩ := List.mem_map.mp hp
  simp
include inj in
theorem ptput_new {δ : Type} (nT : ∀ a, isT (key a) = false) (val : β → D) {l : List (α × β)} {a : α} (b : β) (h : isN (key a) = true) (hn : lkA l a = none) (hl : l.length < sizeLine) (K : List (D × TV) → PR δ) : ptput (kvF key (fun b => TV.d (val b)) l) (key a) (val b) K = K (kvF key (fun b => TV.d (val b)) (l ++ [(a, b)])) := by
  unfold ptput
  rw [uniK_kvF nT _ l h, dataAt_d, decide_eq_true (by rw [kvF_len]; exact hl), if_pos (by rfl), kput_new inj (fun b => TV.d (val b)) b hn]
include inj in
theorem ptd_kvF {δ : Type} (nT : ∀ a, isT (key a) = false) (val : β → D) {l : List (α × β)} {a : α} {b : β} (h : isN (key a) = true) (hb : lkA l a = some b) (K : D → PR δ) : ptd (kvF key (fun b => TV.d (val b)) l) (key a) K = K (val b) := by
  unfold ptd
  rw [if_pos (uniK_kvF nT _ l h), klook_kvF inj, hb]
  rfl
end
/-! ### keys -/
def Fm.dep : Fm → Nat
  | .b _ => 1
  | .n _ x y => max x.dep y.dep + 1
theorem Fm.dep_le : ∀ f : Fm, f.dep ≤ f.size
  | .b _ => Nat.le_refl _
  | .n _ x y => by
    have := dep_le x
    have := dep_le y
    have := x.size_pos
    have := y.size_pos
    simp only [Fm.dep, Fm.size]
    omega
theorem enc_inj (f g : Fm) (h : enc f = enc g) : f = g := by
  have e := eqv_enc f g
  rw [h, eqv_enc] at e
  simpa using e
theorem nkey_enc : ∀ f : Fm, ∃ ks, nkey (enc f) = some (.tup ks) ∧ NestedKey.depthAll ks + 1 = f.dep
  | .b w => ⟨_, rfl, rfl⟩
  | .n s x y => by
    obtain ⟨a, a1, a2⟩ := nkey_enc x
    obtain ⟨b, b1, b2⟩ := nkey_enc y
    refine ⟨[.text (S (slash s)), .tup a, .tup b], ?_, ?_⟩
    · show nkey (.tuple [.str (S (slash s)), enc x, enc y]) = _
      simp [nkey, nkeys, a1, b1]
    · simp only [NestedKey.depthAll, NestedKey.depth, Fm.dep]
      omega
/-! ### the leaves, by place and form -/
theorem lfD_inj (p q : Int × Fm) (h : lfD p = lfD q) : p = q := by
  obtain ⟨a, f⟩ := p
  obtain ⟨c, g⟩ := q
  unfold lfD at h
  injection h with h
  injection h with h1 h2
  injection h1 with h1
  injection h2 with h2 _
  have h1 : a = c := h1
  rw [h1, enc_inj f g h2]
theorem isT_lf (q : Int × Fm) : isT (lfD q) = false := rfl
theorem isN_lf {q : Int × Fm} (h : q.2.dep ≤ 7) : isN (lfD q) = true := by
  obtain ⟨ks, h1, h2⟩ := nkey_enc q.2
  unfold isN lfD
  have e : nkey (.tuple [.int q.1, enc q.2]) = some (.tup [.num q.1, .tup ks]) := by simp [nkey, nkeys, h1]
  rw [e]
  exact decide_eq_true (by simp only [NestedKey.depth, NestedKey.depthAll]; omega)
def lfO : Rd → Option D
  | .w k g => some (lfD (k, g))
  | .n _ _ _ => none
theorem fm_within : ∀ r : Rd, (withinR r).filterMap lfO = (lfs r).map lfD
  | .w k g => rfl
  | .n s x y => by
    show List.filterMap lfO (.n s x y :: (withinR x ++ withinR y)) = (lfs x ++ lfs y).map lfD
    rw [List.filterMap_cons]
    show List.filterMap lfO (withinR x ++ withinR y) = _
    rw [List.filterMap_append, fm_within x, fm_within y, List.map_append]
theorem P_wordsOf {r : Rd} (h : r.lvs ≤ 40) : P__law_words_of (encR r) = .ok (.list ((lfs r).map lfD)) := by
  have l := within_len r
  unfold P__law_words_of
  rw [P_within fuelR r (by rw [fuelR_eq]; exact h) (by rw [fuelR_eq]; omega), PR.bind_ok, itemsP_list, PR.bind_ok, encs, lcK_fmE (f := lfO) (fun z hz => by
    unfold C1__law_words_of
    rw [ixR0, PR.bind_ok, lw_eq, wordHd, PR.bind_ok, ptb_bool]
    cases z with
    | w k g =>
      rw [if_pos rfl, pti_int, show slP (encR (.w k g)) (some 1) none = .ok (lfD (k, g)) from rfl, PR.bind_ok]
      rfl
    | n s x y => rw [if_neg (by simp)]; rfl) (by rw [sizeLine_eq]; simp only [List.length_nil]; omega), List.nil_append, fm_within]
theorem lfs_at : ∀ (r : Rd) (p m : Nat) (f : Fm), r.at p m f → (lfs r).map (·.1) = (List.range' p m).map fun (n : Nat) => (n : Int)
  | .w k g, p, m, f, ⟨h1, h2, _⟩ => by subst h1 h2; rfl
  | .n s x y, p, m, f, ⟨n1, n2, a, b, e, h1, h2, _⟩ => by
    subst e
    show (lfs x ++ lfs y).map (·.1) = _
    rw [List.map_append, lfs_at x _ _ _ h1, lfs_at y _ _ _ h2, ← List.map_append, List.range'_append_1]
theorem lfs_nd {r : Rd} {p m : Nat} {f : Fm} (h : r.at p m f) : (lfs r).Nodup := by
  have e := lfs_at r p m f h
  have n : ((lfs r).map (·.1)).Nodup := by
    rw [e]
    exact List.pairwise_map.mpr ((List.nodup_range' (s := p) (n := m)).imp fun {a b} hab h => hab (Int.ofNat.inj h))
  exact (List.pairwise_map.mp n).imp fun {a b} hab h => hab (by rw [h])
theorem lfs_wf {b : Nat} : ∀ r : Rd, r.wf b → ∀ q ∈ lfs r, q.2.wf ∧ q.2.size ≤ b
  | .w k g, h, q, hq => by rw [List.mem_singleton.mp hq]; exact h
  | .n s x y, h, q, hq => by
    rcases List.mem_append.mp hq with hq | hq
    · exact lfs_wf x h.1 q hq
    · exact lfs_wf y h.2 q hq
theorem lfs_len : ∀ r : Rd, (lfs r).length = r.lvs
  | .w _ _ => rfl
  | .n _ x y => by simp [lfs, Rd.lvs, lfs_len x, lfs_len y]
theorem within_at : ∀ (r : Rd) (p m : Nat) (f : Fm), r.at p m f → ∀ z ∈ withinR r, (∃ p' m' g, z.at p' m' g ∧ m' ≤ m) ∧ ∀ q ∈ lfs z, q ∈ lfs r
  | .w k g, p, m, f, h, z, hz => by
    rw [List.mem_singleton.mp hz]
    exact ⟨⟨p, m, f, h, Nat.le_refl _⟩, fun q hq => hq⟩
  | .n s x y, p, m, f, h, z, hz => by
    rcases List.mem_cons.mp hz with rfl | hz
    · exact ⟨⟨p, m, f, h, Nat.le_refl _⟩, fun q hq => hq⟩
    · obtain ⟨n1, n2, a, b, e, h1, h2, _⟩ := h
      rcases List.mem_append.mp hz with hz | hz
      · obtain ⟨⟨p', m', g, z1, z2⟩, z3⟩ := within_at x _ _ _ h1 z hz
        exact ⟨⟨p', m', g, z1, by omega⟩, fun q hq => List.mem_append_left _ (z3 q hq)⟩
      · obtain ⟨⟨p', m', g, z1, z2⟩, z3⟩ := within_at y _ _ _ h2 z hz
        exact ⟨⟨p', m', g, z1, by omega⟩, fun q hq => List.mem_append_right _ (z3 q hq)⟩
/-- the dict of the leaves -/
def lfV (l : List (Int × Fm)) : List (D × TV) := kvF lfD (fun b => TV.d (leafD b)) (l.map fun q => (q, q))
theorem fill_lf : ∀ (xs l : List (Int × Fm)) (k : List (D × TV) × Unit → PR D), (l ++ xs).Nodup → (l ++ xs).length ≤ 40 → (∀ q ∈ xs, q.2.dep ≤ 7) → foldK S1_law (xs.map lfD) (lfV l, ()) k = k (lfV (l ++ xs), ())
  | [], l, k, _, _, _ => by simp
  | q :: xs, l, k, hn, hl, hd => by
    have hq : q ∉ l := fun h => (List.nodup_append.mp hn).2.2 q h q List.mem_cons_self rfl
    rw [List.map_cons, foldK_cons]
    show S1_law (lfD q) (lfV l, ()) _ _ = _
    unfold S1_law
    rw [show (lfD q) = .tuple [.int q.1, enc q.2] from rfl, ptup_tuple, pcons_cons, pcons_cons, pnil_nil]
    show ptput (lfV l) (lfD q) (leafD q) _ = _
    unfold lfV
    rw [ptput_new lfD_inj isT_lf leafD q (isN_lf (hd q List.mem_cons_self)) (by
      rw [lkA_none]
      intro h
      obtain ⟨u, hu, e⟩ := List.mem_map.mp h
      obtain ⟨v, hv, rfl⟩ := List.mem_map.mp hu
      have e : v = q := e
      exact hq (e ▸ hv)) (by rw [sizeLine_eq, List.length_map]; rw [List.length_append] at hl; omega)]
    have := fill_lf xs (l ++ [q]) k (by rw [List.append_assoc]; exact hn) (by rw [List.append_assoc]; exact hl) fun z hz => hd z (List.mem_cons_of_mem _ hz)
    rw [List.append_assoc] at this
    unfold lfV at this
    rw [List.map_append] at this
    exact this
theorem flat_L : ∀ L : List (D × D), flatT (L.map fun p => (p.1, TV.d p.2)) = some L
  | [] => rfl
  | p :: L => by
    have ih := flat_L L
    rw [List.map_cons]
    simp only [flatT, ih]
    try rfl
/-- the loop over the stretches -/
theorem loop_k60 {L : List (D × D)} : ∀ (zs : List Rd) (k : Unit → PR D), (∀ z ∈ zs, z.wf 5 ∧ (∃ p m f, z.at p m f ∧ m ≤ 7) ∧ ∀ q ∈ lfs z, ∀ K : D → PR D, ptd (L.map fun p => (p.1, TV.d p.2)) (lfD q) K = K (leafD q)) → foldK (S2_law (L.map fun p => (p.1, TV.d p.2))) (encs zs) () k = k ()
  | [], k, _ => rfl
  | z :: zs, k, h => by
    obtain ⟨h1, ⟨p, m, f, h2, h3⟩, h4⟩ := h z List.mem_cons_self
    obtain ⟨y, s1, e1, e2⟩ := means_T z p m f h2 h1 h3 h4
    have fl : ∀ (K : List (D × D) → PR D), pflat (L.map fun p => (p.1, TV.d p.2)) K = K L := fun K => by
      unfold pflat
      rw [flat_L]
    have u1 : P_unknown (encR z) = .ok y := by
      unfold P_unknown
      rw [e1 fuelR (by rw [fuelR_eq]; omega), PR.bind_ok, ixP_t1, PR.bind_ok]
    show foldK (S2_law _) (encR z :: encs zs) () k = k ()
    rw [foldK_cons]
    unfold S2_law
    rw [fl, e2 fuelR (by rw [fuelR_eq]; omega), PR.bind_ok, ixP_t1, PR.bind_ok, u1, PR.bind_ok, same_D fuelR y (s1.mono (by rw [fuelR_eq]; omega)), PR.bind_ok, ptt_b, if_neg (by simp)]
    exact loop_k60 zs k fun z hz => h z (List.mem_cons_of_mem _ hz)
theorem mk_ok (ns : List Int) : ∃ q, mkDeck (ns.map .int) = .ok q := by
  have : dInts (ns.map PyData.int) = some ns := by
    induction ns with
    | nil => rfl
    | cons n ns ih => rw [List.map_cons, dInts, ih]; rfl
  unfold mkDeck
  rw [this]
  exact ⟨_, rfl⟩
theorem law_P : ∀ ns : List Int, ns.length ≤ 63 → P_law (ns.map .int) = .ok (.bool true) := by
  intro ns hn
  obtain ⟨q, hq⟩ := mk_ok ns
  obtain ⟨a, q1, ha, e1⟩ := nxt q
  have c1 : (2 : Int) + (a : Int) % 2 = ((2 + a % 2 : Nat) : Int) := by omega
  obtain ⟨ws, q2, w1, w2, w3, e2⟩ := P_words q1 (2 + a % 2) (by omega)
  have hl : 0 < ws.length := by omega
  have hw : ∀ w ∈ ws, isW w := fun w h => (w2 w h).1
  obtain ⟨f, q3, f1, f2, e3⟩ := P_drawn hl hw q2
  obtain ⟨b, q4, hb, e4⟩ := nxt q3
  have c2 : (1 : Int) + (b : Int) % 7 = ((1 + b % 7 : Nat) : Int) := by omega
  obtain ⟨r, q5, r1, r2, e5⟩ := P_treeT hl hw fuelR (1 + b % 7) f 0 q4 f1 (by omega) (by omega) (by rw [fuelR_eq]; omega)
  have lv := at_lvs _ _ _ _ r2
  have e6 := P_within fuelR r (by rw [fuelR_eq]; omega) (by rw [fuelR_eq]; omega)
  have l1 := within_len r
  have ll := lfs_len r
  unfold P_law
  rw [hq, PR.bind_ok, e1, PR.bind_ok]
  dsimp only
  rw [modP_s (by decide), PR.bind_ok, addSP_int, PR.bind_ok, c1, e2, PR.bind_ok]
  dsimp only
  rw [e3, PR.bind_ok]
  dsimp only
  rw [e4, PR.bind_ok]
  dsimp only
  rw [modP_s (by decide), PR.bind_ok, addSP_int, PR.bind_ok, c2]
  have e5 : P__law_tree fuelR q4 (.list (sts ws)) (enc f) (.int 0) (.int ((1 + b % 7 : Nat) : Int)) = .ok (encR r, q5) := e5
  rw [e5, PR.bind_ok]
  dsimp only
  rw [P_wordsOf (by omega), PR.bind_ok, itemsP_list, PR.bind_ok]
  have nd := lfs_nd r2
  have wfl := lfs_wf r r1
  have hdep : ∀ q ∈ lfs r, q.2.dep ≤ 7 := fun q hq => by
    have := (wfl q hq).2
    have := q.2.dep_le
    omega
  have hf := fill_lf (lfs r) [] (fun s27 =>
    (P__law_within fuelR (encR r)).bind fun z28 =>
    (addP z28 (.list [encR r])).bind fun z29 =>
    (itemsP z29).bind fun xs30 =>
    foldK (S2_law s27.1) xs30 () fun s46 =>
    .ok (.bool true)) (by rw [List.nil_append]; exact nd) (by rw [List.nil_append, ll]; omega) hdep
  rw [List.nil_append] at hf
  have h0 : lfV [] = [] := rfl
  rw [h0] at hf
  rw [hf, e6, PR.bind_ok, addP_list (by rw [sizeLine_eq]; simp [encs]; omega), PR.bind_ok, itemsP_list, PR.bind_ok]
  have en : encs (withinR r) ++ [encR r] = encs (withinR r ++ [r]) := by simp [encs]
  have el : lfV (lfs r) = (kvF lfD leafD ((lfs r).map fun q => (q, q))).map fun p => (p.1, TV.d p.2) := (unflat leafD _).symm
  dsimp only
  rw [en, el, loop_k60 (withinR r ++ [r]) _ fun z hz => ?_]
  have hz : z ∈ withinR r ∨ z = r := by simpa using hz
  have hh : z.wf 5 ∧ (∃ p m f, z.at p m f ∧ m ≤ 7) ∧ ∀ q ∈ lfs z, q ∈ lfs r := by
    rcases hz with hz | rfl
    · obtain ⟨⟨p', m', g, z1, z2⟩, z3⟩ := within_at r _ _ _ r2 z hz
      exact ⟨wf_within r r1 z hz, ⟨p', m', g, z1, by omega⟩, z3⟩
    · exact ⟨r1, ⟨_, _, _, r2, by omega⟩, fun q hq => hq⟩
  refine ⟨hh.1, hh.2.1, fun q hq K => ?_⟩
  have hq := hh.2.2 q hq
  rw [← el]
  unfold lfV
  rw [ptd_kvF lfD_inj isT_lf leafD (isN_lf (hdep q hq)) (b := q)]
  rw [lkA_fn (fun q => q) (lfs r) q, if_pos hq]
end K60
set_option Elab.async false
set_option linter.all false
set_option maxRecDepth 100000
set_option maxHeartbeats 4000000
namespace K60
open PySem L2 M
variable [HasW]
def top (i : Nat) : Stmt := PySem.Challenge.pw_slashwise_k60_unknown_words.main.body.getD i (.Pass ⟨0, 0, 0, 0⟩)
def qLam : Str := (Str.ofString "unknown" ++ ".<locals>.") ++ "<lambda>"
structure Txt (K : PySem.W.Frag) (mg : Str → Option Value) (base : Heap) where
  cl_RightTaken : Addr
  cg_RightTaken : mg "RightTaken" = some (.ref cl_RightTaken)
  cc_RightTaken : Cls K cl_RightTaken
  cm_RightTaken : MkO K cl_RightTaken
  cl_LeftTaken : Addr
  cg_LeftTaken : mg "LeftTaken" = some (.ref cl_LeftTaken)
  cc_LeftTaken : Cls K cl_LeftTaken
  cm_LeftTaken : MkO K cl_LeftTaken
  cl_RightHanded : Addr
  cg_RightHanded : mg "RightHanded" = some (.ref cl_RightHanded)
  cc_RightHanded : Cls K cl_RightHanded
  cm_RightHanded : MkO K cl_RightHanded
  cl_LeftHanded : Addr
  cg_LeftHanded : mg "LeftHanded" = some (.ref cl_LeftHanded)
  cc_LeftHanded : Cls K cl_LeftHanded
  cm_LeftHanded : MkO K cl_LeftHanded
  ad_kind_of_form : Addr
  fd_kind_of_form : FuncData
  fn_kind_of_form : Fun K "kind_of_form" "kind_of_form" (top 1) ad_kind_of_form fd_kind_of_form
  bn_kind_of_form : Binds K fd_kind_of_form ["form"] []
  gl_kind_of_form : mg "kind_of_form" = some (.ref ad_kind_of_form)
  ad_handed_on : Addr
  fd_handed_on : FuncData
  fn_handed_on : Fun K "handed_on" "handed_on" (top 6) ad_handed_on fd_handed_on
  bn_handed_on : Binds K fd_handed_on ["form", "taker", "taken"] []
  gl_handed_on : mg "handed_on" = some (.ref ad_handed_on)
  ad_RightTaken__sign : Addr
  fd_RightTaken__sign : FuncData
  fn_RightTaken__sign : Fun K "sign" "RightTaken.sign" (inClass (top 4) 0) ad_RightTaken__sign fd_RightTaken__sign
  bn_RightTaken__sign : Binds K fd_RightTaken__sign ["self"] []
  mt_RightTaken__sign : Meth K cl_RightTaken "sign" ad_RightTaken__sign
  ad_RightTaken__joined : Addr
  fd_RightTaken__joined : FuncData
  fn_RightTaken__joined : Fun K "joined" "RightTaken.joined" (inClass (top 4) 1) ad_RightTaken__joined fd_RightTaken__joined
  bn_RightTaken__joined : Binds K fd_RightTaken__joined ["self", "left", "right"] []
  mt_RightTaken__joined : Meth K cl_RightTaken "joined" ad_RightTaken__joined
  ad_RightTaken__meant : Addr
  fd_RightTaken__meant : FuncData
  fn_RightTaken__meant : Fun K "meant" "RightTaken.meant" (inClass (top 4) 2) ad_RightTaken__meant fd_RightTaken__meant
  bn_RightTaken__meant : Binds K fd_RightTaken__meant ["self", "left", "right", "first", "second"] []
  mt_RightTaken__meant : Meth K cl_RightTaken "meant" ad_RightTaken__meant
  ad_LeftTaken__sign : Addr
  fd_LeftTaken__sign : FuncData
  fn_LeftTaken__sign : Fun K "sign" "LeftTaken.sign" (inClass (top 5) 0) ad_LeftTaken__sign fd_LeftTaken__sign
  bn_LeftTaken__sign : Binds K fd_LeftTaken__sign ["self"] []
  mt_LeftTaken__sign : Meth K cl_LeftTaken "sign" ad_LeftTaken__sign
  ad_LeftTaken__joined : Addr
  fd_LeftTaken__joined : FuncData
  fn_LeftTaken__joined : Fun K "joined" "LeftTaken.joined" (inClass (top 5) 1) ad_LeftTaken__joined fd_LeftTaken__joined
  bn_LeftTaken__joined : Binds K fd_LeftTaken__joined ["self", "left", "right"] []
  mt_LeftTaken__joined : Meth K cl_LeftTaken "joined" ad_LeftTaken__joined
  ad_LeftTaken__meant : Addr
  fd_LeftTaken__meant : FuncData
  fn_LeftTaken__meant : Fun K "meant" "LeftTaken.meant" (inClass (top 5) 2) ad_LeftTaken__meant fd_LeftTaken__meant
  bn_LeftTaken__meant : Binds K fd_LeftTaken__meant ["self", "left", "right", "first", "second"] []
  mt_LeftTaken__meant : Meth K cl_LeftTaken "meant" ad_LeftTaken__meant
  ad_RightHanded__sign : Addr
  fd_RightHanded__sign : FuncData
  fn_RightHanded__sign : Fun K "sign" "RightHanded.sign" (inClass (top 7) 0) ad_RightHanded__sign fd_RightHanded__sign
  bn_RightHanded__sign : Binds K fd_RightHanded__sign ["self"] []
  mt_RightHanded__sign : Meth K cl_RightHanded "sign" ad_RightHanded__sign
  ad_RightHanded__joined : Addr
  fd_RightHanded__joined : FuncData
  fn_RightHanded__joined : Fun K "joined" "RightHanded.joined" (inClass (top 7) 1) ad_RightHanded__joined fd_RightHanded__joined
  bn_RightHanded__joined : Binds K fd_RightHanded__joined ["self", "left", "right"] []
  mt_RightHanded__joined : Meth K cl_RightHanded "joined" ad_RightHanded__joined
  ad_RightHanded__meant : Addr
  fd_RightHanded__meant : FuncData
  fn_RightHanded__meant : Fun K "meant" "RightHanded.meant" (inClass (top 7) 2) ad_RightHanded__meant fd_RightHanded__meant
  bn_RightHanded__meant : Binds K fd_RightHanded__meant ["self", "left", "right", "first", "second"] []
  mt_RightHanded__meant : Meth K cl_RightHanded "meant" ad_RightHanded__meant
  ad_LeftHanded__sign : Addr
  fd_LeftHanded__sign : FuncData
  fn_LeftHanded__sign : Fun K "sign" "LeftHanded.sign" (inClass (top 8) 0) ad_LeftHanded__sign fd_LeftHanded__sign
  bn_LeftHanded__sign : Binds K fd_LeftHanded__sign ["self"] []
  mt_LeftHanded__sign : Meth K cl_LeftHanded "sign" ad_LeftHanded__sign
  ad_LeftHanded__joined : Addr
  fd_LeftHanded__joined : FuncData
  fn_LeftHanded__joined : Fun K "joined" "LeftHanded.joined" (inClass (top 8) 1) ad_LeftHanded__joined fd_LeftHanded__joined
  bn_LeftHanded__joined : Binds K fd_LeftHanded__joined ["self", "left", "right"] []
  mt_LeftHanded__joined : Meth K cl_LeftHanded "joined" ad_LeftHanded__joined
  ad_LeftHanded__meant : Addr
  fd_LeftHanded__meant : FuncData
  fn_LeftHanded__meant : Fun K "meant" "LeftHanded.meant" (inClass (top 8) 2) ad_LeftHanded__meant fd_LeftHanded__meant
  bn_LeftHanded__meant : Binds K fd_LeftHanded__meant ["self", "left", "right", "first", "second"] []
  mt_LeftHanded__meant : Meth K cl_LeftHanded "meant" ad_LeftHanded__meant
  ad_all_rules : Addr
  fd_all_rules : FuncData
  fn_all_rules : Fun K "all_rules" "all_rules" (top 9) ad_all_rules fd_all_rules
  bn_all_rules : Binds K fd_all_rules [] []
  gl_all_rules : mg "all_rules" = some (.ref ad_all_rules)
  ad_made : Addr
  fd_made : FuncData
  fn_made : Fun K "made" "made" (top 10) ad_made fd_made
  bn_made : Binds K fd_made ["left", "right"] []
  gl_made : mg "made" = some (.ref ad_made)
  ad_meant : Addr
  fd_meant : FuncData
  fn_meant : Fun K "meant" "meant" (top 11) ad_meant fd_meant
  bn_meant : Binds K fd_meant ["sign", "left", "right", "first", "second"] []
  gl_meant : mg "meant" = some (.ref ad_meant)
  ad_meant_by : Addr
  fd_meant_by : FuncData
  fn_meant_by : Fun K "meant_by" "meant_by" (top 13) ad_meant_by fd_meant_by
  bn_meant_by : Binds K fd_meant_by ["reading", "of_word"] []
  gl_meant_by : mg "meant_by" = some (.ref ad_meant_by)
  ad_unknown : Addr
  fd_unknown : FuncData
  fn_unknown : Fun K "unknown" "unknown" (top 14) ad_unknown fd_unknown
  bn_unknown : Binds K fd_unknown ["reading"] []
  gl_unknown : mg "unknown" = some (.ref ad_unknown)
  ad__law_deck : Addr
  fd__law_deck : FuncData
  fn__law_deck : Fun K "_law_deck" "_law_deck" (top 16) ad__law_deck fd__law_deck
  bn__law_deck : Binds K fd__law_deck ["_law_script"] []
  gl__law_deck : mg "_law_deck" = some (.ref ad__law_deck)
  ad__law_next : Addr
  fd__law_next : FuncData
  fn__law_next : Fun K "_law_next" "_law_next" (top 17) ad__law_next fd__law_next
  bn__law_next : Binds K fd__law_next ["_law_deck_here"] []
  gl__law_next : mg "_law_next" = some (.ref ad__law_next)
  ad__law_spelled : Addr
  fd__law_spelled : FuncData
  fn__law_spelled : Fun K "_law_spelled" "_law_spelled" (top 18) ad__law_spelled fd__law_spelled
  bn__law_spelled : Binds K fd__law_spelled ["_law_number", "_law_size"] []
  gl__law_spelled : mg "_law_spelled" = some (.ref ad__law_spelled)
  ad__law_word : Addr
  fd__law_word : FuncData
  fn__law_word : Fun K "_law_word" "_law_word" (top 19) ad__law_word fd__law_word
  bn__law_word : Binds K fd__law_word ["_law_deck_here", "_law_words_here"] []
  gl__law_word : mg "_law_word" = some (.ref ad__law_word)
  ad__law_words : Addr
  fd__law_words : FuncData
  fn__law_words : Fun K "_law_words" "_law_words" (top 20) ad__law_words fd__law_words
  bn__law_words : Binds K fd__law_words ["_law_deck_here", "_law_many"] []
  gl__law_words : mg "_law_words" = some (.ref ad__law_words)
  ad__law_wide : Addr
  fd__law_wide : FuncData
  fn__law_wide : Fun K "_law_wide" "_law_wide" (top 21) ad__law_wide fd__law_wide
  bn__law_wide : Binds K fd__law_wide ["_law_form"] []
  gl__law_wide : mg "_law_wide" = some (.ref ad__law_wide)
  ad__law_other : Addr
  fd__law_other : FuncData
  fn__law_other : Fun K "_law_other" "_law_other" (top 22) ad__law_other fd__law_other
  bn__law_other : Binds K fd__law_other ["_law_deck_here", "_law_basics", "_law_form"] []
  gl__law_other : mg "_law_other" = some (.ref ad__law_other)
  ad__law_tree : Addr
  fd__law_tree : FuncData
  fn__law_tree : Fun K "_law_tree" "_law_tree" (top 23) ad__law_tree fd__law_tree
  bn__law_tree : Binds K fd__law_tree ["_law_deck_here", "_law_basics", "_law_form", "_law_at", "_law_many"] []
  gl__law_tree : mg "_law_tree" = some (.ref ad__law_tree)
  ad__law_drawn_form : Addr
  fd__law_drawn_form : FuncData
  fn__law_drawn_form : Fun K "_law_drawn_form" "_law_drawn_form" (top 24) ad__law_drawn_form fd__law_drawn_form
  bn__law_drawn_form : Binds K fd__law_drawn_form ["_law_deck_here", "_law_basics"] []
  gl__law_drawn_form : mg "_law_drawn_form" = some (.ref ad__law_drawn_form)
  ad__law_kind_of_form : Addr
  fd__law_kind_of_form : FuncData
  fn__law_kind_of_form : Fun K "_law_kind_of_form" "_law_kind_of_form" (top 25) ad__law_kind_of_form fd__law_kind_of_form
  bn__law_kind_of_form : Binds K fd__law_kind_of_form ["_law_form"] []
  gl__law_kind_of_form : mg "_law_kind_of_form" = some (.ref ad__law_kind_of_form)
  ad__law_joined : Addr
  fd__law_joined : FuncData
  fn__law_joined : Fun K "_law_joined" "_law_joined" (top 26) ad__law_joined fd__law_joined
  bn__law_joined : Binds K fd__law_joined ["_law_sign", "_law_left", "_law_right"] []
  gl__law_joined : mg "_law_joined" = some (.ref ad__law_joined)
  ad__law_meant : Addr
  fd__law_meant : FuncData
  fn__law_meant : Fun K "_law_meant" "_law_meant" (top 27) ad__law_meant fd__law_meant
  bn__law_meant : Binds K fd__law_meant ["_law_reading", "_law_means"] []
  gl__law_meant : mg "_law_meant" = some (.ref ad__law_meant)
  ad__law_within : Addr
  fd__law_within : FuncData
  fn__law_within : Fun K "_law_within" "_law_within" (top 28) ad__law_within fd__law_within
  bn__law_within : Binds K fd__law_within ["_law_reading"] []
  gl__law_within : mg "_law_within" = some (.ref ad__law_within)
  ad__law_words_of : Addr
  fd__law_words_of : FuncData
  fn__law_words_of : Fun K "_law_words_of" "_law_words_of" (top 29) ad__law_words_of fd__law_words_of
  bn__law_words_of : Binds K fd__law_words_of ["_law_reading"] []
  gl__law_words_of : mg "_law_words_of" = some (.ref ad__law_words_of)
  ad__law_same : Addr
  fd__law_same : FuncData
  fn__law_same : Fun K "_law_same" "_law_same" (top 30) ad__law_same fd__law_same
  bn__law_same : Binds K fd__law_same ["_law_one", "_law_other_here"] []
  gl__law_same : mg "_law_same" = some (.ref ad__law_same)
  ad_law : Addr
  fd_law : FuncData
  fn_law : Fun K "law" "law" (top 31) ad_law fd_law
  bn_law : Binds K fd_law ["_law_script"] []
  gl_law : mg "law" = some (.ref ad_law)
  z_all : mg "all" = none
  z_bool : mg "bool" = none
  z_int : mg "int" = none
  z_isinstance : mg "isinstance" = none
  z_len : mg "len" = none
  z_range : mg "range" = none
  z_str : mg "str" = none
  z_sum : mg "sum" = none
  z_tuple : mg "tuple" = none
  z_zip : mg "zip" = none
  cu_u : Addr
  pu_u : Addr
  cod : fd_unknown.code = .ref cu_u
  tb : LamX.TabB base mg cu_u pu_u
  hw : HasW.tabs = [(pu_u, fun _ _ => qLam)]
section
variable {P : Program} {K : PySem.W.Frag} {mg : Str → Option Value} {base : Heap}
abbrev N_kind_of_form : List Str := ["form"]
theorem sc_kind_of_form : FnScope N_kind_of_form ["form"] (defScope (top 1)) := ⟨rfl, rfl, rfl, by decide +kernel, rfl, by decide +kernel, by decide +kernel⟩
theorem st_kind_of_form (T : Txt K mg base) {n : Nat} (ih_kind_of_form : FnOk P HasW.w K mg base (L2.CX P HasW.w) (n + 0) T.ad_kind_of_form T.fd_kind_of_form ["form"] (SpM K mg 1 (F_kind_of_form n))) : FnOk P HasW.w K mg base (L2.CX P HasW.w) (n + 0 + 1) T.ad_kind_of_form T.fd_kind_of_form ["form"] (SpM K mg 1 (F_kind_of_form (n + 1))) :=
  okF T.fn_kind_of_form sc_kind_of_form fun cdv A outer s H E hr =>
    (mb_cons (ms_if (mt_cmp (op_eqD hr.units) eqW_ok (me_ix ix_seq ixW_ok (me_var 0) me_int) me_str) (mb_one (ms_ret (me_ix ix_seq ixW_ok (me_var 0) me_int))) mb_nil)
    (mb_one (ms_ret (me_tup (ma_cons (me_frz (me_call (takes_of rfl rfl rfl rfl) ih_kind_of_form hr T.gl_kind_of_form T.fn_kind_of_form.kp T.bn_kind_of_form (by rfl) (ma_cons (me_ix ix_seq ixW_ok (me_var 0) me_int) ma_nil) (aCons_len aNil_len))) (ma_cons (me_frz (me_call (takes_of rfl rfl rfl rfl) ih_kind_of_form hr T.gl_kind_of_form T.fn_kind_of_form.kp T.bn_kind_of_form (by rfl) (ma_cons (me_ix ix_seq ixW_ok (me_var 0) me_int) ma_nil) (aCons_len aNil_len))) ma_nil))))))
theorem ok_kind_of_form (T : Txt K mg base) : ∀ n : Nat, FnOk P HasW.w K mg base (L2.CX P HasW.w) (n + 0) T.ad_kind_of_form T.fd_kind_of_form ["form"] (SpM K mg 1 (F_kind_of_form n))
  | 0 => okBad
  | n + 1 => (st_kind_of_form T (ok_kind_of_form T n)).mono (by omega)
abbrev N_handed_on : List Str := ["form", "taker", "taken"]
theorem sc_handed_on : FnScope N_handed_on ["form", "taker", "taken"] (defScope (top 6)) := ⟨rfl, rfl, rfl, by decide +kernel, rfl, by decide +kernel, by decide +kernel⟩
theorem ok_handed_on (T : Txt K mg base) : FnOk P HasW.w K mg base (L2.CX P HasW.w) (41) T.ad_handed_on T.fd_handed_on ["form", "taker", "taken"] (SpM K mg 3 F_handed_on) :=
  okF T.fn_handed_on sc_handed_on fun cdv A outer s H E hr =>
    (mb_one (ms_ret (me_tup (ma_cons me_str (ma_cons (me_frz (me_call (takes_of rfl rfl rfl rfl) (ok_kind_of_form T 40) (hr.mono (by decide)) T.gl_kind_of_form T.fn_kind_of_form.kp T.bn_kind_of_form (by rfl) (ma_cons (me_ix ix_seq ixW_ok (me_var 0) me_int) ma_nil) (aCons_len aNil_len))) (ma_cons (me_tup (ma_cons me_str (ma_cons (me_var 1) (ma_cons (me_tup (ma_cons me_str (ma_cons (me_var 2) (ma_cons (me_tup (ma_cons me_str (ma_cons me_int ma_nil))) ma_nil)))) ma_nil)))) ma_nil))))))
abbrev N_RightTaken__sign : List Str := ["self"]
theorem sc_RightTaken__sign : FnScope N_RightTaken__sign ["self"] (defScope (inClass (top 4) 0)) := ⟨rfl, rfl, rfl, by decide +kernel, rfl, by decide +kernel, by decide +kernel⟩
theorem ok_RightTaken__sign (T : Txt K mg base) : FnOk P HasW.w K mg base (L2.CX P HasW.w) (1) T.ad_RightTaken__sign T.fd_RightTaken__sign ["self"] (SpD K 0 PL_RightTaken__sign) :=
  okD (N' := 0) T.fn_RightTaken__sign sc_RightTaken__sign rfl rfl (fun cdv A outer s H E hr =>
    (mb_one (ms_ret me_str))) rs_RightTaken__sign (fun ds h => by match ds, h with | [], _ => exact e_RightTaken__sign )
abbrev N_RightTaken__joined : List Str := ["self", "left", "right"]
theorem sc_RightTaken__joined : FnScope N_RightTaken__joined ["self", "left", "right"] (defScope (inClass (top 4) 1)) := ⟨rfl, rfl, rfl, by decide +kernel, rfl, by decide +kernel, by decide +kernel⟩
theorem ok_RightTaken__joined (T : Txt K mg base) : FnOk P HasW.w K mg base (L2.CX P HasW.w) (1) T.ad_RightTaken__joined T.fd_RightTaken__joined ["self", "left", "right"] (SpD K 2 PL_RightTaken__joined) :=
  okD (N' := 2) T.fn_RightTaken__joined sc_RightTaken__joined rfl rfl (fun cdv A outer s H E hr =>
    (mb_cons (ms_if (MP.mt (mp_and (mt_cmp (op_eqD hr.units) eqW_ok (me_ix ix_seq ixW_ok (me_var 1) me_int) me_str) (mp_and1 (mt_cmp (op_eqD hr.units) eqW_ok (me_ix ix_seq ixW_ok (me_var 1) me_int) (me_var 2))))) (mb_one (ms_ret (me_ix ix_seq ixW_ok (me_var 1) me_int))) mb_nil)
    (mb_one (ms_ret me_non)))) rs_RightTaken__joined (fun ds h => by match ds, h with | [a1, a2], _ => exact e_RightTaken__joined a1 a2)
abbrev N_RightTaken__meant : List Str := ["self", "left", "right", "first", "second"]
theorem sc_RightTaken__meant : FnScope N_RightTaken__meant ["self", "left", "right", "first", "second"] (defScope (inClass (top 4) 2)) := ⟨rfl, rfl, rfl, by decide +kernel, rfl, by decide +kernel, by decide +kernel⟩
theorem ok_RightTaken__meant (T : Txt K mg base) : FnOk P HasW.w K mg base (L2.CX P HasW.w) (1) T.ad_RightTaken__meant T.fd_RightTaken__meant ["self", "left", "right", "first", "second"] (SpD K 4 PL_RightTaken__meant) :=
  okD (N' := 4) T.fn_RightTaken__meant sc_RightTaken__meant rfl rfl (fun cdv A outer s H E hr =>
    (mb_one (ms_ret (me_tup (ma_cons me_str (ma_cons (me_var 3) (ma_cons (me_var 4) ma_nil))))))) rs_RightTaken__meant (fun ds h => by match ds, h with | [a1, a2, a3, a4], _ => exact e_RightTaken__meant a1 a2 a3 a4)
abbrev N_LeftTaken__sign : List Str := ["self"]
theorem sc_LeftTaken__sign : FnScope N_LeftTaken__sign ["self"] (defScope (inClass (top 5) 0)) := ⟨rfl, rfl, rfl, by decide +kernel, rfl, by decide +kernel, by decide +kernel⟩
theorem ok_LeftTaken__sign (T : Txt K mg base) : FnOk P HasW.w K mg base (L2.CX P HasW.w) (1) T.ad_LeftTaken__sign T.fd_LeftTaken__sign ["self"] (SpD K 0 PL_LeftTaken__sign) :=
  okD (N' := 0) T.fn_LeftTaken__sign sc_LeftTaken__sign rfl rfl (fun cdv A outer s H E hr =>
    (mb_one (ms_ret me_str))) rs_LeftTaken__sign (fun ds h => by match ds, h with | [], _ => exact e_LeftTaken__sign )
abbrev N_LeftTaken__joined : List Str := ["self", "left", "right"]
theorem sc_LeftTaken__joined : FnScope N_LeftTaken__joined ["self", "left", "right"] (defScope (inClass (top 5) 1)) := ⟨rfl, rfl, rfl, by decide +kernel, rfl, by decide +kernel, by decide +kernel⟩
theorem ok_LeftTaken__joined (T : Txt K mg base) : FnOk P HasW.w K mg base (L2.CX P HasW.w) (1) T.ad_LeftTaken__joined T.fd_LeftTaken__joined ["self", "left", "right"] (SpD K 2 PL_LeftTaken__joined) :=
  okD (N' := 2) T.fn_LeftTaken__joined sc_LeftTaken__joined rfl rfl (fun cdv A outer s H E hr =>
    (mb_cons (ms_if (MP.mt (mp_and (mt_cmp (op_eqD hr.units) eqW_ok (me_ix ix_seq ixW_ok (me_var 2) me_int) me_str) (mp_and1 (mt_cmp (op_eqD hr.units) eqW_ok (me_ix ix_seq ixW_ok (me_var 2) me_int) (me_var 1))))) (mb_one (ms_ret (me_ix ix_seq ixW_ok (me_var 2) me_int))) mb_nil)
    (mb_one (ms_ret me_non)))) rs_LeftTaken__joined (fun ds h => by match ds, h with | [a1, a2], _ => exact e_LeftTaken__joined a1 a2)
abbrev N_LeftTaken__meant : List Str := ["self", "left", "right", "first", "second"]
theorem sc_LeftTaken__meant : FnScope N_LeftTaken__meant ["self", "left", "right", "first", "second"] (defScope (inClass (top 5) 2)) := ⟨rfl, rfl, rfl, by decide +kernel, rfl, by decide +kernel, by decide +kernel⟩
theorem ok_LeftTaken__meant (T : Txt K mg base) : FnOk P HasW.w K mg base (L2.CX P HasW.w) (1) T.ad_LeftTaken__meant T.fd_LeftTaken__meant ["self", "left", "right", "first", "second"] (SpD K 4 PL_LeftTaken__meant) :=
  okD (N' := 4) T.fn_LeftTaken__meant sc_LeftTaken__meant rfl rfl (fun cdv A outer s H E hr =>
    (mb_one (ms_ret (me_tup (ma_cons me_str (ma_cons (me_var 4) (ma_cons (me_var 3) ma_nil))))))) rs_LeftTaken__meant (fun ds h => by match ds, h with | [a1, a2, a3, a4], _ => exact e_LeftTaken__meant a1 a2 a3 a4)
abbrev N_RightHanded__sign : List Str := ["self"]
theorem sc_RightHanded__sign : FnScope N_RightHanded__sign ["self"] (defScope (inClass (top 7) 0)) := ⟨rfl, rfl, rfl, by decide +kernel, rfl, by decide +kernel, by decide +kernel⟩
theorem ok_RightHanded__sign (T : Txt K mg base) : FnOk P HasW.w K mg base (L2.CX P HasW.w) (1) T.ad_RightHanded__sign T.fd_RightHanded__sign ["self"] (SpD K 0 PL_RightHanded__sign) :=
  okD (N' := 0) T.fn_RightHanded__sign sc_RightHanded__sign rfl rfl (fun cdv A outer s H E hr =>
    (mb_one (ms_ret me_str))) rs_RightHanded__sign (fun ds h => by match ds, h with | [], _ => exact e_RightHanded__sign )
abbrev N_RightHanded__joined : List Str := ["self", "left", "right"]
theorem sc_RightHanded__joined : FnScope N_RightHanded__joined ["self", "left", "right"] (defScope (inClass (top 7) 1)) := ⟨rfl, rfl, rfl, by decide +kernel, rfl, by decide +kernel, by decide +kernel⟩
theorem ok_RightHanded__joined (T : Txt K mg base) : FnOk P HasW.w K mg base (L2.CX P HasW.w) (1) T.ad_RightHanded__joined T.fd_RightHanded__joined ["self", "left", "right"] (SpD K 2 PL_RightHanded__joined) :=
  okD (N' := 2) T.fn_RightHanded__joined sc_RightHanded__joined rfl rfl (fun cdv A outer s H E hr =>
    (mb_cons (ms_if (MP.mt (mp_and (mt_cmp (op_eqD hr.units) eqW_ok (me_ix ix_seq ixW_ok (me_var 1) me_int) me_str) (mp_and (mt_cmp (op_eqD hr.units) eqW_ok (me_ix ix_seq ixW_ok (me_var 2) me_int) me_str) (mp_and1 (mt_cmp (op_eqD hr.units) eqW_ok (me_ix ix_seq ixW_ok (me_var 1) me_int) (me_ix ix_seq ixW_ok (me_var 2) me_int)))))) (mb_one (ms_ret (me_tup (ma_cons me_str (ma_cons (me_ix ix_seq ixW_ok (me_var 1) me_int) (ma_cons (me_ix ix_seq ixW_ok (me_var 2) me_int) ma_nil)))))) mb_nil)
    (mb_one (ms_ret me_non)))) rs_RightHanded__joined (fun ds h => by match ds, h with | [a1, a2], _ => exact e_RightHanded__joined a1 a2)
abbrev N_RightHanded__meant : List Str := ["self", "left", "right", "first", "second"]
theorem sc_RightHanded__meant : FnScope N_RightHanded__meant ["self", "left", "right", "first", "second"] (defScope (inClass (top 7) 2)) := ⟨rfl, rfl, rfl, by decide +kernel, rfl, by decide +kernel, by decide +kernel⟩
theorem ok_RightHanded__meant (T : Txt K mg base) : FnOk P HasW.w K mg base (L2.CX P HasW.w) (42) T.ad_RightHanded__meant T.fd_RightHanded__meant ["self", "left", "right", "first", "second"] (SpD K 4 PL_RightHanded__meant) :=
  okD (N' := 4) T.fn_RightHanded__meant sc_RightHanded__meant rfl rfl (fun cdv A outer s H E hr =>
    (mb_one (ms_ret (me_call (takes_of rfl rfl rfl rfl) (ok_handed_on T) (hr.mono (by decide)) T.gl_handed_on T.fn_handed_on.kp T.bn_handed_on (by rfl) (ma_cons (me_var 2) (ma_cons (me_var 3) (ma_cons (me_var 4) ma_nil))) (aCons_len (aCons_len (aCons_len aNil_len))))))) rs_RightHanded__meant (fun ds h => by match ds, h with | [a1, a2, a3, a4], _ => exact e_RightHanded__meant a1 a2 a3 a4)
abbrev N_LeftHanded__sign : List Str := ["self"]
theorem sc_LeftHanded__sign : FnScope N_LeftHanded__sign ["self"] (defScope (inClass (top 8) 0)) := ⟨rfl, rfl, rfl, by decide +kernel, rfl, by decide +kernel, by decide +kernel⟩
theorem ok_LeftHanded__sign (T : Txt K mg base) : FnOk P HasW.w K mg base (L2.CX P HasW.w) (1) T.ad_LeftHanded__sign T.fd_LeftHanded__sign ["self"] (SpD K 0 PL_LeftHanded__sign) :=
  okD (N' := 0) T.fn_LeftHanded__sign sc_LeftHanded__sign rfl rfl (fun cdv A outer s H E hr =>
    (mb_one (ms_ret me_str))) rs_LeftHanded__sign (fun ds h => by match ds, h with | [], _ => exact e_LeftHanded__sign )
abbrev N_LeftHanded__joined : List Str := ["self", "left", "right"]
theorem sc_LeftHanded__joined : FnScope N_LeftHanded__joined ["self", "left", "right"] (defScope (inClass (top 8) 1)) := ⟨rfl, rfl, rfl, by decide +kernel, rfl, by decide +kernel, by decide +kernel⟩
theorem ok_LeftHanded__joined (T : Txt K mg base) : FnOk P HasW.w K mg base (L2.CX P HasW.w) (1) T.ad_LeftHanded__joined T.fd_LeftHanded__joined ["self", "left", "right"] (SpD K 2 PL_LeftHanded__joined) :=
  okD (N' := 2) T.fn_LeftHanded__joined sc_LeftHanded__joined rfl rfl (fun cdv A outer s H E hr =>
    (mb_cons (ms_if (MP.mt (mp_and (mt_cmp (op_eqD hr.units) eqW_ok (me_ix ix_seq ixW_ok (me_var 1) me_int) me_str) (mp_and (mt_cmp (op_eqD hr.units) eqW_ok (me_ix ix_seq ixW_ok (me_var 2) me_int) me_str) (mp_and1 (mt_cmp (op_eqD hr.units) eqW_ok (me_ix ix_seq ixW_ok (me_var 2) me_int) (me_ix ix_seq ixW_ok (me_var 1) me_int)))))) (mb_one (ms_ret (me_tup (ma_cons me_str (ma_cons (me_ix ix_seq ixW_ok (me_var 2) me_int) (ma_cons (me_ix ix_seq ixW_ok (me_var 1) me_int) ma_nil)))))) mb_nil)
    (mb_one (ms_ret me_non)))) rs_LeftHanded__joined (fun ds h => by match ds, h with | [a1, a2], _ => exact e_LeftHanded__joined a1 a2)
abbrev N_LeftHanded__meant : List Str := ["self", "left", "right", "first", "second"]
theorem sc_LeftHanded__meant : FnScope N_LeftHanded__meant ["self", "left", "right", "first", "second"] (defScope (inClass (top 8) 2)) := ⟨rfl, rfl, rfl, by decide +kernel, rfl, by decide +kernel, by decide +kernel⟩
theorem ok_LeftHanded__meant (T : Txt K mg base) : FnOk P HasW.w K mg base (L2.CX P HasW.w) (42) T.ad_LeftHanded__meant T.fd_LeftHanded__meant ["self", "left", "right", "first", "second"] (SpD K 4 PL_LeftHanded__meant) :=
  okD (N' := 4) T.fn_LeftHanded__meant sc_LeftHanded__meant rfl rfl (fun cdv A outer s H E hr =>
    (mb_one (ms_ret (me_call (takes_of rfl rfl rfl rfl) (ok_handed_on T) (hr.mono (by decide)) T.gl_handed_on T.fn_handed_on.kp T.bn_handed_on (by rfl) (ma_cons (me_var 1) (ma_cons (me_var 4) (ma_cons (me_var 3) ma_nil))) (aCons_len (aCons_len (aCons_len aNil_len))))))) rs_LeftHanded__meant (fun ds h => by match ds, h with | [a1, a2, a3, a4], _ => exact e_LeftHanded__meant a1 a2 a3 a4)
theorem sc_all_rules : FnScope [] [] (defScope (top 9)) := ⟨rfl, rfl, rfl, by decide +kernel, rfl, by decide +kernel, by decide +kernel⟩
theorem ok_all_rules (T : Txt K mg base) : FnOk P HasW.w K mg base (L2.CX P HasW.w) 1 T.ad_all_rules T.fd_all_rules [] (SpAllN T.cl_RightTaken T.cl_LeftTaken T.cl_RightHanded T.cl_LeftHanded) := by
  refine T.fn_all_rules.okX sc_all_rules (fun vs H Q E h => by rw [h.1]; rfl) fun cdv A outer s H vs Q E hr h => ?_
  obtain ⟨rfl, k⟩ := h
  refine ⟨_, pss_one (ps_ret (pe_lst (pa_cons (pe_makeO T.cm_RightTaken (by rfl) T.cg_RightTaken) (pa_cons (pe_makeO T.cm_LeftTaken (by rfl) T.cg_LeftTaken) (pa_cons (pe_makeO T.cm_RightHanded (by rfl) T.cg_RightHanded) (pa_cons (pe_makeO T.cm_LeftHanded (by rfl) T.cg_LeftHanded) pa_nil)))))), ?_⟩
  intro x1 d1 a1 b1 _ x2 d2 a2 b2 _ x3 d3 a3 b3 _ x4 d4 a4 b4 _
  refine ⟨by show 4 ≤ sizeLine; decide, fun p np => ?_⟩
  have s1 := same_mk (C := T.cl_RightTaken) a1 b1
  have s2 := same_mk (C := T.cl_LeftTaken) a2 b2
  have s3 := same_mk (C := T.cl_RightHanded) a3 b3
  have s4 := same_mk (C := T.cl_LeftHanded) a4 b4
  have s5 := same_new (o := .lst [.ref x1, .ref x2, .ref x3, .ref x4]) np
  refine k _ p x1 x2 x3 x4 d1 d2 d3 d4 (fun b o e => s5 _ _ (s4 _ _ (s3 _ _ (s2 _ _ (s1 _ _ e))))) ?_ upd_same (s5 _ _ (s4 _ _ (s3 _ _ (s2 _ _ upd_same)))) (s5 _ _ (s4 _ _ (s3 _ _ upd_same))) (s5 _ _ (s4 _ _ upd_same)) (s5 _ _ upd_same) a1 (same_none s1 a2) (same_none s1 (same_none s2 a3)) (same_none s1 (same_none s2 (same_none s3 a4)))
  cases q : H p with
  | none => rfl
  | some o => rw [s4 _ _ (s3 _ _ (s2 _ _ (s1 _ _ q)))] at np; cases np
abbrev N_made : List Str := ["left", "right", "rule", "form"]
theorem sc_made : FnScope N_made ["left", "right"] (defScope (top 10)) := ⟨rfl, rfl, rfl, by decide +kernel, rfl, by decide +kernel, by decide +kernel⟩
theorem ok_made (T : Txt K mg base) : FnOk P HasW.w K mg base (L2.CX P HasW.w) (2) T.ad_made T.fd_made ["left", "right"] (SpM K mg 2 F_made) := by
  refine T.fn_made.okX sc_made (fun vs H Q E ⟨G, ws, m, _, _, h, hl, _⟩ => (Paired.length h).trans hl) fun cdv A outer s H vs Q E hr ⟨G, ws, m, eH, R, hp, hl, hq⟩ => ?_
  subst eH
  obtain ⟨ds, z, rfl, hz, hR, hq⟩ := dataF_in hp hq
  rw [List.length_map] at hl
  match ds, hl, hR, hz with
  | [x, y], _, .cons (v := vl) rl (.cons (v := vr) rr .nil), hz =>
    have hr0 : Room 1 _ := hr.mono (by decide)
    refine ⟨_, pss_cons (ps_for (passes_of rfl) rfl (pi_list (pe_call0 (ok_all_rules T) hr0 (by rfl) T.gl_all_rules T.fn_all_rules.kp T.bn_all_rules .nil pass_no)) (pg_name (i := 2) sc_made.nd rfl (Or.inl rfl))
      (pss_cons (ps_set (i := 3) sc_made.nd rfl (Or.inl rfl) (pe_or (pe_meth (pv 2) T.cc_RightTaken T.mt_RightTaken__joined (ok_RightTaken__joined T) hr0 T.bn_RightTaken__joined .nil pass_no (pa_cons (pv 0) (pa_cons (pv 1) pa_nil)))
        (pe_or (pe_meth (pv 2) T.cc_LeftTaken T.mt_LeftTaken__joined (ok_LeftTaken__joined T) hr0 T.bn_LeftTaken__joined .nil pass_no (pa_cons (pv 0) (pa_cons (pv 1) pa_nil)))
        (pe_or (pe_meth (pv 2) T.cc_RightHanded T.mt_RightHanded__joined (ok_RightHanded__joined T) hr0 T.bn_RightHanded__joined .nil pass_no (pa_cons (pv 0) (pa_cons (pv 1) pa_nil)))
        (pe_meth (pv 2) T.cc_LeftHanded T.mt_LeftHanded__joined (ok_LeftHanded__joined T) hr0 T.bn_LeftHanded__joined .nil pass_no (pa_cons (pv 0) (pa_cons (pv 1) pa_nil)))))))
      (pss_one (ps_if (pt_cmpR op_notN (pv 3) pe_non (nomark _)) (pss_one (ps_ret (pe_tup (pa_cons (pe_or (pe_meth0 (pv 2) T.cc_RightTaken T.mt_RightTaken__sign (ok_RightTaken__sign T) hr0 T.bn_RightTaken__sign .nil pass_no)
        (pe_or (pe_meth0 (pv 2) T.cc_LeftTaken T.mt_LeftTaken__sign (ok_LeftTaken__sign T) hr0 T.bn_LeftTaken__sign .nil pass_no)
        (pe_or (pe_meth0 (pv 2) T.cc_RightHanded T.mt_RightHanded__sign (ok_RightHanded__sign T) hr0 T.bn_RightHanded__sign .nil pass_no)
        (pe_meth0 (pv 2) T.cc_LeftHanded T.mt_LeftHanded__sign (ok_LeftHanded__sign T) hr0 T.bn_LeftHanded__sign .nil pass_no)))) (pa_cons (pv 3) pa_nil))))) pss_nil))))
      (pss_one (ps_ret pe_non)), ?_⟩
    refine ⟨rfl, fun H1 p x1 x2 x3 x4 d1 d2 d3 d4 s0 np hp1 i1 i2 i3 i4 f1 f2 f3 f4 => ?_⟩
    have le1 := Le.same R s0
    have R1 := R.same s0
    have nl : ∀ {a : Addr} {o : HO}, H1 a = some o → G.H a = none → a ∉ G.lv := fun _ h z => R.lt _ z h
    have hn : ∀ {a : Addr}, G.H a = none → ¬ (a ∈ G.io ∧ a ∈ G.lv) := fun q z => R.lt _ z.2 q
    let js : List (PR D × D) := [(PL_RightTaken__joined [x, y], .str (Str.ofString ">")), (PL_LeftTaken__joined [x, y], .str (Str.ofString "<")), (PL_RightHanded__joined [x, y], .str (Str.ofString ">>")), (PL_LeftHanded__joined [x, y], .str (Str.ofString "<<"))]
    refine ⟨p, rfl, ⟨_, SqL.of hp1⟩, for_list (K := K) (a := p) (xs := [.ref x1, .ref x2, .ref x3, .ref x4]) (fun i σ H' => ∃ (G' : Wd) (u2 u3 : Option V), σ = [some vl, some vr, u2, u3] ∧ G'.H = H' ∧ Le ⟨G.io, G.lv, H1⟩ G' ∧ RelM K G' m ∧ madeGo (js.drop i) = .ok z)
      ⟨_, none, none, rfl, rfl, Le.refl R1, R1, hz⟩ (fun i σ H' _ ⟨G', _, _, _, e, le, _, _⟩ => SqL.of (by rw [← e]; exact le.keep _ _ hp1 (fun z => R.lt _ z.2 np) nofun)) ?_ ?_⟩
    · rintro i v σ H' hi ⟨G', u2, u3, rfl, rfl, le, R', hg⟩
      have rl' := Rep.mono (le1.trans le).mo rl
      have rr' := Rep.mono (le1.trans le).mo rr
      match i, hi with
      | 0, hi =>
        cases hi
        cases hj : PL_RightTaken__joined [x, y] with
        | err e => exact absurd hg (by rw [show madeGo (js.drop 0) = (PL_RightTaken__joined [x, y]).bind _ from rfl, hj]; intro h; cases h)
        | bad => exact absurd hg (by rw [show madeGo (js.drop 0) = (PL_RightTaken__joined [x, y]).bind _ from rfl, hj]; intro h; cases h)
        | ok zj =>
          rw [show madeGo (js.drop 0) = (PL_RightTaken__joined [x, y]).bind _ from rfl, hj, PR.bind_ok] at hg
          refine .inl ?_
          refine ⟨_, rfl, x1, d1, [], rfl, le.keep _ _ i1 (hn f1) nofun, rfl, _, rfl, _, rfl, _, [vl, vr], G', [x, y], m, zj, rfl, rfl, R', .cons rl' (.cons rr' .nil), rfl, hj, fun v G2 le2 R2 r2 => ?_⟩
          have nx : zj = .none → madeGo (js.drop (0 + 1)) = .ok z := fun h => by subst h; exact hg
          have ret : zj ≠ .none → z = .tuple [.str (Str.ofString ">"), zj] := fun h => by
            cases zj with
            | none => exact absurd rfl h
            | _ => exact (PR.ok.inj hg).symm
          refine ⟨_, rfl, rfl, _, rfl, ?_⟩
          by_cases hz0 : zj = .none
          · subst hz0
            cases r2
            exact ⟨G2, _, _, rfl, rfl, le.trans le2, R2, nx rfl⟩
          · have hv : (!decide (v = .non)) = true := by
              cases r2 <;> first | exact absurd rfl hz0 | rfl
            have hz1 := ret hz0
            subst hz1
            dsimp only
            rw [if_pos hv]
            refine .inl ?_
            refine ⟨_, rfl, x1, d1, [], rfl, (le.trans le2).keep _ _ i1 (hn f1) nofun, rfl, _, [], G2, [], m, .str (Str.ofString ">"), rfl, rfl, R2, .nil, rfl, rfl, fun v' G3 le3 R3 r3 => ?_⟩
            refine ⟨_, rfl, (by show 2 ≤ sizeLine; decide), fun p' np' => ?_⟩
            have n3 := R3.ne np'
            refine hq _ ⟨G3.io, G3.lv, upd G3.H p' (.tup [v', v])⟩ (((le1.trans le).trans (le2.trans le3)).trans (Le.new R3 np')) (R3.new np') (.tup (.inl ⟨n3.2, upd_same⟩) (.cons (Rep.mono (Le.new R3 np').mo r3) (.cons (Rep.mono (le3.trans (Le.new R3 np')).mo r2) .nil)))
      | 1, hi =>
        cases hi
        cases hj : PL_LeftTaken__joined [x, y] with
        | err e => exact absurd hg (by rw [show madeGo (js.drop 1) = (PL_LeftTaken__joined [x, y]).bind _ from rfl, hj]; intro h; cases h)
        | bad => exact absurd hg (by rw [show madeGo (js.drop 1) = (PL_LeftTaken__joined [x, y]).bind _ from rfl, hj]; intro h; cases h)
        | ok zj =>
          rw [show madeGo (js.drop 1) = (PL_LeftTaken__joined [x, y]).bind _ from rfl, hj, PR.bind_ok] at hg
          refine .inr (.inl ?_)
          refine ⟨_, rfl, x2, d2, [], rfl, le.keep _ _ i2 (hn f2) nofun, rfl, _, rfl, _, rfl, _, [vl, vr], G', [x, y], m, zj, rfl, rfl, R', .cons rl' (.cons rr' .nil), rfl, hj, fun v G2 le2 R2 r2 => ?_⟩
          have nx : zj = .none → madeGo (js.drop (1 + 1)) = .ok z := fun h => by subst h; exact hg
          have ret : zj ≠ .none → z = .tuple [.str (Str.ofString "<"), zj] := fun h => by
            cases zj with
            | none => exact absurd rfl h
            | _ => exact (PR.ok.inj hg).symm
          refine ⟨_, rfl, rfl, _, rfl, ?_⟩
          by_cases hz0 : zj = .none
          · subst hz0
            cases r2
            exact ⟨G2, _, _, rfl, rfl, le.trans le2, R2, nx rfl⟩
          · have hv : (!decide (v = .non)) = true := by
              cases r2 <;> first | exact absurd rfl hz0 | rfl
            have hz1 := ret hz0
            subst hz1
            dsimp only
            rw [if_pos hv]
            refine .inr (.inl ?_)
            refine ⟨_, rfl, x2, d2, [], rfl, (le.trans le2).keep _ _ i2 (hn f2) nofun, rfl, _, [], G2, [], m, .str (Str.ofString "<"), rfl, rfl, R2, .nil, rfl, rfl, fun v' G3 le3 R3 r3 => ?_⟩
            refine ⟨_, rfl, (by show 2 ≤ sizeLine; decide), fun p' np' => ?_⟩
            have n3 := R3.ne np'
            refine hq _ ⟨G3.io, G3.lv, upd G3.H p' (.tup [v', v])⟩ (((le1.trans le).trans (le2.trans le3)).trans (Le.new R3 np')) (R3.new np') (.tup (.inl ⟨n3.2, upd_same⟩) (.cons (Rep.mono (Le.new R3 np').mo r3) (.cons (Rep.mono (le3.trans (Le.new R3 np')).mo r2) .nil)))
      | 2, hi =>
        cases hi
        cases hj : PL_RightHanded__joined [x, y] with
        | err e => exact absurd hg (by rw [show madeGo (js.drop 2) = (PL_RightHanded__joined [x, y]).bind _ from rfl, hj]; intro h; cases h)
        | bad => exact absurd hg (by rw [show madeGo (js.drop 2) = (PL_RightHanded__joined [x, y]).bind _ from rfl, hj]; intro h; cases h)
        | ok zj =>
          rw [show madeGo (js.drop 2) = (PL_RightHanded__joined [x, y]).bind _ from rfl, hj, PR.bind_ok] at hg
          refine .inr (.inr (.inl ?_))
          refine ⟨_, rfl, x3, d3, [], rfl, le.keep _ _ i3 (hn f3) nofun, rfl, _, rfl, _, rfl, _, [vl, vr], G', [x, y], m, zj, rfl, rfl, R', .cons rl' (.cons rr' .nil), rfl, hj, fun v G2 le2 R2 r2 => ?_⟩
          have nx : zj = .none → madeGo (js.drop (2 + 1)) = .ok z := fun h => by subst h; exact hg
          have ret : zj ≠ .none → z = .tuple [.str (Str.ofString ">>"), zj] := fun h => by
            cases zj with
            | none => exact absurd rfl h
            | _ => exact (PR.ok.inj hg).symm
          refine ⟨_, rfl, rfl, _, rfl, ?_⟩
          by_cases hz0 : zj = .none
          · subst hz0
            cases r2
            exact ⟨G2, _, _, rfl, rfl, le.trans le2, R2, nx rfl⟩
          · have hv : (!decide (v = .non)) = true := by
              cases r2 <;> first | exact absurd rfl hz0 | rfl
            have hz1 := ret hz0
            subst hz1
            dsimp only
            rw [if_pos hv]
            refine .inr (.inr (.inl ?_))
            refine ⟨_, rfl, x3, d3, [], rfl, (le.trans le2).keep _ _ i3 (hn f3) nofun, rfl, _, [], G2, [], m, .str (Str.ofString ">>"), rfl, rfl, R2, .nil, rfl, rfl, fun v' G3 le3 R3 r3 => ?_⟩
            refine ⟨_, rfl, (by show 2 ≤ sizeLine; decide), fun p' np' => ?_⟩
            have n3 := R3.ne np'
            refine hq _ ⟨G3.io, G3.lv, upd G3.H p' (.tup [v', v])⟩ (((le1.trans le).trans (le2.trans le3)).trans (Le.new R3 np')) (R3.new np') (.tup (.inl ⟨n3.2, upd_same⟩) (.cons (Rep.mono (Le.new R3 np').mo r3) (.cons (Rep.mono (le3.trans (Le.new R3 np')).mo r2) .nil)))
      | 3, hi =>
        cases hi
        cases hj : PL_LeftHanded__joined [x, y] with
        | err e => exact absurd hg (by rw [show madeGo (js.drop 3) = (PL_LeftHanded__joined [x, y]).bind _ from rfl, hj]; intro h; cases h)
        | bad => exact absurd hg (by rw [show madeGo (js.drop 3) = (PL_LeftHanded__joined [x, y]).bind _ from rfl, hj]; intro h; cases h)
        | ok zj =>
          rw [show madeGo (js.drop 3) = (PL_LeftHanded__joined [x, y]).bind _ from rfl, hj, PR.bind_ok] at hg
          refine .inr (.inr (.inr ?_))
          refine ⟨_, rfl, x4, d4, [], rfl, le.keep _ _ i4 (hn f4) nofun, rfl, _, rfl, _, rfl, _, [vl, vr], G', [x, y], m, zj, rfl, rfl, R', .cons rl' (.cons rr' .nil), rfl, hj, fun v G2 le2 R2 r2 => ?_⟩
          have nx : zj = .none → madeGo (js.drop (3 + 1)) = .ok z := fun h => by subst h; exact hg
          have ret : zj ≠ .none → z = .tuple [.str (Str.ofString "<<"), zj] := fun h => by
            cases zj with
            | none => exact absurd rfl h
            | _ => exact (PR.ok.inj hg).symm
          refine ⟨_, rfl, rfl, _, rfl, ?_⟩
          by_cases hz0 : zj = .none
          · subst hz0
            cases r2
            exact ⟨G2, _, _, rfl, rfl, le.trans le2, R2, nx rfl⟩
          · have hv : (!decide (v = .non)) = true := by
              cases r2 <;> first | exact absurd rfl hz0 | rfl
            have hz1 := ret hz0
            subst hz1
            dsimp only
            rw [if_pos hv]
            refine .inr (.inr (.inr ?_))
            refine ⟨_, rfl, x4, d4, [], rfl, (le.trans le2).keep _ _ i4 (hn f4) nofun, rfl, _, [], G2, [], m, .str (Str.ofString "<<"), rfl, rfl, R2, .nil, rfl, rfl, fun v' G3 le3 R3 r3 => ?_⟩
            refine ⟨_, rfl, (by show 2 ≤ sizeLine; decide), fun p' np' => ?_⟩
            have n3 := R3.ne np'
            refine hq _ ⟨G3.io, G3.lv, upd G3.H p' (.tup [v', v])⟩ (((le1.trans le).trans (le2.trans le3)).trans (Le.new R3 np')) (R3.new np') (.tup (.inl ⟨n3.2, upd_same⟩) (.cons (Rep.mono (Le.new R3 np').mo r3) (.cons (Rep.mono (le3.trans (Le.new R3 np')).mo r2) .nil)))
      | i + 4, hi => simp at hi
    · rintro σ H' ⟨G', u2, u3, rfl, rfl, le, R', hg⟩
      have : z = .none := by cases hg; rfl
      subst this
      exact hq _ _ (le1.trans le) R' .non
  | [], hl, _, _ => cases hl
  | [_], hl, _, _ => cases hl
  | _ :: _ :: _ :: _, hl, _, _ => simp at hl
abbrev N_meant : List Str := ["sign", "left", "right", "first", "second", "rule"]
theorem sc_meant : FnScope N_meant ["sign", "left", "right", "first", "second"] (defScope (top 11)) := ⟨rfl, rfl, rfl, by decide +kernel, rfl, by decide +kernel, by decide +kernel⟩
theorem ok_meant (T : Txt K mg base) : FnOk P HasW.w K mg base (L2.CX P HasW.w) (43) T.ad_meant T.fd_meant ["sign", "left", "right", "first", "second"] (SpM K mg 5 F_meant) := by
  refine T.fn_meant.okX sc_meant (fun vs H Q E ⟨G, ws, m, _, _, h, hl, _⟩ => (Paired.length h).trans hl) fun cdv A outer s H vs Q E hr ⟨G, ws, m, eH, R, hp, hl, hq⟩ => ?_
  subst eH
  obtain ⟨ds, z, rfl, hz, hR, hQ⟩ := dataF_in hp hq
  rw [List.length_map] at hl
  match ds, hl, hR, hz with
  | [sg, x, y, f, g], _, .cons (v := vs) rs (.cons (v := vl) rl (.cons (v := vr) rr (.cons (v := vf) rf (.cons (v := vg) rg .nil)))), hz =>
    refine ⟨_, pss_cons (ps_for (passes_of rfl) rfl (pi_list (pe_call0 (ok_all_rules T) (hr.mono (by decide)) (by rfl) T.gl_all_rules T.fn_all_rules.kp T.bn_all_rules .nil pass_no)) (pg_name (i := 5) sc_meant.nd rfl (Or.inl rfl))
      (pss_one (ps_if (pt_cmpR (op_eqD hr.units) (pe_or (pe_meth0 (pv 5) T.cc_RightTaken T.mt_RightTaken__sign (ok_RightTaken__sign T) (hr.mono (by decide)) T.bn_RightTaken__sign .nil pass_no)
        (pe_or (pe_meth0 (pv 5) T.cc_LeftTaken T.mt_LeftTaken__sign (ok_LeftTaken__sign T) (hr.mono (by decide)) T.bn_LeftTaken__sign .nil pass_no)
        (pe_or (pe_meth0 (pv 5) T.cc_RightHanded T.mt_RightHanded__sign (ok_RightHanded__sign T) (hr.mono (by decide)) T.bn_RightHanded__sign .nil pass_no)
        (pe_meth0 (pv 5) T.cc_LeftHanded T.mt_LeftHanded__sign (ok_LeftHanded__sign T) (hr.mono (by decide)) T.bn_LeftHanded__sign .nil pass_no)))) (pv 0) (nomark _))
        (pss_one (ps_ret (pe_or (pe_meth (pv 5) T.cc_RightTaken T.mt_RightTaken__meant (ok_RightTaken__meant T) (hr.mono (by decide)) T.bn_RightTaken__meant .nil pass_no (pa_cons (pv 1) (pa_cons (pv 2) (pa_cons (pv 3) (pa_cons (pv 4) pa_nil)))))
        (pe_or (pe_meth (pv 5) T.cc_LeftTaken T.mt_LeftTaken__meant (ok_LeftTaken__meant T) (hr.mono (by decide)) T.bn_LeftTaken__meant .nil pass_no (pa_cons (pv 1) (pa_cons (pv 2) (pa_cons (pv 3) (pa_cons (pv 4) pa_nil)))))
        (pe_or (pe_meth (pv 5) T.cc_RightHanded T.mt_RightHanded__meant (ok_RightHanded__meant T) (hr.mono (by decide)) T.bn_RightHanded__meant .nil pass_no (pa_cons (pv 1) (pa_cons (pv 2) (pa_cons (pv 3) (pa_cons (pv 4) pa_nil)))))
        (pe_meth (pv 5) T.cc_LeftHanded T.mt_LeftHanded__meant (ok_LeftHanded__meant T) (hr.mono (by decide)) T.bn_LeftHanded__meant .nil pass_no (pa_cons (pv 1) (pa_cons (pv 2) (pa_cons (pv 3) (pa_cons (pv 4) pa_nil)))))))))) pss_nil)))
      (pss_one (ps_ret pe_non)), ?_⟩
    refine ⟨rfl, fun H1 p x1 x2 x3 x4 d1 d2 d3 d4 s0 np hp1 i1 i2 i3 i4 f1 f2 f3 f4 => ?_⟩
    have le1 := Le.same R s0
    have R1 := R.same s0
    have hn : ∀ {a : Addr}, G.H a = none → ¬ (a ∈ G.io ∧ a ∈ G.lv) := fun q z => R.lt _ z.2 q
    let js : List (D × PR D) := [(.str (Str.ofString ">"), PL_RightTaken__meant [x, y, f, g]), (.str (Str.ofString "<"), PL_LeftTaken__meant [x, y, f, g]), (.str (Str.ofString ">>"), PL_RightHanded__meant [x, y, f, g]), (.str (Str.ofString "<<"), PL_LeftHanded__meant [x, y, f, g])]
    refine ⟨p, rfl, ⟨_, SqL.of hp1⟩, for_list (K := K) (a := p) (xs := [.ref x1, .ref x2, .ref x3, .ref x4]) (fun i σ H' => ∃ (G' : Wd) (u5 : Option V), σ = [some vs, some vl, some vr, some vf, some vg, u5] ∧ G'.H = H' ∧ Le ⟨G.io, G.lv, H1⟩ G' ∧ RelM K G' m ∧ meantGo sg (js.drop i) = .ok z)
      ⟨_, none, rfl, rfl, Le.refl R1, R1, hz⟩ (fun i σ H' _ ⟨G', _, _, e, le, _, _⟩ => SqL.of (by rw [← e]; exact le.keep _ _ hp1 (fun z => R.lt _ z.2 np) nofun)) ?_ ?_⟩
    · rintro i v σ H' hi ⟨G', u5, rfl, rfl, le, R', hg⟩
      match i, hi with
      | 0, hi =>
        cases hi
        refine .inl ?_
        refine ⟨_, rfl, x1, d1, [], rfl, le.keep _ _ i1 (hn f1) nofun, rfl, _, [], G', [], m, .str (Str.ofString ">"), rfl, rfl, R', .nil, rfl, rfl, fun v' G2 le2 R2 r2 => ?_⟩
        have lt := (le1.trans le).trans le2
        have e0 : meantGo sg (js.drop 0) = (eqP false (.str (Str.ofString ">")) sg).bind fun b => ptb b fun t => if t = true then PL_RightTaken__meant [x, y, f, g] else meantGo sg (js.drop (0 + 1)) := rfl
        rw [e0] at hg
        unfold eqP at hg
        by_cases hs : (SeqAt.shaped (.str (Str.ofString ">")) && SeqAt.shaped sg) = true
        · rw [if_pos hs] at hg
          have hs' := Bool.and_eq_true_iff.mp hs
          refine ⟨_, rfl, _, sg, r2.dp rfl, (Rep.mono lt.mo rs).dp (nD_of (SeqAt.canLay_of_shaped hs'.2)), hs'.1, hs'.2, _, rfl, ?_⟩
          have hg2 : (if PyData.eqv (.str (Str.ofString ">")) sg = true then PL_RightTaken__meant [x, y, f, g] else meantGo sg (js.drop (0 + 1))) = .ok z := hg
          dsimp only
          cases hb : PyData.eqv (.str (Str.ofString ">")) sg with
          | false =>
            rw [hb] at hg2
            exact ⟨G2, _, rfl, rfl, le.trans le2, R2, hg2⟩
          | true =>
            rw [hb] at hg2
            rw [if_pos rfl] at hg2 ⊢
            refine .inl ?_
            refine ⟨_, rfl, x1, d1, [], rfl, (le.trans le2).keep _ _ i1 (hn f1) nofun, rfl, _, rfl, _, rfl, _, rfl, _, rfl, _, [vl, vr, vf, vg], G2, [x, y, f, g], m, z, rfl, rfl, R2, .cons (Rep.mono lt.mo rl) (.cons (Rep.mono lt.mo rr) (.cons (Rep.mono lt.mo rf) (.cons (Rep.mono lt.mo rg) .nil))), rfl, hg2, fun v3 G3 le3 R3 r3 => ?_⟩
            exact hQ _ G3 (lt.trans le3) R3 r3
        · rw [if_neg hs] at hg
          cases hg
      | 1, hi =>
        cases hi
        refine .inr (.inl ?_)
        refine ⟨_, rfl, x2, d2, [], rfl, le.keep _ _ i2 (hn f2) nofun, rfl, _, [], G', [], m, .str (Str.ofString "<"), rfl, rfl, R', .nil, rfl, rfl, fun v' G2 le2 R2 r2 => ?_⟩
        have lt := (le1.trans le).trans le2
        have e0 : meantGo sg (js.drop 1) = (eqP false (.str (Str.ofString "<")) sg).bind fun b => ptb b fun t => if t = true then PL_LeftTaken__meant [x, y, f, g] else meantGo sg (js.drop (1 + 1)) := rfl
        rw [e0] at hg
        unfold eqP at hg
        by_cases hs : (SeqAt.shaped (.str (Str.ofString "<")) && SeqAt.shaped sg) = true
        · rw [if_pos hs] at hg
          have hs' := Bool.and_eq_true_iff.mp hs
          refine ⟨_, rfl, _, sg, r2.dp rfl, (Rep.mono lt.mo rs).dp (nD_of (SeqAt.canLay_of_shaped hs'.2)), hs'.1, hs'.2, _, rfl, ?_⟩
          have hg2 : (if PyData.eqv (.str (Str.ofString "<")) sg = true then PL_LeftTaken__meant [x, y, f, g] else meantGo sg (js.drop (1 + 1))) = .ok z := hg
          dsimp only
          cases hb : PyData.eqv (.str (Str.ofString "<")) sg with
          | false =>
            rw [hb] at hg2
            exact ⟨G2, _, rfl, rfl, le.trans le2, R2, hg2⟩
          | true =>
            rw [hb] at hg2
            rw [if_pos rfl] at hg2 ⊢
            refine .inr (.inl ?_)
            refine ⟨_, rfl, x2, d2, [], rfl, (le.trans le2).keep _ _ i2 (hn f2) nofun, rfl, _, rfl, _, rfl, _, rfl, _, rfl, _, [vl, vr, vf, vg], G2, [x, y, f, g], m, z, rfl, rfl, R2, .cons (Rep.mono lt.mo rl) (.cons (Rep.mono lt.mo rr) (.cons (Rep.mono lt.mo rf) (.cons (Rep.mono lt.mo rg) .nil))), rfl, hg2, fun v3 G3 le3 R3 r3 => ?_⟩
            exact hQ _ G3 (lt.trans le3) R3 r3
        · rw [if_neg hs] at hg
          cases hg
      | 2, hi =>
        cases hi
        refine .inr (.inr (.inl ?_))
        refine ⟨_, rfl, x3, d3, [], rfl, le.keep _ _ i3 (hn f3) nofun, rfl, _, [], G', [], m, .str (Str.ofString ">>"), rfl, rfl, R', .nil, rfl, rfl, fun v' G2 le2 R2 r2 => ?_⟩
        have lt := (le1.trans le).trans le2
        have e0 : meantGo sg (js.drop 2) = (eqP false (.str (Str.ofString ">>")) sg).bind fun b => ptb b fun t => if t = true then PL_RightHanded__meant [x, y, f, g] else meantGo sg (js.drop (2 + 1)) := rfl
        rw [e0] at hg
        unfold eqP at hg
        by_cases hs : (SeqAt.shaped (.str (Str.ofString ">>")) && SeqAt.shaped sg) = true
        · rw [if_pos hs] at hg
          have hs' := Bool.and_eq_true_iff.mp hs
          refine ⟨_, rfl, _, sg, r2.dp rfl, (Rep.mono lt.mo rs).dp (nD_of (SeqAt.canLay_of_shaped hs'.2)), hs'.1, hs'.2, _, rfl, ?_⟩
          have hg2 : (if PyData.eqv (.str (Str.ofString ">>")) sg = true then PL_RightHanded__meant [x, y, f, g] else meantGo sg (js.drop (2 + 1))) = .ok z := hg
          dsimp only
          cases hb : PyData.eqv (.str (Str.ofString ">>")) sg with
          | false =>
            rw [hb] at hg2
            exact ⟨G2, _, rfl, rfl, le.trans le2, R2, hg2⟩
          | true =>
            rw [hb] at hg2
            rw [if_pos rfl] at hg2 ⊢
            refine .inr (.inr (.inl ?_))
            refine ⟨_, rfl, x3, d3, [], rfl, (le.trans le2).keep _ _ i3 (hn f3) nofun, rfl, _, rfl, _, rfl, _, rfl, _, rfl, _, [vl, vr, vf, vg], G2, [x, y, f, g], m, z, rfl, rfl, R2, .cons (Rep.mono lt.mo rl) (.cons (Rep.mono lt.mo rr) (.cons (Rep.mono lt.mo rf) (.cons (Rep.mono lt.mo rg) .nil))), rfl, hg2, fun v3 G3 le3 R3 r3 => ?_⟩
            exact hQ _ G3 (lt.trans le3) R3 r3
        · rw [if_neg hs] at hg
          cases hg
      | 3, hi =>
        cases hi
        refine .inr (.inr (.inr ?_))
        refine ⟨_, rfl, x4, d4, [], rfl, le.keep _ _ i4 (hn f4) nofun, rfl, _, [], G', [], m, .str (Str.ofString "<<"), rfl, rfl, R', .nil, rfl, rfl, fun v' G2 le2 R2 r2 => ?_⟩
        have lt := (le1.trans le).trans le2
        have e0 : meantGo sg (js.drop 3) = (eqP false (.str (Str.ofString "<<")) sg).bind fun b => ptb b fun t => if t = true then PL_LeftHanded__meant [x, y, f, g] else meantGo sg (js.drop (3 + 1)) := rfl
        rw [e0] at hg
        unfold eqP at hg
        by_cases hs : (SeqAt.shaped (.str (Str.ofString "<<")) && SeqAt.shaped sg) = true
        · rw [if_pos hs] at hg
          have hs' := Bool.and_eq_true_iff.mp hs
          refine ⟨_, rfl, _, sg, r2.dp rfl, (Rep.mono lt.mo rs).dp (nD_of (SeqAt.canLay_of_shaped hs'.2)), hs'.1, hs'.2, _, rfl, ?_⟩
          have hg2 : (if PyData.eqv (.str (Str.ofString "<<")) sg = true then PL_LeftHanded__meant [x, y, f, g] else meantGo sg (js.drop (3 + 1))) = .ok z := hg
          dsimp only
          cases hb : PyData.eqv (.str (Str.ofString "<<")) sg with
          | false =>
            rw [hb] at hg2
            exact ⟨G2, _, rfl, rfl, le.trans le2, R2, hg2⟩
          | true =>
            rw [hb] at hg2
            rw [if_pos rfl] at hg2 ⊢
            refine .inr (.inr (.inr ?_))
            refine ⟨_, rfl, x4, d4, [], rfl, (le.trans le2).keep _ _ i4 (hn f4) nofun, rfl, _, rfl, _, rfl, _, rfl, _, rfl, _, [vl, vr, vf, vg], G2, [x, y, f, g], m, z, rfl, rfl, R2, .cons (Rep.mono lt.mo rl) (.cons (Rep.mono lt.mo rr) (.cons (Rep.mono lt.mo rf) (.cons (Rep.mono lt.mo rg) .nil))), rfl, hg2, fun v3 G3 le3 R3 r3 => ?_⟩
            exact hQ _ G3 (lt.trans le3) R3 r3
        · rw [if_neg hs] at hg
          cases hg
      | i + 4, hi => simp at hi
    · rintro σ H' ⟨G', u5, rfl, rfl, le, R', hg⟩
      have : z = .none := by cases hg; rfl
      subst this
      exact hQ _ _ (le1.trans le) R' .non
  | [], hl, _, _ => cases hl
  | [_], hl, _, _ => cases hl
  | [_, _], hl, _, _ => cases hl
  | [_, _, _], hl, _, _ => cases hl
  | [_, _, _, _], hl, _, _ => cases hl
  | _ :: _ :: _ :: _ :: _ :: _ :: _, hl, _, _ => simp at hl
abbrev N_unknown__word : List Str := ["place", "form"]
abbrev N_meant_by : List Str := ["reading", "of_word", "left", "first", "right", "second"]
theorem sc_meant_by : FnScope N_meant_by ["reading", "of_word"] (defScope (top 13)) := ⟨rfl, rfl, rfl, by decide +kernel, rfl, by decide +kernel, by decide +kernel⟩
theorem st_meant_by (T : Txt K mg base) {n : Nat} {f c : Addr} {ob : Obj} {cv : List (Addr × Obj)} {q : Str} (hv : FvOk P HasW.w K mg base 1 f ob cv c q 2 F_unknown__word) (ih : MbOk P HasW.w K mg base (n + 43) T.ad_meant_by T.fd_meant_by ["reading", "of_word"] f ob cv c q (F_meant_by n)) : MbOk P HasW.w K mg base (n + 43 + 1) T.ad_meant_by T.fd_meant_by ["reading", "of_word"] f ob cv c q (F_meant_by (n + 1)) :=
  okMb T.fn_meant_by sc_meant_by fun cdv A outer s H E hr ha0 =>
    (mbj_cons (msj_if (MT.j (mt_cmp (op_eqD hr.units) eqW_ok (me_ix ix_seq ixW_ok (me_var 0) me_int) me_str)) (mbj_one (msj_ret (mej_tup (maj_cons (ME.j (me_ix ix_seq ixW_ok (me_var 0) me_int)) (maj_cons (mej_frz (mej_callF (takes_of rfl rfl rfl rfl) hv (hr.mono (by omega)) rfl ha0 rfl (Or.inl rfl) (ma_cons (me_ix ix_seq ixW_ok (me_var 0) me_int) (ma_cons (me_ix ix_seq ixW_ok (me_var 0) me_int) ma_nil)) (aCons_len (aCons_len aNil_len)))) (MA.j ma_nil)))))) mbj_nil)
    (mbj_cons (msj_asg (mej_frz (mej_callM (takes_of rfl rfl rfl rfl) ih hr rfl ha0 (by rfl) T.gl_meant_by T.fn_meant_by.kp T.bn_meant_by rfl (Or.inl rfl) (me_ix ix_seq ixW_ok (me_var 0) me_int))) (mg_tup rfl (mgs_cons (mg_name 2 sc_meant_by.nd) (mgs_cons (mg_name 3 sc_meant_by.nd) mgs_nil))) (jf_off (by decide)))
    (mbj_cons (msj_asg (mej_frz (mej_callM (takes_of rfl rfl rfl rfl) ih hr rfl ha0 (by rfl) T.gl_meant_by T.fn_meant_by.kp T.bn_meant_by rfl (Or.inl rfl) (me_ix ix_seq ixW_ok (me_var 0) me_int))) (mg_tup rfl (mgs_cons (mg_name 4 sc_meant_by.nd) (mgs_cons (mg_name 5 sc_meant_by.nd) mgs_nil))) (jf_off (by decide)))
    (mbj_one (msj_ret (ME.j (me_tup (ma_cons (me_ix ix_seq ixW_ok (me_call (takes_of rfl rfl rfl rfl) (ok_made T) (hr.mono (by omega)) T.gl_made T.fn_made.kp T.bn_made (by rfl) (ma_cons (me_var 2) (ma_cons (me_var 4) ma_nil)) (aCons_len (aCons_len aNil_len))) me_int) (ma_cons (me_frz (me_call (takes_of rfl rfl rfl rfl) (ok_meant T) (hr.mono (by omega)) T.gl_meant T.fn_meant.kp T.bn_meant (by rfl) (ma_cons (me_ix ix_seq ixW_ok (me_var 0) me_int) (ma_cons (me_var 2) (ma_cons (me_var 4) (ma_cons (me_var 3) (ma_cons (me_var 5) ma_nil))))) (aCons_len (aCons_len (aCons_len (aCons_len (aCons_len aNil_len))))))) ma_nil)))))))))
theorem ok_meant_by (T : Txt K mg base) {f c : Addr} {ob : Obj} {cv : List (Addr × Obj)} {q : Str} (hv : FvOk P HasW.w K mg base 1 f ob cv c q 2 F_unknown__word) : ∀ n : Nat, MbOk P HasW.w K mg base (n + 43) T.ad_meant_by T.fd_meant_by ["reading", "of_word"] f ob cv c q (F_meant_by n)
  | 0 => mbBad rfl
  | n + 1 => (st_meant_by T hv (ok_meant_by T hv n)).mono (by omega)
abbrev N_unknown : List Str := ["reading"]
theorem sc_unknown : FnScope N_unknown ["reading"] (defScope (top 14)) := ⟨rfl, rfl, rfl, by decide +kernel, rfl, by decide +kernel, by decide +kernel⟩
theorem ok_unknown (T : Txt K mg base) : FnOk P HasW.w K mg base (L2.CX P HasW.w) (84) T.ad_unknown T.fd_unknown ["reading"] (SpM K mg 1 F_unknown) :=
  okFC T.fn_unknown T.cod sc_unknown fun A outer s H E hr =>
    (mb_one (ms_ret (me_ix ix_seq ixW_ok (me_callL (nm := fun _ _ => qLam) (takes_of rfl rfl rfl rfl) (fun f c' pm ctv => ok_meant_by T (lam_fv (k := 0) (N := N_unknown__word) (ps := ["place", "form"]) (by exact NdefX.nscope_by (by decide +kernel)) (by intro us h; match us, h with | [_, _], _ => rfl) (fun A outer s H E => (me_tup (ma_cons me_str (ma_cons (me_var 0) (ma_cons (me_var 1) ma_nil)))))) 40) (hr.mono (by decide)) (by rfl) T.gl_meant_by T.fn_meant_by.kp T.bn_meant_by T.tb rfl (tabs_mem T.hw) (by rfl) (tabs_u T.hw) (me_var 0)) me_int)))
abbrev N__law_deck : List Str := ["_law_script", "_law_cells", "_law_mixed"]
theorem sc__law_deck : FnScope N__law_deck ["_law_script"] (defScope (top 16)) := ⟨rfl, rfl, rfl, by decide +kernel, rfl, by decide +kernel, by decide +kernel⟩
theorem ok__law_deck (T : Txt K mg base) : FnOk P HasW.w K mg base (L2.CX P HasW.w) (1) T.ad__law_deck T.fd__law_deck ["_law_script"] (SpM K mg 1 F__law_deck) :=
  okA T.fn__law_deck sc__law_deck fun cdv A outer s H E hr =>
    (mb_cons (ms_set 1 sc__law_deck.nd (me_obj (me_op op_addS addAW_ok (me_slice sl_all slW_ok (me_var 0) mo_none (mo_some me_int)) (me_lst (ma_cons me_int ma_nil)))))
    (mb_cons (ms_set 2 sc__law_deck.nd (me_cmp (op_eqD hr.units) eqW_ok (me_op op_mod modW_ok (me_ix ix_seq ixW_ok (me_var 1) me_int) me_int) me_int))
    (mb_cons (ms_setI (me_var 1) me_int (me_op op_fdivW divW_ok (me_ix ix_seq ixW_ok (me_var 1) me_int) me_int))
    (mb_one (ms_ret (me_dict (mps_cons me_str (me_obj (me_var 1)) (mps_cons me_str (me_obj me_int) (mps_cons me_str (me_obj me_int) (mps_cons me_str (me_obj (me_op op_addS addAW_ok me_int (me_op op_mod modW_ok (me_callB (cr_sum rfl) sumW_ok (by rfl) T.z_sum (ma_cons (me_var 1) ma_nil)) me_int))) (mps_cons me_str (me_obj (me_var 2)) mps_nil)))))))))))
abbrev N__law_next : List Str := ["_law_deck_here", "_law_cells", "_law_cell", "_law_number"]
theorem sc__law_next : FnScope N__law_next ["_law_deck_here"] (defScope (top 17)) := ⟨rfl, rfl, rfl, by decide +kernel, rfl, by decide +kernel, by decide +kernel⟩
theorem ok__law_next (T : Txt K mg base) : FnOk P HasW.w K mg base (L2.CX P HasW.w) (1) T.ad__law_next T.fd__law_next ["_law_deck_here"] (SpM K mg 1 F__law_next) :=
  okF T.fn__law_next sc__law_next fun cdv A outer s H E hr =>
    (mb_cons (ms_set 1 sc__law_next.nd (me_obj (me_dget (hu65 hr) (me_var 0) me_str)))
    (mb_cons (ms_if (mt_tru (me_dget (hu65 hr) (me_var 0) me_str)) (mb_cons (ms_setD (hu65 hr) (me_var 0) me_str (me_op op_addS addAW_ok (me_dget (hu65 hr) (me_var 0) me_str) me_int))
    (mb_cons (ms_set 2 sc__law_next.nd (me_ix ix_seq ixW_ok (me_var 1) (me_op op_mod modW_ok (me_dget (hu65 hr) (me_var 0) me_str) (me_callB call_len lenW_ok (by rfl) T.z_len (ma_cons (me_var 1) ma_nil)))))
    (mb_cons (ms_setD (hu65 hr) (me_var 0) me_str (me_op op_mod modW_ok (me_op op_addS addAW_ok (me_op op_addS addAW_ok (me_op op_mulA mulW_ok (me_dget (hu65 hr) (me_var 0) me_str) me_int) (me_var 2)) (me_dget (hu65 hr) (me_var 0) me_str)) me_int))
    (mb_cons (ms_set 3 sc__law_next.nd (me_op op_mod modW_ok (me_op op_addS addAW_ok (me_op op_mulA mulW_ok (me_dget (hu65 hr) (me_var 0) me_str) (me_dget (hu65 hr) (me_var 0) me_str)) (me_op op_mulA mulW_ok me_int (me_dget (hu65 hr) (me_var 0) me_str))) me_int))
    (mb_one (ms_ret (me_op op_mod modW_ok (me_op op_mulA mulW_ok (me_var 3) (me_op op_addS addAW_ok (me_var 3) me_int)) me_int))))))) mb_nil)
    (mb_cons (ms_set 3 sc__law_next.nd (me_op op_mod modW_ok (me_ix ix_seq ixW_ok (me_var 1) me_int) (me_op op_pow powW_ok me_int me_int)))
    (mb_cons (ms_setI (me_var 1) me_int (me_op op_fdivW divW_ok (me_ix ix_seq ixW_ok (me_var 1) me_int) (me_op op_pow powW_ok me_int me_int)))
    (mb_cons (ms_setD (hu65 hr) (me_var 0) me_str (me_op op_sub subW_ok (me_dget (hu65 hr) (me_var 0) me_str) me_int))
    (mb_cons (ms_if (MP.mt (mp_and (mt_cmp (op_eqD hr.units) eqW_ok (me_dget (hu65 hr) (me_var 0) me_str) me_int) (mp_and1 (mt_cmp op_gt gtW_ok (me_callB call_len lenW_ok (by rfl) T.z_len (ma_cons (me_var 1) ma_nil)) me_int)))) (mb_cons (ms_expr (me_bm PySem.F.plainAttrs_list PySem.F.slot_list_pop PySem.F.type_list_pop mt_popAt popAtW_ok (me_var 1) (ma_cons me_int ma_nil)))
    (mb_one (ms_setD (hu65 hr) (me_var 0) me_str me_int))) mb_nil)
    (mb_one (ms_ret (me_var 3)))))))))
abbrev N__law_spelled : List Str := ["_law_number", "_law_size", "_law_word_here", "_law_k"]
theorem sc__law_spelled : FnScope N__law_spelled ["_law_number", "_law_size"] (defScope (top 18)) := ⟨rfl, rfl, rfl, by decide +kernel, rfl, by decide +kernel, by decide +kernel⟩
theorem ok__law_spelled (T : Txt K mg base) : FnOk P HasW.w K mg base (L2.CX P HasW.w) (1) T.ad__law_spelled T.fd__law_spelled ["_law_number", "_law_size"] (SpM K mg 2 F__law_spelled) :=
  okF T.fn__law_spelled sc__law_spelled fun cdv A outer s H E hr =>
    (mb_cons (ms_set 2 sc__law_spelled.nd me_str)
    (mb_cons (ms_for (passes_of rfl) rfl (mi_range1 (by rfl) T.z_range (ma_cons (me_var 1) ma_nil)) (mg_name 3 sc__law_spelled.nd) (mb_cons (ms_set 2 sc__law_spelled.nd (me_frz (me_op op_addS addAW_ok (me_var 2) (me_ix ix_seq ixW_ok me_str (me_op op_mod modW_ok (me_var 0) me_int)))))
    (mb_one (ms_set 0 sc__law_spelled.nd (me_op op_fdivW divW_ok (me_var 0) me_int)))))
    (mb_one (ms_ret (me_var 2)))))
abbrev N__law_word : List Str := ["_law_deck_here", "_law_words_here", "_law_way", "_law_number", "_law_size", "_law_word_here", "_law_at"]
theorem sc__law_word : FnScope N__law_word ["_law_deck_here", "_law_words_here"] (defScope (top 19)) := ⟨rfl, rfl, rfl, by decide +kernel, rfl, by decide +kernel, by decide +kernel⟩
theorem ok__law_word (T : Txt K mg base) : FnOk P HasW.w K mg base (L2.CX P HasW.w) (2) T.ad__law_word T.fd__law_word ["_law_deck_here", "_law_words_here"] (SpM K mg 2 F__law_word) :=
  okF T.fn__law_word sc__law_word fun cdv A outer s H E hr =>
    (mb_cons (ms_set 2 sc__law_word.nd (me_frz (me_call (takes_of rfl rfl rfl rfl) (ok__law_next T) (hr.mono (by decide)) T.gl__law_next T.fn__law_next.kp T.bn__law_next (by rfl) (ma_cons (me_obj (me_var 0)) ma_nil) (aCons_len aNil_len))))
    (mb_cons (ms_set 3 sc__law_word.nd (me_frz (me_call (takes_of rfl rfl rfl rfl) (ok__law_next T) (hr.mono (by decide)) T.gl__law_next T.fn__law_next.kp T.bn__law_next (by rfl) (ma_cons (me_obj (me_var 0)) ma_nil) (aCons_len aNil_len))))
    (mb_cons (ms_set 4 sc__law_word.nd (me_op op_addS addAW_ok me_int (me_op op_mod modW_ok (me_var 2) me_int)))
    (mb_cons (ms_set 5 sc__law_word.nd (me_frz (me_call (takes_of rfl rfl rfl rfl) (ok__law_spelled T) (hr.mono (by decide)) T.gl__law_spelled T.fn__law_spelled.kp T.bn__law_spelled (by rfl) (ma_cons (me_var 3) (ma_cons (me_var 4) ma_nil)) (aCons_len (aCons_len aNil_len)))))
    (mb_cons (ms_if (MP.mt (mp_and (mt_cmp (op_neD hr.units) neW_ok (me_var 1) (me_lst ma_nil)) (mp_and1 (mt_cmp (op_eqD hr.units) eqW_ok (me_op op_mod modW_ok (me_op op_fdivW divW_ok (me_var 2) me_int) me_int) me_int)))) (mb_cons (ms_set 6 sc__law_word.nd (me_op op_mod modW_ok (me_op op_fdivW divW_ok (me_var 2) me_int) (me_callB call_len lenW_ok (by rfl) T.z_len (ma_cons (me_ix ix_seq ixW_ok (me_var 1) me_int) ma_nil))))
    (mb_one (ms_set 5 sc__law_word.nd (me_frz (me_op op_addS addAW_ok (me_op op_addS addAW_ok (me_slice sl_all slW_ok (me_ix ix_seq ixW_ok (me_var 1) me_int) mo_none (mo_some (me_var 6))) (me_ix ix_seq ixW_ok (me_var 5) me_int)) (me_slice sl_all slW_ok (me_ix ix_seq ixW_ok (me_var 1) me_int) (mo_some (me_op op_addS addAW_ok (me_var 6) me_int)) mo_none)))))) mb_nil)
    (mb_cons (ms_while fuelW (passes_of rfl) (MP.mt (mp_or (mt_cmp (op_inA (hu65 hr)) inW_ok (me_var 5) (me_var 1)) (mp_or1 (mt_cmp (op_eqD hr.units) eqW_ok (me_var 5) me_str)))) (mb_cons (ms_set 3 sc__law_word.nd (me_op op_addS addAW_ok (me_var 3) me_int))
    (mb_cons (ms_set 4 sc__law_word.nd (me_op op_addS addAW_ok (me_op op_mod modW_ok (me_var 4) me_int) me_int))
    (mb_one (ms_set 5 sc__law_word.nd (me_frz (me_call (takes_of rfl rfl rfl rfl) (ok__law_spelled T) (hr.mono (by decide)) T.gl__law_spelled T.fn__law_spelled.kp T.bn__law_spelled (by rfl) (ma_cons (me_var 3) (ma_cons (me_var 4) ma_nil)) (aCons_len (aCons_len aNil_len)))))))))
    (mb_one (ms_ret (me_var 5)))))))))
abbrev N__law_words : List Str := ["_law_deck_here", "_law_many", "_law_words_here", "_law_k"]
theorem sc__law_words : FnScope N__law_words ["_law_deck_here", "_law_many"] (defScope (top 20)) := ⟨rfl, rfl, rfl, by decide +kernel, rfl, by decide +kernel, by decide +kernel⟩
theorem ok__law_words (T : Txt K mg base) : FnOk P HasW.w K mg base (L2.CX P HasW.w) (3) T.ad__law_words T.fd__law_words ["_law_deck_here", "_law_many"] (SpM K mg 2 F__law_words) :=
  okF T.fn__law_words sc__law_words fun cdv A outer s H E hr =>
    (mb_cons (ms_set 2 sc__law_words.nd (me_obj (me_lst ma_nil)))
    (mb_cons (ms_for (passes_of rfl) rfl (mi_range1 (by rfl) T.z_range (ma_cons (me_var 1) ma_nil)) (mg_name 3 sc__law_words.nd) (mb_one (ms_expr (me_bm PySem.F.plainAttrs_list PySem.F.slot_list_append PySem.F.type_list_append mt_append appendW_ok (me_var 2) (ma_cons (me_frz (me_call (takes_of rfl rfl rfl rfl) (ok__law_word T) (hr.mono (by decide)) T.gl__law_word T.fn__law_word.kp T.bn__law_word (by rfl) (ma_cons (me_obj (me_var 0)) (ma_cons (me_var 2) ma_nil)) (aCons_len (aCons_len aNil_len)))) ma_nil)))))
    (mb_one (ms_ret (me_var 2)))))
abbrev N__law_wide : List Str := ["_law_form"]
theorem sc__law_wide : FnScope N__law_wide ["_law_form"] (defScope (top 21)) := ⟨rfl, rfl, rfl, by decide +kernel, rfl, by decide +kernel, by decide +kernel⟩
theorem st__law_wide (T : Txt K mg base) {n : Nat} (ih__law_wide : FnOk P HasW.w K mg base (L2.CX P HasW.w) (n + 0) T.ad__law_wide T.fd__law_wide ["_law_form"] (SpM K mg 1 (F__law_wide n))) : FnOk P HasW.w K mg base (L2.CX P HasW.w) (n + 0 + 1) T.ad__law_wide T.fd__law_wide ["_law_form"] (SpM K mg 1 (F__law_wide (n + 1))) :=
  okF T.fn__law_wide sc__law_wide fun cdv A outer s H E hr =>
    (mb_cons (ms_if (mt_cmp (op_eqD hr.units) eqW_ok (me_ix ix_seq ixW_ok (me_var 0) me_int) me_str) (mb_one (ms_ret me_int)) mb_nil)
    (mb_one (ms_ret (me_op op_addS addAW_ok (me_call (takes_of rfl rfl rfl rfl) ih__law_wide hr T.gl__law_wide T.fn__law_wide.kp T.bn__law_wide (by rfl) (ma_cons (me_ix ix_seq ixW_ok (me_var 0) me_int) ma_nil) (aCons_len aNil_len)) (me_call (takes_of rfl rfl rfl rfl) ih__law_wide hr T.gl__law_wide T.fn__law_wide.kp T.bn__law_wide (by rfl) (ma_cons (me_ix ix_seq ixW_ok (me_var 0) me_int) ma_nil) (aCons_len aNil_len))))))
theorem ok__law_wide (T : Txt K mg base) : ∀ n : Nat, FnOk P HasW.w K mg base (L2.CX P HasW.w) (n + 0) T.ad__law_wide T.fd__law_wide ["_law_form"] (SpM K mg 1 (F__law_wide n))
  | 0 => okBad
  | n + 1 => (st__law_wide T (ok__law_wide T n)).mono (by omega)
abbrev N__law_other : List Str := ["_law_deck_here", "_law_basics", "_law_form", "_law_way", "_law_one"]
theorem sc__law_other : FnScope N__law_other ["_law_deck_here", "_law_basics", "_law_form"] (defScope (top 22)) := ⟨rfl, rfl, rfl, by decide +kernel, rfl, by decide +kernel, by decide +kernel⟩
theorem ok__law_other (T : Txt K mg base) : FnOk P HasW.w K mg base (L2.CX P HasW.w) (41) T.ad__law_other T.fd__law_other ["_law_deck_here", "_law_basics", "_law_form"] (SpM K mg 3 F__law_other) :=
  okF T.fn__law_other sc__law_other fun cdv A outer s H E hr =>
    (mb_cons (ms_set 3 sc__law_other.nd (me_frz (me_call (takes_of rfl rfl rfl rfl) (ok__law_next T) (hr.mono (by decide)) T.gl__law_next T.fn__law_next.kp T.bn__law_next (by rfl) (ma_cons (me_obj (me_var 0)) ma_nil) (aCons_len aNil_len))))
    (mb_cons (ms_set 4 sc__law_other.nd (me_tup (ma_cons me_str (ma_cons (me_ix ix_seq ixW_ok (me_var 1) (me_op op_mod modW_ok (me_var 3) (me_callB call_len lenW_ok (by rfl) T.z_len (ma_cons (me_var 1) ma_nil)))) ma_nil))))
    (mb_cons (ms_if (MP.mt (mp_or (mt_cmp op_gt gtW_ok (me_op op_mod modW_ok (me_op op_fdivW divW_ok (me_var 3) me_int) me_int) me_int) (mp_or1 (mt_cmp op_gt gtW_ok (me_call (takes_of rfl rfl rfl rfl) (ok__law_wide T 40) (hr.mono (by decide)) T.gl__law_wide T.fn__law_wide.kp T.bn__law_wide (by rfl) (ma_cons (me_var 2) ma_nil) (aCons_len aNil_len)) me_int)))) (mb_one (ms_ret (me_var 4))) mb_nil)
    (mb_one (ms_ret (me_tup (ma_cons (me_ix ix_seq ixW_ok (me_lst (ma_cons me_str (ma_cons me_str ma_nil))) (me_op op_mod modW_ok (me_op op_fdivW divW_ok (me_var 3) me_int) me_int)) (ma_cons (me_var 4) (ma_cons (me_tup (ma_cons me_str (ma_cons (me_ix ix_seq ixW_ok (me_var 1) (me_op op_mod modW_ok (me_op op_fdivW divW_ok (me_var 3) me_int) (me_callB call_len lenW_ok (by rfl) T.z_len (ma_cons (me_var 1) ma_nil)))) ma_nil))) ma_nil)))))))))
abbrev N__law_tree : List Str := ["_law_deck_here", "_law_basics", "_law_form", "_law_at", "_law_many", "_law_cut", "_law_way", "_law_other_here", "_law_sign", "_law_some", "_law_left"]
theorem sc__law_tree : FnScope N__law_tree ["_law_deck_here", "_law_basics", "_law_form", "_law_at", "_law_many"] (defScope (top 23)) := ⟨rfl, rfl, rfl, by decide +kernel, rfl, by decide +kernel, by decide +kernel⟩
theorem st__law_tree (T : Txt K mg base) {n : Nat} (ih__law_tree : FnOk P HasW.w K mg base (L2.CX P HasW.w) (n + 41) T.ad__law_tree T.fd__law_tree ["_law_deck_here", "_law_basics", "_law_form", "_law_at", "_law_many"] (SpM K mg 5 (F__law_tree n))) : FnOk P HasW.w K mg base (L2.CX P HasW.w) (n + 41 + 1) T.ad__law_tree T.fd__law_tree ["_law_deck_here", "_law_basics", "_law_form", "_law_at", "_law_many"] (SpM K mg 5 (F__law_tree (n + 1))) :=
  okF T.fn__law_tree sc__law_tree fun cdv A outer s H E hr =>
    (mb_cons (ms_if (mt_cmp op_lt ltW_ok (me_var 4) me_int) (mb_one (ms_ret (me_tup (ma_cons me_str (ma_cons (me_var 3) (ma_cons (me_var 2) ma_nil)))))) mb_nil)
    (mb_cons (ms_set 5 sc__law_tree.nd (me_op op_addS addAW_ok me_int (me_op op_mod modW_ok (me_call (takes_of rfl rfl rfl rfl) (ok__law_next T) (hr.mono (by omega)) T.gl__law_next T.fn__law_next.kp T.bn__law_next (by rfl) (ma_cons (me_obj (me_var 0)) ma_nil) (aCons_len aNil_len)) (me_op op_sub subW_ok (me_var 4) me_int))))
    (mb_cons (ms_set 6 sc__law_tree.nd (me_frz (me_call (takes_of rfl rfl rfl rfl) (ok__law_next T) (hr.mono (by omega)) T.gl__law_next T.fn__law_next.kp T.bn__law_next (by rfl) (ma_cons (me_obj (me_var 0)) ma_nil) (aCons_len aNil_len))))
    (mb_cons (ms_set 7 sc__law_tree.nd (me_frz (me_call (takes_of rfl rfl rfl rfl) (ok__law_other T) (hr.mono (by omega)) T.gl__law_other T.fn__law_other.kp T.bn__law_other (by rfl) (ma_cons (me_obj (me_var 0)) (ma_cons (me_var 1) (ma_cons (me_var 2) ma_nil))) (aCons_len (aCons_len (aCons_len aNil_len))))))
    (mb_cons (ms_set 8 sc__law_tree.nd me_str)
    (mb_cons (ms_set 9 sc__law_tree.nd (me_tup (ma_cons (me_tup (ma_cons me_str (ma_cons (me_var 2) (ma_cons (me_var 7) ma_nil)))) (ma_cons (me_var 7) ma_nil))))
    (mb_cons (ms_if (mt_cmp (op_eqD hr.units) eqW_ok (me_op op_mod modW_ok (me_var 6) me_int) me_int) (mb_cons (ms_set 8 sc__law_tree.nd me_str)
    (mb_one (ms_set 9 sc__law_tree.nd (me_tup (ma_cons (me_var 7) (ma_cons (me_tup (ma_cons me_str (ma_cons (me_var 2) (ma_cons (me_var 7) ma_nil)))) ma_nil)))))) mb_nil)
    (mb_cons (ms_if (MP.mt (mp_and (mt_cmp (op_eqD hr.units) eqW_ok (me_ix ix_seq ixW_ok (me_var 2) me_int) me_str) (mp_and1 (MP.mt (mp_or (mt_cmp op_gt gtW_ok (me_op op_mod modW_ok (me_var 6) me_int) me_int) (mp_or1 (mt_cmp op_gt gtW_ok (me_call (takes_of rfl rfl rfl rfl) (ok__law_wide T 40) (hr.mono (by omega)) T.gl__law_wide T.fn__law_wide.kp T.bn__law_wide (by rfl) (ma_cons (me_var 2) ma_nil) (aCons_len aNil_len)) me_int))))))) (mb_cons (ms_set 8 sc__law_tree.nd me_str)
    (mb_one (ms_set 9 sc__law_tree.nd (me_tup (ma_cons (me_tup (ma_cons me_str (ma_cons (me_ix ix_seq ixW_ok (me_var 2) me_int) (ma_cons (me_var 7) ma_nil)))) (ma_cons (me_tup (ma_cons me_str (ma_cons (me_var 7) (ma_cons (me_ix ix_seq ixW_ok (me_var 2) me_int) ma_nil)))) ma_nil)))))) mb_nil)
    (mb_cons (ms_if (MP.mt (mp_and (mt_cmp (op_eqD hr.units) eqW_ok (me_ix ix_seq ixW_ok (me_var 2) me_int) me_str) (mp_and1 (MP.mt (mp_or (mt_cmp op_gt gtW_ok (me_op op_mod modW_ok (me_var 6) me_int) me_int) (mp_or1 (mt_cmp op_gt gtW_ok (me_call (takes_of rfl rfl rfl rfl) (ok__law_wide T 40) (hr.mono (by omega)) T.gl__law_wide T.fn__law_wide.kp T.bn__law_wide (by rfl) (ma_cons (me_var 2) ma_nil) (aCons_len aNil_len)) me_int))))))) (mb_cons (ms_set 8 sc__law_tree.nd me_str)
    (mb_one (ms_set 9 sc__law_tree.nd (me_tup (ma_cons (me_tup (ma_cons me_str (ma_cons (me_var 7) (ma_cons (me_ix ix_seq ixW_ok (me_var 2) me_int) ma_nil)))) (ma_cons (me_tup (ma_cons me_str (ma_cons (me_ix ix_seq ixW_ok (me_var 2) me_int) (ma_cons (me_var 7) ma_nil)))) ma_nil)))))) mb_nil)
    (mb_cons (ms_set 10 sc__law_tree.nd (me_frz (me_call (takes_of rfl rfl rfl rfl) ih__law_tree hr T.gl__law_tree T.fn__law_tree.kp T.bn__law_tree (by rfl) (ma_cons (me_obj (me_var 0)) (ma_cons (me_var 1) (ma_cons (me_ix ix_seq ixW_ok (me_var 9) me_int) (ma_cons (me_var 3) (ma_cons (me_var 5) ma_nil))))) (aCons_len (aCons_len (aCons_len (aCons_len (aCons_len aNil_len))))))))
    (mb_one (ms_ret (me_tup (ma_cons (me_var 8) (ma_cons (me_var 10) (ma_cons (me_frz (me_call (takes_of rfl rfl rfl rfl) ih__law_tree hr T.gl__law_tree T.fn__law_tree.kp T.bn__law_tree (by rfl) (ma_cons (me_obj (me_var 0)) (ma_cons (me_var 1) (ma_cons (me_ix ix_seq ixW_ok (me_var 9) me_int) (ma_cons (me_frz (me_op op_addS addAW_ok (me_var 3) (me_var 5))) (ma_cons (me_op op_sub subW_ok (me_var 4) (me_var 5)) ma_nil))))) (aCons_len (aCons_len (aCons_len (aCons_len (aCons_len aNil_len))))))) ma_nil))))))))))))))))
theorem ok__law_tree (T : Txt K mg base) : ∀ n : Nat, FnOk P HasW.w K mg base (L2.CX P HasW.w) (n + 41) T.ad__law_tree T.fd__law_tree ["_law_deck_here", "_law_basics", "_law_form", "_law_at", "_law_many"] (SpM K mg 5 (F__law_tree n))
  | 0 => okBad
  | n + 1 => (st__law_tree T (ok__law_tree T n)).mono (by omega)
abbrev N__law_drawn_form : List Str := ["_law_deck_here", "_law_basics", "_law_one", "_law_other_here", "_law_way"]
theorem sc__law_drawn_form : FnScope N__law_drawn_form ["_law_deck_here", "_law_basics"] (defScope (top 24)) := ⟨rfl, rfl, rfl, by decide +kernel, rfl, by decide +kernel, by decide +kernel⟩
theorem ok__law_drawn_form (T : Txt K mg base) : FnOk P HasW.w K mg base (L2.CX P HasW.w) (42) T.ad__law_drawn_form T.fd__law_drawn_form ["_law_deck_here", "_law_basics"] (SpM K mg 2 F__law_drawn_form) :=
  okF T.fn__law_drawn_form sc__law_drawn_form fun cdv A outer s H E hr =>
    (mb_cons (ms_set 2 sc__law_drawn_form.nd (me_tup (ma_cons me_str (ma_cons (me_ix ix_seq ixW_ok (me_var 1) (me_op op_mod modW_ok (me_call (takes_of rfl rfl rfl rfl) (ok__law_next T) (hr.mono (by decide)) T.gl__law_next T.fn__law_next.kp T.bn__law_next (by rfl) (ma_cons (me_obj (me_var 0)) ma_nil) (aCons_len aNil_len)) (me_callB call_len lenW_ok (by rfl) T.z_len (ma_cons (me_var 1) ma_nil)))) ma_nil))))
    (mb_cons (ms_set 3 sc__law_drawn_form.nd (me_frz (me_call (takes_of rfl rfl rfl rfl) (ok__law_other T) (hr.mono (by decide)) T.gl__law_other T.fn__law_other.kp T.bn__law_other (by rfl) (ma_cons (me_obj (me_var 0)) (ma_cons (me_var 1) (ma_cons (me_var 2) ma_nil))) (aCons_len (aCons_len (aCons_len aNil_len))))))
    (mb_cons (ms_set 4 sc__law_drawn_form.nd (me_op op_mod modW_ok (me_call (takes_of rfl rfl rfl rfl) (ok__law_next T) (hr.mono (by decide)) T.gl__law_next T.fn__law_next.kp T.bn__law_next (by rfl) (ma_cons (me_obj (me_var 0)) ma_nil) (aCons_len aNil_len)) me_int))
    (mb_cons (ms_if (mt_cmp op_lt ltW_ok (me_var 4) me_int) (mb_one (ms_ret (me_var 2))) mb_nil)
    (mb_one (ms_ret (me_tup (ma_cons (me_ix ix_seq ixW_ok (me_lst (ma_cons me_str (ma_cons me_str ma_nil))) (me_op op_mod modW_ok (me_var 4) me_int)) (ma_cons (me_var 2) (ma_cons (me_var 3) ma_nil))))))))))
abbrev N__law_kind_of_form : List Str := ["_law_form"]
theorem sc__law_kind_of_form : FnScope N__law_kind_of_form ["_law_form"] (defScope (top 25)) := ⟨rfl, rfl, rfl, by decide +kernel, rfl, by decide +kernel, by decide +kernel⟩
theorem st__law_kind_of_form (T : Txt K mg base) {n : Nat} (ih__law_kind_of_form : FnOk P HasW.w K mg base (L2.CX P HasW.w) (n + 0) T.ad__law_kind_of_form T.fd__law_kind_of_form ["_law_form"] (SpM K mg 1 (F__law_kind_of_form n))) : FnOk P HasW.w K mg base (L2.CX P HasW.w) (n + 0 + 1) T.ad__law_kind_of_form T.fd__law_kind_of_form ["_law_form"] (SpM K mg 1 (F__law_kind_of_form (n + 1))) :=
  okF T.fn__law_kind_of_form sc__law_kind_of_form fun cdv A outer s H E hr =>
    (mb_cons (ms_if (mt_cmp (op_eqD hr.units) eqW_ok (me_ix ix_seq ixW_ok (me_var 0) me_int) me_str) (mb_one (ms_ret (me_ix ix_seq ixW_ok (me_var 0) me_int))) mb_nil)
    (mb_one (ms_ret (me_tup (ma_cons (me_frz (me_call (takes_of rfl rfl rfl rfl) ih__law_kind_of_form hr T.gl__law_kind_of_form T.fn__law_kind_of_form.kp T.bn__law_kind_of_form (by rfl) (ma_cons (me_ix ix_seq ixW_ok (me_var 0) me_int) ma_nil) (aCons_len aNil_len))) (ma_cons (me_frz (me_call (takes_of rfl rfl rfl rfl) ih__law_kind_of_form hr T.gl__law_kind_of_form T.fn__law_kind_of_form.kp T.bn__law_kind_of_form (by rfl) (ma_cons (me_ix ix_seq ixW_ok (me_var 0) me_int) ma_nil) (aCons_len aNil_len))) ma_nil))))))
theorem ok__law_kind_of_form (T : Txt K mg base) : ∀ n : Nat, FnOk P HasW.w K mg base (L2.CX P HasW.w) (n + 0) T.ad__law_kind_of_form T.fd__law_kind_of_form ["_law_form"] (SpM K mg 1 (F__law_kind_of_form n))
  | 0 => okBad
  | n + 1 => (st__law_kind_of_form T (ok__law_kind_of_form T n)).mono (by omega)
abbrev N__law_joined : List Str := ["_law_sign", "_law_left", "_law_right"]
theorem sc__law_joined : FnScope N__law_joined ["_law_sign", "_law_left", "_law_right"] (defScope (top 26)) := ⟨rfl, rfl, rfl, by decide +kernel, rfl, by decide +kernel, by decide +kernel⟩
theorem ok__law_joined (T : Txt K mg base) : FnOk P HasW.w K mg base (L2.CX P HasW.w) (1) T.ad__law_joined T.fd__law_joined ["_law_sign", "_law_left", "_law_right"] (SpM K mg 3 F__law_joined) :=
  okF T.fn__law_joined sc__law_joined fun cdv A outer s H E hr =>
    (mb_cons (ms_if (mt_cmp (op_eqD hr.units) eqW_ok (me_var 0) me_str) (mb_one (ms_ret (me_ix ix_seq ixW_ok (me_var 1) me_int))) mb_nil)
    (mb_cons (ms_if (mt_cmp (op_eqD hr.units) eqW_ok (me_var 0) me_str) (mb_one (ms_ret (me_ix ix_seq ixW_ok (me_var 2) me_int))) mb_nil)
    (mb_cons (ms_if (mt_cmp (op_eqD hr.units) eqW_ok (me_var 0) me_str) (mb_one (ms_ret (me_tup (ma_cons me_str (ma_cons (me_ix ix_seq ixW_ok (me_var 1) me_int) (ma_cons (me_ix ix_seq ixW_ok (me_var 2) me_int) ma_nil)))))) mb_nil)
    (mb_one (ms_ret (me_tup (ma_cons me_str (ma_cons (me_ix ix_seq ixW_ok (me_var 2) me_int) (ma_cons (me_ix ix_seq ixW_ok (me_var 1) me_int) ma_nil)))))))))
abbrev N__law_meant : List Str := ["_law_reading", "_law_means", "_law_left", "_law_first", "_law_right", "_law_second", "_law_form"]
theorem sc__law_meant : FnScope N__law_meant ["_law_reading", "_law_means"] (defScope (top 27)) := ⟨rfl, rfl, rfl, by decide +kernel, rfl, by decide +kernel, by decide +kernel⟩
theorem st__law_meant (T : Txt K mg base) {n : Nat} (ih__law_meant : FnOk P HasW.w K mg base (L2.CX P HasW.w) (n + 40) T.ad__law_meant T.fd__law_meant ["_law_reading", "_law_means"] (SpM K mg 2 (F__law_meant n))) : FnOk P HasW.w K mg base (L2.CX P HasW.w) (n + 40 + 1) T.ad__law_meant T.fd__law_meant ["_law_reading", "_law_means"] (SpM K mg 2 (F__law_meant (n + 1))) :=
  okF T.fn__law_meant sc__law_meant fun cdv A outer s H E hr =>
    (mb_cons (ms_if (mt_cmp (op_eqD hr.units) eqW_ok (me_ix ix_seq ixW_ok (me_var 0) me_int) me_str) (mb_one (ms_ret (me_tup (ma_cons (me_ix ix_seq ixW_ok (me_var 0) me_int) (ma_cons (me_ix (ix_all (hu65 hr) rfl) ixA_ok (me_var 1) (me_frz (me_slice sl_all slW_ok (me_var 0) (mo_some me_int) mo_none))) ma_nil))))) mb_nil)
    (mb_cons (ms_asg (me_frz (me_call (takes_of rfl rfl rfl rfl) ih__law_meant hr T.gl__law_meant T.fn__law_meant.kp T.bn__law_meant (by rfl) (ma_cons (me_ix ix_seq ixW_ok (me_var 0) me_int) (ma_cons (me_obj (me_var 1)) ma_nil)) (aCons_len (aCons_len aNil_len)))) (mg_tup rfl (mgs_cons (mg_name 2 sc__law_meant.nd) (mgs_cons (mg_name 3 sc__law_meant.nd) mgs_nil))))
    (mb_cons (ms_asg (me_frz (me_call (takes_of rfl rfl rfl rfl) ih__law_meant hr T.gl__law_meant T.fn__law_meant.kp T.bn__law_meant (by rfl) (ma_cons (me_ix ix_seq ixW_ok (me_var 0) me_int) (ma_cons (me_obj (me_var 1)) ma_nil)) (aCons_len (aCons_len aNil_len)))) (mg_tup rfl (mgs_cons (mg_name 4 sc__law_meant.nd) (mgs_cons (mg_name 5 sc__law_meant.nd) mgs_nil))))
    (mb_cons (ms_set 6 sc__law_meant.nd (me_frz (me_call (takes_of rfl rfl rfl rfl) (ok__law_joined T) (hr.mono (by omega)) T.gl__law_joined T.fn__law_joined.kp T.bn__law_joined (by rfl) (ma_cons (me_ix ix_seq ixW_ok (me_var 0) me_int) (ma_cons (me_var 2) (ma_cons (me_var 4) ma_nil))) (aCons_len (aCons_len (aCons_len aNil_len))))))
    (mb_cons (ms_if (mt_cmp (op_inA (hu65 hr)) inW_ok (me_ix ix_seq ixW_ok (me_var 0) me_int) (me_tup (ma_cons me_str (ma_cons me_str ma_nil)))) (mb_one (ms_parT rfl sc__law_meant.nd rfl rfl (by decide) rfl rfl (ma_cons (me_var 5) (ma_cons (me_var 3) ma_nil)))) mb_nil)
    (mb_cons (ms_if (mt_cmp (op_inA (hu65 hr)) inW_ok (me_ix ix_seq ixW_ok (me_var 0) me_int) (me_tup (ma_cons me_str (ma_cons me_str ma_nil)))) (mb_one (ms_ret (me_tup (ma_cons (me_var 6) (ma_cons (me_tup (ma_cons me_str (ma_cons (me_var 3) (ma_cons (me_var 5) ma_nil)))) ma_nil))))) mb_nil)
    (mb_one (ms_ret (me_tup (ma_cons (me_var 6) (ma_cons (me_tup (ma_cons me_str (ma_cons (me_frz (me_call (takes_of rfl rfl rfl rfl) (ok__law_kind_of_form T 40) (hr.mono (by omega)) T.gl__law_kind_of_form T.fn__law_kind_of_form.kp T.bn__law_kind_of_form (by rfl) (ma_cons (me_ix ix_seq ixW_ok (me_var 6) me_int) ma_nil) (aCons_len aNil_len))) (ma_cons (me_tup (ma_cons me_str (ma_cons (me_var 3) (ma_cons (me_tup (ma_cons me_str (ma_cons (me_var 5) (ma_cons (me_tup (ma_cons me_str (ma_cons me_int ma_nil))) ma_nil)))) ma_nil)))) ma_nil)))) ma_nil)))))))))))
theorem ok__law_meant (T : Txt K mg base) : ∀ n : Nat, FnOk P HasW.w K mg base (L2.CX P HasW.w) (n + 40) T.ad__law_meant T.fd__law_meant ["_law_reading", "_law_means"] (SpM K mg 2 (F__law_meant n))
  | 0 => okBad
  | n + 1 => (st__law_meant T (ok__law_meant T n)).mono (by omega)
abbrev N__law_within : List Str := ["_law_reading"]
theorem sc__law_within : FnScope N__law_within ["_law_reading"] (defScope (top 28)) := ⟨rfl, rfl, rfl, by decide +kernel, rfl, by decide +kernel, by decide +kernel⟩
theorem st__law_within (T : Txt K mg base) {n : Nat} (ih__law_within : FnOk P HasW.w K mg base (L2.CX P HasW.w) (n + 0) T.ad__law_within T.fd__law_within ["_law_reading"] (SpM K mg 1 (F__law_within n))) : FnOk P HasW.w K mg base (L2.CX P HasW.w) (n + 0 + 1) T.ad__law_within T.fd__law_within ["_law_reading"] (SpM K mg 1 (F__law_within (n + 1))) :=
  okF T.fn__law_within sc__law_within fun cdv A outer s H E hr =>
    (mb_cons (ms_if (mt_cmp (op_eqD hr.units) eqW_ok (me_ix ix_seq ixW_ok (me_var 0) me_int) me_str) (mb_one (ms_ret (me_lst (ma_cons (me_var 0) ma_nil)))) mb_nil)
    (mb_one (ms_ret (me_op op_addS addAW_ok (me_op op_addS addAW_ok (me_lst (ma_cons (me_var 0) ma_nil)) (me_call (takes_of rfl rfl rfl rfl) ih__law_within hr T.gl__law_within T.fn__law_within.kp T.bn__law_within (by rfl) (ma_cons (me_ix ix_seq ixW_ok (me_var 0) me_int) ma_nil) (aCons_len aNil_len))) (me_call (takes_of rfl rfl rfl rfl) ih__law_within hr T.gl__law_within T.fn__law_within.kp T.bn__law_within (by rfl) (ma_cons (me_ix ix_seq ixW_ok (me_var 0) me_int) ma_nil) (aCons_len aNil_len))))))
theorem ok__law_within (T : Txt K mg base) : ∀ n : Nat, FnOk P HasW.w K mg base (L2.CX P HasW.w) (n + 0) T.ad__law_within T.fd__law_within ["_law_reading"] (SpM K mg 1 (F__law_within n))
  | 0 => okBad
  | n + 1 => (st__law_within T (ok__law_within T n)).mono (by omega)
abbrev N__law_words_of : List Str := ["_law_reading", "_law_one"]
theorem sc__law_words_of : FnScope N__law_words_of ["_law_reading"] (defScope (top 29)) := ⟨rfl, rfl, rfl, by decide +kernel, rfl, by decide +kernel, by decide +kernel⟩
theorem ok__law_words_of (T : Txt K mg base) : FnOk P HasW.w K mg base (L2.CX P HasW.w) (41) T.ad__law_words_of T.fd__law_words_of ["_law_reading"] (SpM K mg 1 F__law_words_of) :=
  okF T.fn__law_words_of sc__law_words_of fun cdv A outer s H E hr =>
    (mb_one (ms_ret (me_lc (own := [("_law_one", 1)]) rfl sc__law_words_of.nd (mi_seq (me_call (takes_of rfl rfl rfl rfl) (ok__law_within T 40) (hr.mono (by decide)) T.gl__law_within T.fn__law_within.kp T.bn__law_within (by rfl) (ma_cons (me_var 0) ma_nil) (aCons_len aNil_len))) (blkOk_by (own := [("_law_one", 1)]) (N := N__law_words_of) (sc := defScope (top 29)) (by decide +kernel)) (fun _ _ _ _ _ => (mg_name 1 sc__law_words_of.nd)) (fun _ _ _ _ _ => (mts_one (mt_cmp (op_eqD hr.units) eqW_ok (me_ix ix_seq ixW_ok (me_var 1) me_int) me_str))) (fun _ _ _ _ _ => (me_frz (me_slice sl_all slW_ok (me_var 1) (mo_some me_int) mo_none))))))
abbrev N__law_same : List Str := ["_law_one", "_law_other_here", "_law_here", "_law_there"]
theorem sc__law_same : FnScope N__law_same ["_law_one", "_law_other_here"] (defScope (top 30)) := ⟨rfl, rfl, rfl, by decide +kernel, rfl, by decide +kernel, by decide +kernel⟩
theorem st__law_same (T : Txt K mg base) {n : Nat} (ih__law_same : FnOk P HasW.w K mg base (L2.CX P HasW.w) (n + 0) T.ad__law_same T.fd__law_same ["_law_one", "_law_other_here"] (SpM K mg 2 (F__law_same n))) : FnOk P HasW.w K mg base (L2.CX P HasW.w) (n + 0 + 1) T.ad__law_same T.fd__law_same ["_law_one", "_law_other_here"] (SpM K mg 2 (F__law_same (n + 1))) :=
  okF T.fn__law_same sc__law_same fun cdv A outer s H E hr =>
    (mb_cons (ms_if (mt_tru (me_isi .str (by rfl) T.z_isinstance (by rfl) T.z_str (me_var 0))) (mb_one (ms_ret (me_and (me_isi .str (by rfl) T.z_isinstance (by rfl) T.z_str (me_var 1)) (me_one (me_cmp (op_eqD hr.units) eqW_ok (me_var 0) (me_var 1)))))) mb_nil)
    (mb_cons (ms_if (mt_not (mt_tru (me_isi .tup (by rfl) T.z_isinstance (by rfl) T.z_tuple (me_var 0)))) (mb_one (ms_ret (me_and (me_isi .int (by rfl) T.z_isinstance (by rfl) T.z_int (me_var 1)) (me_and (me_not (me_isi .bl (by rfl) T.z_isinstance (by rfl) T.z_bool (me_var 1))) (me_one (me_cmp (op_eqD hr.units) eqW_ok (me_var 0) (me_var 1))))))) mb_nil)
    (mb_cons (ms_if (MP.mt (mp_or (mt_not (mt_tru (me_isi .tup (by rfl) T.z_isinstance (by rfl) T.z_tuple (me_var 1)))) (mp_or1 (mt_cmp (op_neD hr.units) neW_ok (me_callB call_len lenW_ok (by rfl) T.z_len (ma_cons (me_var 0) ma_nil)) (me_callB call_len lenW_ok (by rfl) T.z_len (ma_cons (me_var 1) ma_nil)))))) (mb_one (ms_ret me_bl)) mb_nil)
    (mb_one (ms_ret (me_callB (cr_all rfl) allW_ok (by rfl) T.z_all (ma_cons (me_lc (own := [("_law_here", 2), ("_law_there", 3)]) rfl sc__law_same.nd (mi_zipA (by rfl) T.z_zip (ma_cons (me_var 0) (ma_cons (me_var 1) ma_nil))) (blkOk_by (own := [("_law_here", 2), ("_law_there", 3)]) (N := N__law_same) (sc := defScope (top 30)) (by decide +kernel)) (fun _ _ _ _ _ => (mg_tup rfl (mgs_cons (mg_name 2 sc__law_same.nd) (mgs_cons (mg_name 3 sc__law_same.nd) mgs_nil)))) (fun _ _ _ _ _ => mts_nil) (fun _ _ _ _ _ => (me_frz (me_call takesF ih__law_same hr T.gl__law_same T.fn__law_same.kp T.bn__law_same (by rfl) (ma_cons (me_var 2) (ma_cons (me_var 3) ma_nil)) (aCons_len (aCons_len aNil_len)))))) ma_nil)))))))
theorem ok__law_same (T : Txt K mg base) : ∀ n : Nat, FnOk P HasW.w K mg base (L2.CX P HasW.w) (n + 0) T.ad__law_same T.fd__law_same ["_law_one", "_law_other_here"] (SpM K mg 2 (F__law_same n))
  | 0 => okBad
  | n + 1 => (st__law_same T (ok__law_same T n)).mono (by omega)
abbrev N_law : List Str := ["_law_script", "_law_deck_here", "_law_basics", "_law_reading", "_law_means", "_law_place", "_law_form", "_law_one"]
theorem sc_law : FnScope N_law ["_law_script"] (defScope (top 31)) := ⟨rfl, rfl, rfl, by decide +kernel, rfl, by decide +kernel, by decide +kernel⟩
theorem ok_law (T : Txt K mg base) : FnOk P HasW.w K mg base (L2.CX P HasW.w) (85) T.ad_law T.fd_law ["_law_script"] (SpM K mg 1 F_law) :=
  okF T.fn_law sc_law fun cdv A outer s H E hr =>
    (mb_cons (ms_set 1 sc_law.nd (me_obj (me_call (takes_of rfl rfl rfl rfl) (ok__law_deck T) (hr.mono (by decide)) T.gl__law_deck T.fn__law_deck.kp T.bn__law_deck (by rfl) (ma_cons (me_var 0) ma_nil) (aCons_len aNil_len))))
    (mb_cons (ms_set 2 sc_law.nd (me_frz (me_call (takes_of rfl rfl rfl rfl) (ok__law_words T) (hr.mono (by decide)) T.gl__law_words T.fn__law_words.kp T.bn__law_words (by rfl) (ma_cons (me_obj (me_var 1)) (ma_cons (me_op op_addS addAW_ok me_int (me_op op_mod modW_ok (me_call (takes_of rfl rfl rfl rfl) (ok__law_next T) (hr.mono (by decide)) T.gl__law_next T.fn__law_next.kp T.bn__law_next (by rfl) (ma_cons (me_obj (me_var 1)) ma_nil) (aCons_len aNil_len)) me_int)) ma_nil)) (aCons_len (aCons_len aNil_len)))))
    (mb_cons (ms_set 3 sc_law.nd (me_frz (me_call (takes_of rfl rfl rfl rfl) (ok__law_tree T 40) (hr.mono (by decide)) T.gl__law_tree T.fn__law_tree.kp T.bn__law_tree (by rfl) (ma_cons (me_obj (me_var 1)) (ma_cons (me_var 2) (ma_cons (me_frz (me_call (takes_of rfl rfl rfl rfl) (ok__law_drawn_form T) (hr.mono (by decide)) T.gl__law_drawn_form T.fn__law_drawn_form.kp T.bn__law_drawn_form (by rfl) (ma_cons (me_obj (me_var 1)) (ma_cons (me_var 2) ma_nil)) (aCons_len (aCons_len aNil_len)))) (ma_cons me_int (ma_cons (me_op op_addS addAW_ok me_int (me_op op_mod modW_ok (me_call (takes_of rfl rfl rfl rfl) (ok__law_next T) (hr.mono (by decide)) T.gl__law_next T.fn__law_next.kp T.bn__law_next (by rfl) (ma_cons (me_obj (me_var 1)) ma_nil) (aCons_len aNil_len)) me_int)) ma_nil))))) (aCons_len (aCons_len (aCons_len (aCons_len (aCons_len aNil_len))))))))
    (mb_cons (ms_set 4 sc_law.nd me_newK)
    (mb_cons (ms_for (passes_of rfl) rfl (mi_seq (me_call (takes_of rfl rfl rfl rfl) (ok__law_words_of T) (hr.mono (by decide)) T.gl__law_words_of T.fn__law_words_of.kp T.bn__law_words_of (by rfl) (ma_cons (me_var 3) ma_nil) (aCons_len aNil_len))) (mg_tup rfl (mgs_cons (mg_name 5 sc_law.nd) (mgs_cons (mg_name 6 sc_law.nd) mgs_nil))) (mb_one (ms_setK (hu65 hr) rfl (me_var 4) (me_tup (ma_cons (me_var 5) (ma_cons (me_var 6) ma_nil))) (me_tup (ma_cons me_str (ma_cons (me_var 5) (ma_cons (me_var 6) ma_nil)))))))
    (mb_cons (ms_for (passes_of rfl) rfl (mi_seq (me_op op_addS addAW_ok (me_call (takes_of rfl rfl rfl rfl) (ok__law_within T 40) (hr.mono (by decide)) T.gl__law_within T.fn__law_within.kp T.bn__law_within (by rfl) (ma_cons (me_var 3) ma_nil) (aCons_len aNil_len)) (me_lst (ma_cons (me_var 3) ma_nil)))) (mg_name 7 sc_law.nd) (mb_one (ms_if (mt_not (mt_tru (me_call (takes_of rfl rfl rfl rfl) (ok__law_same T 40) (hr.mono (by decide)) T.gl__law_same T.fn__law_same.kp T.bn__law_same (by rfl) (ma_cons (me_ix ix_seq ixW_ok (me_call (takes_of rfl rfl rfl rfl) (ok__law_meant T 40) (hr.mono (by decide)) T.gl__law_meant T.fn__law_meant.kp T.bn__law_meant (by rfl) (ma_cons (me_var 7) (ma_cons (me_obj (me_var 4)) ma_nil)) (aCons_len (aCons_len aNil_len))) me_int) (ma_cons (me_frz (me_call (takes_of rfl rfl rfl rfl) (ok_unknown T) (hr.mono (by decide)) T.gl_unknown T.fn_unknown.kp T.bn_unknown (by rfl) (ma_cons (me_var 7) ma_nil) (aCons_len aNil_len))) ma_nil)) (aCons_len (aCons_len aNil_len))))) (mb_one (ms_ret me_bl)) mb_nil)))
    (mb_one (ms_ret me_bl))))))))
end
omit [HasW] in
theorem all_mk {l : PySem.W.OpenLaw} {w : World} {K : PySem.W.Frag} {h : Heap} {mg : Str → Option Value} {fa : Addr}
    {c_RightTaken : Addr}
    {c_LeftTaken : Addr}
    {c_RightHanded : Addr}
    {c_LeftHanded : Addr}
    {f1 : Addr} {od1 an1 : Option Addr} {sl1 : Array (Option Value)} {oc1 kV1 dc1 pm1 cd1 ct1 : Value}
    {f2 : Addr} {od2 an2 : Option Addr} {sl2 : Array (Option Value)} {oc2 kV2 dc2 pm2 cd2 ct2 : Value}
    {f3 : Addr} {od3 an3 : Option Addr} {sl3 : Array (Option Value)} {oc3 kV3 dc3 pm3 cd3 ct3 : Value}
    {f4 : Addr} {od4 an4 : Option Addr} {sl4 : Array (Option Value)} {oc4 kV4 dc4 pm4 cd4 ct4 : Value}
    {f5 : Addr} {od5 an5 : Option Addr} {sl5 : Array (Option Value)} {oc5 kV5 dc5 pm5 cd5 ct5 : Value}
    {f6 : Addr} {od6 an6 : Option Addr} {sl6 : Array (Option Value)} {oc6 kV6 dc6 pm6 cd6 ct6 : Value}
    {f7 : Addr} {od7 an7 : Option Addr} {sl7 : Array (Option Value)} {oc7 kV7 dc7 pm7 cd7 ct7 : Value}
    {f8 : Addr} {od8 an8 : Option Addr} {sl8 : Array (Option Value)} {oc8 kV8 dc8 pm8 cd8 ct8 : Value}
    {f9 : Addr} {od9 an9 : Option Addr} {sl9 : Array (Option Value)} {oc9 kV9 dc9 pm9 cd9 ct9 : Value}
    {f10 : Addr} {od10 an10 : Option Addr} {sl10 : Array (Option Value)} {oc10 kV10 dc10 pm10 cd10 ct10 : Value}
    {f11 : Addr} {od11 an11 : Option Addr} {sl11 : Array (Option Value)} {oc11 kV11 dc11 pm11 cd11 ct11 : Value}
    {f12 : Addr} {od12 an12 : Option Addr} {sl12 : Array (Option Value)} {oc12 kV12 dc12 pm12 cd12 ct12 : Value}
    {f13 : Addr} {od13 an13 : Option Addr} {sl13 : Array (Option Value)} {oc13 kV13 dc13 pm13 cd13 ct13 : Value}
    {f14 : Addr} {od14 an14 : Option Addr} {sl14 : Array (Option Value)} {oc14 kV14 dc14 pm14 cd14 ct14 : Value}
    {f15 : Addr} {od15 an15 : Option Addr} {sl15 : Array (Option Value)} {oc15 kV15 dc15 pm15 cd15 ct15 : Value}
    {f16 : Addr} {od16 an16 : Option Addr} {sl16 : Array (Option Value)} {oc16 kV16 dc16 pm16 cd16 ct16 : Value}
    {f17 : Addr} {od17 an17 : Option Addr} {sl17 : Array (Option Value)} {oc17 kV17 dc17 pm17 cd17 ct17 : Value}
    {f18 : Addr} {od18 an18 : Option Addr} {sl18 : Array (Option Value)} {oc18 kV18 dc18 pm18 cd18 ct18 : Value}
    {cu_u pu_u : Addr} {f19 : Addr} {od19 an19 : Option Addr} {sl19 : Array (Option Value)} {oc19 kV19 dc19 pm19 ct19 : Value}
    {f20 : Addr} {od20 an20 : Option Addr} {sl20 : Array (Option Value)} {oc20 kV20 dc20 pm20 cd20 ct20 : Value}
    {f21 : Addr} {od21 an21 : Option Addr} {sl21 : Array (Option Value)} {oc21 kV21 dc21 pm21 cd21 ct21 : Value}
    {f22 : Addr} {od22 an22 : Option Addr} {sl22 : Array (Option Value)} {oc22 kV22 dc22 pm22 cd22 ct22 : Value}
    {f23 : Addr} {od23 an23 : Option Addr} {sl23 : Array (Option Value)} {oc23 kV23 dc23 pm23 cd23 ct23 : Value}
    {f24 : Addr} {od24 an24 : Option Addr} {sl24 : Array (Option Value)} {oc24 kV24 dc24 pm24 cd24 ct24 : Value}
    {f25 : Addr} {od25 an25 : Option Addr} {sl25 : Array (Option Value)} {oc25 kV25 dc25 pm25 cd25 ct25 : Value}
    {f26 : Addr} {od26 an26 : Option Addr} {sl26 : Array (Option Value)} {oc26 kV26 dc26 pm26 cd26 ct26 : Value}
    {f27 : Addr} {od27 an27 : Option Addr} {sl27 : Array (Option Value)} {oc27 kV27 dc27 pm27 cd27 ct27 : Value}
    {f28 : Addr} {od28 an28 : Option Addr} {sl28 : Array (Option Value)} {oc28 kV28 dc28 pm28 cd28 ct28 : Value}
    {f29 : Addr} {od29 an29 : Option Addr} {sl29 : Array (Option Value)} {oc29 kV29 dc29 pm29 cd29 ct29 : Value}
    {f30 : Addr} {od30 an30 : Option Addr} {sl30 : Array (Option Value)} {oc30 kV30 dc30 pm30 cd30 ct30 : Value}
    {f31 : Addr} {od31 an31 : Option Addr} {sl31 : Array (Option Value)} {oc31 kV31 dc31 pm31 cd31 ct31 : Value}
    {f32 : Addr} {od32 an32 : Option Addr} {sl32 : Array (Option Value)} {oc32 kV32 dc32 pm32 cd32 ct32 : Value}
    {f33 : Addr} {od33 an33 : Option Addr} {sl33 : Array (Option Value)} {oc33 kV33 dc33 pm33 cd33 ct33 : Value}
    {f34 : Addr} {od34 an34 : Option Addr} {sl34 : Array (Option Value)} {oc34 kV34 dc34 pm34 cd34 ct34 : Value}
    {f35 : Addr} {od35 an35 : Option Addr} {sl35 : Array (Option Value)} {oc35 kV35 dc35 pm35 cd35 ct35 : Value}
    (Y0 : h.get? pu_u = some { cls := .none, data := .fields #[] }) (X : K.In h) (G : h.Ns mainGlobals mg) (hfa : mg "law" = some (.ref fa))
    (cg_RightTaken : PySem.W.nsIn K mainGlobals "RightTaken" = some (some (.ref c_RightTaken)))
    (cpg_RightTaken : PySem.W.plainGet K c_RightTaken Str.empty = true)
    (chd_RightTaken : PySem.W.hasDictIn K c_RightTaken = true)
    (cpo_RightTaken : PySem.W.plainOver K c_RightTaken = true)
    (csa_RightTaken : PySem.W.findIn K (.ref c_RightTaken) "__setattr__" = some (some (.builtin "object.__setattr__")))
    (cmk_RightTaken : PySem.W.makesIn K c_RightTaken = true)
    (cin_RightTaken : PySem.W.findIn K (.ref c_RightTaken) "__init__" = some (some (.builtin "object.__init__")))
    (csb_RightTaken : PySem.W.subIn K (.ref c_RightTaken) (.type "object") = some true)
    (ckp_RightTaken : PySem.W.keepIn K (.ref c_RightTaken) = true)
    (cg_LeftTaken : PySem.W.nsIn K mainGlobals "LeftTaken" = some (some (.ref c_LeftTaken)))
    (cpg_LeftTaken : PySem.W.plainGet K c_LeftTaken Str.empty = true)
    (chd_LeftTaken : PySem.W.hasDictIn K c_LeftTaken = true)
    (cpo_LeftTaken : PySem.W.plainOver K c_LeftTaken = true)
    (csa_LeftTaken : PySem.W.findIn K (.ref c_LeftTaken) "__setattr__" = some (some (.builtin "object.__setattr__")))
    (cmk_LeftTaken : PySem.W.makesIn K c_LeftTaken = true)
    (cin_LeftTaken : PySem.W.findIn K (.ref c_LeftTaken) "__init__" = some (some (.builtin "object.__init__")))
    (csb_LeftTaken : PySem.W.subIn K (.ref c_LeftTaken) (.type "object") = some true)
    (ckp_LeftTaken : PySem.W.keepIn K (.ref c_LeftTaken) = true)
    (cg_RightHanded : PySem.W.nsIn K mainGlobals "RightHanded" = some (some (.ref c_RightHanded)))
    (cpg_RightHanded : PySem.W.plainGet K c_RightHanded Str.empty = true)
    (chd_RightHanded : PySem.W.hasDictIn K c_RightHanded = true)
    (cpo_RightHanded : PySem.W.plainOver K c_RightHanded = true)
    (csa_RightHanded : PySem.W.findIn K (.ref c_RightHanded) "__setattr__" = some (some (.builtin "object.__setattr__")))
    (cmk_RightHanded : PySem.W.makesIn K c_RightHanded = true)
    (cin_RightHanded : PySem.W.findIn K (.ref c_RightHanded) "__init__" = some (some (.builtin "object.__init__")))
    (csb_RightHanded : PySem.W.subIn K (.ref c_RightHanded) (.type "object") = some true)
    (ckp_RightHanded : PySem.W.keepIn K (.ref c_RightHanded) = true)
    (cg_LeftHanded : PySem.W.nsIn K mainGlobals "LeftHanded" = some (some (.ref c_LeftHanded)))
    (cpg_LeftHanded : PySem.W.plainGet K c_LeftHanded Str.empty = true)
    (chd_LeftHanded : PySem.W.hasDictIn K c_LeftHanded = true)
    (cpo_LeftHanded : PySem.W.plainOver K c_LeftHanded = true)
    (csa_LeftHanded : PySem.W.findIn K (.ref c_LeftHanded) "__setattr__" = some (some (.builtin "object.__setattr__")))
    (cmk_LeftHanded : PySem.W.makesIn K c_LeftHanded = true)
    (cin_LeftHanded : PySem.W.findIn K (.ref c_LeftHanded) "__init__" = some (some (.builtin "object.__init__")))
    (csb_LeftHanded : PySem.W.subIn K (.ref c_LeftHanded) (.type "object") = some true)
    (ckp_LeftHanded : PySem.W.keepIn K (.ref c_LeftHanded) = true)
    (a1 : PySem.W.nsIn K mainGlobals "kind_of_form" = some (some (.ref f1))) (l1 : K.lookup f1 = some ⟨oc1, od1, .func (PySem.W.fnOf "kind_of_form" "kind_of_form" (defArgs (top 1)) (defBody (top 1)) (defScope (top 1)) .none kV1 dc1 pm1 an1 cd1 ct1), sl1⟩) (c1 : PySem.W.codeIn K cd1 "kind_of_form" = true) (k1 : PySem.W.keepIn K (.ref f1) = true)
    (a2 : PySem.W.nsIn K mainGlobals "handed_on" = some (some (.ref f2))) (l2 : K.lookup f2 = some ⟨oc2, od2, .func (PySem.W.fnOf "handed_on" "handed_on" (defArgs (top 6)) (defBody (top 6)) (defScope (top 6)) .none kV2 dc2 pm2 an2 cd2 ct2), sl2⟩) (c2 : PySem.W.codeIn K cd2 "handed_on" = true) (k2 : PySem.W.keepIn K (.ref f2) = true)
    (a3 : PySem.W.findIn K (.ref c_RightTaken) "sign" = some (some (.ref f3))) (i3 : PySem.W.isFn K (.ref f3) = true) (l3 : K.lookup f3 = some ⟨oc3, od3, .func (PySem.W.fnOf "sign" "RightTaken.sign" (defArgs (inClass (top 4) 0)) (defBody (inClass (top 4) 0)) (defScope (inClass (top 4) 0)) .none kV3 dc3 pm3 an3 cd3 ct3), sl3⟩) (c3 : PySem.W.codeIn K cd3 "RightTaken.sign" = true) (k3 : PySem.W.keepIn K (.ref f3) = true)
    (a4 : PySem.W.findIn K (.ref c_RightTaken) "joined" = some (some (.ref f4))) (i4 : PySem.W.isFn K (.ref f4) = true) (l4 : K.lookup f4 = some ⟨oc4, od4, .func (PySem.W.fnOf "joined" "RightTaken.joined" (defArgs (inClass (top 4) 1)) (defBody (inClass (top 4) 1)) (defScope (inClass (top 4) 1)) .none kV4 dc4 pm4 an4 cd4 ct4), sl4⟩) (c4 : PySem.W.codeIn K cd4 "RightTaken.joined" = true) (k4 : PySem.W.keepIn K (.ref f4) = true)
    (a5 : PySem.W.findIn K (.ref c_RightTaken) "meant" = some (some (.ref f5))) (i5 : PySem.W.isFn K (.ref f5) = true) (l5 : K.lookup f5 = some ⟨oc5, od5, .func (PySem.W.fnOf "meant" "RightTaken.meant" (defArgs (inClass (top 4) 2)) (defBody (inClass (top 4) 2)) (defScope (inClass (top 4) 2)) .none kV5 dc5 pm5 an5 cd5 ct5), sl5⟩) (c5 : PySem.W.codeIn K cd5 "RightTaken.meant" = true) (k5 : PySem.W.keepIn K (.ref f5) = true)
    (a6 : PySem.W.findIn K (.ref c_LeftTaken) "sign" = some (some (.ref f6))) (i6 : PySem.W.isFn K (.ref f6) = true) (l6 : K.lookup f6 = some ⟨oc6, od6, .func (PySem.W.fnOf "sign" "LeftTaken.sign" (defArgs (inClass (top 5) 0)) (defBody (inClass (top 5) 0)) (defScope (inClass (top 5) 0)) .none kV6 dc6 pm6 an6 cd6 ct6), sl6⟩) (c6 : PySem.W.codeIn K cd6 "LeftTaken.sign" = true) (k6 : PySem.W.keepIn K (.ref f6) = true)
    (a7 : PySem.W.findIn K (.ref c_LeftTaken) "joined" = some (some (.ref f7))) (i7 : PySem.W.isFn K (.ref f7) = true) (l7 : K.lookup f7 = some ⟨oc7, od7, .func (PySem.W.fnOf "joined" "LeftTaken.joined" (defArgs (inClass (top 5) 1)) (defBody (inClass (top 5) 1)) (defScope (inClass (top 5) 1)) .none kV7 dc7 pm7 an7 cd7 ct7), sl7⟩) (c7 : PySem.W.codeIn K cd7 "LeftTaken.joined" = true) (k7 : PySem.W.keepIn K (.ref f7) = true)
    (a8 : PySem.W.findIn K (.ref c_LeftTaken) "meant" = some (some (.ref f8))) (i8 : PySem.W.isFn K (.ref f8) = true) (l8 : K.lookup f8 = some ⟨oc8, od8, .func (PySem.W.fnOf "meant" "LeftTaken.meant" (defArgs (inClass (top 5) 2)) (defBody (inClass (top 5) 2)) (defScope (inClass (top 5) 2)) .none kV8 dc8 pm8 an8 cd8 ct8), sl8⟩) (c8 : PySem.W.codeIn K cd8 "LeftTaken.meant" = true) (k8 : PySem.W.keepIn K (.ref f8) = true)
    (a9 : PySem.W.findIn K (.ref c_RightHanded) "sign" = some (some (.ref f9))) (i9 : PySem.W.isFn K (.ref f9) = true) (l9 : K.lookup f9 = some ⟨oc9, od9, .func (PySem.W.fnOf "sign" "RightHanded.sign" (defArgs (inClass (top 7) 0)) (defBody (inClass (top 7) 0)) (defScope (inClass (top 7) 0)) .none kV9 dc9 pm9 an9 cd9 ct9), sl9⟩) (c9 : PySem.W.codeIn K cd9 "RightHanded.sign" = true) (k9 : PySem.W.keepIn K (.ref f9) = true)
    (a10 : PySem.W.findIn K (.ref c_RightHanded) "joined" = some (some (.ref f10))) (i10 : PySem.W.isFn K (.ref f10) = true) (l10 : K.lookup f10 = some ⟨oc10, od10, .func (PySem.W.fnOf "joined" "RightHanded.joined" (defArgs (inClass (top 7) 1)) (defBody (inClass (top 7) 1)) (defScope (inClass (top 7) 1)) .none kV10 dc10 pm10 an10 cd10 ct10), sl10⟩) (c10 : PySem.W.codeIn K cd10 "RightHanded.joined" = true) (k10 : PySem.W.keepIn K (.ref f10) = true)
    (a11 : PySem.W.findIn K (.ref c_RightHanded) "meant" = some (some (.ref f11))) (i11 : PySem.W.isFn K (.ref f11) = true) (l11 : K.lookup f11 = some ⟨oc11, od11, .func (PySem.W.fnOf "meant" "RightHanded.meant" (defArgs (inClass (top 7) 2)) (defBody (inClass (top 7) 2)) (defScope (inClass (top 7) 2)) .none kV11 dc11 pm11 an11 cd11 ct11), sl11⟩) (c11 : PySem.W.codeIn K cd11 "RightHanded.meant" = true) (k11 : PySem.W.keepIn K (.ref f11) = true)
    (a12 : PySem.W.findIn K (.ref c_LeftHanded) "sign" = some (some (.ref f12))) (i12 : PySem.W.isFn K (.ref f12) = true) (l12 : K.lookup f12 = some ⟨oc12, od12, .func (PySem.W.fnOf "sign" "LeftHanded.sign" (defArgs (inClass (top 8) 0)) (defBody (inClass (top 8) 0)) (defScope (inClass (top 8) 0)) .none kV12 dc12 pm12 an12 cd12 ct12), sl12⟩) (c12 : PySem.W.codeIn K cd12 "LeftHanded.sign" = true) (k12 : PySem.W.keepIn K (.ref f12) = true)
    (a13 : PySem.W.findIn K (.ref c_LeftHanded) "joined" = some (some (.ref f13))) (i13 : PySem.W.isFn K (.ref f13) = true) (l13 : K.lookup f13 = some ⟨oc13, od13, .func (PySem.W.fnOf "joined" "LeftHanded.joined" (defArgs (inClass (top 8) 1)) (defBody (inClass (top 8) 1)) (defScope (inClass (top 8) 1)) .none kV13 dc13 pm13 an13 cd13 ct13), sl13⟩) (c13 : PySem.W.codeIn K cd13 "LeftHanded.joined" = true) (k13 : PySem.W.keepIn K (.ref f13) = true)
    (a14 : PySem.W.findIn K (.ref c_LeftHanded) "meant" = some (some (.ref f14))) (i14 : PySem.W.isFn K (.ref f14) = true) (l14 : K.lookup f14 = some ⟨oc14, od14, .func (PySem.W.fnOf "meant" "LeftHanded.meant" (defArgs (inClass (top 8) 2)) (defBody (inClass (top 8) 2)) (defScope (inClass (top 8) 2)) .none kV14 dc14 pm14 an14 cd14 ct14), sl14⟩) (c14 : PySem.W.codeIn K cd14 "LeftHanded.meant" = true) (k14 : PySem.W.keepIn K (.ref f14) = true)
    (a15 : PySem.W.nsIn K mainGlobals "all_rules" = some (some (.ref f15))) (l15 : K.lookup f15 = some ⟨oc15, od15, .func (PySem.W.fnOf "all_rules" "all_rules" (defArgs (top 9)) (defBody (top 9)) (defScope (top 9)) .none kV15 dc15 pm15 an15 cd15 ct15), sl15⟩) (c15 : PySem.W.codeIn K cd15 "all_rules" = true) (k15 : PySem.W.keepIn K (.ref f15) = true)
    (a16 : PySem.W.nsIn K mainGlobals "made" = some (some (.ref f16))) (l16 : K.lookup f16 = some ⟨oc16, od16, .func (PySem.W.fnOf "made" "made" (defArgs (top 10)) (defBody (top 10)) (defScope (top 10)) .none kV16 dc16 pm16 an16 cd16 ct16), sl16⟩) (c16 : PySem.W.codeIn K cd16 "made" = true) (k16 : PySem.W.keepIn K (.ref f16) = true)
    (a17 : PySem.W.nsIn K mainGlobals "meant" = some (some (.ref f17))) (l17 : K.lookup f17 = some ⟨oc17, od17, .func (PySem.W.fnOf "meant" "meant" (defArgs (top 11)) (defBody (top 11)) (defScope (top 11)) .none kV17 dc17 pm17 an17 cd17 ct17), sl17⟩) (c17 : PySem.W.codeIn K cd17 "meant" = true) (k17 : PySem.W.keepIn K (.ref f17) = true)
    (a18 : PySem.W.nsIn K mainGlobals "meant_by" = some (some (.ref f18))) (l18 : K.lookup f18 = some ⟨oc18, od18, .func (PySem.W.fnOf "meant_by" "meant_by" (defArgs (top 13)) (defBody (top 13)) (defScope (top 13)) .none kV18 dc18 pm18 an18 cd18 ct18), sl18⟩) (c18 : PySem.W.codeIn K cd18 "meant_by" = true) (k18 : PySem.W.keepIn K (.ref f18) = true)
    (a19 : PySem.W.nsIn K mainGlobals "unknown" = some (some (.ref f19))) (l19 : K.lookup f19 = some ⟨oc19, od19, .func (PySem.W.fnOf "unknown" "unknown" (defArgs (top 14)) (defBody (top 14)) (defScope (top 14)) .none kV19 dc19 pm19 an19 (.ref cu_u) ct19), sl19⟩) (c19 : PySem.W.codeIn K (.ref cu_u) "unknown" = true) (k19 : PySem.W.keepIn K (.ref f19) = true)
    (a20 : PySem.W.nsIn K mainGlobals "_law_deck" = some (some (.ref f20))) (l20 : K.lookup f20 = some ⟨oc20, od20, .func (PySem.W.fnOf "_law_deck" "_law_deck" (defArgs (top 16)) (defBody (top 16)) (defScope (top 16)) .none kV20 dc20 pm20 an20 cd20 ct20), sl20⟩) (c20 : PySem.W.codeIn K cd20 "_law_deck" = true) (k20 : PySem.W.keepIn K (.ref f20) = true)
    (a21 : PySem.W.nsIn K mainGlobals "_law_next" = some (some (.ref f21))) (l21 : K.lookup f21 = some ⟨oc21, od21, .func (PySem.W.fnOf "_law_next" "_law_next" (defArgs (top 17)) (defBody (top 17)) (defScope (top 17)) .none kV21 dc21 pm21 an21 cd21 ct21), sl21⟩) (c21 : PySem.W.codeIn K cd21 "_law_next" = true) (k21 : PySem.W.keepIn K (.ref f21) = true)
    (a22 : PySem.W.nsIn K mainGlobals "_law_spelled" = some (some (.ref f22))) (l22 : K.lookup f22 = some ⟨oc22, od22, .func (PySem.W.fnOf "_law_spelled" "_law_spelled" (defArgs (top 18)) (defBody (top 18)) (defScope (top 18)) .none kV22 dc22 pm22 an22 cd22 ct22), sl22⟩) (c22 : PySem.W.codeIn K cd22 "_law_spelled" = true) (k22 : PySem.W.keepIn K (.ref f22) = true)
    (a23 : PySem.W.nsIn K mainGlobals "_law_word" = some (some (.ref f23))) (l23 : K.lookup f23 = some ⟨oc23, od23, .func (PySem.W.fnOf "_law_word" "_law_word" (defArgs (top 19)) (defBody (top 19)) (defScope (top 19)) .none kV23 dc23 pm23 an23 cd23 ct23), sl23⟩) (c23 : PySem.W.codeIn K cd23 "_law_word" = true) (k23 : PySem.W.keepIn K (.ref f23) = true)
    (a24 : PySem.W.nsIn K mainGlobals "_law_words" = some (some (.ref f24))) (l24 : K.lookup f24 = some ⟨oc24, od24, .func (PySem.W.fnOf "_law_words" "_law_words" (defArgs (top 20)) (defBody (top 20)) (defScope (top 20)) .none kV24 dc24 pm24 an24 cd24 ct24), sl24⟩) (c24 : PySem.W.codeIn K cd24 "_law_words" = true) (k24 : PySem.W.keepIn K (.ref f24) = true)
    (a25 : PySem.W.nsIn K mainGlobals "_law_wide" = some (some (.ref f25))) (l25 : K.lookup f25 = some ⟨oc25, od25, .func (PySem.W.fnOf "_law_wide" "_law_wide" (defArgs (top 21)) (defBody (top 21)) (defScope (top 21)) .none kV25 dc25 pm25 an25 cd25 ct25), sl25⟩) (c25 : PySem.W.codeIn K cd25 "_law_wide" = true) (k25 : PySem.W.keepIn K (.ref f25) = true)
    (a26 : PySem.W.nsIn K mainGlobals "_law_other" = some (some (.ref f26))) (l26 : K.lookup f26 = some ⟨oc26, od26, .func (PySem.W.fnOf "_law_other" "_law_other" (defArgs (top 22)) (defBody (top 22)) (defScope (top 22)) .none kV26 dc26 pm26 an26 cd26 ct26), sl26⟩) (c26 : PySem.W.codeIn K cd26 "_law_other" = true) (k26 : PySem.W.keepIn K (.ref f26) = true)
    (a27 : PySem.W.nsIn K mainGlobals "_law_tree" = some (some (.ref f27))) (l27 : K.lookup f27 = some ⟨oc27, od27, .func (PySem.W.fnOf "_law_tree" "_law_tree" (defArgs (top 23)) (defBody (top 23)) (defScope (top 23)) .none kV27 dc27 pm27 an27 cd27 ct27), sl27⟩) (c27 : PySem.W.codeIn K cd27 "_law_tree" = true) (k27 : PySem.W.keepIn K (.ref f27) = true)
    (a28 : PySem.W.nsIn K mainGlobals "_law_drawn_form" = some (some (.ref f28))) (l28 : K.lookup f28 = some ⟨oc28, od28, .func (PySem.W.fnOf "_law_drawn_form" "_law_drawn_form" (defArgs (top 24)) (defBody (top 24)) (defScope (top 24)) .none kV28 dc28 pm28 an28 cd28 ct28), sl28⟩) (c28 : PySem.W.codeIn K cd28 "_law_drawn_form" = true) (k28 : PySem.W.keepIn K (.ref f28) = true)
    (a29 : PySem.W.nsIn K mainGlobals "_law_kind_of_form" = some (some (.ref f29))) (l29 : K.lookup f29 = some ⟨oc29, od29, .func (PySem.W.fnOf "_law_kind_of_form" "_law_kind_of_form" (defArgs (top 25)) (defBody (top 25)) (defScope (top 25)) .none kV29 dc29 pm29 an29 cd29 ct29), sl29⟩) (c29 : PySem.W.codeIn K cd29 "_law_kind_of_form" = true) (k29 : PySem.W.keepIn K (.ref f29) = true)
    (a30 : PySem.W.nsIn K mainGlobals "_law_joined" = some (some (.ref f30))) (l30 : K.lookup f30 = some ⟨oc30, od30, .func (PySem.W.fnOf "_law_joined" "_law_joined" (defArgs (top 26)) (defBody (top 26)) (defScope (top 26)) .none kV30 dc30 pm30 an30 cd30 ct30), sl30⟩) (c30 : PySem.W.codeIn K cd30 "_law_joined" = true) (k30 : PySem.W.keepIn K (.ref f30) = true)
    (a31 : PySem.W.nsIn K mainGlobals "_law_meant" = some (some (.ref f31))) (l31 : K.lookup f31 = some ⟨oc31, od31, .func (PySem.W.fnOf "_law_meant" "_law_meant" (defArgs (top 27)) (defBody (top 27)) (defScope (top 27)) .none kV31 dc31 pm31 an31 cd31 ct31), sl31⟩) (c31 : PySem.W.codeIn K cd31 "_law_meant" = true) (k31 : PySem.W.keepIn K (.ref f31) = true)
    (a32 : PySem.W.nsIn K mainGlobals "_law_within" = some (some (.ref f32))) (l32 : K.lookup f32 = some ⟨oc32, od32, .func (PySem.W.fnOf "_law_within" "_law_within" (defArgs (top 28)) (defBody (top 28)) (defScope (top 28)) .none kV32 dc32 pm32 an32 cd32 ct32), sl32⟩) (c32 : PySem.W.codeIn K cd32 "_law_within" = true) (k32 : PySem.W.keepIn K (.ref f32) = true)
    (a33 : PySem.W.nsIn K mainGlobals "_law_words_of" = some (some (.ref f33))) (l33 : K.lookup f33 = some ⟨oc33, od33, .func (PySem.W.fnOf "_law_words_of" "_law_words_of" (defArgs (top 29)) (defBody (top 29)) (defScope (top 29)) .none kV33 dc33 pm33 an33 cd33 ct33), sl33⟩) (c33 : PySem.W.codeIn K cd33 "_law_words_of" = true) (k33 : PySem.W.keepIn K (.ref f33) = true)
    (a34 : PySem.W.nsIn K mainGlobals "_law_same" = some (some (.ref f34))) (l34 : K.lookup f34 = some ⟨oc34, od34, .func (PySem.W.fnOf "_law_same" "_law_same" (defArgs (top 30)) (defBody (top 30)) (defScope (top 30)) .none kV34 dc34 pm34 an34 cd34 ct34), sl34⟩) (c34 : PySem.W.codeIn K cd34 "_law_same" = true) (k34 : PySem.W.keepIn K (.ref f34) = true)
    (a35 : PySem.W.nsIn K mainGlobals "law" = some (some (.ref f35))) (l35 : K.lookup f35 = some ⟨oc35, od35, .func (PySem.W.fnOf "law" "law" (defArgs (top 31)) (defBody (top 31)) (defScope (top 31)) .none kV35 dc35 pm35 an35 cd35 ct35), sl35⟩) (c35 : PySem.W.codeIn K cd35 "law" = true) (k35 : PySem.W.keepIn K (.ref f35) = true)
    (z_all : PySem.W.nsIn K mainGlobals "all" = some none)
    (z_bool : PySem.W.nsIn K mainGlobals "bool" = some none)
    (z_int : PySem.W.nsIn K mainGlobals "int" = some none)
    (z_isinstance : PySem.W.nsIn K mainGlobals "isinstance" = some none)
    (z_len : PySem.W.nsIn K mainGlobals "len" = some none)
    (z_range : PySem.W.nsIn K mainGlobals "range" = some none)
    (z_str : PySem.W.nsIn K mainGlobals "str" = some none)
    (z_sum : PySem.W.nsIn K mainGlobals "sum" = some none)
    (z_tuple : PySem.W.nsIn K mainGlobals "tuple" = some none)
    (z_zip : PySem.W.nsIn K mainGlobals "zip" = some none)
    (hu_c : PySem.W.codeHdIn K cu_u pu_u = true)
    (hu_p : K.lookup pu_u = none) :
    LamX.LawAtS l w K (L2.CX l.prog w) 85 63 "_law_script" mg fa h := by
  have e := hfa.symm.trans (PySem.W.mg_of X G a35)
  cases e
  letI : HasW := ⟨w, [(pu_u, fun _ _ => qLam)]⟩
  refine ⟨PySem.W.fnOf "law" "law" (defArgs (top 31)) (defBody (top 31)) (defScope (top 31)) .none kV35 dc35 pm35 an35 cd35 ct35, [(cu_u, pu_u)], spLawT K pu_u, fun p hp => ?_, fun p hp => ?_, fun p hp => ?_, fun s v => .of_eq rfl, fun H a ns hl _ hT hS => ⟨a, ns, rfl, hS, hl, hT _ (List.mem_singleton.mpr rfl), fun _ => rfl⟩, fun base _ _ tb => ?_⟩
  · rw [List.mem_singleton.mp hp]; exact Y0
  · rw [List.mem_singleton.mp hp]; exact hu_p
  · rw [List.mem_singleton.mp hp]; exact PySem.W.codeHd_of_K X hu_c
  let T : Txt K mg base := {
    cl_RightTaken := c_RightTaken, cg_RightTaken := PySem.W.mg_of X G cg_RightTaken, cc_RightTaken := ⟨cpg_RightTaken, chd_RightTaken, cpo_RightTaken, csa_RightTaken⟩, cm_RightTaken := ⟨cmk_RightTaken, cin_RightTaken, csb_RightTaken, ckp_RightTaken⟩,
    cl_LeftTaken := c_LeftTaken, cg_LeftTaken := PySem.W.mg_of X G cg_LeftTaken, cc_LeftTaken := ⟨cpg_LeftTaken, chd_LeftTaken, cpo_LeftTaken, csa_LeftTaken⟩, cm_LeftTaken := ⟨cmk_LeftTaken, cin_LeftTaken, csb_LeftTaken, ckp_LeftTaken⟩,
    cl_RightHanded := c_RightHanded, cg_RightHanded := PySem.W.mg_of X G cg_RightHanded, cc_RightHanded := ⟨cpg_RightHanded, chd_RightHanded, cpo_RightHanded, csa_RightHanded⟩, cm_RightHanded := ⟨cmk_RightHanded, cin_RightHanded, csb_RightHanded, ckp_RightHanded⟩,
    cl_LeftHanded := c_LeftHanded, cg_LeftHanded := PySem.W.mg_of X G cg_LeftHanded, cc_LeftHanded := ⟨cpg_LeftHanded, chd_LeftHanded, cpo_LeftHanded, csa_LeftHanded⟩, cm_LeftHanded := ⟨cmk_LeftHanded, cin_LeftHanded, csb_LeftHanded, ckp_LeftHanded⟩,
    ad_kind_of_form := f1, fd_kind_of_form := PySem.W.fnOf "kind_of_form" "kind_of_form" (defArgs (top 1)) (defBody (top 1)) (defScope (top 1)) .none kV1 dc1 pm1 an1 cd1 ct1, fn_kind_of_form := fun_mk (st := (top 1)) l1 c1 k1, bn_kind_of_form := (fun_mk (st := (top 1)) l1 c1 k1).binds (ps := ["form"]) fun _ _ _ _ _ _ us hl => (match us, hl with | [_], _ => rfl), gl_kind_of_form := PySem.W.mg_of X G a1,
    ad_handed_on := f2, fd_handed_on := PySem.W.fnOf "handed_on" "handed_on" (defArgs (top 6)) (defBody (top 6)) (defScope (top 6)) .none kV2 dc2 pm2 an2 cd2 ct2, fn_handed_on := fun_mk (st := (top 6)) l2 c2 k2, bn_handed_on := (fun_mk (st := (top 6)) l2 c2 k2).binds (ps := ["form", "taker", "taken"]) fun _ _ _ _ _ _ us hl => (match us, hl with | [_, _, _], _ => rfl), gl_handed_on := PySem.W.mg_of X G a2,
    ad_RightTaken__sign := f3, fd_RightTaken__sign := PySem.W.fnOf "sign" "RightTaken.sign" (defArgs (inClass (top 4) 0)) (defBody (inClass (top 4) 0)) (defScope (inClass (top 4) 0)) .none kV3 dc3 pm3 an3 cd3 ct3, fn_RightTaken__sign := fun_mk (st := (inClass (top 4) 0)) l3 c3 k3, bn_RightTaken__sign := (fun_mk (st := (inClass (top 4) 0)) l3 c3 k3).binds (ps := ["self"]) fun _ _ _ _ _ _ us hl => (match us, hl with | [_], _ => rfl), mt_RightTaken__sign := ⟨a3, i3, k3⟩,
    ad_RightTaken__joined := f4, fd_RightTaken__joined := PySem.W.fnOf "joined" "RightTaken.joined" (defArgs (inClass (top 4) 1)) (defBody (inClass (top 4) 1)) (defScope (inClass (top 4) 1)) .none kV4 dc4 pm4 an4 cd4 ct4, fn_RightTaken__joined := fun_mk (st := (inClass (top 4) 1)) l4 c4 k4, bn_RightTaken__joined := (fun_mk (st := (inClass (top 4) 1)) l4 c4 k4).binds (ps := ["self", "left", "right"]) fun _ _ _ _ _ _ us hl => (match us, hl with | [_, _, _], _ => rfl), mt_RightTaken__joined := ⟨a4, i4, k4⟩,
    ad_RightTaken__meant := f5, fd_RightTaken__meant := PySem.W.fnOf "meant" "RightTaken.meant" (defArgs (inClass (top 4) 2)) (defBody (inClass (top 4) 2)) (defScope (inClass (top 4) 2)) .none kV5 dc5 pm5 an5 cd5 ct5, fn_RightTaken__meant := fun_mk (st := (inClass (top 4) 2)) l5 c5 k5, bn_RightTaken__meant := (fun_mk (st := (inClass (top 4) 2)) l5 c5 k5).binds (ps := ["self", "left", "right", "first", "second"]) fun _ _ _ _ _ _ us hl => (match us, hl with | [_, _, _, _, _], _ => rfl), mt_RightTaken__meant := ⟨a5, i5, k5⟩,
    ad_LeftTaken__sign := f6, fd_LeftTaken__sign := PySem.W.fnOf "sign" "LeftTaken.sign" (defArgs (inClass (top 5) 0)) (defBody (inClass (top 5) 0)) (defScope (inClass (top 5) 0)) .none kV6 dc6 pm6 an6 cd6 ct6, fn_LeftTaken__sign := fun_mk (st := (inClass (top 5) 0)) l6 c6 k6, bn_LeftTaken__sign := (fun_mk (st := (inClass (top 5) 0)) l6 c6 k6).binds (ps := ["self"]) fun _ _ _ _ _ _ us hl => (match us, hl with | [_], _ => rfl), mt_LeftTaken__sign := ⟨a6, i6, k6⟩,
    ad_LeftTaken__joined := f7, fd_LeftTaken__joined := PySem.W.fnOf "joined" "LeftTaken.joined" (defArgs (inClass (top 5) 1)) (defBody (inClass (top 5) 1)) (defScope (inClass (top 5) 1)) .none kV7 dc7 pm7 an7 cd7 ct7, fn_LeftTaken__joined := fun_mk (st := (inClass (top 5) 1)) l7 c7 k7, bn_LeftTaken__joined := (fun_mk (st := (inClass (top 5) 1)) l7 c7 k7).binds (ps := ["self", "left", "right"]) fun _ _ _ _ _ _ us hl => (match us, hl with | [_, _, _], _ => rfl), mt_LeftTaken__joined := ⟨a7, i7, k7⟩,
    ad_LeftTaken__meant := f8, fd_LeftTaken__meant := PySem.W.fnOf "meant" "LeftTaken.meant" (defArgs (inClass (top 5) 2)) (defBody (inClass (top 5) 2)) (defScope (inClass (top 5) 2)) .none kV8 dc8 pm8 an8 cd8 ct8, fn_LeftTaken__meant := fun_mk (st := (inClass (top 5) 2)) l8 c8 k8, bn_LeftTaken__meant := (fun_mk (st := (inClass (top 5) 2)) l8 c8 k8).binds (ps := ["self", "left", "right", "first", "second"]) fun _ _ _ _ _ _ us hl => (match us, hl with | [_, _, _, _, _], _ => rfl), mt_LeftTaken__meant := ⟨a8, i8, k8⟩,
    ad_RightHanded__sign := f9, fd_RightHanded__sign := PySem.W.fnOf "sign" "RightHanded.sign" (defArgs (inClass (top 7) 0)) (defBody (inClass (top 7) 0)) (defScope (inClass (top 7) 0)) .none kV9 dc9 pm9 an9 cd9 ct9, fn_RightHanded__sign := fun_mk (st := (inClass (top 7) 0)) l9 c9 k9, bn_RightHanded__sign := (fun_mk (st := (inClass (top 7) 0)) l9 c9 k9).binds (ps := ["self"]) fun _ _ _ _ _ _ us hl => (match us, hl with | [_], _ => rfl), mt_RightHanded__sign := ⟨a9, i9, k9⟩,
    ad_RightHanded__joined := f10, fd_RightHanded__joined := PySem.W.fnOf "joined" "RightHanded.joined" (defArgs (inClass (top 7) 1)) (defBody (inClass (top 7) 1)) (defScope (inClass (top 7) 1)) .none kV10 dc10 pm10 an10 cd10 ct10, fn_RightHanded__joined := fun_mk (st := (inClass (top 7) 1)) l10 c10 k10, bn_RightHanded__joined := (fun_mk (st := (inClass (top 7) 1)) l10 c10 k10).binds (ps := ["self", "left", "right"]) fun _ _ _ _ _ _ us hl => (match us, hl with | [_, _, _], _ => rfl), mt_RightHanded__joined := ⟨a10, i10, k10⟩,
    ad_RightHanded__meant := f11, fd_RightHanded__meant := PySem.W.fnOf "meant" "RightHanded.meant" (defArgs (inClass (top 7) 2)) (defBody (inClass (top 7) 2)) (defScope (inClass (top 7) 2)) .none kV11 dc11 pm11 an11 cd11 ct11, fn_RightHanded__meant := fun_mk (st := (inClass (top 7) 2)) l11 c11 k11, bn_RightHanded__meant := (fun_mk (st := (inClass (top 7) 2)) l11 c11 k11).binds (ps := ["self", "left", "right", "first", "second"]) fun _ _ _ _ _ _ us hl => (match us, hl with | [_, _, _, _, _], _ => rfl), mt_RightHanded__meant := ⟨a11, i11, k11⟩,
    ad_LeftHanded__sign := f12, fd_LeftHanded__sign := PySem.W.fnOf "sign" "LeftHanded.sign" (defArgs (inClass (top 8) 0)) (defBody (inClass (top 8) 0)) (defScope (inClass (top 8) 0)) .none kV12 dc12 pm12 an12 cd12 ct12, fn_LeftHanded__sign := fun_mk (st := (inClass (top 8) 0)) l12 c12 k12, bn_LeftHanded__sign := (fun_mk (st := (inClass (top 8) 0)) l12 c12 k12).binds (ps := ["self"]) fun _ _ _ _ _ _ us hl => (match us, hl with | [_], _ => rfl), mt_LeftHanded__sign := ⟨a12, i12, k12⟩,
    ad_LeftHanded__joined := f13, fd_LeftHanded__joined := PySem.W.fnOf "joined" "LeftHanded.joined" (defArgs (inClass (top 8) 1)) (defBody (inClass (top 8) 1)) (defScope (inClass (top 8) 1)) .none kV13 dc13 pm13 an13 cd13 ct13, fn_LeftHanded__joined := fun_mk (st := (inClass (top 8) 1)) l13 c13 k13, bn_LeftHanded__joined := (fun_mk (st := (inClass (top 8) 1)) l13 c13 k13).binds (ps := ["self", "left", "right"]) fun _ _ _ _ _ _ us hl => (match us, hl with | [_, _, _], _ => rfl), mt_LeftHanded__joined := ⟨a13, i13, k13⟩,
    ad_LeftHanded__meant := f14, fd_LeftHanded__meant := PySem.W.fnOf "meant" "LeftHanded.meant" (defArgs (inClass (top 8) 2)) (defBody (inClass (top 8) 2)) (defScope (inClass (top 8) 2)) .none kV14 dc14 pm14 an14 cd14 ct14, fn_LeftHanded__meant := fun_mk (st := (inClass (top 8) 2)) l14 c14 k14, bn_LeftHanded__meant := (fun_mk (st := (inClass (top 8) 2)) l14 c14 k14).binds (ps := ["self", "left", "right", "first", "second"]) fun _ _ _ _ _ _ us hl => (match us, hl with | [_, _, _, _, _], _ => rfl), mt_LeftHanded__meant := ⟨a14, i14, k14⟩,
    ad_all_rules := f15, fd_all_rules := PySem.W.fnOf "all_rules" "all_rules" (defArgs (top 9)) (defBody (top 9)) (defScope (top 9)) .none kV15 dc15 pm15 an15 cd15 ct15, fn_all_rules := fun_mk (st := (top 9)) l15 c15 k15, bn_all_rules := (fun_mk (st := (top 9)) l15 c15 k15).binds (ps := []) fun _ _ _ _ _ _ us hl => (match us, hl with | [], _ => rfl), gl_all_rules := PySem.W.mg_of X G a15,
    ad_made := f16, fd_made := PySem.W.fnOf "made" "made" (defArgs (top 10)) (defBody (top 10)) (defScope (top 10)) .none kV16 dc16 pm16 an16 cd16 ct16, fn_made := fun_mk (st := (top 10)) l16 c16 k16, bn_made := (fun_mk (st := (top 10)) l16 c16 k16).binds (ps := ["left", "right"]) fun _ _ _ _ _ _ us hl => (match us, hl with | [_, _], _ => rfl), gl_made := PySem.W.mg_of X G a16,
    ad_meant := f17, fd_meant := PySem.W.fnOf "meant" "meant" (defArgs (top 11)) (defBody (top 11)) (defScope (top 11)) .none kV17 dc17 pm17 an17 cd17 ct17, fn_meant := fun_mk (st := (top 11)) l17 c17 k17, bn_meant := (fun_mk (st := (top 11)) l17 c17 k17).binds (ps := ["sign", "left", "right", "first", "second"]) fun _ _ _ _ _ _ us hl => (match us, hl with | [_, _, _, _, _], _ => rfl), gl_meant := PySem.W.mg_of X G a17,
    ad_meant_by := f18, fd_meant_by := PySem.W.fnOf "meant_by" "meant_by" (defArgs (top 13)) (defBody (top 13)) (defScope (top 13)) .none kV18 dc18 pm18 an18 cd18 ct18, fn_meant_by := fun_mk (st := (top 13)) l18 c18 k18, bn_meant_by := (fun_mk (st := (top 13)) l18 c18 k18).binds (ps := ["reading", "of_word"]) fun _ _ _ _ _ _ us hl => (match us, hl with | [_, _], _ => rfl), gl_meant_by := PySem.W.mg_of X G a18,
    ad_unknown := f19, fd_unknown := PySem.W.fnOf "unknown" "unknown" (defArgs (top 14)) (defBody (top 14)) (defScope (top 14)) .none kV19 dc19 pm19 an19 (.ref cu_u) ct19, fn_unknown := fun_mk (st := (top 14)) l19 c19 k19, bn_unknown := (fun_mk (st := (top 14)) l19 c19 k19).binds (ps := ["reading"]) fun _ _ _ _ _ _ us hl => (match us, hl with | [_], _ => rfl), gl_unknown := PySem.W.mg_of X G a19,
    ad__law_deck := f20, fd__law_deck := PySem.W.fnOf "_law_deck" "_law_deck" (defArgs (top 16)) (defBody (top 16)) (defScope (top 16)) .none kV20 dc20 pm20 an20 cd20 ct20, fn__law_deck := fun_mk (st := (top 16)) l20 c20 k20, bn__law_deck := (fun_mk (st := (top 16)) l20 c20 k20).binds (ps := ["_law_script"]) fun _ _ _ _ _ _ us hl => (match us, hl with | [_], _ => rfl), gl__law_deck := PySem.W.mg_of X G a20,
    ad__law_next := f21, fd__law_next := PySem.W.fnOf "_law_next" "_law_next" (defArgs (top 17)) (defBody (top 17)) (defScope (top 17)) .none kV21 dc21 pm21 an21 cd21 ct21, fn__law_next := fun_mk (st := (top 17)) l21 c21 k21, bn__law_next := (fun_mk (st := (top 17)) l21 c21 k21).binds (ps := ["_law_deck_here"]) fun _ _ _ _ _ _ us hl => (match us, hl with | [_], _ => rfl), gl__law_next := PySem.W.mg_of X G a21,
    ad__law_spelled := f22, fd__law_spelled := PySem.W.fnOf "_law_spelled" "_law_spelled" (defArgs (top 18)) (defBody (top 18)) (defScope (top 18)) .none kV22 dc22 pm22 an22 cd22 ct22, fn__law_spelled := fun_mk (st := (top 18)) l22 c22 k22, bn__law_spelled := (fun_mk (st := (top 18)) l22 c22 k22).binds (ps := ["_law_number", "_law_size"]) fun _ _ _ _ _ _ us hl => (match us, hl with | [_, _], _ => rfl), gl__law_spelled := PySem.W.mg_of X G a22,
    ad__law_word := f23, fd__law_word := PySem.W.fnOf "_law_word" "_law_word" (defArgs (top 19)) (defBody (top 19)) (defScope (top 19)) .none kV23 dc23 pm23 an23 cd23 ct23, fn__law_word := fun_mk (st := (top 19)) l23 c23 k23, bn__law_word := (fun_mk (st := (top 19)) l23 c23 k23).binds (ps := ["_law_deck_here", "_law_words_here"]) fun _ _ _ _ _ _ us hl => (match us, hl with | [_, _], _ => rfl), gl__law_word := PySem.W.mg_of X G a23,
    ad__law_words := f24, fd__law_words := PySem.W.fnOf "_law_words" "_law_words" (defArgs (top 20)) (defBody (top 20)) (defScope (top 20)) .none kV24 dc24 pm24 an24 cd24 ct24, fn__law_words := fun_mk (st := (top 20)) l24 c24 k24, bn__law_words := (fun_mk (st := (top 20)) l24 c24 k24).binds (ps := ["_law_deck_here", "_law_many"]) fun _ _ _ _ _ _ us hl => (match us, hl with | [_, _], _ => rfl), gl__law_words := PySem.W.mg_of X G a24,
    ad__law_wide := f25, fd__law_wide := PySem.W.fnOf "_law_wide" "_law_wide" (defArgs (top 21)) (defBody (top 21)) (defScope (top 21)) .none kV25 dc25 pm25 an25 cd25 ct25, fn__law_wide := fun_mk (st := (top 21)) l25 c25 k25, bn__law_wide := (fun_mk (st := (top 21)) l25 c25 k25).binds (ps := ["_law_form"]) fun _ _ _ _ _ _ us hl => (match us, hl with | [_], _ => rfl), gl__law_wide := PySem.W.mg_of X G a25,
    ad__law_other := f26, fd__law_other := PySem.W.fnOf "_law_other" "_law_other" (defArgs (top 22)) (defBody (top 22)) (defScope (top 22)) .none kV26 dc26 pm26 an26 cd26 ct26, fn__law_other := fun_mk (st := (top 22)) l26 c26 k26, bn__law_other := (fun_mk (st := (top 22)) l26 c26 k26).binds (ps := ["_law_deck_here", "_law_basics", "_law_form"]) fun _ _ _ _ _ _ us hl => (match us, hl with | [_, _, _], _ => rfl), gl__law_other := PySem.W.mg_of X G a26,
    ad__law_tree := f27, fd__law_tree := PySem.W.fnOf "_law_tree" "_law_tree" (defArgs (top 23)) (defBody (top 23)) (defScope (top 23)) .none kV27 dc27 pm27 an27 cd27 ct27, fn__law_tree := fun_mk (st := (top 23)) l27 c27 k27, bn__law_tree := (fun_mk (st := (top 23)) l27 c27 k27).binds (ps := ["_law_deck_here", "_law_basics", "_law_form", "_law_at", "_law_many"]) fun _ _ _ _ _ _ us hl => (match us, hl with | [_, _, _, _, _], _ => rfl), gl__law_tree := PySem.W.mg_of X G a27,
    ad__law_drawn_form := f28, fd__law_drawn_form := PySem.W.fnOf "_law_drawn_form" "_law_drawn_form" (defArgs (top 24)) (defBody (top 24)) (defScope (top 24)) .none kV28 dc28 pm28 an28 cd28 ct28, fn__law_drawn_form := fun_mk (st := (top 24)) l28 c28 k28, bn__law_drawn_form := (fun_mk (st := (top 24)) l28 c28 k28).binds (ps := ["_law_deck_here", "_law_basics"]) fun _ _ _ _ _ _ us hl => (match us, hl with | [_, _], _ => rfl), gl__law_drawn_form := PySem.W.mg_of X G a28,
    ad__law_kind_of_form := f29, fd__law_kind_of_form := PySem.W.fnOf "_law_kind_of_form" "_law_kind_of_form" (defArgs (top 25)) (defBody (top 25)) (defScope (top 25)) .none kV29 dc29 pm29 an29 cd29 ct29, fn__law_kind_of_form := fun_mk (st := (top 25)) l29 c29 k29, bn__law_kind_of_form := (fun_mk (st := (top 25)) l29 c29 k29).binds (ps := ["_law_form"]) fun _ _ _ _ _ _ us hl => (match us, hl with | [_], _ => rfl), gl__law_kind_of_form := PySem.W.mg_of X G a29,
    ad__law_joined := f30, fd__law_joined := PySem.W.fnOf "_law_joined" "_law_joined" (defArgs (top 26)) (defBody (top 26)) (defScope (top 26)) .none kV30 dc30 pm30 an30 cd30 ct30, fn__law_joined := fun_mk (st := (top 26)) l30 c30 k30, bn__law_joined := (fun_mk (st := (top 26)) l30 c30 k30).binds (ps := ["_law_sign", "_law_left", "_law_right"]) fun _ _ _ _ _ _ us hl => (match us, hl with | [_, _, _], _ => rfl), gl__law_joined := PySem.W.mg_of X G a30,
    ad__law_meant := f31, fd__law_meant := PySem.W.fnOf "_law_meant" "_law_meant" (defArgs (top 27)) (defBody (top 27)) (defScope (top 27)) .none kV31 dc31 pm31 an31 cd31 ct31, fn__law_meant := fun_mk (st := (top 27)) l31 c31 k31, bn__law_meant := (fun_mk (st := (top 27)) l31 c31 k31).binds (ps := ["_law_reading", "_law_means"]) fun _ _ _ _ _ _ us hl => (match us, hl with | [_, _], _ => rfl), gl__law_meant := PySem.W.mg_of X G a31,
    ad__law_within := f32, fd__law_within := PySem.W.fnOf "_law_within" "_law_within" (defArgs (top 28)) (defBody (top 28)) (defScope (top 28)) .none kV32 dc32 pm32 an32 cd32 ct32, fn__law_within := fun_mk (st := (top 28)) l32 c32 k32, bn__law_within := (fun_mk (st := (top 28)) l32 c32 k32).binds (ps := ["_law_reading"]) fun _ _ _ _ _ _ us hl => (match us, hl with | [_], _ => rfl), gl__law_within := PySem.W.mg_of X G a32,
    ad__law_words_of := f33, fd__law_words_of := PySem.W.fnOf "_law_words_of" "_law_words_of" (defArgs (top 29)) (defBody (top 29)) (defScope (top 29)) .none kV33 dc33 pm33 an33 cd33 ct33, fn__law_words_of := fun_mk (st := (top 29)) l33 c33 k33, bn__law_words_of := (fun_mk (st := (top 29)) l33 c33 k33).binds (ps := ["_law_reading"]) fun _ _ _ _ _ _ us hl => (match us, hl with | [_], _ => rfl), gl__law_words_of := PySem.W.mg_of X G a33,
    ad__law_same := f34, fd__law_same := PySem.W.fnOf "_law_same" "_law_same" (defArgs (top 30)) (defBody (top 30)) (defScope (top 30)) .none kV34 dc34 pm34 an34 cd34 ct34, fn__law_same := fun_mk (st := (top 30)) l34 c34 k34, bn__law_same := (fun_mk (st := (top 30)) l34 c34 k34).binds (ps := ["_law_one", "_law_other_here"]) fun _ _ _ _ _ _ us hl => (match us, hl with | [_, _], _ => rfl), gl__law_same := PySem.W.mg_of X G a34,
    ad_law := _, fd_law := PySem.W.fnOf "law" "law" (defArgs (top 31)) (defBody (top 31)) (defScope (top 31)) .none kV35 dc35 pm35 an35 cd35 ct35, fn_law := fun_mk (st := (top 31)) l35 c35 k35, bn_law := (fun_mk (st := (top 31)) l35 c35 k35).binds (ps := ["_law_script"]) fun _ _ _ _ _ _ us hl => (match us, hl with | [_], _ => rfl), gl_law := PySem.W.mg_of X G a35,
    cu_u := cu_u, pu_u := pu_u, cod := rfl, tb := tb _ (List.mem_singleton.mpr rfl), hw := rfl,
    z_all := PySem.W.mg_none_of X G z_all,
    z_bool := PySem.W.mg_none_of X G z_bool,
    z_int := PySem.W.mg_none_of X G z_int,
    z_isinstance := PySem.W.mg_none_of X G z_isinstance,
    z_len := PySem.W.mg_none_of X G z_len,
    z_range := PySem.W.mg_none_of X G z_range,
    z_str := PySem.W.mg_none_of X G z_str,
    z_sum := PySem.W.mg_none_of X G z_sum,
    z_tuple := PySem.W.mg_none_of X G z_tuple,
    z_zip := PySem.W.mg_none_of X G z_zip }
  exact law_impT (ok_law T) rfl (law_true law_P)
end K60
open PySem PySem.W PyProof.Rows
set_option maxRecDepth 100000 in
set_option maxHeartbeats 0 in
theorem PySem.Challenge.cw_slashwise_k60_unknown_words_holds : PySem.Challenge.rw_slashwise_k60_unknown_words.Holds := by
  w_on; o_law; k_head; (case hw => w_witness2)
  k_fill
  refine LamX.walk_ofTs (l := PySem.Challenge.rw_slashwise_k60_unknown_words) (n := 63) (k := 85) (x := "_law_script") (CX := fun w => L2.CX PySem.Challenge.rw_slashwise_k60_unknown_words.prog w) rfl (by decide) rfl ⟨rfl, by decide, by decide⟩ (fun w h Y => PySem.W.km_in_of Y) ?F (fun w _ _ _ _ h => @M.cx_no ⟨w, []⟩ _ _ _ _ _ _ h)
  case F =>
    intro w mg fa h Y KX G hmg
    refine' K60.all_mk (PySem.W.km_tabs_of Y _ (List.mem_singleton.mpr rfl)) KX G hmg ?cg_RightTaken ?cpg_RightTaken ?chd_RightTaken ?cpo_RightTaken ?csa_RightTaken ?cmk_RightTaken ?cin_RightTaken ?csb_RightTaken ?ckp_RightTaken ?cg_LeftTaken ?cpg_LeftTaken ?chd_LeftTaken ?cpo_LeftTaken ?csa_LeftTaken ?cmk_LeftTaken ?cin_LeftTaken ?csb_LeftTaken ?ckp_LeftTaken ?cg_RightHanded ?cpg_RightHanded ?chd_RightHanded ?cpo_RightHanded ?csa_RightHanded ?cmk_RightHanded ?cin_RightHanded ?csb_RightHanded ?ckp_RightHanded ?cg_LeftHanded ?cpg_LeftHanded ?chd_LeftHanded ?cpo_LeftHanded ?csa_LeftHanded ?cmk_LeftHanded ?cin_LeftHanded ?csb_LeftHanded ?ckp_LeftHanded ?a1 ?l1 ?c1 ?k1 ?a2 ?l2 ?c2 ?k2 ?a3 ?i3 ?l3 ?c3 ?k3 ?a4 ?i4 ?l4 ?c4 ?k4 ?a5 ?i5 ?l5 ?c5 ?k5 ?a6 ?i6 ?l6 ?c6 ?k6 ?a7 ?i7 ?l7 ?c7 ?k7 ?a8 ?i8 ?l8 ?c8 ?k8 ?a9 ?i9 ?l9 ?c9 ?k9 ?a10 ?i10 ?l10 ?c10 ?k10 ?a11 ?i11 ?l11 ?c11 ?k11 ?a12 ?i12 ?l12 ?c12 ?k12 ?a13 ?i13 ?l13 ?c13 ?k13 ?a14 ?i14 ?l14 ?c14 ?k14 ?a15 ?l15 ?c15 ?k15 ?a16 ?l16 ?c16 ?k16 ?a17 ?l17 ?c17 ?k17 ?a18 ?l18 ?c18 ?k18 ?a19 ?l19 ?c19 ?k19 ?a20 ?l20 ?c20 ?k20 ?a21 ?l21 ?c21 ?k21 ?a22 ?l22 ?c22 ?k22 ?a23 ?l23 ?c23 ?k23 ?a24 ?l24 ?c24 ?k24 ?a25 ?l25 ?c25 ?k25 ?a26 ?l26 ?c26 ?k26 ?a27 ?l27 ?c27 ?k27 ?a28 ?l28 ?c28 ?k28 ?a29 ?l29 ?c29 ?k29 ?a30 ?l30 ?c30 ?k30 ?a31 ?l31 ?c31 ?k31 ?a32 ?l32 ?c32 ?k32 ?a33 ?l33 ?c33 ?k33 ?a34 ?l34 ?c34 ?k34 ?a35 ?l35 ?c35 ?k35 ?z_all ?z_bool ?z_int ?z_isinstance ?z_len ?z_range ?z_str ?z_sum ?z_tuple ?z_zip ?hu_c ?hu_p
    (case cg_RightTaken => k_is)
    (case cpg_RightTaken => k_is)
    (case chd_RightTaken => k_is)
    (case cpo_RightTaken => k_is)
    (case csa_RightTaken => k_is)
    (case cmk_RightTaken => k_is)
    (case cin_RightTaken => k_is)
    (case csb_RightTaken => k_is)
    (case ckp_RightTaken => k_is)
    (case cg_LeftTaken => k_is)
    (case cpg_LeftTaken => k_is)
    (case chd_LeftTaken => k_is)
    (case cpo_LeftTaken => k_is)
    (case csa_LeftTaken => k_is)
    (case cmk_LeftTaken => k_is)
    (case cin_LeftTaken => k_is)
    (case csb_LeftTaken => k_is)
    (case ckp_LeftTaken => k_is)
    (case cg_RightHanded => k_is)
    (case cpg_RightHanded => k_is)
    (case chd_RightHanded => k_is)
    (case cpo_RightHanded => k_is)
    (case csa_RightHanded => k_is)
    (case cmk_RightHanded => k_is)
    (case cin_RightHanded => k_is)
    (case csb_RightHanded => k_is)
    (case ckp_RightHanded => k_is)
    (case cg_LeftHanded => k_is)
    (case cpg_LeftHanded => k_is)
    (case chd_LeftHanded => k_is)
    (case cpo_LeftHanded => k_is)
    (case csa_LeftHanded => k_is)
    (case cmk_LeftHanded => k_is)
    (case cin_LeftHanded => k_is)
    (case csb_LeftHanded => k_is)
    (case ckp_LeftHanded => k_is)
    (case a1 => k_is)
    (case l1 => k_is)
    (case c1 => k_is)
    (case k1 => k_is)
    (case a2 => k_is)
    (case l2 => k_is)
    (case c2 => k_is)
    (case k2 => k_is)
    (case a3 => k_is)
    (case i3 => k_is)
    (case l3 => k_is)
    (case c3 => k_is)
    (case k3 => k_is)
    (case a4 => k_is)
    (case i4 => k_is)
    (case l4 => k_is)
    (case c4 => k_is)
    (case k4 => k_is)
    (case a5 => k_is)
    (case i5 => k_is)
    (case l5 => k_is)
    (case c5 => k_is)
    (case k5 => k_is)
    (case a6 => k_is)
    (case i6 => k_is)
    (case l6 => k_is)
    (case c6 => k_is)
    (case k6 => k_is)
    (case a7 => k_is)
    (case i7 => k_is)
    (case l7 => k_is)
    (case c7 => k_is)
    (case k7 => k_is)
    (case a8 => k_is)
    (case i8 => k_is)
    (case l8 => k_is)
    (case c8 => k_is)
    (case k8 => k_is)
    (case a9 => k_is)
    (case i9 => k_is)
    (case l9 => k_is)
    (case c9 => k_is)
    (case k9 => k_is)
    (case a10 => k_is)
    (case i10 => k_is)
    (case l10 => k_is)
    (case c10 => k_is)
    (case k10 => k_is)
    (case a11 => k_is)
    (case i11 => k_is)
    (case l11 => k_is)
    (case c11 => k_is)
    (case k11 => k_is)
    (case a12 => k_is)
    (case i12 => k_is)
    (case l12 => k_is)
    (case c12 => k_is)
    (case k12 => k_is)
    (case a13 => k_is)
    (case i13 => k_is)
    (case l13 => k_is)
    (case c13 => k_is)
    (case k13 => k_is)
    (case a14 => k_is)
    (case i14 => k_is)
    (case l14 => k_is)
    (case c14 => k_is)
    (case k14 => k_is)
    (case a15 => k_is)
    (case l15 => k_is)
    (case c15 => k_is)
    (case k15 => k_is)
    (case a16 => k_is)
    (case l16 => k_is)
    (case c16 => k_is)
    (case k16 => k_is)
    (case a17 => k_is)
    (case l17 => k_is)
    (case c17 => k_is)
    (case k17 => k_is)
    (case a18 => k_is)
    (case l18 => k_is)
    (case c18 => k_is)
    (case k18 => k_is)
    (case a19 => k_is)
    (case l19 => k_is)
    (case c19 => k_is)
    (case k19 => k_is)
    (case a20 => k_is)
    (case l20 => k_is)
    (case c20 => k_is)
    (case k20 => k_is)
    (case a21 => k_is)
    (case l21 => k_is)
    (case c21 => k_is)
    (case k21 => k_is)
    (case a22 => k_is)
    (case l22 => k_is)
    (case c22 => k_is)
    (case k22 => k_is)
    (case a23 => k_is)
    (case l23 => k_is)
    (case c23 => k_is)
    (case k23 => k_is)
    (case a24 => k_is)
    (case l24 => k_is)
    (case c24 => k_is)
    (case k24 => k_is)
    (case a25 => k_is)
    (case l25 => k_is)
    (case c25 => k_is)
    (case k25 => k_is)
    (case a26 => k_is)
    (case l26 => k_is)
    (case c26 => k_is)
    (case k26 => k_is)
    (case a27 => k_is)
    (case l27 => k_is)
    (case c27 => k_is)
    (case k27 => k_is)
    (case a28 => k_is)
    (case l28 => k_is)
    (case c28 => k_is)
    (case k28 => k_is)
    (case a29 => k_is)
    (case l29 => k_is)
    (case c29 => k_is)
    (case k29 => k_is)
    (case a30 => k_is)
    (case l30 => k_is)
    (case c30 => k_is)
    (case k30 => k_is)
    (case a31 => k_is)
    (case l31 => k_is)
    (case c31 => k_is)
    (case k31 => k_is)
    (case a32 => k_is)
    (case l32 => k_is)
    (case c32 => k_is)
    (case k32 => k_is)
    (case a33 => k_is)
    (case l33 => k_is)
    (case c33 => k_is)
    (case k33 => k_is)
    (case a34 => k_is)
    (case l34 => k_is)
    (case c34 => k_is)
    (case k34 => k_is)
    (case a35 => k_is)
    (case l35 => k_is)
    (case c35 => k_is)
    (case k35 => k_is)
    (case z_all => k_is)
    (case z_bool => k_is)
    (case z_int => k_is)
    (case z_isinstance => k_is)
    (case z_len => k_is)
    (case z_range => k_is)
    (case z_str => k_is)
    (case z_sum => k_is)
    (case z_tuple => k_is)
    (case z_zip => k_is)
    (case hu_c => kernel_rfl)
    (case hu_p => kernel_rfl)
